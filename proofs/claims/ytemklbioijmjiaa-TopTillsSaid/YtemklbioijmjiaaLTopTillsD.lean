/- A part of the proof: several texts, one behind the other. -/
import Derived.Test.YtemklbioijmjiaaLTopTillsC
import Derived.Laws.Runes
set_option linter.unusedVariables false
set_option linter.unusedSimpArgs false
set_option maxRecDepth 100000
namespace Go.Proofs.Ytemklbioijmjiaa
open Go Ax
open Go.Proofs
structure Pur where
 tokens:Int
 till:Int
def cPur (t:Pur):List AV:=[.int .i64 t.tokens,.int .i64 t.till]
def Qf (l:List Pur):List AV:=l.flatMap cPur
structure Dl where
 at_:Int
 kind:Int
 a:Int
 b:Int
 n:Int
def cDl (t:Dl):List AV:=[.int .i64 t.at_,.int .i64 t.kind,.int .i64 t.a,.int .i64 t.b,.int .i64 t.n]
def Qu (l:List Dl):List AV:=l.flatMap cDl
/-- A fair as it stands. -/
structure Frs where
 f:Fair
 stock:List Int
 cash:List Int
 purses:List Pur
 boxes:List Int
 lost:Int
 last:Int
 sold:Int
 taken:Int
 ret:Int
 held:Int
 nlost:Int
 ncash:Int
def cFrs (T:Frs):List AV:=[.int .i64 T.f.purses,.int .i64 T.f.boxes,.rsl (rowI T.f.stock) 0 T.f.stock.length,.rsl (rowI T.f.cash) 0 T.f.cash.length,.rsl (Qr T.f.bundles) 0 T.f.bundles.length,.int .i64 T.f.refund,.int .i64 T.f.band,.int .i64 T.f.hours,.rsl (rowI T.stock) 0 T.stock.length,.rsl (rowI T.cash) 0 T.cash.length,.rsl (Qf T.purses) 0 T.purses.length,.rsl (rowI T.boxes) 0 T.boxes.length,.int .i64 T.lost,.int .i64 T.last,.int .i64 T.sold,.int .i64 T.taken,.int .i64 T.ret,.int .i64 T.held,.int .i64 T.nlost,.int .i64 T.ncash]
def purT (T:Frs) (p:Int):Pur:=T.purses.getD (Int.toNat p) ⟨0,0⟩
def bndT (T:Frs) (n:Int):Bndl:=T.f.bundles.getD (Int.toNat n) ⟨0,0⟩
def Xc (T:Frs) (n:Int):Bool:=Qa n 0 ((T.stock.length:Int) - 1)
def QD (T:Frs) (n:Int):Bool:=Qa n 0 (T.f.purses - 1)
def boxT (T:Frs) (n:Int):Bool:=Qa n 0 (T.f.boxes - 1)
def hasT (T:Frs) (p n:Int):Bool:=QD T p && Qa n 1 (purT T p).tokens
/-- What can happen. -/
def posK (T:Frs) (d:Dl):Bool :=
 if d.kind=1 then (Xc T d.a && (QD T d.b && (Qa d.n 0 ((T.f.bundles.length:Int) - 1) && decide (T.stock.getD (Int.toNat d.a) 0≥(bndT T d.n).tokens)))) else
 if d.kind=2 then (QD T d.a && (boxT T d.b && (Qa d.n 0 1000 && (decide (d.at_<(purT T d.a).till) || decide ((purT T d.a).tokens≥d.n))))) else
 if d.kind=3 then (Xc T d.a && (QD T d.b && (d.n == 0))) else
 if d.kind=4 then (Xc T d.a && (hasT T d.b d.n && decide (T.cash.getD (Int.toNat d.a) 0≥d.n*T.f.refund))) else
 if d.kind=5 then (Xc T d.a && (boxT T d.b && (d.n == 0))) else
 if d.kind=6 then (hasT T d.a d.n && (QD T d.b && (d.a != d.b))) else
 if d.kind=7 then (hasT T d.a d.n && (d.b == 0)) else false
def posT (T:Frs) (d:Dl):Bool :=
 if Qa d.at_ T.last 1440=false then false else
 if d.n > 100000 then false else posK T d
/-- What happens. -/
def Qv (T:Frs) (d:Dl):Frs :=
 if d.kind=1 then ⟨T.f,T.stock.set (Int.toNat d.a) (T.stock.getD (Int.toNat d.a) 0 - (bndT T d.n).tokens),T.cash.set (Int.toNat d.a) (T.cash.getD (Int.toNat d.a) 0+(bndT T d.n).price),T.purses.set (Int.toNat d.b) ⟨(purT T d.b).tokens+(bndT T d.n).tokens,(purT T d.b).till⟩,T.boxes,T.lost,d.at_,T.sold+(bndT T d.n).tokens,T.taken,T.ret,T.held,T.nlost,T.ncash+(bndT T d.n).price⟩ else
 if d.kind=2 then (if d.at_<(purT T d.a).till then ⟨T.f,T.stock,T.cash,T.purses,T.boxes,T.lost,d.at_,T.sold,T.taken,T.ret,T.held,T.nlost,T.ncash⟩ else
  ⟨T.f,T.stock,T.cash,T.purses.set (Int.toNat d.a) ⟨(purT T d.a).tokens - d.n,(purT T d.a).till⟩,T.boxes.set (Int.toNat d.b) (T.boxes.getD (Int.toNat d.b) 0+d.n),T.lost,d.at_,T.sold,T.taken+d.n,T.ret,T.held,T.nlost,T.ncash⟩) else
 if d.kind=3 then ⟨T.f,T.stock,T.cash.set (Int.toNat d.a) (T.cash.getD (Int.toNat d.a) 0+T.f.band),T.purses.set (Int.toNat d.b) ⟨(purT T d.b).tokens,iMax (purT T d.b).till (d.at_+T.f.hours)⟩,T.boxes,T.lost,d.at_,T.sold,T.taken,T.ret,T.held,T.nlost,T.ncash+T.f.band⟩ else
 if d.kind=4 then ⟨T.f,T.stock.set (Int.toNat d.a) (T.stock.getD (Int.toNat d.a) 0+d.n),T.cash.set (Int.toNat d.a) (T.cash.getD (Int.toNat d.a) 0+(0 - d.n)*T.f.refund),T.purses.set (Int.toNat d.b) ⟨(purT T d.b).tokens - d.n,(purT T d.b).till⟩,T.boxes,T.lost,d.at_,T.sold,T.taken,T.ret+d.n,T.held,T.nlost,T.ncash+(0 - d.n)*T.f.refund⟩ else
 if d.kind=5 then ⟨T.f,T.stock.set (Int.toNat d.a) (T.stock.getD (Int.toNat d.a) 0+T.boxes.getD (Int.toNat d.b) 0),T.cash,T.purses,T.boxes.set (Int.toNat d.b) 0,T.lost,d.at_,T.sold,T.taken,T.ret,T.held,T.nlost,T.ncash⟩ else
 if d.kind=6 then ⟨T.f,T.stock,T.cash,(T.purses.set (Int.toNat d.a) ⟨(purT T d.a).tokens - d.n,(purT T d.a).till⟩).set (Int.toNat d.b) ⟨(purT T d.b).tokens+d.n,(purT T d.b).till⟩,T.boxes,T.lost,d.at_,T.sold,T.taken,T.ret,T.held,T.nlost,T.ncash⟩ else
 if d.kind=7 then ⟨T.f,T.stock,T.cash,T.purses.set (Int.toNat d.a) ⟨(purT T d.a).tokens - d.n,(purT T d.a).till⟩,T.boxes,T.lost+d.n,d.at_,T.sold,T.taken,T.ret,T.held,T.nlost+d.n,T.ncash⟩ else
 ⟨T.f,T.stock,T.cash,T.purses,T.boxes,T.lost,d.at_,T.sold,T.taken,T.ret,T.held,T.nlost,T.ncash⟩
structure FLen (T:Frs):Prop where
 st:T.stock.length≤1000000
 ca:T.cash.length=T.stock.length
 pu:T.f.purses=(T.purses.length:Int)
 pl:T.purses.length≤1000000
 bo:T.f.boxes=(T.boxes.length:Int)
 bl:T.boxes.length≤1000000
 bn:T.f.bundles.length≤1000000
 rf:0≤T.f.refund∧T.f.refund≤1000
def Bd (B x:Int):Prop:=-B≤x∧x≤B
/-- A fair behind so many deals: how great its numbers can be. -/
structure FOk (T:Frs) (i:Nat):Prop where
 len:FLen T
 bn:∀ b ∈ T.f.bundles,(1≤b.tokens∧b.tokens≤1000)∧(1≤b.price∧b.price≤1000000)
 band:0≤T.f.band∧T.f.band≤1000000
 hours:1≤T.f.hours∧T.f.hours≤1440
 la:0≤T.last
 st:∀ x ∈ T.stock,Bd (1000000+1000000000*i) x
 ca:∀ x ∈ T.cash,Bd (1000000+1000000000*i) x
 pu:∀ p ∈ T.purses,Bd (1000000+1000000000*i) p.tokens∧Bd 1000000 p.till
 bo:∀ x ∈ T.boxes,0≤x∧x≤1000*i
 lo:Bd (1000000000*i) T.lost
 so:Bd (1000000000*i) T.sold
 ta:Bd (1000000000*i) T.taken
 re:Bd (1000000000*i) T.ret
 nl:Bd (1000000000*i) T.nlost
 nc:Bd (1000000000*i) T.ncash
theorem XX {α:Type} {l:List α} {i:Nat} {d:α} (h:i<l.length):l[i]?=some (l.getD i d):=by
 have hg:l[i]?=some l[i]:=List.getElem?_eq_getElem h
 simp [List.getD,hg]
theorem Xx {α:Type} {l:List α} {i:Nat} {d:α} (h:i<l.length):l.getD i d ∈ l:=List.mem_of_getElem? (XX h)
theorem XW {α:Type} {P:α→Prop} {l:List α} {i:Nat} {v:α} (h:∀ x ∈ l,P x) (hv:P v):∀ x ∈ l.set i v,P x:=fun x hx=>by
 rcases List.mem_or_eq_of_mem_set hx with hx | rfl
 · exact h x hx
 · exact hv
theorem Bd.up {B C x:Int} (h:Bd B x) (hc:B≤C):Bd C x:=by unfold Bd at *; omega
theorem Bd.add {B D C x y:Int} (h:Bd B x) (hy:Bd D y) (hc:B+D≤C):Bd C (x+y):=by unfold Bd at *; omega
theorem Bd.sub {B D C x y:Int} (h:Bd B x) (hy:Bd D y) (hc:B+D≤C):Bd C (x - y):=by unfold Bd at *; omega
theorem f199b:Try.f199.body=some (Qd Try.prog 199):=by kernel_rfl
theorem u199 {a c k:List AV} {r:AV} (h:Pure Try.prog 199 (a++c++k) r):Qe Try.prog (.clos 199 a k) c r:=Qs Try.func199 (by kernel_rfl) f199b h
theorem p199_start_0 (n:Int) (T:Frs) {E:Env} {res:AV} (hE:Qg Try.prog 199 res E) (ho:AllP [InR .i64 ((T.stock.length:Int) - 1),Qe Try.prog (.clos 115 [] []) [.int .i64 n,.int .i64 0,.int .i64 ((T.stock.length:Int) - 1)] (.bool (Qa n 0 ((T.stock.length:Int) - 1)))])
 (hr:AvLe (.bool (Qa n 0 ((T.stock.length:Int) - 1))) res):G Try.prog E [.code (Qd Try.prog 199)] ⟨[.rptr [.int .i64 T.f.purses,.int .i64 T.f.boxes,.rsl (rowI T.f.stock) 0 T.f.stock.length,.rsl (rowI T.f.cash) 0 T.f.cash.length,.rsl (Qr T.f.bundles) 0 T.f.bundles.length,.int .i64 T.f.refund,.int .i64 T.f.band,.int .i64 T.f.hours,.rsl (rowI T.stock) 0 T.stock.length,.rsl (rowI T.cash) 0 T.cash.length,.rsl (Qf T.purses) 0 T.purses.length,.rsl (rowI T.boxes) 0 T.boxes.length,.int .i64 T.lost,.int .i64 T.last,.int .i64 T.sold,.int .i64 T.taken,.int .i64 T.ret,.int .i64 T.held,.int .i64 T.nlost,.int .i64 T.ncash] 0,.int .i64 n]++unds (Try.f199.ntmps - 2),[]⟩ :=
 Qc (n:=400) (evs:=[.v (.bool (Qa n 0 ((T.stock.length:Int) - 1)))]) (obs:=_) hE Try.func199 Qp (by kernel_rfl) ho hr
theorem f199W (n:Int) (T:Frs) {E:Env} {rv:Bool} (hE:Qg Try.prog 199 (.bool rv) E)
 (h:((I6 ((T.stock.length:Int) - 1))∧rv=(Qa n 0 ((T.stock.length:Int) - 1)))):G Try.prog E [.code (Qd Try.prog 199)] ⟨[.rptr [.int .i64 T.f.purses,.int .i64 T.f.boxes,.rsl (rowI T.f.stock) 0 T.f.stock.length,.rsl (rowI T.f.cash) 0 T.f.cash.length,.rsl (Qr T.f.bundles) 0 T.f.bundles.length,.int .i64 T.f.refund,.int .i64 T.f.band,.int .i64 T.f.hours,.rsl (rowI T.stock) 0 T.stock.length,.rsl (rowI T.cash) 0 T.cash.length,.rsl (Qf T.purses) 0 T.purses.length,.rsl (rowI T.boxes) 0 T.boxes.length,.int .i64 T.lost,.int .i64 T.last,.int .i64 T.sold,.int .i64 T.taken,.int .i64 T.ret,.int .i64 T.held,.int .i64 T.nlost,.int .i64 T.ncash] 0,.int .i64 n]++unds (Try.f199.ntmps - 2),[]⟩:=by
 obtain ⟨q0_0,h⟩:=h
 exact p199_start_0 n T hE ⟨q0_0,(u115 (Qh n 0 ((T.stock.length:Int) - 1))),trivial⟩ (AvLe.of_eq (by rw [h]; try rfl))
theorem f200b:Try.f200.body=some (Qd Try.prog 200):=by kernel_rfl
theorem u200 {a c k:List AV} {r:AV} (h:Pure Try.prog 200 (a++c++k) r):Qe Try.prog (.clos 200 a k) c r:=Qs Try.func200 (by kernel_rfl) f200b h
theorem p200_start_0 (n:Int) (T:Frs) {E:Env} {res:AV} (hE:Qg Try.prog 200 res E) (ho:AllP [InR .i64 (T.f.purses - 1),Qe Try.prog (.clos 115 [] []) [.int .i64 n,.int .i64 0,.int .i64 (T.f.purses - 1)] (.bool (Qa n 0 (T.f.purses - 1)))])
 (hr:AvLe (.bool (Qa n 0 (T.f.purses - 1))) res):G Try.prog E [.code (Qd Try.prog 200)] ⟨[.rptr [.int .i64 T.f.purses,.int .i64 T.f.boxes,.rsl (rowI T.f.stock) 0 T.f.stock.length,.rsl (rowI T.f.cash) 0 T.f.cash.length,.rsl (Qr T.f.bundles) 0 T.f.bundles.length,.int .i64 T.f.refund,.int .i64 T.f.band,.int .i64 T.f.hours,.rsl (rowI T.stock) 0 T.stock.length,.rsl (rowI T.cash) 0 T.cash.length,.rsl (Qf T.purses) 0 T.purses.length,.rsl (rowI T.boxes) 0 T.boxes.length,.int .i64 T.lost,.int .i64 T.last,.int .i64 T.sold,.int .i64 T.taken,.int .i64 T.ret,.int .i64 T.held,.int .i64 T.nlost,.int .i64 T.ncash] 0,.int .i64 n]++unds (Try.f200.ntmps - 2),[]⟩ :=
 Qc (n:=400) (evs:=[.v (.bool (Qa n 0 (T.f.purses - 1)))]) (obs:=_) hE Try.func200 Qp (by kernel_rfl) ho hr
theorem f200W (n:Int) (T:Frs) {E:Env} {rv:Bool} (hE:Qg Try.prog 200 (.bool rv) E)
 (h:((I6 (T.f.purses - 1))∧rv=(Qa n 0 (T.f.purses - 1)))):G Try.prog E [.code (Qd Try.prog 200)] ⟨[.rptr [.int .i64 T.f.purses,.int .i64 T.f.boxes,.rsl (rowI T.f.stock) 0 T.f.stock.length,.rsl (rowI T.f.cash) 0 T.f.cash.length,.rsl (Qr T.f.bundles) 0 T.f.bundles.length,.int .i64 T.f.refund,.int .i64 T.f.band,.int .i64 T.f.hours,.rsl (rowI T.stock) 0 T.stock.length,.rsl (rowI T.cash) 0 T.cash.length,.rsl (Qf T.purses) 0 T.purses.length,.rsl (rowI T.boxes) 0 T.boxes.length,.int .i64 T.lost,.int .i64 T.last,.int .i64 T.sold,.int .i64 T.taken,.int .i64 T.ret,.int .i64 T.held,.int .i64 T.nlost,.int .i64 T.ncash] 0,.int .i64 n]++unds (Try.f200.ntmps - 2),[]⟩:=by
 obtain ⟨q0_0,h⟩:=h
 exact p200_start_0 n T hE ⟨q0_0,(u115 (Qh n 0 (T.f.purses - 1))),trivial⟩ (AvLe.of_eq (by rw [h]; try rfl))
theorem f201b:Try.f201.body=some (Qd Try.prog 201):=by kernel_rfl
theorem u201 {a c k:List AV} {r:AV} (h:Pure Try.prog 201 (a++c++k) r):Qe Try.prog (.clos 201 a k) c r:=Qs Try.func201 (by kernel_rfl) f201b h
theorem p201_start_0 (n:Int) (T:Frs) {E:Env} {res:AV} (hE:Qg Try.prog 201 res E) (ho:AllP [InR .i64 (T.f.boxes - 1),Qe Try.prog (.clos 115 [] []) [.int .i64 n,.int .i64 0,.int .i64 (T.f.boxes - 1)] (.bool (Qa n 0 (T.f.boxes - 1)))])
 (hr:AvLe (.bool (Qa n 0 (T.f.boxes - 1))) res):G Try.prog E [.code (Qd Try.prog 201)] ⟨[.rptr [.int .i64 T.f.purses,.int .i64 T.f.boxes,.rsl (rowI T.f.stock) 0 T.f.stock.length,.rsl (rowI T.f.cash) 0 T.f.cash.length,.rsl (Qr T.f.bundles) 0 T.f.bundles.length,.int .i64 T.f.refund,.int .i64 T.f.band,.int .i64 T.f.hours,.rsl (rowI T.stock) 0 T.stock.length,.rsl (rowI T.cash) 0 T.cash.length,.rsl (Qf T.purses) 0 T.purses.length,.rsl (rowI T.boxes) 0 T.boxes.length,.int .i64 T.lost,.int .i64 T.last,.int .i64 T.sold,.int .i64 T.taken,.int .i64 T.ret,.int .i64 T.held,.int .i64 T.nlost,.int .i64 T.ncash] 0,.int .i64 n]++unds (Try.f201.ntmps - 2),[]⟩ :=
 Qc (n:=400) (evs:=[.v (.bool (Qa n 0 (T.f.boxes - 1)))]) (obs:=_) hE Try.func201 Qp (by kernel_rfl) ho hr
theorem f201W (n:Int) (T:Frs) {E:Env} {rv:Bool} (hE:Qg Try.prog 201 (.bool rv) E)
 (h:((I6 (T.f.boxes - 1))∧rv=(Qa n 0 (T.f.boxes - 1)))):G Try.prog E [.code (Qd Try.prog 201)] ⟨[.rptr [.int .i64 T.f.purses,.int .i64 T.f.boxes,.rsl (rowI T.f.stock) 0 T.f.stock.length,.rsl (rowI T.f.cash) 0 T.f.cash.length,.rsl (Qr T.f.bundles) 0 T.f.bundles.length,.int .i64 T.f.refund,.int .i64 T.f.band,.int .i64 T.f.hours,.rsl (rowI T.stock) 0 T.stock.length,.rsl (rowI T.cash) 0 T.cash.length,.rsl (Qf T.purses) 0 T.purses.length,.rsl (rowI T.boxes) 0 T.boxes.length,.int .i64 T.lost,.int .i64 T.last,.int .i64 T.sold,.int .i64 T.taken,.int .i64 T.ret,.int .i64 T.held,.int .i64 T.nlost,.int .i64 T.ncash] 0,.int .i64 n]++unds (Try.f201.ntmps - 2),[]⟩:=by
 obtain ⟨q0_0,h⟩:=h
 exact p201_start_0 n T hE ⟨q0_0,(u115 (Qh n 0 (T.f.boxes - 1))),trivial⟩ (AvLe.of_eq (by rw [h]; try rfl))
theorem f202b:Try.f202.body=some (Qd Try.prog 202):=by kernel_rfl
theorem u202 {a c k:List AV} {r:AV} (h:Pure Try.prog 202 (a++c++k) r):Qe Try.prog (.clos 202 a k) c r:=Qs Try.func202 (by kernel_rfl) f202b h
theorem p202_start_0 (p:Int) (a:Int) (T:Frs) (pe:Pur) {E:Env} {res:AV} (hE:Qg Try.prog 202 res E) (ho:AllP [0≤p∧p<(T.purses.length:Int),((Qf T.purses).drop ((0+(Int.toNat p)*2)+1)).take 1=[.int .i64 pe.till]])
 (hr:AvLe (.bool (decide (a<pe.till))) res):G Try.prog E [.code (Qd Try.prog 202)] ⟨[.rptr [.int .i64 T.f.purses,.int .i64 T.f.boxes,.rsl (rowI T.f.stock) 0 T.f.stock.length,.rsl (rowI T.f.cash) 0 T.f.cash.length,.rsl (Qr T.f.bundles) 0 T.f.bundles.length,.int .i64 T.f.refund,.int .i64 T.f.band,.int .i64 T.f.hours,.rsl (rowI T.stock) 0 T.stock.length,.rsl (rowI T.cash) 0 T.cash.length,.rsl (Qf T.purses) 0 T.purses.length,.rsl (rowI T.boxes) 0 T.boxes.length,.int .i64 T.lost,.int .i64 T.last,.int .i64 T.sold,.int .i64 T.taken,.int .i64 T.ret,.int .i64 T.held,.int .i64 T.nlost,.int .i64 T.ncash] 0,.int .i64 p,.int .i64 a]++unds (Try.f202.ntmps - 3),[]⟩ :=
 Qc (n:=400) (evs:=[.auto,.ld (.int .i64 pe.till)]) (obs:=_) hE Try.func202 Qp (by kernel_rfl) ho hr
theorem f202W (p:Int) (a:Int) (T:Frs) {E:Env} {rv:Bool} (hE:Qg Try.prog 202 (.bool rv) E)
 (h:(0≤p∧(∃ pe:Pur,T.purses[Int.toNat p]?=some pe∧rv=(decide (a<pe.till))))):G Try.prog E [.code (Qd Try.prog 202)] ⟨[.rptr [.int .i64 T.f.purses,.int .i64 T.f.boxes,.rsl (rowI T.f.stock) 0 T.f.stock.length,.rsl (rowI T.f.cash) 0 T.f.cash.length,.rsl (Qr T.f.bundles) 0 T.f.bundles.length,.int .i64 T.f.refund,.int .i64 T.f.band,.int .i64 T.f.hours,.rsl (rowI T.stock) 0 T.stock.length,.rsl (rowI T.cash) 0 T.cash.length,.rsl (Qf T.purses) 0 T.purses.length,.rsl (rowI T.boxes) 0 T.boxes.length,.int .i64 T.lost,.int .i64 T.last,.int .i64 T.sold,.int .i64 T.taken,.int .i64 T.ret,.int .i64 T.held,.int .i64 T.nlost,.int .i64 T.ncash] 0,.int .i64 p,.int .i64 a]++unds (Try.f202.ntmps - 3),[]⟩:=by
 obtain ⟨h2,h⟩:=h
 obtain ⟨pe,h1,h⟩:=h
 exact p202_start_0 p a T pe hE ⟨(Qn h2 h1),(rp cPur 2 1 1 h1),trivial⟩ (AvLe.of_eq (by rw [h]; try rfl))
theorem YB (T:Frs) (n:Int) (h:T.stock.length≤1000000):Pure Try.prog 199 [.rptr (cFrs T) 0,.int .i64 n] (.bool (Xc T n)):=QC Try.func199 f199b fun E hE=>f199W n T (rv:=Xc T n) hE ⟨by omega,rfl⟩
theorem XY (T:Frs) (n:Int) (h:0≤T.f.purses∧T.f.purses≤1000000):Pure Try.prog 200 [.rptr (cFrs T) 0,.int .i64 n] (.bool (QD T n)):=QC Try.func200 f200b fun E hE=>f200W n T (rv:=QD T n) hE ⟨by omega,rfl⟩
theorem QaI (T:Frs) (n:Int) (h:0≤T.f.boxes∧T.f.boxes≤1000000):Pure Try.prog 201 [.rptr (cFrs T) 0,.int .i64 n] (.bool (boxT T n)):=QC Try.func201 f201b fun E hE=>f201W n T (rv:=boxT T n) hE ⟨by omega,rfl⟩
theorem Qcr (T:Frs) (p a:Int) (h:0≤p∧Int.toNat p<T.purses.length):Pure Try.prog 202 [.rptr (cFrs T) 0,.int .i64 p,.int .i64 a] (.bool (decide (a<(purT T p).till))):=QC Try.func202 f202b fun E hE=>f202W p a T (rv:=decide (a<(purT T p).till)) hE ⟨h.1,_,XX h.2,rfl⟩
theorem f203b:Try.f203.body=some (Qd Try.prog 203):=by kernel_rfl
theorem u203 {a c k:List AV} {r:AV} (h:Pure Try.prog 203 (a++c++k) r):Qe Try.prog (.clos 203 a k) c r:=Qs Try.func203 (by kernel_rfl) f203b h
abbrev z203_1 (T:Frs):List AV:=[.int .i64 T.f.purses,.int .i64 T.f.boxes,.rsl (rowI T.f.stock) 0 T.f.stock.length,.rsl (rowI T.f.cash) 0 T.f.cash.length,.rsl (Qr T.f.bundles) 0 T.f.bundles.length,.int .i64 T.f.refund,.int .i64 T.f.band,.int .i64 T.f.hours,.rsl (rowI T.stock) 0 T.stock.length,.rsl (rowI T.cash) 0 T.cash.length,.rsl (Qf T.purses) 0 T.purses.length,.rsl (rowI T.boxes) 0 T.boxes.length,.int .i64 T.lost,.int .i64 T.last,.int .i64 T.sold,.int .i64 T.taken,.int .i64 T.ret,.int .i64 T.held,.int .i64 T.nlost,.int .i64 T.ncash]
theorem p203_start_0 (p:Int) (n:Int) (T:Frs) (pe:Pur) {E:Env} {res:AV} (hE:Qg Try.prog 203 res E) (ho:AllP [Qe Try.prog (.clos 200 [] []) [.rptr (z203_1 T) 0,.int .i64 p] (.bool (QD T p)),(QD T p)=true,0≤p∧p<(T.purses.length:Int),((Qf T.purses).drop ((0+(Int.toNat p)*2)+0)).take 1=[.int .i64 pe.tokens],Qe Try.prog (.clos 115 [] []) [.int .i64 n,.int .i64 1,.int .i64 pe.tokens] (.bool (Qa n 1 pe.tokens))])
 (hr:AvLe (.bool (Qa n 1 pe.tokens)) res):G Try.prog E [.code (Qd Try.prog 203)] ⟨[.rptr (z203_1 T) 0,.int .i64 p,.int .i64 n]++unds (Try.f203.ntmps - 3),[]⟩ :=
 Qc (n:=400) (evs:=[.v (.bool (QD T p)),.b true,.auto,.ld (.int .i64 pe.tokens),.v (.bool (Qa n 1 pe.tokens))]) (obs:=_) hE Try.func203 Qp (by kernel_rfl) ho hr
theorem p203_start_1 (p:Int) (n:Int) (T:Frs) {E:Env} {res:AV} (hE:Qg Try.prog 203 res E) (ho:AllP [Qe Try.prog (.clos 200 [] []) [.rptr (z203_1 T) 0,.int .i64 p] (.bool (QD T p)),(QD T p)=false])
 (hr:AvLe (.bool false) res):G Try.prog E [.code (Qd Try.prog 203)] ⟨[.rptr (z203_1 T) 0,.int .i64 p,.int .i64 n]++unds (Try.f203.ntmps - 3),[]⟩ :=
 Qc (n:=400) (evs:=[.v (.bool (QD T p)),.b false]) (obs:=_) hE Try.func203 Qp (by kernel_rfl) ho hr
theorem f203W (p:Int) (n:Int) (T:Frs) {E:Env} {rv:Bool} (hE:Qg Try.prog 203 (.bool rv) E)
 (h:((0≤T.f.purses∧T.f.purses≤1000000)∧(((QD T p)=true→(0≤p∧(∃ pe:Pur,T.purses[Int.toNat p]?=some pe∧rv=(Qa n 1 pe.tokens))))∧((QD T p)=false→rv=false)))):G Try.prog E [.code (Qd Try.prog 203)] ⟨[.rptr [.int .i64 T.f.purses,.int .i64 T.f.boxes,.rsl (rowI T.f.stock) 0 T.f.stock.length,.rsl (rowI T.f.cash) 0 T.f.cash.length,.rsl (Qr T.f.bundles) 0 T.f.bundles.length,.int .i64 T.f.refund,.int .i64 T.f.band,.int .i64 T.f.hours,.rsl (rowI T.stock) 0 T.stock.length,.rsl (rowI T.cash) 0 T.cash.length,.rsl (Qf T.purses) 0 T.purses.length,.rsl (rowI T.boxes) 0 T.boxes.length,.int .i64 T.lost,.int .i64 T.last,.int .i64 T.sold,.int .i64 T.taken,.int .i64 T.ret,.int .i64 T.held,.int .i64 T.nlost,.int .i64 T.ncash] 0,.int .i64 p,.int .i64 n]++unds (Try.f203.ntmps - 3),[]⟩:=by
 obtain ⟨h1,h⟩:=h
 rcases bft (QD T p) with hc0 | hc0
 · have h:=h.1 hc0
   obtain ⟨h3,h⟩:=h
   obtain ⟨pe,h2,h⟩:=h
   exact p203_start_0 p n T pe hE ⟨(u200 (XY T p h1)),hc0,(Qn h3 h2),(rp cPur 2 0 1 h2),(u115 (Qh n 1 pe.tokens)),trivial⟩ (AvLe.of_eq (by rw [h]; try rfl))
 · have h:=h.2 hc0
   exact p203_start_1 p n T hE ⟨(u200 (XY T p h1)),hc0,trivial⟩ (AvLe.of_eq (by rw [h]; try rfl))
theorem Kr (T:Frs) (p n:Int) (h:FLen T):Pure Try.prog 203 [.rptr (cFrs T) 0,.int .i64 p,.int .i64 n] (.bool (hasT T p n)):=QC Try.func203 f203b fun E hE=>by
 have h1:=h.pu
 have h2:=h.pl
 refine f203W p n T (rv:=hasT T p n) hE ⟨by omega,fun e=>?_,fun e=>by rw [hasT,e]; rfl⟩
 have hw:=Qq.1 e
 exact ⟨hw.1,_,XX (d:=⟨0,0⟩) (by omega),by rw [hasT,e]; rfl⟩
theorem f137b:Try.f137.body=some (Qd Try.prog 137):=by kernel_rfl
theorem u137 {a c k:List AV} {r:AV} (h:Pure Try.prog 137 (a++c++k) r):Qe Try.prog (.clos 137 a k) c r:=Qs Try.func137 (by kernel_rfl) f137b h
abbrev Xm (T:Frs):List AV:=[.int .i64 T.f.purses,.int .i64 T.f.boxes,.rsl (rowI T.f.stock) 0 T.f.stock.length,.rsl (rowI T.f.cash) 0 T.f.cash.length,.rsl (Qr T.f.bundles) 0 T.f.bundles.length,.int .i64 T.f.refund,.int .i64 T.f.band,.int .i64 T.f.hours,.rsl (rowI T.stock) 0 T.stock.length,.rsl (rowI T.cash) 0 T.cash.length,.rsl (Qf T.purses) 0 T.purses.length,.rsl (rowI T.boxes) 0 T.boxes.length,.int .i64 T.lost,.int .i64 T.last,.int .i64 T.sold,.int .i64 T.taken,.int .i64 T.ret,.int .i64 T.held,.int .i64 T.nlost,.int .i64 T.ncash]
abbrev XP (T:Frs) (d:Dl):List AV:=[.rptr (Xm T) 0,.agg [.int .i64 d.at_,.int .i64 d.kind,.int .i64 d.a,.int .i64 d.b,.int .i64 d.n]]
abbrev XO (d:Dl) (T:Frs):List AV:=[.int .i64 d.at_,.int .i64 T.last,.int .i64 1440]
abbrev z137_4 (T:Frs) (d:Dl):List AV:=[.rptr (Xm T) 0,.int .i64 d.a,.int .i64 d.n]
abbrev z137_5 (d:Dl) (T:Frs):AV:=.bool (Qa d.n 0 ((T.f.bundles.length:Int) - 1))
theorem p137_start_0 (d:Dl) (T:Frs) {E:Env} {res:AV} (hE:Qg Try.prog 137 res E) (ho:AllP [Qe Try.prog (.clos 115 [] []) (XO d T) (.bool (Qa d.at_ T.last 1440)),(!(Qa d.at_ T.last 1440))=true,true=true])
 (hr:AvLe (.bool false) res):G Try.prog E [.code (Qd Try.prog 137)] ⟨(XP T d)++unds (Try.f137.ntmps - 2),[]⟩ :=
 Qc (n:=400) (evs:=[.v (.bool (Qa d.at_ T.last 1440)),.b true,.b true]) (obs:=_) hE Try.func137 Qp (by kernel_rfl) ho hr
theorem p137_start_1 (d:Dl) (T:Frs) {E:Env} {res:AV} (hE:Qg Try.prog 137 res E) (ho:AllP [Qe Try.prog (.clos 115 [] []) (XO d T) (.bool (Qa d.at_ T.last 1440)),(!(Qa d.at_ T.last 1440))=false,(decide (d.n > 100000))=true])
 (hr:AvLe (.bool false) res):G Try.prog E [.code (Qd Try.prog 137)] ⟨(XP T d)++unds (Try.f137.ntmps - 2),[]⟩ :=
 Qc (n:=400) (evs:=[.v (.bool (Qa d.at_ T.last 1440)),.b false,.b true]) (obs:=_) hE Try.func137 Qp (by kernel_rfl) ho hr
theorem p137_start_2 (d:Dl) (T:Frs) (e:Int) (be:Bndl) {E:Env} {res:AV} (hE:Qg Try.prog 137 res E) (ho:AllP [Qe Try.prog (.clos 115 [] []) (XO d T) (.bool (Qa d.at_ T.last 1440)),(!(Qa d.at_ T.last 1440))=false,(decide (d.n > 100000))=false,(d.kind == 1)=true,Qe Try.prog (.clos 199 [] []) [.rptr (Xm T) 0,.int .i64 d.a] (.bool (Xc T d.a)),(Xc T d.a)=true,Qe Try.prog (.clos 200 [] []) [.rptr (Xm T) 0,.int .i64 d.b] (.bool (QD T d.b)),(QD T d.b)=true,InR .i64 ((T.f.bundles.length:Int) - 1),Qe Try.prog (.clos 115 [] []) [.int .i64 d.n,.int .i64 0,.int .i64 ((T.f.bundles.length:Int) - 1)] (z137_5 d T),(Qa d.n 0 ((T.f.bundles.length:Int) - 1))=true,0≤d.a∧d.a<(T.stock.length:Int),((rowI T.stock).drop (0+(Int.toNat d.a)*1)).take 1=[.int .i64 e],0≤d.n∧d.n<(T.f.bundles.length:Int),((Qr T.f.bundles).drop ((0+(Int.toNat d.n)*2)+0)).take 1=[.int .i64 be.tokens]])
 (hr:AvLe (.bool (decide (e≥be.tokens))) res):G Try.prog E [.code (Qd Try.prog 137)] ⟨(XP T d)++unds (Try.f137.ntmps - 2),[]⟩ :=
 Qc (n:=400) (evs:=[.v (.bool (Qa d.at_ T.last 1440)),.b false,.b false,.b true,.v (.bool (Xc T d.a)),.b true,.v (.bool (QD T d.b)),.b true,.v (z137_5 d T),.b true,.auto,.auto,.ld (.int .i64 e),.auto,.auto,.ld (.int .i64 be.tokens)]) (obs:=_) hE Try.func137 Qp (by kernel_rfl) ho hr
theorem p137_start_3 (d:Dl) (T:Frs) {E:Env} {res:AV} (hE:Qg Try.prog 137 res E) (ho:AllP [Qe Try.prog (.clos 115 [] []) (XO d T) (.bool (Qa d.at_ T.last 1440)),(!(Qa d.at_ T.last 1440))=false,(decide (d.n > 100000))=false,(d.kind == 1)=true,Qe Try.prog (.clos 199 [] []) [.rptr (Xm T) 0,.int .i64 d.a] (.bool (Xc T d.a)),(Xc T d.a)=true,Qe Try.prog (.clos 200 [] []) [.rptr (Xm T) 0,.int .i64 d.b] (.bool (QD T d.b)),(QD T d.b)=true,InR .i64 ((T.f.bundles.length:Int) - 1),Qe Try.prog (.clos 115 [] []) [.int .i64 d.n,.int .i64 0,.int .i64 ((T.f.bundles.length:Int) - 1)] (z137_5 d T),(Qa d.n 0 ((T.f.bundles.length:Int) - 1))=false])
 (hr:AvLe (.bool false) res):G Try.prog E [.code (Qd Try.prog 137)] ⟨(XP T d)++unds (Try.f137.ntmps - 2),[]⟩ :=
 Qc (n:=400) (evs:=[.v (.bool (Qa d.at_ T.last 1440)),.b false,.b false,.b true,.v (.bool (Xc T d.a)),.b true,.v (.bool (QD T d.b)),.b true,.v (z137_5 d T),.b false]) (obs:=_) hE Try.func137 Qp (by kernel_rfl) ho hr
theorem p137_start_4 (d:Dl) (T:Frs) {E:Env} {res:AV} (hE:Qg Try.prog 137 res E) (ho:AllP [Qe Try.prog (.clos 115 [] []) (XO d T) (.bool (Qa d.at_ T.last 1440)),(!(Qa d.at_ T.last 1440))=false,(decide (d.n > 100000))=false,(d.kind == 1)=true,Qe Try.prog (.clos 199 [] []) [.rptr (Xm T) 0,.int .i64 d.a] (.bool (Xc T d.a)),(Xc T d.a)=true,Qe Try.prog (.clos 200 [] []) [.rptr (Xm T) 0,.int .i64 d.b] (.bool (QD T d.b)),(QD T d.b)=false,false=false])
 (hr:AvLe (.bool false) res):G Try.prog E [.code (Qd Try.prog 137)] ⟨(XP T d)++unds (Try.f137.ntmps - 2),[]⟩ :=
 Qc (n:=400) (evs:=[.v (.bool (Qa d.at_ T.last 1440)),.b false,.b false,.b true,.v (.bool (Xc T d.a)),.b true,.v (.bool (QD T d.b)),.b false,.b false]) (obs:=_) hE Try.func137 Qp (by kernel_rfl) ho hr
theorem p137_start_5 (d:Dl) (T:Frs) {E:Env} {res:AV} (hE:Qg Try.prog 137 res E) (ho:AllP [Qe Try.prog (.clos 115 [] []) (XO d T) (.bool (Qa d.at_ T.last 1440)),(!(Qa d.at_ T.last 1440))=false,(decide (d.n > 100000))=false,(d.kind == 1)=true,Qe Try.prog (.clos 199 [] []) [.rptr (Xm T) 0,.int .i64 d.a] (.bool (Xc T d.a)),(Xc T d.a)=false,false=false,false=false])
 (hr:AvLe (.bool false) res):G Try.prog E [.code (Qd Try.prog 137)] ⟨(XP T d)++unds (Try.f137.ntmps - 2),[]⟩ :=
 Qc (n:=400) (evs:=[.v (.bool (Qa d.at_ T.last 1440)),.b false,.b false,.b true,.v (.bool (Xc T d.a)),.b false,.b false,.b false]) (obs:=_) hE Try.func137 Qp (by kernel_rfl) ho hr
theorem p137_start_6 (d:Dl) (T:Frs) {E:Env} {res:AV} (hE:Qg Try.prog 137 res E) (ho:AllP [Qe Try.prog (.clos 115 [] []) (XO d T) (.bool (Qa d.at_ T.last 1440)),(!(Qa d.at_ T.last 1440))=false,(decide (d.n > 100000))=false,(d.kind == 1)=false,(d.kind == 2)=true,Qe Try.prog (.clos 200 [] []) [.rptr (Xm T) 0,.int .i64 d.a] (.bool (QD T d.a)),(QD T d.a)=true,Qe Try.prog (.clos 201 [] []) [.rptr (Xm T) 0,.int .i64 d.b] (.bool (boxT T d.b)),(boxT T d.b)=true,Qe Try.prog (.clos 115 [] []) [.int .i64 d.n,.int .i64 0,.int .i64 1000] (.bool (Qa d.n 0 1000)),(Qa d.n 0 1000)=true,Qe Try.prog (.clos 202 [] []) [.rptr (Xm T) 0,.int .i64 d.a,.int .i64 d.at_] (.bool (decide (d.at_<(purT T d.a).till))),(decide (d.at_<(purT T d.a).till))=true])
 (hr:AvLe (.bool true) res):G Try.prog E [.code (Qd Try.prog 137)] ⟨(XP T d)++unds (Try.f137.ntmps - 2),[]⟩ :=
 Qc (n:=400) (evs:=[.v (.bool (Qa d.at_ T.last 1440)),.b false,.b false,.b false,.b true,.v (.bool (QD T d.a)),.b true,.v (.bool (boxT T d.b)),.b true,.v (.bool (Qa d.n 0 1000)),.b true,.v (.bool (decide (d.at_<(purT T d.a).till))),.b true]) (obs:=_) hE Try.func137 Qp (by kernel_rfl) ho hr
theorem p137_start_7 (d:Dl) (T:Frs) (pe:Pur) {E:Env} {res:AV} (hE:Qg Try.prog 137 res E) (ho:AllP [Qe Try.prog (.clos 115 [] []) (XO d T) (.bool (Qa d.at_ T.last 1440)),(!(Qa d.at_ T.last 1440))=false,(decide (d.n > 100000))=false,(d.kind == 1)=false,(d.kind == 2)=true,Qe Try.prog (.clos 200 [] []) [.rptr (Xm T) 0,.int .i64 d.a] (.bool (QD T d.a)),(QD T d.a)=true,Qe Try.prog (.clos 201 [] []) [.rptr (Xm T) 0,.int .i64 d.b] (.bool (boxT T d.b)),(boxT T d.b)=true,Qe Try.prog (.clos 115 [] []) [.int .i64 d.n,.int .i64 0,.int .i64 1000] (.bool (Qa d.n 0 1000)),(Qa d.n 0 1000)=true,Qe Try.prog (.clos 202 [] []) [.rptr (Xm T) 0,.int .i64 d.a,.int .i64 d.at_] (.bool (decide (d.at_<(purT T d.a).till))),(decide (d.at_<(purT T d.a).till))=false,0≤d.a∧d.a<(T.purses.length:Int),((Qf T.purses).drop ((0+(Int.toNat d.a)*2)+0)).take 1=[.int .i64 pe.tokens]])
 (hr:AvLe (.bool (decide (pe.tokens≥d.n))) res):G Try.prog E [.code (Qd Try.prog 137)] ⟨(XP T d)++unds (Try.f137.ntmps - 2),[]⟩ :=
 Qc (n:=400) (evs:=[.v (.bool (Qa d.at_ T.last 1440)),.b false,.b false,.b false,.b true,.v (.bool (QD T d.a)),.b true,.v (.bool (boxT T d.b)),.b true,.v (.bool (Qa d.n 0 1000)),.b true,.v (.bool (decide (d.at_<(purT T d.a).till))),.b false,.auto,.auto,.ld (.int .i64 pe.tokens)]) (obs:=_) hE Try.func137 Qp (by kernel_rfl) ho hr
theorem p137_start_8 (d:Dl) (T:Frs) {E:Env} {res:AV} (hE:Qg Try.prog 137 res E) (ho:AllP [Qe Try.prog (.clos 115 [] []) (XO d T) (.bool (Qa d.at_ T.last 1440)),(!(Qa d.at_ T.last 1440))=false,(decide (d.n > 100000))=false,(d.kind == 1)=false,(d.kind == 2)=true,Qe Try.prog (.clos 200 [] []) [.rptr (Xm T) 0,.int .i64 d.a] (.bool (QD T d.a)),(QD T d.a)=true,Qe Try.prog (.clos 201 [] []) [.rptr (Xm T) 0,.int .i64 d.b] (.bool (boxT T d.b)),(boxT T d.b)=true,Qe Try.prog (.clos 115 [] []) [.int .i64 d.n,.int .i64 0,.int .i64 1000] (.bool (Qa d.n 0 1000)),(Qa d.n 0 1000)=false])
 (hr:AvLe (.bool false) res):G Try.prog E [.code (Qd Try.prog 137)] ⟨(XP T d)++unds (Try.f137.ntmps - 2),[]⟩ :=
 Qc (n:=400) (evs:=[.v (.bool (Qa d.at_ T.last 1440)),.b false,.b false,.b false,.b true,.v (.bool (QD T d.a)),.b true,.v (.bool (boxT T d.b)),.b true,.v (.bool (Qa d.n 0 1000)),.b false]) (obs:=_) hE Try.func137 Qp (by kernel_rfl) ho hr
theorem p137_start_9 (d:Dl) (T:Frs) {E:Env} {res:AV} (hE:Qg Try.prog 137 res E) (ho:AllP [Qe Try.prog (.clos 115 [] []) (XO d T) (.bool (Qa d.at_ T.last 1440)),(!(Qa d.at_ T.last 1440))=false,(decide (d.n > 100000))=false,(d.kind == 1)=false,(d.kind == 2)=true,Qe Try.prog (.clos 200 [] []) [.rptr (Xm T) 0,.int .i64 d.a] (.bool (QD T d.a)),(QD T d.a)=true,Qe Try.prog (.clos 201 [] []) [.rptr (Xm T) 0,.int .i64 d.b] (.bool (boxT T d.b)),(boxT T d.b)=false,false=false])
 (hr:AvLe (.bool false) res):G Try.prog E [.code (Qd Try.prog 137)] ⟨(XP T d)++unds (Try.f137.ntmps - 2),[]⟩ :=
 Qc (n:=400) (evs:=[.v (.bool (Qa d.at_ T.last 1440)),.b false,.b false,.b false,.b true,.v (.bool (QD T d.a)),.b true,.v (.bool (boxT T d.b)),.b false,.b false]) (obs:=_) hE Try.func137 Qp (by kernel_rfl) ho hr
theorem Qbq (d:Dl) (T:Frs) {E:Env} {res:AV} (hE:Qg Try.prog 137 res E) (ho:AllP [Qe Try.prog (.clos 115 [] []) (XO d T) (.bool (Qa d.at_ T.last 1440)),(!(Qa d.at_ T.last 1440))=false,(decide (d.n > 100000))=false,(d.kind == 1)=false,(d.kind == 2)=true,Qe Try.prog (.clos 200 [] []) [.rptr (Xm T) 0,.int .i64 d.a] (.bool (QD T d.a)),(QD T d.a)=false,false=false,false=false])
 (hr:AvLe (.bool false) res):G Try.prog E [.code (Qd Try.prog 137)] ⟨(XP T d)++unds (Try.f137.ntmps - 2),[]⟩ :=
 Qc (n:=400) (evs:=[.v (.bool (Qa d.at_ T.last 1440)),.b false,.b false,.b false,.b true,.v (.bool (QD T d.a)),.b false,.b false,.b false]) (obs:=_) hE Try.func137 Qp (by kernel_rfl) ho hr
theorem Qbp (d:Dl) (T:Frs) {E:Env} {res:AV} (hE:Qg Try.prog 137 res E) (ho:AllP [Qe Try.prog (.clos 115 [] []) (XO d T) (.bool (Qa d.at_ T.last 1440)),(!(Qa d.at_ T.last 1440))=false,(decide (d.n > 100000))=false,(d.kind == 1)=false,(d.kind == 2)=false,(d.kind == 3)=true,Qe Try.prog (.clos 199 [] []) [.rptr (Xm T) 0,.int .i64 d.a] (.bool (Xc T d.a)),(Xc T d.a)=true,Qe Try.prog (.clos 200 [] []) [.rptr (Xm T) 0,.int .i64 d.b] (.bool (QD T d.b)),(QD T d.b)=true])
 (hr:AvLe (.bool (d.n == 0)) res):G Try.prog E [.code (Qd Try.prog 137)] ⟨(XP T d)++unds (Try.f137.ntmps - 2),[]⟩ :=
 Qc (n:=400) (evs:=[.v (.bool (Qa d.at_ T.last 1440)),.b false,.b false,.b false,.b false,.b true,.v (.bool (Xc T d.a)),.b true,.v (.bool (QD T d.b)),.b true]) (obs:=_) hE Try.func137 Qp (by kernel_rfl) ho hr
theorem Qbo (d:Dl) (T:Frs) {E:Env} {res:AV} (hE:Qg Try.prog 137 res E) (ho:AllP [Qe Try.prog (.clos 115 [] []) (XO d T) (.bool (Qa d.at_ T.last 1440)),(!(Qa d.at_ T.last 1440))=false,(decide (d.n > 100000))=false,(d.kind == 1)=false,(d.kind == 2)=false,(d.kind == 3)=true,Qe Try.prog (.clos 199 [] []) [.rptr (Xm T) 0,.int .i64 d.a] (.bool (Xc T d.a)),(Xc T d.a)=true,Qe Try.prog (.clos 200 [] []) [.rptr (Xm T) 0,.int .i64 d.b] (.bool (QD T d.b)),(QD T d.b)=false])
 (hr:AvLe (.bool false) res):G Try.prog E [.code (Qd Try.prog 137)] ⟨(XP T d)++unds (Try.f137.ntmps - 2),[]⟩ :=
 Qc (n:=400) (evs:=[.v (.bool (Qa d.at_ T.last 1440)),.b false,.b false,.b false,.b false,.b true,.v (.bool (Xc T d.a)),.b true,.v (.bool (QD T d.b)),.b false]) (obs:=_) hE Try.func137 Qp (by kernel_rfl) ho hr
theorem Qbn (d:Dl) (T:Frs) {E:Env} {res:AV} (hE:Qg Try.prog 137 res E) (ho:AllP [Qe Try.prog (.clos 115 [] []) (XO d T) (.bool (Qa d.at_ T.last 1440)),(!(Qa d.at_ T.last 1440))=false,(decide (d.n > 100000))=false,(d.kind == 1)=false,(d.kind == 2)=false,(d.kind == 3)=true,Qe Try.prog (.clos 199 [] []) [.rptr (Xm T) 0,.int .i64 d.a] (.bool (Xc T d.a)),(Xc T d.a)=false,false=false])
 (hr:AvLe (.bool false) res):G Try.prog E [.code (Qd Try.prog 137)] ⟨(XP T d)++unds (Try.f137.ntmps - 2),[]⟩ :=
 Qc (n:=400) (evs:=[.v (.bool (Qa d.at_ T.last 1440)),.b false,.b false,.b false,.b false,.b true,.v (.bool (Xc T d.a)),.b false,.b false]) (obs:=_) hE Try.func137 Qp (by kernel_rfl) ho hr
theorem Qbm (d:Dl) (T:Frs) (e:Int) {E:Env} {res:AV} (hE:Qg Try.prog 137 res E) (ho:AllP [Qe Try.prog (.clos 115 [] []) (XO d T) (.bool (Qa d.at_ T.last 1440)),(!(Qa d.at_ T.last 1440))=false,(decide (d.n > 100000))=false,(d.kind == 1)=false,(d.kind == 2)=false,(d.kind == 3)=false,(d.kind == 4)=true,Qe Try.prog (.clos 199 [] []) [.rptr (Xm T) 0,.int .i64 d.a] (.bool (Xc T d.a)),(Xc T d.a)=true,Qe Try.prog (.clos 203 [] []) [.rptr (Xm T) 0,.int .i64 d.b,.int .i64 d.n] (.bool (hasT T d.b d.n)),(hasT T d.b d.n)=true,0≤d.a∧d.a<(T.cash.length:Int),((rowI T.cash).drop (0+(Int.toNat d.a)*1)).take 1=[.int .i64 e],InR .i64 (d.n*T.f.refund)])
 (hr:AvLe (.bool (decide (e≥(d.n*T.f.refund)))) res):G Try.prog E [.code (Qd Try.prog 137)] ⟨(XP T d)++unds (Try.f137.ntmps - 2),[]⟩ :=
 Qc (n:=400) (evs:=[.v (.bool (Qa d.at_ T.last 1440)),.b false,.b false,.b false,.b false,.b false,.b true,.v (.bool (Xc T d.a)),.b true,.v (.bool (hasT T d.b d.n)),.b true,.auto,.auto,.ld (.int .i64 e)]) (obs:=_) hE Try.func137 Qp (by kernel_rfl) ho hr
theorem Qbl (d:Dl) (T:Frs) {E:Env} {res:AV} (hE:Qg Try.prog 137 res E) (ho:AllP [Qe Try.prog (.clos 115 [] []) (XO d T) (.bool (Qa d.at_ T.last 1440)),(!(Qa d.at_ T.last 1440))=false,(decide (d.n > 100000))=false,(d.kind == 1)=false,(d.kind == 2)=false,(d.kind == 3)=false,(d.kind == 4)=true,Qe Try.prog (.clos 199 [] []) [.rptr (Xm T) 0,.int .i64 d.a] (.bool (Xc T d.a)),(Xc T d.a)=true,Qe Try.prog (.clos 203 [] []) [.rptr (Xm T) 0,.int .i64 d.b,.int .i64 d.n] (.bool (hasT T d.b d.n)),(hasT T d.b d.n)=false])
 (hr:AvLe (.bool false) res):G Try.prog E [.code (Qd Try.prog 137)] ⟨(XP T d)++unds (Try.f137.ntmps - 2),[]⟩ :=
 Qc (n:=400) (evs:=[.v (.bool (Qa d.at_ T.last 1440)),.b false,.b false,.b false,.b false,.b false,.b true,.v (.bool (Xc T d.a)),.b true,.v (.bool (hasT T d.b d.n)),.b false]) (obs:=_) hE Try.func137 Qp (by kernel_rfl) ho hr
theorem Qbk (d:Dl) (T:Frs) {E:Env} {res:AV} (hE:Qg Try.prog 137 res E) (ho:AllP [Qe Try.prog (.clos 115 [] []) (XO d T) (.bool (Qa d.at_ T.last 1440)),(!(Qa d.at_ T.last 1440))=false,(decide (d.n > 100000))=false,(d.kind == 1)=false,(d.kind == 2)=false,(d.kind == 3)=false,(d.kind == 4)=true,Qe Try.prog (.clos 199 [] []) [.rptr (Xm T) 0,.int .i64 d.a] (.bool (Xc T d.a)),(Xc T d.a)=false,false=false])
 (hr:AvLe (.bool false) res):G Try.prog E [.code (Qd Try.prog 137)] ⟨(XP T d)++unds (Try.f137.ntmps - 2),[]⟩ :=
 Qc (n:=400) (evs:=[.v (.bool (Qa d.at_ T.last 1440)),.b false,.b false,.b false,.b false,.b false,.b true,.v (.bool (Xc T d.a)),.b false,.b false]) (obs:=_) hE Try.func137 Qp (by kernel_rfl) ho hr
theorem Qbj (d:Dl) (T:Frs) {E:Env} {res:AV} (hE:Qg Try.prog 137 res E) (ho:AllP [Qe Try.prog (.clos 115 [] []) (XO d T) (.bool (Qa d.at_ T.last 1440)),(!(Qa d.at_ T.last 1440))=false,(decide (d.n > 100000))=false,(d.kind == 1)=false,(d.kind == 2)=false,(d.kind == 3)=false,(d.kind == 4)=false,(d.kind == 5)=true,Qe Try.prog (.clos 199 [] []) [.rptr (Xm T) 0,.int .i64 d.a] (.bool (Xc T d.a)),(Xc T d.a)=true,Qe Try.prog (.clos 201 [] []) [.rptr (Xm T) 0,.int .i64 d.b] (.bool (boxT T d.b)),(boxT T d.b)=true])
 (hr:AvLe (.bool (d.n == 0)) res):G Try.prog E [.code (Qd Try.prog 137)] ⟨(XP T d)++unds (Try.f137.ntmps - 2),[]⟩ :=
 Qc (n:=400) (evs:=[.v (.bool (Qa d.at_ T.last 1440)),.b false,.b false,.b false,.b false,.b false,.b false,.b true,.v (.bool (Xc T d.a)),.b true,.v (.bool (boxT T d.b)),.b true]) (obs:=_) hE Try.func137 Qp (by kernel_rfl) ho hr
theorem Qbi (d:Dl) (T:Frs) {E:Env} {res:AV} (hE:Qg Try.prog 137 res E) (ho:AllP [Qe Try.prog (.clos 115 [] []) (XO d T) (.bool (Qa d.at_ T.last 1440)),(!(Qa d.at_ T.last 1440))=false,(decide (d.n > 100000))=false,(d.kind == 1)=false,(d.kind == 2)=false,(d.kind == 3)=false,(d.kind == 4)=false,(d.kind == 5)=true,Qe Try.prog (.clos 199 [] []) [.rptr (Xm T) 0,.int .i64 d.a] (.bool (Xc T d.a)),(Xc T d.a)=true,Qe Try.prog (.clos 201 [] []) [.rptr (Xm T) 0,.int .i64 d.b] (.bool (boxT T d.b)),(boxT T d.b)=false])
 (hr:AvLe (.bool false) res):G Try.prog E [.code (Qd Try.prog 137)] ⟨(XP T d)++unds (Try.f137.ntmps - 2),[]⟩ :=
 Qc (n:=400) (evs:=[.v (.bool (Qa d.at_ T.last 1440)),.b false,.b false,.b false,.b false,.b false,.b false,.b true,.v (.bool (Xc T d.a)),.b true,.v (.bool (boxT T d.b)),.b false]) (obs:=_) hE Try.func137 Qp (by kernel_rfl) ho hr
theorem Qbh (d:Dl) (T:Frs) {E:Env} {res:AV} (hE:Qg Try.prog 137 res E) (ho:AllP [Qe Try.prog (.clos 115 [] []) (XO d T) (.bool (Qa d.at_ T.last 1440)),(!(Qa d.at_ T.last 1440))=false,(decide (d.n > 100000))=false,(d.kind == 1)=false,(d.kind == 2)=false,(d.kind == 3)=false,(d.kind == 4)=false,(d.kind == 5)=true,Qe Try.prog (.clos 199 [] []) [.rptr (Xm T) 0,.int .i64 d.a] (.bool (Xc T d.a)),(Xc T d.a)=false,false=false])
 (hr:AvLe (.bool false) res):G Try.prog E [.code (Qd Try.prog 137)] ⟨(XP T d)++unds (Try.f137.ntmps - 2),[]⟩ :=
 Qc (n:=400) (evs:=[.v (.bool (Qa d.at_ T.last 1440)),.b false,.b false,.b false,.b false,.b false,.b false,.b true,.v (.bool (Xc T d.a)),.b false,.b false]) (obs:=_) hE Try.func137 Qp (by kernel_rfl) ho hr
theorem Qbg (d:Dl) (T:Frs) {E:Env} {res:AV} (hE:Qg Try.prog 137 res E) (ho:AllP [Qe Try.prog (.clos 115 [] []) (XO d T) (.bool (Qa d.at_ T.last 1440)),(!(Qa d.at_ T.last 1440))=false,(decide (d.n > 100000))=false,(d.kind == 1)=false,(d.kind == 2)=false,(d.kind == 3)=false,(d.kind == 4)=false,(d.kind == 5)=false,(d.kind == 6)=true,Qe Try.prog (.clos 203 [] []) (z137_4 T d) (.bool (hasT T d.a d.n)),(hasT T d.a d.n)=true,Qe Try.prog (.clos 200 [] []) [.rptr (Xm T) 0,.int .i64 d.b] (.bool (QD T d.b)),(QD T d.b)=true])
 (hr:AvLe (.bool (d.a != d.b)) res):G Try.prog E [.code (Qd Try.prog 137)] ⟨(XP T d)++unds (Try.f137.ntmps - 2),[]⟩ :=
 Qc (n:=400) (evs:=[.v (.bool (Qa d.at_ T.last 1440)),.b false,.b false,.b false,.b false,.b false,.b false,.b false,.b true,.v (.bool (hasT T d.a d.n)),.b true,.v (.bool (QD T d.b)),.b true]) (obs:=_) hE Try.func137 Qp (by kernel_rfl) ho hr
theorem Qbf (d:Dl) (T:Frs) {E:Env} {res:AV} (hE:Qg Try.prog 137 res E) (ho:AllP [Qe Try.prog (.clos 115 [] []) (XO d T) (.bool (Qa d.at_ T.last 1440)),(!(Qa d.at_ T.last 1440))=false,(decide (d.n > 100000))=false,(d.kind == 1)=false,(d.kind == 2)=false,(d.kind == 3)=false,(d.kind == 4)=false,(d.kind == 5)=false,(d.kind == 6)=true,Qe Try.prog (.clos 203 [] []) (z137_4 T d) (.bool (hasT T d.a d.n)),(hasT T d.a d.n)=true,Qe Try.prog (.clos 200 [] []) [.rptr (Xm T) 0,.int .i64 d.b] (.bool (QD T d.b)),(QD T d.b)=false])
 (hr:AvLe (.bool false) res):G Try.prog E [.code (Qd Try.prog 137)] ⟨(XP T d)++unds (Try.f137.ntmps - 2),[]⟩ :=
 Qc (n:=400) (evs:=[.v (.bool (Qa d.at_ T.last 1440)),.b false,.b false,.b false,.b false,.b false,.b false,.b false,.b true,.v (.bool (hasT T d.a d.n)),.b true,.v (.bool (QD T d.b)),.b false]) (obs:=_) hE Try.func137 Qp (by kernel_rfl) ho hr
theorem Qbe (d:Dl) (T:Frs) {E:Env} {res:AV} (hE:Qg Try.prog 137 res E) (ho:AllP [Qe Try.prog (.clos 115 [] []) (XO d T) (.bool (Qa d.at_ T.last 1440)),(!(Qa d.at_ T.last 1440))=false,(decide (d.n > 100000))=false,(d.kind == 1)=false,(d.kind == 2)=false,(d.kind == 3)=false,(d.kind == 4)=false,(d.kind == 5)=false,(d.kind == 6)=true,Qe Try.prog (.clos 203 [] []) (z137_4 T d) (.bool (hasT T d.a d.n)),(hasT T d.a d.n)=false,false=false])
 (hr:AvLe (.bool false) res):G Try.prog E [.code (Qd Try.prog 137)] ⟨(XP T d)++unds (Try.f137.ntmps - 2),[]⟩ :=
 Qc (n:=400) (evs:=[.v (.bool (Qa d.at_ T.last 1440)),.b false,.b false,.b false,.b false,.b false,.b false,.b false,.b true,.v (.bool (hasT T d.a d.n)),.b false,.b false]) (obs:=_) hE Try.func137 Qp (by kernel_rfl) ho hr
theorem Qbd (d:Dl) (T:Frs) {E:Env} {res:AV} (hE:Qg Try.prog 137 res E) (ho:AllP [Qe Try.prog (.clos 115 [] []) (XO d T) (.bool (Qa d.at_ T.last 1440)),(!(Qa d.at_ T.last 1440))=false,(decide (d.n > 100000))=false,(d.kind == 1)=false,(d.kind == 2)=false,(d.kind == 3)=false,(d.kind == 4)=false,(d.kind == 5)=false,(d.kind == 6)=false,(d.kind == 7)=true,Qe Try.prog (.clos 203 [] []) (z137_4 T d) (.bool (hasT T d.a d.n)),(hasT T d.a d.n)=true])
 (hr:AvLe (.bool (d.b == 0)) res):G Try.prog E [.code (Qd Try.prog 137)] ⟨(XP T d)++unds (Try.f137.ntmps - 2),[]⟩ :=
 Qc (n:=400) (evs:=[.v (.bool (Qa d.at_ T.last 1440)),.b false,.b false,.b false,.b false,.b false,.b false,.b false,.b false,.b true,.v (.bool (hasT T d.a d.n)),.b true]) (obs:=_) hE Try.func137 Qp (by kernel_rfl) ho hr
theorem Qbc (d:Dl) (T:Frs) {E:Env} {res:AV} (hE:Qg Try.prog 137 res E) (ho:AllP [Qe Try.prog (.clos 115 [] []) (XO d T) (.bool (Qa d.at_ T.last 1440)),(!(Qa d.at_ T.last 1440))=false,(decide (d.n > 100000))=false,(d.kind == 1)=false,(d.kind == 2)=false,(d.kind == 3)=false,(d.kind == 4)=false,(d.kind == 5)=false,(d.kind == 6)=false,(d.kind == 7)=true,Qe Try.prog (.clos 203 [] []) (z137_4 T d) (.bool (hasT T d.a d.n)),(hasT T d.a d.n)=false])
 (hr:AvLe (.bool false) res):G Try.prog E [.code (Qd Try.prog 137)] ⟨(XP T d)++unds (Try.f137.ntmps - 2),[]⟩ :=
 Qc (n:=400) (evs:=[.v (.bool (Qa d.at_ T.last 1440)),.b false,.b false,.b false,.b false,.b false,.b false,.b false,.b false,.b true,.v (.bool (hasT T d.a d.n)),.b false]) (obs:=_) hE Try.func137 Qp (by kernel_rfl) ho hr
theorem Qbb (d:Dl) (T:Frs) {E:Env} {res:AV} (hE:Qg Try.prog 137 res E) (ho:AllP [Qe Try.prog (.clos 115 [] []) (XO d T) (.bool (Qa d.at_ T.last 1440)),(!(Qa d.at_ T.last 1440))=false,(decide (d.n > 100000))=false,(d.kind == 1)=false,(d.kind == 2)=false,(d.kind == 3)=false,(d.kind == 4)=false,(d.kind == 5)=false,(d.kind == 6)=false,(d.kind == 7)=false])
 (hr:AvLe (.bool false) res):G Try.prog E [.code (Qd Try.prog 137)] ⟨(XP T d)++unds (Try.f137.ntmps - 2),[]⟩ :=
 Qc (n:=400) (evs:=[.v (.bool (Qa d.at_ T.last 1440)),.b false,.b false,.b false,.b false,.b false,.b false,.b false,.b false,.b false]) (obs:=_) hE Try.func137 Qp (by kernel_rfl) ho hr
theorem f137W (d:Dl) (T:Frs) {E:Env} {rv:Bool} (hE:Qg Try.prog 137 (.bool rv) E)
 (h:(((Qa d.at_ T.last 1440)=false→rv=false)∧((Qa d.at_ T.last 1440)=true→((d.n > 100000→rv=false)∧(¬ (d.n > 100000)→((d.kind=1→((T.stock.length≤1000000)∧(((Xc T d.a)=true→((0≤T.f.purses∧T.f.purses≤1000000)∧(((QD T d.b)=true→((I6 ((T.f.bundles.length:Int) - 1))∧(((Qa d.n 0 ((T.f.bundles.length:Int) - 1))=true→(0≤d.a∧(∃ e:Int,T.stock[Int.toNat d.a]?=some e∧(0≤d.n∧(∃ be:Bndl,T.f.bundles[Int.toNat d.n]?=some be∧rv=(decide (e≥be.tokens)))))))∧((Qa d.n 0 ((T.f.bundles.length:Int) - 1))=false→rv=false))))∧((QD T d.b)=false→rv=false))))∧((Xc T d.a)=false→rv=false))))∧(¬ (d.kind=1)→((d.kind=2→((0≤T.f.purses∧T.f.purses≤1000000)∧(((QD T d.a)=true→((0≤T.f.boxes∧T.f.boxes≤1000000)∧(((boxT T d.b)=true→(((Qa d.n 0 1000)=true→((0≤d.a∧Int.toNat d.a<T.purses.length)∧((d.at_<(purT T d.a).till→rv=true)∧(¬ (d.at_<(purT T d.a).till)→(0≤d.a∧(∃ pe:Pur,T.purses[Int.toNat d.a]?=some pe∧rv=(decide (pe.tokens≥d.n))))))))∧((Qa d.n 0 1000)=false→rv=false)))∧((boxT T d.b)=false→rv=false))))∧((QD T d.a)=false→rv=false))))∧(¬ (d.kind=2)→((d.kind=3→((T.stock.length≤1000000)∧(((Xc T d.a)=true→((0≤T.f.purses∧T.f.purses≤1000000)∧(((QD T d.b)=true→rv=(d.n == 0))∧((QD T d.b)=false→rv=false))))∧((Xc T d.a)=false→rv=false))))∧(¬ (d.kind=3)→((d.kind=4→((T.stock.length≤1000000)∧(((Xc T d.a)=true→((FLen T)∧(((hasT T d.b d.n)=true→(0≤d.a∧(∃ e:Int,T.cash[Int.toNat d.a]?=some e∧((I6 (d.n*T.f.refund))∧rv=(decide (e≥(d.n*T.f.refund)))))))∧((hasT T d.b d.n)=false→rv=false))))∧((Xc T d.a)=false→rv=false))))∧(¬ (d.kind=4)→((d.kind=5→((T.stock.length≤1000000)∧(((Xc T d.a)=true→((0≤T.f.boxes∧T.f.boxes≤1000000)∧(((boxT T d.b)=true→rv=(d.n == 0))∧((boxT T d.b)=false→rv=false))))∧((Xc T d.a)=false→rv=false))))∧(¬ (d.kind=5)→((d.kind=6→((FLen T)∧(((hasT T d.a d.n)=true→((0≤T.f.purses∧T.f.purses≤1000000)∧(((QD T d.b)=true→rv=(d.a != d.b))∧((QD T d.b)=false→rv=false))))∧((hasT T d.a d.n)=false→rv=false))))∧(¬ (d.kind=6)→((d.kind=7→((FLen T)∧(((hasT T d.a d.n)=true→rv=(d.b == 0))∧((hasT T d.a d.n)=false→rv=false))))∧(¬ (d.kind=7)→rv=false))))))))))))))))))):G Try.prog E [.code (Qd Try.prog 137)] ⟨[.rptr [.int .i64 T.f.purses,.int .i64 T.f.boxes,.rsl (rowI T.f.stock) 0 T.f.stock.length,.rsl (rowI T.f.cash) 0 T.f.cash.length,.rsl (Qr T.f.bundles) 0 T.f.bundles.length,.int .i64 T.f.refund,.int .i64 T.f.band,.int .i64 T.f.hours,.rsl (rowI T.stock) 0 T.stock.length,.rsl (rowI T.cash) 0 T.cash.length,.rsl (Qf T.purses) 0 T.purses.length,.rsl (rowI T.boxes) 0 T.boxes.length,.int .i64 T.lost,.int .i64 T.last,.int .i64 T.sold,.int .i64 T.taken,.int .i64 T.ret,.int .i64 T.held,.int .i64 T.nlost,.int .i64 T.ncash] 0,.agg [.int .i64 d.at_,.int .i64 d.kind,.int .i64 d.a,.int .i64 d.b,.int .i64 d.n]]++unds (Try.f137.ntmps - 2),[]⟩:=by
 rcases bft (!(Qa d.at_ T.last 1440)) with hc0 | hc0
 · have h:=h.1 (bnT hc0)
   exact p137_start_0 d T hE ⟨(u115 (Qh d.at_ T.last 1440)),hc0,rfl,trivial⟩ (AvLe.of_eq (by rw [h]; try rfl))
 · have h:=h.2 (bnF hc0)
   rcases bft (decide (d.n > 100000)) with hc1 | hc1
   · have h:=h.1 (odt hc1)
     exact p137_start_1 d T hE ⟨(u115 (Qh d.at_ T.last 1440)),hc0,hc1,trivial⟩ (AvLe.of_eq (by rw [h]; try rfl))
   · have h:=h.2 (odf hc1)
     rcases bft (d.kind == 1) with hc2 | hc2
     · have h:=h.1 (eq_of_beq hc2)
       obtain ⟨h1,h⟩:=h
       rcases bft (Xc T d.a) with hc3 | hc3
       · have h:=h.1 hc3
         obtain ⟨h2,h⟩:=h
         rcases bft (QD T d.b) with hc4 | hc4
         · have h:=h.1 hc4
           obtain ⟨q8_5,h⟩:=h
           rcases bft (Qa d.n 0 ((T.f.bundles.length:Int) - 1)) with hc5 | hc5
           · have h:=h.1 hc5
             obtain ⟨h4,h⟩:=h
             obtain ⟨e,h3,h⟩:=h
             obtain ⟨h6,h⟩:=h
             obtain ⟨be,h5,h⟩:=h
             exact p137_start_2 d T e be hE ⟨(u115 (Qh d.at_ T.last 1440)),hc0,hc1,hc2,(u199 (YB T d.a h1)),hc3,(u200 (XY T d.b h2)),hc4,q8_5,(u115 (Qh d.n 0 ((T.f.bundles.length:Int) - 1))),hc5,(Qn h4 h3),(rp cI 1 0 1 h3),(Qn h6 h5),(rp cBd 2 0 1 h5),trivial⟩ (AvLe.of_eq (by rw [h]; try rfl))
           · have h:=h.2 hc5
             exact p137_start_3 d T hE ⟨(u115 (Qh d.at_ T.last 1440)),hc0,hc1,hc2,(u199 (YB T d.a h1)),hc3,(u200 (XY T d.b h2)),hc4,q8_5,(u115 (Qh d.n 0 ((T.f.bundles.length:Int) - 1))),hc5,trivial⟩ (AvLe.of_eq (by rw [h]; try rfl))
         · have h:=h.2 hc4
           exact p137_start_4 d T hE ⟨(u115 (Qh d.at_ T.last 1440)),hc0,hc1,hc2,(u199 (YB T d.a h1)),hc3,(u200 (XY T d.b h2)),hc4,rfl,trivial⟩ (AvLe.of_eq (by rw [h]; try rfl))
       · have h:=h.2 hc3
         exact p137_start_5 d T hE ⟨(u115 (Qh d.at_ T.last 1440)),hc0,hc1,hc2,(u199 (YB T d.a h1)),hc3,rfl,rfl,trivial⟩ (AvLe.of_eq (by rw [h]; try rfl))
     · have h:=h.2 (ne_of_beq_false hc2)
       rcases bft (d.kind == 2) with hc3 | hc3
       · have h:=h.1 (eq_of_beq hc3)
         obtain ⟨h1,h⟩:=h
         rcases bft (QD T d.a) with hc4 | hc4
         · have h:=h.1 hc4
           obtain ⟨h2,h⟩:=h
           rcases bft (boxT T d.b) with hc5 | hc5
           · have h:=h.1 hc5
             rcases bft (Qa d.n 0 1000) with hc6 | hc6
             · have h:=h.1 hc6
               obtain ⟨h3,h⟩:=h
               rcases bft (decide (d.at_<(purT T d.a).till)) with hc7 | hc7
               · have h:=h.1 (odt hc7)
                 exact p137_start_6 d T hE ⟨(u115 (Qh d.at_ T.last 1440)),hc0,hc1,hc2,hc3,(u200 (XY T d.a h1)),hc4,(u201 (QaI T d.b h2)),hc5,(u115 (Qh d.n 0 1000)),hc6,(u202 (Qcr T d.a d.at_ h3)),hc7,trivial⟩ (AvLe.of_eq (by rw [h]; try rfl))
               · have h:=h.2 (odf hc7)
                 obtain ⟨h5,h⟩:=h
                 obtain ⟨pe,h4,h⟩:=h
                 exact p137_start_7 d T pe hE ⟨(u115 (Qh d.at_ T.last 1440)),hc0,hc1,hc2,hc3,(u200 (XY T d.a h1)),hc4,(u201 (QaI T d.b h2)),hc5,(u115 (Qh d.n 0 1000)),hc6,(u202 (Qcr T d.a d.at_ h3)),hc7,(Qn h5 h4),(rp cPur 2 0 1 h4),trivial⟩ (AvLe.of_eq (by rw [h]; try rfl))
             · have h:=h.2 hc6
               exact p137_start_8 d T hE ⟨(u115 (Qh d.at_ T.last 1440)),hc0,hc1,hc2,hc3,(u200 (XY T d.a h1)),hc4,(u201 (QaI T d.b h2)),hc5,(u115 (Qh d.n 0 1000)),hc6,trivial⟩ (AvLe.of_eq (by rw [h]; try rfl))
           · have h:=h.2 hc5
             exact p137_start_9 d T hE ⟨(u115 (Qh d.at_ T.last 1440)),hc0,hc1,hc2,hc3,(u200 (XY T d.a h1)),hc4,(u201 (QaI T d.b h2)),hc5,rfl,trivial⟩ (AvLe.of_eq (by rw [h]; try rfl))
         · have h:=h.2 hc4
           exact Qbq d T hE ⟨(u115 (Qh d.at_ T.last 1440)),hc0,hc1,hc2,hc3,(u200 (XY T d.a h1)),hc4,rfl,rfl,trivial⟩ (AvLe.of_eq (by rw [h]; try rfl))
       · have h:=h.2 (ne_of_beq_false hc3)
         rcases bft (d.kind == 3) with hc4 | hc4
         · have h:=h.1 (eq_of_beq hc4)
           obtain ⟨h1,h⟩:=h
           rcases bft (Xc T d.a) with hc5 | hc5
           · have h:=h.1 hc5
             obtain ⟨h2,h⟩:=h
             rcases bft (QD T d.b) with hc6 | hc6
             · have h:=h.1 hc6
               exact Qbp d T hE ⟨(u115 (Qh d.at_ T.last 1440)),hc0,hc1,hc2,hc3,hc4,(u199 (YB T d.a h1)),hc5,(u200 (XY T d.b h2)),hc6,trivial⟩ (AvLe.of_eq (by rw [h]; try rfl))
             · have h:=h.2 hc6
               exact Qbo d T hE ⟨(u115 (Qh d.at_ T.last 1440)),hc0,hc1,hc2,hc3,hc4,(u199 (YB T d.a h1)),hc5,(u200 (XY T d.b h2)),hc6,trivial⟩ (AvLe.of_eq (by rw [h]; try rfl))
           · have h:=h.2 hc5
             exact Qbn d T hE ⟨(u115 (Qh d.at_ T.last 1440)),hc0,hc1,hc2,hc3,hc4,(u199 (YB T d.a h1)),hc5,rfl,trivial⟩ (AvLe.of_eq (by rw [h]; try rfl))
         · have h:=h.2 (ne_of_beq_false hc4)
           rcases bft (d.kind == 4) with hc5 | hc5
           · have h:=h.1 (eq_of_beq hc5)
             obtain ⟨h1,h⟩:=h
             rcases bft (Xc T d.a) with hc6 | hc6
             · have h:=h.1 hc6
               obtain ⟨h2,h⟩:=h
               rcases bft (hasT T d.b d.n) with hc7 | hc7
               · have h:=h.1 hc7
                 obtain ⟨h4,h⟩:=h
                 obtain ⟨e,h3,h⟩:=h
                 obtain ⟨q14_8,h⟩:=h
                 exact Qbm d T e hE ⟨(u115 (Qh d.at_ T.last 1440)),hc0,hc1,hc2,hc3,hc4,hc5,(u199 (YB T d.a h1)),hc6,(u203 (Kr T d.b d.n h2)),hc7,(Qn h4 h3),(rp cI 1 0 1 h3),q14_8,trivial⟩ (AvLe.of_eq (by rw [h]; try rfl))
               · have h:=h.2 hc7
                 exact Qbl d T hE ⟨(u115 (Qh d.at_ T.last 1440)),hc0,hc1,hc2,hc3,hc4,hc5,(u199 (YB T d.a h1)),hc6,(u203 (Kr T d.b d.n h2)),hc7,trivial⟩ (AvLe.of_eq (by rw [h]; try rfl))
             · have h:=h.2 hc6
               exact Qbk d T hE ⟨(u115 (Qh d.at_ T.last 1440)),hc0,hc1,hc2,hc3,hc4,hc5,(u199 (YB T d.a h1)),hc6,rfl,trivial⟩ (AvLe.of_eq (by rw [h]; try rfl))
           · have h:=h.2 (ne_of_beq_false hc5)
             rcases bft (d.kind == 5) with hc6 | hc6
             · have h:=h.1 (eq_of_beq hc6)
               obtain ⟨h1,h⟩:=h
               rcases bft (Xc T d.a) with hc7 | hc7
               · have h:=h.1 hc7
                 obtain ⟨h2,h⟩:=h
                 rcases bft (boxT T d.b) with hc8 | hc8
                 · have h:=h.1 hc8
                   exact Qbj d T hE ⟨(u115 (Qh d.at_ T.last 1440)),hc0,hc1,hc2,hc3,hc4,hc5,hc6,(u199 (YB T d.a h1)),hc7,(u201 (QaI T d.b h2)),hc8,trivial⟩ (AvLe.of_eq (by rw [h]; try rfl))
                 · have h:=h.2 hc8
                   exact Qbi d T hE ⟨(u115 (Qh d.at_ T.last 1440)),hc0,hc1,hc2,hc3,hc4,hc5,hc6,(u199 (YB T d.a h1)),hc7,(u201 (QaI T d.b h2)),hc8,trivial⟩ (AvLe.of_eq (by rw [h]; try rfl))
               · have h:=h.2 hc7
                 exact Qbh d T hE ⟨(u115 (Qh d.at_ T.last 1440)),hc0,hc1,hc2,hc3,hc4,hc5,hc6,(u199 (YB T d.a h1)),hc7,rfl,trivial⟩ (AvLe.of_eq (by rw [h]; try rfl))
             · have h:=h.2 (ne_of_beq_false hc6)
               rcases bft (d.kind == 6) with hc7 | hc7
               · have h:=h.1 (eq_of_beq hc7)
                 obtain ⟨h1,h⟩:=h
                 rcases bft (hasT T d.a d.n) with hc8 | hc8
                 · have h:=h.1 hc8
                   obtain ⟨h2,h⟩:=h
                   rcases bft (QD T d.b) with hc9 | hc9
                   · have h:=h.1 hc9
                     exact Qbg d T hE ⟨(u115 (Qh d.at_ T.last 1440)),hc0,hc1,hc2,hc3,hc4,hc5,hc6,hc7,(u203 (Kr T d.a d.n h1)),hc8,(u200 (XY T d.b h2)),hc9,trivial⟩ (AvLe.of_eq (by rw [h]; try rfl))
                   · have h:=h.2 hc9
                     exact Qbf d T hE ⟨(u115 (Qh d.at_ T.last 1440)),hc0,hc1,hc2,hc3,hc4,hc5,hc6,hc7,(u203 (Kr T d.a d.n h1)),hc8,(u200 (XY T d.b h2)),hc9,trivial⟩ (AvLe.of_eq (by rw [h]; try rfl))
                 · have h:=h.2 hc8
                   exact Qbe d T hE ⟨(u115 (Qh d.at_ T.last 1440)),hc0,hc1,hc2,hc3,hc4,hc5,hc6,hc7,(u203 (Kr T d.a d.n h1)),hc8,rfl,trivial⟩ (AvLe.of_eq (by rw [h]; try rfl))
               · have h:=h.2 (ne_of_beq_false hc7)
                 rcases bft (d.kind == 7) with hc8 | hc8
                 · have h:=h.1 (eq_of_beq hc8)
                   obtain ⟨h1,h⟩:=h
                   rcases bft (hasT T d.a d.n) with hc9 | hc9
                   · have h:=h.1 hc9
                     exact Qbd d T hE ⟨(u115 (Qh d.at_ T.last 1440)),hc0,hc1,hc2,hc3,hc4,hc5,hc6,hc7,hc8,(u203 (Kr T d.a d.n h1)),hc9,trivial⟩ (AvLe.of_eq (by rw [h]; try rfl))
                   · have h:=h.2 hc9
                     exact Qbc d T hE ⟨(u115 (Qh d.at_ T.last 1440)),hc0,hc1,hc2,hc3,hc4,hc5,hc6,hc7,hc8,(u203 (Kr T d.a d.n h1)),hc9,trivial⟩ (AvLe.of_eq (by rw [h]; try rfl))
                 · have h:=h.2 (ne_of_beq_false hc8)
                   exact Qbb d T hE ⟨(u115 (Qh d.at_ T.last 1440)),hc0,hc1,hc2,hc3,hc4,hc5,hc6,hc7,hc8,trivial⟩ (AvLe.of_eq (by rw [h]; try rfl))
theorem pos_ok (T:Frs) (d:Dl) (h:FLen T):Pure Try.prog 137 [.rptr (cFrs T) 0,.agg (cDl d)] (.bool (posT T d)):=QC Try.func137 f137b fun E hE=>by
 have h1:=h.pu
 have h2:=h.pl
 have h3:=h.bo
 have h4:=h.bl
 have h5:=h.ca
 have hst:=h.st
 have hbn:=h.bn
 have hrf:=h.rf
 refine f137W d T (rv:=posT T d) hE ⟨fun e=>by rw [posT,if_pos e],fun e=>⟨fun hn=>by rw [posT,if_neg (by rw [e]; simp),if_pos hn],fun hn=>?_⟩⟩
 have e0:posT T d=posK T d:=by rw [posT,if_neg (by rw [e]; simp),if_neg hn]
 rw [e0]
 refine ⟨fun k=>?_,fun k1=>⟨fun k=>?_,fun k2=>⟨fun k=>?_,fun k3=>⟨fun k=>?_,fun k4=>⟨fun k=>?_,fun k5=>⟨fun k=>?_,fun k6=>⟨fun k=>?_,fun k7=>?_⟩⟩⟩⟩⟩⟩⟩
 · rw [posK,if_pos k]
   refine ⟨hst,fun a=>⟨by omega,fun b=>⟨by omega,fun c=>?_,fun c=>by rw [a,b,c]; rfl⟩,fun b=>by rw [a,b]; rfl⟩,fun a=>by rw [a]; rfl⟩
   have ha:=Qq.1 a
   have hc:=Qq.1 c
   exact ⟨ha.1,_,XX (d:=0) (by omega),hc.1,_,XX (d:=⟨0,0⟩) (by omega),by rw [a,b,c]; rfl⟩
 · rw [posK,if_neg k1,if_pos k]
   refine ⟨by omega,fun a=>⟨by omega,fun b=>⟨fun c=>?_,fun c=>by rw [a,b,c]; rfl⟩,fun b=>by rw [a,b]; rfl⟩,fun a=>by rw [a]; rfl⟩
   have ha:=Qq.1 a
   refine ⟨⟨ha.1,by omega⟩,fun q=>by rw [a,b,c,decide_eq_true q]; rfl,fun q=>⟨ha.1,_,XX (d:=⟨0,0⟩) (by omega),by rw [a,b,c,decide_eq_false q]; rfl⟩⟩
 · rw [posK,if_neg k1,if_neg k2,if_pos k]
   exact ⟨hst,fun a=>⟨by omega,fun b=>by rw [a,b]; rfl,fun b=>by rw [a,b]; rfl⟩,fun a=>by rw [a]; rfl⟩
 · rw [posK,if_neg k1,if_neg k2,if_neg k3,if_pos k]
   refine ⟨hst,fun a=>⟨h,fun b=>?_,fun b=>by rw [a,b]; rfl⟩,fun a=>by rw [a]; rfl⟩
   have ha:=Qq.1 a
   have hb:1≤d.n:=by
    rw [hasT,Bool.and_eq_true] at b
    exact (Qq.1 b.2).1
   have m1:=Int.mul_le_mul (show d.n≤100000 by omega) hrf.2 hrf.1 (by omega)
   have m2:=Int.mul_nonneg (show 0≤d.n by omega) hrf.1
   exact ⟨ha.1,_,XX (d:=0) (by omega),by omega,by rw [a,b]; rfl⟩
 · rw [posK,if_neg k1,if_neg k2,if_neg k3,if_neg k4,if_pos k]
   exact ⟨hst,fun a=>⟨by omega,fun b=>by rw [a,b]; rfl,fun b=>by rw [a,b]; rfl⟩,fun a=>by rw [a]; rfl⟩
 · rw [posK,if_neg k1,if_neg k2,if_neg k3,if_neg k4,if_neg k5,if_pos k]
   exact ⟨h,fun a=>⟨by omega,fun b=>by rw [a,b]; rfl,fun b=>by rw [a,b]; rfl⟩,fun a=>by rw [a]; rfl⟩
 · rw [posK,if_neg k1,if_neg k2,if_neg k3,if_neg k4,if_neg k5,if_neg k6,if_pos k]
   exact ⟨h,fun a=>by rw [a]; rfl,fun a=>by rw [a]; rfl⟩
 · rw [posK,if_neg k1,if_neg k2,if_neg k3,if_neg k4,if_neg k5,if_neg k6,if_neg k7]
theorem f204b:Try.f204.body=some (Qd Try.prog 204):=by kernel_rfl
theorem p204_start_0 (t:Int) (by_:Int) (f:Fair) (stock cash:List Int) (purses:List Pur) (boxes:List Int) (lost last sold taken ret held nlost ncash:Int) (g1 g2 g3 g4 n1 n3 n4:Nat) (e:Int) {E:Env} {res:AV} {bs2:List Blk} (hE:LentE Try.prog 204 [.sl 4 g4 0 0 1] res bs2 E) (ho:AllP [0≤t∧t<(cash.length:Int),g2=g2,g2=g2,((rowI cash).drop (0+(Int.toNat t)*1)).take 1=[.int .i64 e],InR .i64 (e+by_),0≤t∧t<(cash.length:Int),g2=g2,((0+(Int.toNat t)*1)+1)≤(rowI cash).length,g2=g2,InR .i64 (ncash+by_),20≤20])
 (hr:(.tup [])=res) (hb:[⟨true,0,1,false,[.int .i64 f.purses,.int .i64 f.boxes,.rsl (rowI f.stock) 0 f.stock.length,.rsl (rowI f.cash) 0 f.cash.length,.rsl (Qr f.bundles) 0 f.bundles.length,.int .i64 f.refund,.int .i64 f.band,.int .i64 f.hours,.sl 1 g1 0 n1 1,.sl 2 g2 0 cash.length 1,.sl 3 g3 0 n3 2,.sl 4 g4 0 n4 1,.int .i64 lost,.int .i64 last,.int .i64 sold,.int .i64 taken,.int .i64 ret,.int .i64 held,.int .i64 nlost,.int .i64 (ncash+by_)],false⟩,⟨true,g1,1,true,(rowI stock),true⟩,⟨true,g2,1,true,(Qt (rowI cash) (0+(Int.toNat t)*1) [.int .i64 (e+by_)]),true⟩,⟨true,g3,2,true,(Qf purses),true⟩,⟨true,g4,1,true,(rowI boxes),true⟩]=bs2):G Try.prog E [.code (Qd Try.prog 204)] ⟨[.ptr 0 0 0,.int .i64 t,.int .i64 by_]++unds (Try.f204.ntmps - 3),[⟨true,0,1,false,[.int .i64 f.purses,.int .i64 f.boxes,.rsl (rowI f.stock) 0 f.stock.length,.rsl (rowI f.cash) 0 f.cash.length,.rsl (Qr f.bundles) 0 f.bundles.length,.int .i64 f.refund,.int .i64 f.band,.int .i64 f.hours,.sl 1 g1 0 n1 1,.sl 2 g2 0 cash.length 1,.sl 3 g3 0 n3 2,.sl 4 g4 0 n4 1,.int .i64 lost,.int .i64 last,.int .i64 sold,.int .i64 taken,.int .i64 ret,.int .i64 held,.int .i64 nlost,.int .i64 ncash],false⟩,⟨true,g1,1,true,(rowI stock),true⟩,⟨true,g2,1,true,(rowI cash),true⟩,⟨true,g3,2,true,(Qf purses),true⟩,⟨true,g4,1,true,(rowI boxes),true⟩]⟩ :=
 QV (n:=400) (live:=[]) (m:=5) (evs:=[.auto,.ld (.int .i64 e)]) (obs:=_) hE (hE.nogh (by kernel_rfl)) Try.func204 Qp (by kernel_rfl) ho hr hb
theorem f204W (t:Int) (by_:Int) (f:Fair) (stock cash:List Int) (purses:List Pur) (boxes:List Int) (lost last sold taken ret held nlost ncash:Int) (g1 g2 g3 g4 n1 n3 n4:Nat) {E:Env} {rv:Unit} {ncash2:Int} {cash2:List Int} (hE:LentE Try.prog 204 [.sl 4 g4 0 0 1] (.tup []) [⟨true,0,1,false,[.int .i64 f.purses,.int .i64 f.boxes,.rsl (rowI f.stock) 0 f.stock.length,.rsl (rowI f.cash) 0 f.cash.length,.rsl (Qr f.bundles) 0 f.bundles.length,.int .i64 f.refund,.int .i64 f.band,.int .i64 f.hours,.sl 1 g1 0 n1 1,.sl 2 g2 0 cash.length 1,.sl 3 g3 0 n3 2,.sl 4 g4 0 n4 1,.int .i64 lost,.int .i64 last,.int .i64 sold,.int .i64 taken,.int .i64 ret,.int .i64 held,.int .i64 nlost,.int .i64 ncash2],false⟩,⟨true,g1,1,true,(rowI stock),true⟩,⟨true,g2,1,true,(rowI cash2),true⟩,⟨true,g3,2,true,(Qf purses),true⟩,⟨true,g4,1,true,(rowI boxes),true⟩] E)
 (h:(0≤t∧(∃ e:Int,cash[Int.toNat t]?=some e∧((I6 (e+by_))∧((I6 (ncash+by_))∧ncash2=(ncash+by_)∧cash2=(cash.set (Int.toNat t) (e+by_))))))):G Try.prog E [.code (Qd Try.prog 204)] ⟨[.ptr 0 0 0,.int .i64 t,.int .i64 by_]++unds (Try.f204.ntmps - 3),[⟨true,0,1,false,[.int .i64 f.purses,.int .i64 f.boxes,.rsl (rowI f.stock) 0 f.stock.length,.rsl (rowI f.cash) 0 f.cash.length,.rsl (Qr f.bundles) 0 f.bundles.length,.int .i64 f.refund,.int .i64 f.band,.int .i64 f.hours,.sl 1 g1 0 n1 1,.sl 2 g2 0 cash.length 1,.sl 3 g3 0 n3 2,.sl 4 g4 0 n4 1,.int .i64 lost,.int .i64 last,.int .i64 sold,.int .i64 taken,.int .i64 ret,.int .i64 held,.int .i64 nlost,.int .i64 ncash],false⟩,⟨true,g1,1,true,(rowI stock),true⟩,⟨true,g2,1,true,(rowI cash),true⟩,⟨true,g3,2,true,(Qf purses),true⟩,⟨true,g4,1,true,(rowI boxes),true⟩]⟩:=by
 obtain ⟨h2,h⟩:=h
 obtain ⟨e,h1,h⟩:=h
 obtain ⟨q5_0,h⟩:=h
 obtain ⟨q10_0,h⟩:=h
 obtain ⟨qe0,qe1⟩:=h
 exact p204_start_0 t by_ f stock cash purses boxes lost last sold taken ret held nlost ncash g1 g2 g3 g4 n1 n3 n4 e hE ⟨(Qn h2 h1),rfl,rfl,(rp cI 1 0 1 h1),q5_0,(Qn h2 h1),rfl,(rf cI 1 0 1 h1),rfl,q10_0,(by decide),trivial⟩ (by try rfl) (by rw [qe0,qe1]; rw [(show Qt (rowI cash) (0+(Int.toNat t)*1) [.int .i64 (e+by_)]=rowI (cash.set (Int.toNat t) (e+by_)) from Qy cI (s:=1) (k:=0) (fun _=>rfl) h1 rfl (by first | decide | simp))]; all_goals (first | rfl | (simp only [List.length_set]; done) | (simp only [List.length_set]; rfl) | (simp only [List.length_set,List.length_replicate]; done)))
def CashIn (cash:List Int) (ncash t by_:Int):Prop:=(0≤t∧Int.toNat t<cash.length)∧Bd 1000000000000000 (cash.getD (Int.toNat t) 0)∧Bd 1000000000000000 ncash∧Bd 1000000000000000 by_
theorem cash_ok (t by_:Int) (f:Fair) (stock cash:List Int) (purses:List Pur) (boxes:List Int) (lost last sold taken ret held nlost ncash:Int) (g1 g2 g3 g4 n1 n3 n4:Nat) (h:CashIn cash ncash t by_):Lent Try.prog 204 [.ptr 0 0 0,.int .i64 t,.int .i64 by_] [⟨true,0,1,false,[.int .i64 f.purses,.int .i64 f.boxes,.rsl (rowI f.stock) 0 f.stock.length,.rsl (rowI f.cash) 0 f.cash.length,.rsl (Qr f.bundles) 0 f.bundles.length,.int .i64 f.refund,.int .i64 f.band,.int .i64 f.hours,.sl 1 g1 0 n1 1,.sl 2 g2 0 cash.length 1,.sl 3 g3 0 n3 2,.sl 4 g4 0 n4 1,.int .i64 lost,.int .i64 last,.int .i64 sold,.int .i64 taken,.int .i64 ret,.int .i64 held,.int .i64 nlost,.int .i64 ncash],false⟩,⟨true,g1,1,true,(rowI stock),true⟩,⟨true,g2,1,true,(rowI cash),true⟩,⟨true,g3,2,true,(Qf purses),true⟩,⟨true,g4,1,true,(rowI boxes),true⟩] (.tup []) [⟨true,0,1,false,[.int .i64 f.purses,.int .i64 f.boxes,.rsl (rowI f.stock) 0 f.stock.length,.rsl (rowI f.cash) 0 f.cash.length,.rsl (Qr f.bundles) 0 f.bundles.length,.int .i64 f.refund,.int .i64 f.band,.int .i64 f.hours,.sl 1 g1 0 n1 1,.sl 2 g2 0 cash.length 1,.sl 3 g3 0 n3 2,.sl 4 g4 0 n4 1,.int .i64 lost,.int .i64 last,.int .i64 sold,.int .i64 taken,.int .i64 ret,.int .i64 held,.int .i64 nlost,.int .i64 (ncash+by_)],false⟩,⟨true,g1,1,true,(rowI stock),true⟩,⟨true,g2,1,true,(rowI (cash.set (Int.toNat t) (cash.getD (Int.toNat t) 0+by_))),true⟩,⟨true,g3,2,true,(Qf purses),true⟩,⟨true,g4,1,true,(rowI boxes),true⟩]:=Kl _ Try.func204 f204b rfl rfl fun E hE=>by
 obtain ⟨⟨h1,h2⟩,h3,h4,h5⟩:=h
 unfold Bd at *
 exact f204W t by_ f stock cash purses boxes lost last sold taken ret held nlost ncash g1 g2 g3 g4 n1 n3 n4 (rv:=()) hE ⟨h1,_,XX (d:=0) h2,by omega,by omega,rfl,rfl⟩
theorem f138b:Try.f138.body=some (Qd Try.prog 138):=by kernel_rfl
theorem p138_start_0 (d:Dl) (f:Fair) (stock cash:List Int) (purses:List Pur) (boxes:List Int) (lost last sold taken ret held nlost ncash:Int) (g1 g2 g3 g4:Nat) (be:Bndl) (e:Int) (pe:Pur) {E:Env} {res:AV} {bs2:List Blk} (hE:LentE Try.prog 138 [.sl 4 g4 0 0 1] res bs2 E) (ho:AllP [14≤20,(d.kind == 1)=true,0≤d.n∧d.n<(f.bundles.length:Int),((Qr f.bundles).drop (0+(Int.toNat d.n)*2)).take 2=[.int .i64 be.tokens,.int .i64 be.price],2≤2,0≤d.a∧d.a<(stock.length:Int),g1=g1,g1=g1,((rowI stock).drop (0+(Int.toNat d.a)*1)).take 1=[.int .i64 e],InR .i64 (e - be.tokens),0≤d.a∧d.a<(stock.length:Int),g1=g1,((0+(Int.toNat d.a)*1)+1)≤(rowI stock).length,g1=g1,0≤d.b∧d.b<(purses.length:Int),g3=g3,g3=g3,g3=g3,((Qf purses).drop ((0+(Int.toNat d.b)*2)+0)).take 1=[.int .i64 pe.tokens],InR .i64 (pe.tokens+be.tokens),0≤d.b∧d.b<(purses.length:Int),g3=g3,g3=g3,(((0+(Int.toNat d.b)*2)+0)+1)≤(Qf purses).length,g3=g3,InR .i64 (sold+be.tokens),15≤20,Xf Try.prog (.clos 204 [] []) [.ptr 0 0 0,.int .i64 d.a,.int .i64 be.price] [⟨true,0,1,false,[.int .i64 f.purses,.int .i64 f.boxes,.rsl (rowI f.stock) 0 f.stock.length,.rsl (rowI f.cash) 0 f.cash.length,.rsl (Qr f.bundles) 0 f.bundles.length,.int .i64 f.refund,.int .i64 f.band,.int .i64 f.hours,.sl 1 g1 0 stock.length 1,.sl 2 g2 0 cash.length 1,.sl 3 g3 0 purses.length 2,.sl 4 g4 0 boxes.length 1,.int .i64 lost,.int .i64 d.at_,.int .i64 (sold+be.tokens),.int .i64 taken,.int .i64 ret,.int .i64 held,.int .i64 nlost,.int .i64 ncash],false⟩,⟨true,g1,1,true,(Qt (rowI stock) (0+(Int.toNat d.a)*1) [.int .i64 (e - be.tokens)]),true⟩,⟨true,g2,1,true,(rowI cash),true⟩,⟨true,g3,2,true,(Qt (Qf purses) ((0+(Int.toNat d.b)*2)+0) [.int .i64 (pe.tokens+be.tokens)]),true⟩,⟨true,g4,1,true,(rowI boxes),true⟩] (.tup []) [⟨true,0,1,false,[.int .i64 f.purses,.int .i64 f.boxes,.rsl (rowI f.stock) 0 f.stock.length,.rsl (rowI f.cash) 0 f.cash.length,.rsl (Qr f.bundles) 0 f.bundles.length,.int .i64 f.refund,.int .i64 f.band,.int .i64 f.hours,.sl 1 g1 0 stock.length 1,.sl 2 g2 0 cash.length 1,.sl 3 g3 0 purses.length 2,.sl 4 g4 0 boxes.length 1,.int .i64 lost,.int .i64 d.at_,.int .i64 (sold+be.tokens),.int .i64 taken,.int .i64 ret,.int .i64 held,.int .i64 nlost,.int .i64 (ncash+be.price)],false⟩,⟨true,g1,1,true,(Qt (rowI stock) (0+(Int.toNat d.a)*1) [.int .i64 (e - be.tokens)]),true⟩,⟨true,g2,1,true,(rowI (cash.set (Int.toNat d.a) (cash.getD (Int.toNat d.a) 0+be.price))),true⟩,⟨true,g3,2,true,(Qt (Qf purses) ((0+(Int.toNat d.b)*2)+0) [.int .i64 (pe.tokens+be.tokens)]),true⟩,⟨true,g4,1,true,(rowI boxes),true⟩]])
 (hr:(.tup [])=res) (hb:[⟨true,0,1,false,[.int .i64 f.purses,.int .i64 f.boxes,.rsl (rowI f.stock) 0 f.stock.length,.rsl (rowI f.cash) 0 f.cash.length,.rsl (Qr f.bundles) 0 f.bundles.length,.int .i64 f.refund,.int .i64 f.band,.int .i64 f.hours,.sl 1 g1 0 stock.length 1,.sl 2 g2 0 cash.length 1,.sl 3 g3 0 purses.length 2,.sl 4 g4 0 boxes.length 1,.int .i64 lost,.int .i64 d.at_,.int .i64 (sold+be.tokens),.int .i64 taken,.int .i64 ret,.int .i64 held,.int .i64 nlost,.int .i64 (ncash+be.price)],false⟩,⟨true,g1,1,true,(Qt (rowI stock) (0+(Int.toNat d.a)*1) [.int .i64 (e - be.tokens)]),true⟩,⟨true,g2,1,true,(rowI (cash.set (Int.toNat d.a) (cash.getD (Int.toNat d.a) 0+be.price))),true⟩,⟨true,g3,2,true,(Qt (Qf purses) ((0+(Int.toNat d.b)*2)+0) [.int .i64 (pe.tokens+be.tokens)]),true⟩,⟨true,g4,1,true,(rowI boxes),true⟩]=bs2):G Try.prog E [.code (Qd Try.prog 138)] ⟨[.ptr 0 0 0,.agg [.int .i64 d.at_,.int .i64 d.kind,.int .i64 d.a,.int .i64 d.b,.int .i64 d.n]]++unds (Try.f138.ntmps - 2),[⟨true,0,1,false,[.int .i64 f.purses,.int .i64 f.boxes,.rsl (rowI f.stock) 0 f.stock.length,.rsl (rowI f.cash) 0 f.cash.length,.rsl (Qr f.bundles) 0 f.bundles.length,.int .i64 f.refund,.int .i64 f.band,.int .i64 f.hours,.sl 1 g1 0 stock.length 1,.sl 2 g2 0 cash.length 1,.sl 3 g3 0 purses.length 2,.sl 4 g4 0 boxes.length 1,.int .i64 lost,.int .i64 last,.int .i64 sold,.int .i64 taken,.int .i64 ret,.int .i64 held,.int .i64 nlost,.int .i64 ncash],false⟩,⟨true,g1,1,true,(rowI stock),true⟩,⟨true,g2,1,true,(rowI cash),true⟩,⟨true,g3,2,true,(Qf purses),true⟩,⟨true,g4,1,true,(rowI boxes),true⟩]⟩ :=
 QV (n:=400) (live:=[]) (m:=5) (evs:=[.b true,.auto,.auto,.ld (.agg [.int .i64 be.tokens,.int .i64 be.price]),.auto,.auto,.ld (.int .i64 e),.auto,.auto,.auto,.ld (.int .i64 pe.tokens),.lent [0,1,2,3,4] (.tup []) [⟨true,0,1,false,[.int .i64 f.purses,.int .i64 f.boxes,.rsl (rowI f.stock) 0 f.stock.length,.rsl (rowI f.cash) 0 f.cash.length,.rsl (Qr f.bundles) 0 f.bundles.length,.int .i64 f.refund,.int .i64 f.band,.int .i64 f.hours,.sl 1 g1 0 stock.length 1,.sl 2 g2 0 cash.length 1,.sl 3 g3 0 purses.length 2,.sl 4 g4 0 boxes.length 1,.int .i64 lost,.int .i64 d.at_,.int .i64 (sold+be.tokens),.int .i64 taken,.int .i64 ret,.int .i64 held,.int .i64 nlost,.int .i64 (ncash+be.price)],false⟩,⟨true,g1,1,true,(Qt (rowI stock) (0+(Int.toNat d.a)*1) [.int .i64 (e - be.tokens)]),true⟩,⟨true,g2,1,true,(rowI (cash.set (Int.toNat d.a) (cash.getD (Int.toNat d.a) 0+be.price))),true⟩,⟨true,g3,2,true,(Qt (Qf purses) ((0+(Int.toNat d.b)*2)+0) [.int .i64 (pe.tokens+be.tokens)]),true⟩,⟨true,g4,1,true,(rowI boxes),true⟩]]) (obs:=_) hE (hE.nogh (by kernel_rfl)) Try.func138 Qp (by kernel_rfl) ho hr hb
abbrev z138_1 (f:Fair) (g1:Nat) (stock:List Int) (g2:Nat) (cash:List Int) (g3:Nat) (purses:List Pur) (g4:Nat) (boxes:List Int) (lost:Int) (d:Dl) (sold:Int) (taken:Int) (ret:Int) (held:Int) (nlost:Int) (ncash:Int):List Blk:=[⟨true,0,1,false,[.int .i64 f.purses,.int .i64 f.boxes,.rsl (rowI f.stock) 0 f.stock.length,.rsl (rowI f.cash) 0 f.cash.length,.rsl (Qr f.bundles) 0 f.bundles.length,.int .i64 f.refund,.int .i64 f.band,.int .i64 f.hours,.sl 1 g1 0 stock.length 1,.sl 2 g2 0 cash.length 1,.sl 3 g3 0 purses.length 2,.sl 4 g4 0 boxes.length 1,.int .i64 lost,.int .i64 d.at_,.int .i64 sold,.int .i64 taken,.int .i64 ret,.int .i64 held,.int .i64 nlost,.int .i64 ncash],false⟩,⟨true,g1,1,true,(rowI stock),true⟩,⟨true,g2,1,true,(rowI cash),true⟩,⟨true,g3,2,true,(Qf purses),true⟩,⟨true,g4,1,true,(rowI boxes),true⟩]
abbrev z138_2 (f:Fair) (g1:Nat) (stock:List Int) (g2:Nat) (cash:List Int) (g3:Nat) (purses:List Pur) (g4:Nat) (boxes:List Int) (lost:Int) (last:Int) (sold:Int) (taken:Int) (ret:Int) (held:Int) (nlost:Int) (ncash:Int):List Blk:=[⟨true,0,1,false,[.int .i64 f.purses,.int .i64 f.boxes,.rsl (rowI f.stock) 0 f.stock.length,.rsl (rowI f.cash) 0 f.cash.length,.rsl (Qr f.bundles) 0 f.bundles.length,.int .i64 f.refund,.int .i64 f.band,.int .i64 f.hours,.sl 1 g1 0 stock.length 1,.sl 2 g2 0 cash.length 1,.sl 3 g3 0 purses.length 2,.sl 4 g4 0 boxes.length 1,.int .i64 lost,.int .i64 last,.int .i64 sold,.int .i64 taken,.int .i64 ret,.int .i64 held,.int .i64 nlost,.int .i64 ncash],false⟩,⟨true,g1,1,true,(rowI stock),true⟩,⟨true,g2,1,true,(rowI cash),true⟩,⟨true,g3,2,true,(Qf purses),true⟩,⟨true,g4,1,true,(rowI boxes),true⟩]
theorem p138_start_1 (d:Dl) (f:Fair) (stock cash:List Int) (purses:List Pur) (boxes:List Int) (lost last sold taken ret held nlost ncash:Int) (g1 g2 g3 g4:Nat) {E:Env} {res:AV} {bs2:List Blk} (hE:LentE Try.prog 138 [.sl 4 g4 0 0 1] res bs2 E) (ho:AllP [14≤20,(d.kind == 1)=false,(d.kind == 2)=true,Qe Try.prog (.clos 202 [] []) [.rptr [.int .i64 f.purses,.int .i64 f.boxes,.rsl (rowI f.stock) 0 f.stock.length,.rsl (rowI f.cash) 0 f.cash.length,.rsl (Qr f.bundles) 0 f.bundles.length,.int .i64 f.refund,.int .i64 f.band,.int .i64 f.hours,.rsl (rowI stock) 0 stock.length,.rsl (rowI cash) 0 cash.length,.rsl (Qf purses) 0 purses.length,.rsl (rowI boxes) 0 boxes.length,.int .i64 lost,.int .i64 d.at_,.int .i64 sold,.int .i64 taken,.int .i64 ret,.int .i64 held,.int .i64 nlost,.int .i64 ncash] 0,.int .i64 d.a,.int .i64 d.at_] (.bool (decide (d.at_<(purT (⟨f,stock,cash,purses,boxes,lost,d.at_,sold,taken,ret,held,nlost,ncash⟩:Frs) d.a).till))),g1=g1,g2=g2,g3=g3,g4=g4,(decide (d.at_<(purT (⟨f,stock,cash,purses,boxes,lost,d.at_,sold,taken,ret,held,nlost,ncash⟩:Frs) d.a).till))=true])
 (hr:(.tup [])=res) (hb:(z138_1 f g1 stock g2 cash g3 purses g4 boxes lost d sold taken ret held nlost ncash)=bs2):G Try.prog E [.code (Qd Try.prog 138)] ⟨[.ptr 0 0 0,.agg [.int .i64 d.at_,.int .i64 d.kind,.int .i64 d.a,.int .i64 d.b,.int .i64 d.n]]++unds (Try.f138.ntmps - 2),(z138_2 f g1 stock g2 cash g3 purses g4 boxes lost last sold taken ret held nlost ncash)⟩ :=
 QV (n:=400) (live:=[]) (m:=5) (evs:=[.b false,.b true,.v (.bool (decide (d.at_<(purT (⟨f,stock,cash,purses,boxes,lost,d.at_,sold,taken,ret,held,nlost,ncash⟩:Frs) d.a).till))),.b true]) (obs:=_) hE (hE.nogh (by kernel_rfl)) Try.func138 Qp (by kernel_rfl) ho hr hb
theorem p138_start_2 (d:Dl) (f:Fair) (stock cash:List Int) (purses:List Pur) (boxes:List Int) (lost last sold taken ret held nlost ncash:Int) (g1 g2 g3 g4:Nat) (pe:Pur) (e:Int) {E:Env} {res:AV} {bs2:List Blk} (hE:LentE Try.prog 138 [.sl 4 g4 0 0 1] res bs2 E) (ho:AllP [14≤20,(d.kind == 1)=false,(d.kind == 2)=true,Qe Try.prog (.clos 202 [] []) [.rptr [.int .i64 f.purses,.int .i64 f.boxes,.rsl (rowI f.stock) 0 f.stock.length,.rsl (rowI f.cash) 0 f.cash.length,.rsl (Qr f.bundles) 0 f.bundles.length,.int .i64 f.refund,.int .i64 f.band,.int .i64 f.hours,.rsl (rowI stock) 0 stock.length,.rsl (rowI cash) 0 cash.length,.rsl (Qf purses) 0 purses.length,.rsl (rowI boxes) 0 boxes.length,.int .i64 lost,.int .i64 d.at_,.int .i64 sold,.int .i64 taken,.int .i64 ret,.int .i64 held,.int .i64 nlost,.int .i64 ncash] 0,.int .i64 d.a,.int .i64 d.at_] (.bool (decide (d.at_<(purT (⟨f,stock,cash,purses,boxes,lost,d.at_,sold,taken,ret,held,nlost,ncash⟩:Frs) d.a).till))),g1=g1,g2=g2,g3=g3,g4=g4,(decide (d.at_<(purT (⟨f,stock,cash,purses,boxes,lost,d.at_,sold,taken,ret,held,nlost,ncash⟩:Frs) d.a).till))=false,0≤d.a∧d.a<(purses.length:Int),g3=g3,g3=g3,g3=g3,((Qf purses).drop ((0+(Int.toNat d.a)*2)+0)).take 1=[.int .i64 pe.tokens],InR .i64 (pe.tokens - d.n),0≤d.a∧d.a<(purses.length:Int),g3=g3,g3=g3,(((0+(Int.toNat d.a)*2)+0)+1)≤(Qf purses).length,g3=g3,0≤d.b∧d.b<(boxes.length:Int),g4=g4,g4=g4,((rowI boxes).drop (0+(Int.toNat d.b)*1)).take 1=[.int .i64 e],InR .i64 (e+d.n),0≤d.b∧d.b<(boxes.length:Int),g4=g4,((0+(Int.toNat d.b)*1)+1)≤(rowI boxes).length,g4=g4,InR .i64 (taken+d.n),16≤20])
 (hr:(.tup [])=res) (hb:[⟨true,0,1,false,[.int .i64 f.purses,.int .i64 f.boxes,.rsl (rowI f.stock) 0 f.stock.length,.rsl (rowI f.cash) 0 f.cash.length,.rsl (Qr f.bundles) 0 f.bundles.length,.int .i64 f.refund,.int .i64 f.band,.int .i64 f.hours,.sl 1 g1 0 stock.length 1,.sl 2 g2 0 cash.length 1,.sl 3 g3 0 purses.length 2,.sl 4 g4 0 boxes.length 1,.int .i64 lost,.int .i64 d.at_,.int .i64 sold,.int .i64 (taken+d.n),.int .i64 ret,.int .i64 held,.int .i64 nlost,.int .i64 ncash],false⟩,⟨true,g1,1,true,(rowI stock),true⟩,⟨true,g2,1,true,(rowI cash),true⟩,⟨true,g3,2,true,(Qt (Qf purses) ((0+(Int.toNat d.a)*2)+0) [.int .i64 (pe.tokens - d.n)]),true⟩,⟨true,g4,1,true,(Qt (rowI boxes) (0+(Int.toNat d.b)*1) [.int .i64 (e+d.n)]),true⟩]=bs2):G Try.prog E [.code (Qd Try.prog 138)] ⟨[.ptr 0 0 0,.agg [.int .i64 d.at_,.int .i64 d.kind,.int .i64 d.a,.int .i64 d.b,.int .i64 d.n]]++unds (Try.f138.ntmps - 2),[⟨true,0,1,false,[.int .i64 f.purses,.int .i64 f.boxes,.rsl (rowI f.stock) 0 f.stock.length,.rsl (rowI f.cash) 0 f.cash.length,.rsl (Qr f.bundles) 0 f.bundles.length,.int .i64 f.refund,.int .i64 f.band,.int .i64 f.hours,.sl 1 g1 0 stock.length 1,.sl 2 g2 0 cash.length 1,.sl 3 g3 0 purses.length 2,.sl 4 g4 0 boxes.length 1,.int .i64 lost,.int .i64 last,.int .i64 sold,.int .i64 taken,.int .i64 ret,.int .i64 held,.int .i64 nlost,.int .i64 ncash],false⟩,⟨true,g1,1,true,(rowI stock),true⟩,⟨true,g2,1,true,(rowI cash),true⟩,⟨true,g3,2,true,(Qf purses),true⟩,⟨true,g4,1,true,(rowI boxes),true⟩]⟩ :=
 QV (n:=400) (live:=[]) (m:=5) (evs:=[.b false,.b true,.v (.bool (decide (d.at_<(purT (⟨f,stock,cash,purses,boxes,lost,d.at_,sold,taken,ret,held,nlost,ncash⟩:Frs) d.a).till))),.b false,.auto,.auto,.ld (.int .i64 pe.tokens),.auto,.auto,.auto,.ld (.int .i64 e)]) (obs:=_) hE (hE.nogh (by kernel_rfl)) Try.func138 Qp (by kernel_rfl) ho hr hb
theorem p138_start_3 (d:Dl) (f:Fair) (stock cash:List Int) (purses:List Pur) (boxes:List Int) (lost last sold taken ret held nlost ncash:Int) (g1 g2 g3 g4:Nat) (pe:Pur) {E:Env} {res:AV} {bs2:List Blk} (hE:LentE Try.prog 138 [.sl 4 g4 0 0 1] res bs2 E) (ho:AllP [14≤20,(d.kind == 1)=false,(d.kind == 2)=false,(d.kind == 3)=true,0≤d.b∧d.b<(purses.length:Int),g3=g3,g3=g3,g3=g3,g3=g3,((Qf purses).drop ((0+(Int.toNat d.b)*2)+1)).take 1=[.int .i64 pe.till],InR .i64 (d.at_+f.hours),g3=g3,g3=g3,(((0+(Int.toNat d.b)*2)+1)+1)≤(Qf purses).length,g3=g3,Xf Try.prog (.clos 204 [] []) [.ptr 0 0 0,.int .i64 d.a,.int .i64 f.band] [⟨true,0,1,false,[.int .i64 f.purses,.int .i64 f.boxes,.rsl (rowI f.stock) 0 f.stock.length,.rsl (rowI f.cash) 0 f.cash.length,.rsl (Qr f.bundles) 0 f.bundles.length,.int .i64 f.refund,.int .i64 f.band,.int .i64 f.hours,.sl 1 g1 0 stock.length 1,.sl 2 g2 0 cash.length 1,.sl 3 g3 0 purses.length 2,.sl 4 g4 0 boxes.length 1,.int .i64 lost,.int .i64 d.at_,.int .i64 sold,.int .i64 taken,.int .i64 ret,.int .i64 held,.int .i64 nlost,.int .i64 ncash],false⟩,⟨true,g1,1,true,(rowI stock),true⟩,⟨true,g2,1,true,(rowI cash),true⟩,⟨true,g3,2,true,(Qt (Qf purses) ((0+(Int.toNat d.b)*2)+1) [.int .i64 (iMax pe.till (d.at_+f.hours))]),true⟩,⟨true,g4,1,true,(rowI boxes),true⟩] (.tup []) [⟨true,0,1,false,[.int .i64 f.purses,.int .i64 f.boxes,.rsl (rowI f.stock) 0 f.stock.length,.rsl (rowI f.cash) 0 f.cash.length,.rsl (Qr f.bundles) 0 f.bundles.length,.int .i64 f.refund,.int .i64 f.band,.int .i64 f.hours,.sl 1 g1 0 stock.length 1,.sl 2 g2 0 cash.length 1,.sl 3 g3 0 purses.length 2,.sl 4 g4 0 boxes.length 1,.int .i64 lost,.int .i64 d.at_,.int .i64 sold,.int .i64 taken,.int .i64 ret,.int .i64 held,.int .i64 nlost,.int .i64 (ncash+f.band)],false⟩,⟨true,g1,1,true,(rowI stock),true⟩,⟨true,g2,1,true,(rowI (cash.set (Int.toNat d.a) (cash.getD (Int.toNat d.a) 0+f.band))),true⟩,⟨true,g3,2,true,(Qt (Qf purses) ((0+(Int.toNat d.b)*2)+1) [.int .i64 (iMax pe.till (d.at_+f.hours))]),true⟩,⟨true,g4,1,true,(rowI boxes),true⟩]])
 (hr:(.tup [])=res) (hb:[⟨true,0,1,false,[.int .i64 f.purses,.int .i64 f.boxes,.rsl (rowI f.stock) 0 f.stock.length,.rsl (rowI f.cash) 0 f.cash.length,.rsl (Qr f.bundles) 0 f.bundles.length,.int .i64 f.refund,.int .i64 f.band,.int .i64 f.hours,.sl 1 g1 0 stock.length 1,.sl 2 g2 0 cash.length 1,.sl 3 g3 0 purses.length 2,.sl 4 g4 0 boxes.length 1,.int .i64 lost,.int .i64 d.at_,.int .i64 sold,.int .i64 taken,.int .i64 ret,.int .i64 held,.int .i64 nlost,.int .i64 (ncash+f.band)],false⟩,⟨true,g1,1,true,(rowI stock),true⟩,⟨true,g2,1,true,(rowI (cash.set (Int.toNat d.a) (cash.getD (Int.toNat d.a) 0+f.band))),true⟩,⟨true,g3,2,true,(Qt (Qf purses) ((0+(Int.toNat d.b)*2)+1) [.int .i64 (iMax pe.till (d.at_+f.hours))]),true⟩,⟨true,g4,1,true,(rowI boxes),true⟩]=bs2):G Try.prog E [.code (Qd Try.prog 138)] ⟨[.ptr 0 0 0,.agg [.int .i64 d.at_,.int .i64 d.kind,.int .i64 d.a,.int .i64 d.b,.int .i64 d.n]]++unds (Try.f138.ntmps - 2),[⟨true,0,1,false,[.int .i64 f.purses,.int .i64 f.boxes,.rsl (rowI f.stock) 0 f.stock.length,.rsl (rowI f.cash) 0 f.cash.length,.rsl (Qr f.bundles) 0 f.bundles.length,.int .i64 f.refund,.int .i64 f.band,.int .i64 f.hours,.sl 1 g1 0 stock.length 1,.sl 2 g2 0 cash.length 1,.sl 3 g3 0 purses.length 2,.sl 4 g4 0 boxes.length 1,.int .i64 lost,.int .i64 last,.int .i64 sold,.int .i64 taken,.int .i64 ret,.int .i64 held,.int .i64 nlost,.int .i64 ncash],false⟩,⟨true,g1,1,true,(rowI stock),true⟩,⟨true,g2,1,true,(rowI cash),true⟩,⟨true,g3,2,true,(Qf purses),true⟩,⟨true,g4,1,true,(rowI boxes),true⟩]⟩ :=
 QV (n:=400) (live:=[]) (m:=5) (evs:=[.b false,.b false,.b true,.auto,.auto,.ld (.int .i64 pe.till),.tail 0,.lent [0,1,2,3,4] (.tup []) [⟨true,0,1,false,[.int .i64 f.purses,.int .i64 f.boxes,.rsl (rowI f.stock) 0 f.stock.length,.rsl (rowI f.cash) 0 f.cash.length,.rsl (Qr f.bundles) 0 f.bundles.length,.int .i64 f.refund,.int .i64 f.band,.int .i64 f.hours,.sl 1 g1 0 stock.length 1,.sl 2 g2 0 cash.length 1,.sl 3 g3 0 purses.length 2,.sl 4 g4 0 boxes.length 1,.int .i64 lost,.int .i64 d.at_,.int .i64 sold,.int .i64 taken,.int .i64 ret,.int .i64 held,.int .i64 nlost,.int .i64 (ncash+f.band)],false⟩,⟨true,g1,1,true,(rowI stock),true⟩,⟨true,g2,1,true,(rowI (cash.set (Int.toNat d.a) (cash.getD (Int.toNat d.a) 0+f.band))),true⟩,⟨true,g3,2,true,(Qt (Qf purses) ((0+(Int.toNat d.b)*2)+1) [.int .i64 (iMax pe.till (d.at_+f.hours))]),true⟩,⟨true,g4,1,true,(rowI boxes),true⟩]]) (obs:=_) hE (hE.nogh (by kernel_rfl)) Try.func138 Qp (by kernel_rfl) ho hr hb
theorem p138_start_4 (d:Dl) (f:Fair) (stock cash:List Int) (purses:List Pur) (boxes:List Int) (lost last sold taken ret held nlost ncash:Int) (g1 g2 g3 g4:Nat) (pe:Pur) (e:Int) {E:Env} {res:AV} {bs2:List Blk} (hE:LentE Try.prog 138 [.sl 4 g4 0 0 1] res bs2 E) (ho:AllP [14≤20,(d.kind == 1)=false,(d.kind == 2)=false,(d.kind == 3)=false,(d.kind == 4)=true,0≤d.b∧d.b<(purses.length:Int),g3=g3,g3=g3,g3=g3,((Qf purses).drop ((0+(Int.toNat d.b)*2)+0)).take 1=[.int .i64 pe.tokens],InR .i64 (pe.tokens - d.n),0≤d.b∧d.b<(purses.length:Int),g3=g3,g3=g3,(((0+(Int.toNat d.b)*2)+0)+1)≤(Qf purses).length,g3=g3,0≤d.a∧d.a<(stock.length:Int),g1=g1,g1=g1,((rowI stock).drop (0+(Int.toNat d.a)*1)).take 1=[.int .i64 e],InR .i64 (e+d.n),0≤d.a∧d.a<(stock.length:Int),g1=g1,((0+(Int.toNat d.a)*1)+1)≤(rowI stock).length,g1=g1,InR .i64 (ret+d.n),17≤20,InR .i64 (0 - d.n),InR .i64 ((0 - d.n)*f.refund),Xf Try.prog (.clos 204 [] []) [.ptr 0 0 0,.int .i64 d.a,.int .i64 ((0 - d.n)*f.refund)] [⟨true,0,1,false,[.int .i64 f.purses,.int .i64 f.boxes,.rsl (rowI f.stock) 0 f.stock.length,.rsl (rowI f.cash) 0 f.cash.length,.rsl (Qr f.bundles) 0 f.bundles.length,.int .i64 f.refund,.int .i64 f.band,.int .i64 f.hours,.sl 1 g1 0 stock.length 1,.sl 2 g2 0 cash.length 1,.sl 3 g3 0 purses.length 2,.sl 4 g4 0 boxes.length 1,.int .i64 lost,.int .i64 d.at_,.int .i64 sold,.int .i64 taken,.int .i64 (ret+d.n),.int .i64 held,.int .i64 nlost,.int .i64 ncash],false⟩,⟨true,g1,1,true,(Qt (rowI stock) (0+(Int.toNat d.a)*1) [.int .i64 (e+d.n)]),true⟩,⟨true,g2,1,true,(rowI cash),true⟩,⟨true,g3,2,true,(Qt (Qf purses) ((0+(Int.toNat d.b)*2)+0) [.int .i64 (pe.tokens - d.n)]),true⟩,⟨true,g4,1,true,(rowI boxes),true⟩] (.tup []) [⟨true,0,1,false,[.int .i64 f.purses,.int .i64 f.boxes,.rsl (rowI f.stock) 0 f.stock.length,.rsl (rowI f.cash) 0 f.cash.length,.rsl (Qr f.bundles) 0 f.bundles.length,.int .i64 f.refund,.int .i64 f.band,.int .i64 f.hours,.sl 1 g1 0 stock.length 1,.sl 2 g2 0 cash.length 1,.sl 3 g3 0 purses.length 2,.sl 4 g4 0 boxes.length 1,.int .i64 lost,.int .i64 d.at_,.int .i64 sold,.int .i64 taken,.int .i64 (ret+d.n),.int .i64 held,.int .i64 nlost,.int .i64 (ncash+((0 - d.n)*f.refund))],false⟩,⟨true,g1,1,true,(Qt (rowI stock) (0+(Int.toNat d.a)*1) [.int .i64 (e+d.n)]),true⟩,⟨true,g2,1,true,(rowI (cash.set (Int.toNat d.a) (cash.getD (Int.toNat d.a) 0+((0 - d.n)*f.refund)))),true⟩,⟨true,g3,2,true,(Qt (Qf purses) ((0+(Int.toNat d.b)*2)+0) [.int .i64 (pe.tokens - d.n)]),true⟩,⟨true,g4,1,true,(rowI boxes),true⟩]])
 (hr:(.tup [])=res) (hb:[⟨true,0,1,false,[.int .i64 f.purses,.int .i64 f.boxes,.rsl (rowI f.stock) 0 f.stock.length,.rsl (rowI f.cash) 0 f.cash.length,.rsl (Qr f.bundles) 0 f.bundles.length,.int .i64 f.refund,.int .i64 f.band,.int .i64 f.hours,.sl 1 g1 0 stock.length 1,.sl 2 g2 0 cash.length 1,.sl 3 g3 0 purses.length 2,.sl 4 g4 0 boxes.length 1,.int .i64 lost,.int .i64 d.at_,.int .i64 sold,.int .i64 taken,.int .i64 (ret+d.n),.int .i64 held,.int .i64 nlost,.int .i64 (ncash+((0 - d.n)*f.refund))],false⟩,⟨true,g1,1,true,(Qt (rowI stock) (0+(Int.toNat d.a)*1) [.int .i64 (e+d.n)]),true⟩,⟨true,g2,1,true,(rowI (cash.set (Int.toNat d.a) (cash.getD (Int.toNat d.a) 0+((0 - d.n)*f.refund)))),true⟩,⟨true,g3,2,true,(Qt (Qf purses) ((0+(Int.toNat d.b)*2)+0) [.int .i64 (pe.tokens - d.n)]),true⟩,⟨true,g4,1,true,(rowI boxes),true⟩]=bs2):G Try.prog E [.code (Qd Try.prog 138)] ⟨[.ptr 0 0 0,.agg [.int .i64 d.at_,.int .i64 d.kind,.int .i64 d.a,.int .i64 d.b,.int .i64 d.n]]++unds (Try.f138.ntmps - 2),[⟨true,0,1,false,[.int .i64 f.purses,.int .i64 f.boxes,.rsl (rowI f.stock) 0 f.stock.length,.rsl (rowI f.cash) 0 f.cash.length,.rsl (Qr f.bundles) 0 f.bundles.length,.int .i64 f.refund,.int .i64 f.band,.int .i64 f.hours,.sl 1 g1 0 stock.length 1,.sl 2 g2 0 cash.length 1,.sl 3 g3 0 purses.length 2,.sl 4 g4 0 boxes.length 1,.int .i64 lost,.int .i64 last,.int .i64 sold,.int .i64 taken,.int .i64 ret,.int .i64 held,.int .i64 nlost,.int .i64 ncash],false⟩,⟨true,g1,1,true,(rowI stock),true⟩,⟨true,g2,1,true,(rowI cash),true⟩,⟨true,g3,2,true,(Qf purses),true⟩,⟨true,g4,1,true,(rowI boxes),true⟩]⟩ :=
 QV (n:=400) (live:=[]) (m:=5) (evs:=[.b false,.b false,.b false,.b true,.auto,.auto,.ld (.int .i64 pe.tokens),.auto,.auto,.auto,.ld (.int .i64 e),.tail 1,.lent [0,1,2,3,4] (.tup []) [⟨true,0,1,false,[.int .i64 f.purses,.int .i64 f.boxes,.rsl (rowI f.stock) 0 f.stock.length,.rsl (rowI f.cash) 0 f.cash.length,.rsl (Qr f.bundles) 0 f.bundles.length,.int .i64 f.refund,.int .i64 f.band,.int .i64 f.hours,.sl 1 g1 0 stock.length 1,.sl 2 g2 0 cash.length 1,.sl 3 g3 0 purses.length 2,.sl 4 g4 0 boxes.length 1,.int .i64 lost,.int .i64 d.at_,.int .i64 sold,.int .i64 taken,.int .i64 (ret+d.n),.int .i64 held,.int .i64 nlost,.int .i64 (ncash+((0 - d.n)*f.refund))],false⟩,⟨true,g1,1,true,(Qt (rowI stock) (0+(Int.toNat d.a)*1) [.int .i64 (e+d.n)]),true⟩,⟨true,g2,1,true,(rowI (cash.set (Int.toNat d.a) (cash.getD (Int.toNat d.a) 0+((0 - d.n)*f.refund)))),true⟩,⟨true,g3,2,true,(Qt (Qf purses) ((0+(Int.toNat d.b)*2)+0) [.int .i64 (pe.tokens - d.n)]),true⟩,⟨true,g4,1,true,(rowI boxes),true⟩]]) (obs:=_) hE (hE.nogh (by kernel_rfl)) Try.func138 Qp (by kernel_rfl) ho hr hb
theorem p138_start_5 (d:Dl) (f:Fair) (stock cash:List Int) (purses:List Pur) (boxes:List Int) (lost last sold taken ret held nlost ncash:Int) (g1 g2 g3 g4:Nat) (e:Int) (e1:Int) {E:Env} {res:AV} {bs2:List Blk} (hE:LentE Try.prog 138 [.sl 4 g4 0 0 1] res bs2 E) (ho:AllP [14≤20,(d.kind == 1)=false,(d.kind == 2)=false,(d.kind == 3)=false,(d.kind == 4)=false,(d.kind == 5)=true,0≤d.a∧d.a<(stock.length:Int),g1=g1,g1=g1,((rowI stock).drop (0+(Int.toNat d.a)*1)).take 1=[.int .i64 e],0≤d.b∧d.b<(boxes.length:Int),g4=g4,g4=g4,((rowI boxes).drop (0+(Int.toNat d.b)*1)).take 1=[.int .i64 e1],InR .i64 (e+e1),0≤d.a∧d.a<(stock.length:Int),g1=g1,((0+(Int.toNat d.a)*1)+1)≤(rowI stock).length,g1=g1,0≤d.b∧d.b<(boxes.length:Int),g4=g4,((0+(Int.toNat d.b)*1)+1)≤(rowI boxes).length,g4=g4])
 (hr:(.tup [])=res) (hb:[⟨true,0,1,false,[.int .i64 f.purses,.int .i64 f.boxes,.rsl (rowI f.stock) 0 f.stock.length,.rsl (rowI f.cash) 0 f.cash.length,.rsl (Qr f.bundles) 0 f.bundles.length,.int .i64 f.refund,.int .i64 f.band,.int .i64 f.hours,.sl 1 g1 0 stock.length 1,.sl 2 g2 0 cash.length 1,.sl 3 g3 0 purses.length 2,.sl 4 g4 0 boxes.length 1,.int .i64 lost,.int .i64 d.at_,.int .i64 sold,.int .i64 taken,.int .i64 ret,.int .i64 held,.int .i64 nlost,.int .i64 ncash],false⟩,⟨true,g1,1,true,(Qt (rowI stock) (0+(Int.toNat d.a)*1) [.int .i64 (e+e1)]),true⟩,⟨true,g2,1,true,(rowI cash),true⟩,⟨true,g3,2,true,(Qf purses),true⟩,⟨true,g4,1,true,(Qt (rowI boxes) (0+(Int.toNat d.b)*1) [.int .i64 0]),true⟩]=bs2):G Try.prog E [.code (Qd Try.prog 138)] ⟨[.ptr 0 0 0,.agg [.int .i64 d.at_,.int .i64 d.kind,.int .i64 d.a,.int .i64 d.b,.int .i64 d.n]]++unds (Try.f138.ntmps - 2),[⟨true,0,1,false,[.int .i64 f.purses,.int .i64 f.boxes,.rsl (rowI f.stock) 0 f.stock.length,.rsl (rowI f.cash) 0 f.cash.length,.rsl (Qr f.bundles) 0 f.bundles.length,.int .i64 f.refund,.int .i64 f.band,.int .i64 f.hours,.sl 1 g1 0 stock.length 1,.sl 2 g2 0 cash.length 1,.sl 3 g3 0 purses.length 2,.sl 4 g4 0 boxes.length 1,.int .i64 lost,.int .i64 last,.int .i64 sold,.int .i64 taken,.int .i64 ret,.int .i64 held,.int .i64 nlost,.int .i64 ncash],false⟩,⟨true,g1,1,true,(rowI stock),true⟩,⟨true,g2,1,true,(rowI cash),true⟩,⟨true,g3,2,true,(Qf purses),true⟩,⟨true,g4,1,true,(rowI boxes),true⟩]⟩ :=
 QV (n:=400) (live:=[]) (m:=5) (evs:=[.b false,.b false,.b false,.b false,.b true,.auto,.auto,.ld (.int .i64 e),.auto,.auto,.ld (.int .i64 e1)]) (obs:=_) hE (hE.nogh (by kernel_rfl)) Try.func138 Qp (by kernel_rfl) ho hr hb
theorem p138_start_6 (d:Dl) (f:Fair) (stock cash:List Int) (purses:List Pur) (boxes:List Int) (lost last sold taken ret held nlost ncash:Int) (g1 g2 g3 g4:Nat) (pe:Pur) (pe1:Pur) {E:Env} {res:AV} {bs2:List Blk} (hE:LentE Try.prog 138 [.sl 4 g4 0 0 1] res bs2 E) (ho:AllP [14≤20,(d.kind == 1)=false,(d.kind == 2)=false,(d.kind == 3)=false,(d.kind == 4)=false,(d.kind == 5)=false,(d.kind == 6)=true,0≤d.a∧d.a<(purses.length:Int),g3=g3,g3=g3,g3=g3,((Qf purses).drop ((0+(Int.toNat d.a)*2)+0)).take 1=[.int .i64 pe.tokens],InR .i64 (pe.tokens - d.n),0≤d.a∧d.a<(purses.length:Int),g3=g3,g3=g3,(((0+(Int.toNat d.a)*2)+0)+1)≤(Qf purses).length,g3=g3,0≤d.b∧d.b<(purses.length:Int),g3=g3,g3=g3,g3=g3,((Qt (Qf purses) ((0+(Int.toNat d.a)*2)+0) [.int .i64 (pe.tokens - d.n)]).drop ((0+(Int.toNat d.b)*2)+0)).take 1=[.int .i64 pe1.tokens],InR .i64 (pe1.tokens+d.n),0≤d.b∧d.b<(purses.length:Int),g3=g3,g3=g3,(((0+(Int.toNat d.b)*2)+0)+1)≤(Qt (Qf purses) ((0+(Int.toNat d.a)*2)+0) [.int .i64 (pe.tokens - d.n)]).length,g3=g3])
 (hr:(.tup [])=res) (hb:[⟨true,0,1,false,[.int .i64 f.purses,.int .i64 f.boxes,.rsl (rowI f.stock) 0 f.stock.length,.rsl (rowI f.cash) 0 f.cash.length,.rsl (Qr f.bundles) 0 f.bundles.length,.int .i64 f.refund,.int .i64 f.band,.int .i64 f.hours,.sl 1 g1 0 stock.length 1,.sl 2 g2 0 cash.length 1,.sl 3 g3 0 purses.length 2,.sl 4 g4 0 boxes.length 1,.int .i64 lost,.int .i64 d.at_,.int .i64 sold,.int .i64 taken,.int .i64 ret,.int .i64 held,.int .i64 nlost,.int .i64 ncash],false⟩,⟨true,g1,1,true,(rowI stock),true⟩,⟨true,g2,1,true,(rowI cash),true⟩,⟨true,g3,2,true,(Qt (Qt (Qf purses) ((0+(Int.toNat d.a)*2)+0) [.int .i64 (pe.tokens - d.n)]) ((0+(Int.toNat d.b)*2)+0) [.int .i64 (pe1.tokens+d.n)]),true⟩,⟨true,g4,1,true,(rowI boxes),true⟩]=bs2):G Try.prog E [.code (Qd Try.prog 138)] ⟨[.ptr 0 0 0,.agg [.int .i64 d.at_,.int .i64 d.kind,.int .i64 d.a,.int .i64 d.b,.int .i64 d.n]]++unds (Try.f138.ntmps - 2),[⟨true,0,1,false,[.int .i64 f.purses,.int .i64 f.boxes,.rsl (rowI f.stock) 0 f.stock.length,.rsl (rowI f.cash) 0 f.cash.length,.rsl (Qr f.bundles) 0 f.bundles.length,.int .i64 f.refund,.int .i64 f.band,.int .i64 f.hours,.sl 1 g1 0 stock.length 1,.sl 2 g2 0 cash.length 1,.sl 3 g3 0 purses.length 2,.sl 4 g4 0 boxes.length 1,.int .i64 lost,.int .i64 last,.int .i64 sold,.int .i64 taken,.int .i64 ret,.int .i64 held,.int .i64 nlost,.int .i64 ncash],false⟩,⟨true,g1,1,true,(rowI stock),true⟩,⟨true,g2,1,true,(rowI cash),true⟩,⟨true,g3,2,true,(Qf purses),true⟩,⟨true,g4,1,true,(rowI boxes),true⟩]⟩ :=
 QV (n:=400) (live:=[]) (m:=5) (evs:=[.b false,.b false,.b false,.b false,.b false,.b true,.auto,.auto,.ld (.int .i64 pe.tokens),.auto,.auto,.auto,.ld (.int .i64 pe1.tokens)]) (obs:=_) hE (hE.nogh (by kernel_rfl)) Try.func138 Qp (by kernel_rfl) ho hr hb
theorem p138_start_7 (d:Dl) (f:Fair) (stock cash:List Int) (purses:List Pur) (boxes:List Int) (lost last sold taken ret held nlost ncash:Int) (g1 g2 g3 g4:Nat) (pe:Pur) {E:Env} {res:AV} {bs2:List Blk} (hE:LentE Try.prog 138 [.sl 4 g4 0 0 1] res bs2 E) (ho:AllP [14≤20,(d.kind == 1)=false,(d.kind == 2)=false,(d.kind == 3)=false,(d.kind == 4)=false,(d.kind == 5)=false,(d.kind == 6)=false,(d.kind == 7)=true,0≤d.a∧d.a<(purses.length:Int),g3=g3,g3=g3,g3=g3,((Qf purses).drop ((0+(Int.toNat d.a)*2)+0)).take 1=[.int .i64 pe.tokens],InR .i64 (pe.tokens - d.n),0≤d.a∧d.a<(purses.length:Int),g3=g3,g3=g3,(((0+(Int.toNat d.a)*2)+0)+1)≤(Qf purses).length,g3=g3,InR .i64 (lost+d.n),13≤20,InR .i64 (nlost+d.n),19≤20])
 (hr:(.tup [])=res) (hb:[⟨true,0,1,false,[.int .i64 f.purses,.int .i64 f.boxes,.rsl (rowI f.stock) 0 f.stock.length,.rsl (rowI f.cash) 0 f.cash.length,.rsl (Qr f.bundles) 0 f.bundles.length,.int .i64 f.refund,.int .i64 f.band,.int .i64 f.hours,.sl 1 g1 0 stock.length 1,.sl 2 g2 0 cash.length 1,.sl 3 g3 0 purses.length 2,.sl 4 g4 0 boxes.length 1,.int .i64 (lost+d.n),.int .i64 d.at_,.int .i64 sold,.int .i64 taken,.int .i64 ret,.int .i64 held,.int .i64 (nlost+d.n),.int .i64 ncash],false⟩,⟨true,g1,1,true,(rowI stock),true⟩,⟨true,g2,1,true,(rowI cash),true⟩,⟨true,g3,2,true,(Qt (Qf purses) ((0+(Int.toNat d.a)*2)+0) [.int .i64 (pe.tokens - d.n)]),true⟩,⟨true,g4,1,true,(rowI boxes),true⟩]=bs2):G Try.prog E [.code (Qd Try.prog 138)] ⟨[.ptr 0 0 0,.agg [.int .i64 d.at_,.int .i64 d.kind,.int .i64 d.a,.int .i64 d.b,.int .i64 d.n]]++unds (Try.f138.ntmps - 2),[⟨true,0,1,false,[.int .i64 f.purses,.int .i64 f.boxes,.rsl (rowI f.stock) 0 f.stock.length,.rsl (rowI f.cash) 0 f.cash.length,.rsl (Qr f.bundles) 0 f.bundles.length,.int .i64 f.refund,.int .i64 f.band,.int .i64 f.hours,.sl 1 g1 0 stock.length 1,.sl 2 g2 0 cash.length 1,.sl 3 g3 0 purses.length 2,.sl 4 g4 0 boxes.length 1,.int .i64 lost,.int .i64 last,.int .i64 sold,.int .i64 taken,.int .i64 ret,.int .i64 held,.int .i64 nlost,.int .i64 ncash],false⟩,⟨true,g1,1,true,(rowI stock),true⟩,⟨true,g2,1,true,(rowI cash),true⟩,⟨true,g3,2,true,(Qf purses),true⟩,⟨true,g4,1,true,(rowI boxes),true⟩]⟩ :=
 QV (n:=400) (live:=[]) (m:=5) (evs:=[.b false,.b false,.b false,.b false,.b false,.b false,.b true,.auto,.auto,.ld (.int .i64 pe.tokens)]) (obs:=_) hE (hE.nogh (by kernel_rfl)) Try.func138 Qp (by kernel_rfl) ho hr hb
theorem p138_start_8 (d:Dl) (f:Fair) (stock cash:List Int) (purses:List Pur) (boxes:List Int) (lost last sold taken ret held nlost ncash:Int) (g1 g2 g3 g4:Nat) {E:Env} {res:AV} {bs2:List Blk} (hE:LentE Try.prog 138 [.sl 4 g4 0 0 1] res bs2 E) (ho:AllP [14≤20,(d.kind == 1)=false,(d.kind == 2)=false,(d.kind == 3)=false,(d.kind == 4)=false,(d.kind == 5)=false,(d.kind == 6)=false,(d.kind == 7)=false])
 (hr:(.tup [])=res) (hb:(z138_1 f g1 stock g2 cash g3 purses g4 boxes lost d sold taken ret held nlost ncash)=bs2):G Try.prog E [.code (Qd Try.prog 138)] ⟨[.ptr 0 0 0,.agg [.int .i64 d.at_,.int .i64 d.kind,.int .i64 d.a,.int .i64 d.b,.int .i64 d.n]]++unds (Try.f138.ntmps - 2),(z138_2 f g1 stock g2 cash g3 purses g4 boxes lost last sold taken ret held nlost ncash)⟩ :=
 QV (n:=400) (live:=[]) (m:=5) (evs:=[.b false,.b false,.b false,.b false,.b false,.b false,.b false]) (obs:=_) hE (hE.nogh (by kernel_rfl)) Try.func138 Qp (by kernel_rfl) ho hr hb
theorem f138W (d:Dl) (f:Fair) (stock cash:List Int) (purses:List Pur) (boxes:List Int) (lost last sold taken ret held nlost ncash:Int) (g1 g2 g3 g4:Nat) {E:Env} {rv:Unit} {lost2:Int} {last2:Int} {sold2:Int} {taken2:Int} {ret2:Int} {nlost2:Int} {ncash2:Int} {stock2:List Int} {cash2:List Int} {purses2:List Pur} {boxes2:List Int} (hE:LentE Try.prog 138 [.sl 4 g4 0 0 1] (.tup []) [⟨true,0,1,false,[.int .i64 f.purses,.int .i64 f.boxes,.rsl (rowI f.stock) 0 f.stock.length,.rsl (rowI f.cash) 0 f.cash.length,.rsl (Qr f.bundles) 0 f.bundles.length,.int .i64 f.refund,.int .i64 f.band,.int .i64 f.hours,.sl 1 g1 0 stock2.length 1,.sl 2 g2 0 cash2.length 1,.sl 3 g3 0 purses2.length 2,.sl 4 g4 0 boxes2.length 1,.int .i64 lost2,.int .i64 last2,.int .i64 sold2,.int .i64 taken2,.int .i64 ret2,.int .i64 held,.int .i64 nlost2,.int .i64 ncash2],false⟩,⟨true,g1,1,true,(rowI stock2),true⟩,⟨true,g2,1,true,(rowI cash2),true⟩,⟨true,g3,2,true,(Qf purses2),true⟩,⟨true,g4,1,true,(rowI boxes2),true⟩] E)
 (h:((d.kind=1→(0≤d.n∧(∃ be:Bndl,f.bundles[Int.toNat d.n]?=some be∧(0≤d.a∧(∃ e:Int,stock[Int.toNat d.a]?=some e∧((I6 (e - be.tokens))∧(0≤d.b∧(∃ pe:Pur,purses[Int.toNat d.b]?=some pe∧((I6 (pe.tokens+be.tokens))∧((I6 (sold+be.tokens))∧((CashIn cash ncash d.a be.price)∧lost2=lost∧last2=d.at_∧sold2=(sold+be.tokens)∧taken2=taken∧ret2=ret∧nlost2=nlost∧ncash2=(ncash+be.price)∧stock2=(stock.set (Int.toNat d.a) (e - be.tokens))∧cash2=(cash.set (Int.toNat d.a) (cash.getD (Int.toNat d.a) 0+be.price))∧purses2=(purses.set (Int.toNat d.b) (⟨(pe.tokens+be.tokens),pe.till⟩:Pur))∧boxes2=boxes)))))))))))∧(¬ (d.kind=1)→((d.kind=2→((0≤d.a∧Int.toNat d.a<(⟨f,stock,cash,purses,boxes,lost,d.at_,sold,taken,ret,held,nlost,ncash⟩:Frs).purses.length)∧((d.at_<(purT (⟨f,stock,cash,purses,boxes,lost,d.at_,sold,taken,ret,held,nlost,ncash⟩:Frs) d.a).till→lost2=lost∧last2=d.at_∧sold2=sold∧taken2=taken∧ret2=ret∧nlost2=nlost∧ncash2=ncash∧stock2=stock∧cash2=cash∧purses2=purses∧boxes2=boxes)∧(¬ (d.at_<(purT (⟨f,stock,cash,purses,boxes,lost,d.at_,sold,taken,ret,held,nlost,ncash⟩:Frs) d.a).till)→(0≤d.a∧(∃ pe:Pur,purses[Int.toNat d.a]?=some pe∧((I6 (pe.tokens - d.n))∧(0≤d.b∧(∃ e:Int,boxes[Int.toNat d.b]?=some e∧((I6 (e+d.n))∧((I6 (taken+d.n))∧lost2=lost∧last2=d.at_∧sold2=sold∧taken2=(taken+d.n)∧ret2=ret∧nlost2=nlost∧ncash2=ncash∧stock2=stock∧cash2=cash∧purses2=(purses.set (Int.toNat d.a) (⟨(pe.tokens - d.n),pe.till⟩:Pur))∧boxes2=(boxes.set (Int.toNat d.b) (e+d.n)))))))))))))∧(¬ (d.kind=2)→((d.kind=3→(0≤d.b∧(∃ pe:Pur,purses[Int.toNat d.b]?=some pe∧((I6 (d.at_+f.hours))∧((CashIn cash ncash d.a f.band)∧lost2=lost∧last2=d.at_∧sold2=sold∧taken2=taken∧ret2=ret∧nlost2=nlost∧ncash2=(ncash+f.band)∧stock2=stock∧cash2=(cash.set (Int.toNat d.a) (cash.getD (Int.toNat d.a) 0+f.band))∧purses2=(purses.set (Int.toNat d.b) (⟨pe.tokens,(iMax pe.till (d.at_+f.hours))⟩:Pur))∧boxes2=boxes)))))∧(¬ (d.kind=3)→((d.kind=4→(0≤d.b∧(∃ pe:Pur,purses[Int.toNat d.b]?=some pe∧((I6 (pe.tokens - d.n))∧(0≤d.a∧(∃ e:Int,stock[Int.toNat d.a]?=some e∧((I6 (e+d.n))∧((I6 (ret+d.n))∧((I6 (0 - d.n))∧((I6 ((0 - d.n)*f.refund))∧((CashIn cash ncash d.a ((0 - d.n)*f.refund))∧lost2=lost∧last2=d.at_∧sold2=sold∧taken2=taken∧ret2=(ret+d.n)∧nlost2=nlost∧ncash2=(ncash+((0 - d.n)*f.refund))∧stock2=(stock.set (Int.toNat d.a) (e+d.n))∧cash2=(cash.set (Int.toNat d.a) (cash.getD (Int.toNat d.a) 0+((0 - d.n)*f.refund)))∧purses2=(purses.set (Int.toNat d.b) (⟨(pe.tokens - d.n),pe.till⟩:Pur))∧boxes2=boxes)))))))))))∧(¬ (d.kind=4)→((d.kind=5→(0≤d.a∧(∃ e:Int,stock[Int.toNat d.a]?=some e∧(0≤d.b∧(∃ e1:Int,boxes[Int.toNat d.b]?=some e1∧((I6 (e+e1))∧lost2=lost∧last2=d.at_∧sold2=sold∧taken2=taken∧ret2=ret∧nlost2=nlost∧ncash2=ncash∧stock2=(stock.set (Int.toNat d.a) (e+e1))∧cash2=cash∧purses2=purses∧boxes2=(boxes.set (Int.toNat d.b) 0)))))))∧(¬ (d.kind=5)→((d.kind=6→(0≤d.a∧(∃ pe:Pur,purses[Int.toNat d.a]?=some pe∧((I6 (pe.tokens - d.n))∧(0≤d.b∧(∃ pe1:Pur,(purses.set (Int.toNat d.a) (⟨(pe.tokens - d.n),pe.till⟩:Pur))[Int.toNat d.b]?=some pe1∧((I6 (pe1.tokens+d.n))∧lost2=lost∧last2=d.at_∧sold2=sold∧taken2=taken∧ret2=ret∧nlost2=nlost∧ncash2=ncash∧stock2=stock∧cash2=cash∧purses2=((purses.set (Int.toNat d.a) (⟨(pe.tokens - d.n),pe.till⟩:Pur)).set (Int.toNat d.b) (⟨(pe1.tokens+d.n),pe1.till⟩:Pur))∧boxes2=boxes)))))))∧(¬ (d.kind=6)→((d.kind=7→(0≤d.a∧(∃ pe:Pur,purses[Int.toNat d.a]?=some pe∧((I6 (pe.tokens - d.n))∧((I6 (lost+d.n))∧((I6 (nlost+d.n))∧lost2=(lost+d.n)∧last2=d.at_∧sold2=sold∧taken2=taken∧ret2=ret∧nlost2=(nlost+d.n)∧ncash2=ncash∧stock2=stock∧cash2=cash∧purses2=(purses.set (Int.toNat d.a) (⟨(pe.tokens - d.n),pe.till⟩:Pur))∧boxes2=boxes))))))∧(¬ (d.kind=7)→lost2=lost∧last2=d.at_∧sold2=sold∧taken2=taken∧ret2=ret∧nlost2=nlost∧ncash2=ncash∧stock2=stock∧cash2=cash∧purses2=purses∧boxes2=boxes))))))))))))))):G Try.prog E [.code (Qd Try.prog 138)] ⟨[.ptr 0 0 0,.agg [.int .i64 d.at_,.int .i64 d.kind,.int .i64 d.a,.int .i64 d.b,.int .i64 d.n]]++unds (Try.f138.ntmps - 2),[⟨true,0,1,false,[.int .i64 f.purses,.int .i64 f.boxes,.rsl (rowI f.stock) 0 f.stock.length,.rsl (rowI f.cash) 0 f.cash.length,.rsl (Qr f.bundles) 0 f.bundles.length,.int .i64 f.refund,.int .i64 f.band,.int .i64 f.hours,.sl 1 g1 0 stock.length 1,.sl 2 g2 0 cash.length 1,.sl 3 g3 0 purses.length 2,.sl 4 g4 0 boxes.length 1,.int .i64 lost,.int .i64 last,.int .i64 sold,.int .i64 taken,.int .i64 ret,.int .i64 held,.int .i64 nlost,.int .i64 ncash],false⟩,⟨true,g1,1,true,(rowI stock),true⟩,⟨true,g2,1,true,(rowI cash),true⟩,⟨true,g3,2,true,(Qf purses),true⟩,⟨true,g4,1,true,(rowI boxes),true⟩]⟩:=by
 rcases bft (d.kind == 1) with hc0 | hc0
 · have h:=h.1 (eq_of_beq hc0)
   obtain ⟨h2,h⟩:=h
   obtain ⟨be,h1,h⟩:=h
   obtain ⟨h4,h⟩:=h
   obtain ⟨e,h3,h⟩:=h
   obtain ⟨q11_1,h⟩:=h
   obtain ⟨h6,h⟩:=h
   obtain ⟨pe,h5,h⟩:=h
   obtain ⟨q22_1,h⟩:=h
   obtain ⟨q28_1,h⟩:=h
   obtain ⟨h7,h⟩:=h
   obtain ⟨qe0,qe1,qe2,qe3,qe4,qe5,qe6,qe7,qe8,qe9,qe10⟩:=h
   exact p138_start_0 d f stock cash purses boxes lost last sold taken ret held nlost ncash g1 g2 g3 g4 be e pe hE ⟨(by decide),hc0,(Qn h2 h1),(rp cBd 2 0 2 h1),(by decide),(Qn h4 h3),rfl,rfl,(rp cI 1 0 1 h3),q11_1,(Qn h4 h3),rfl,(rf cI 1 0 1 h3),rfl,(Qn h6 h5),rfl,rfl,rfl,(rp cPur 2 0 1 h5),q22_1,(Qn h6 h5),rfl,rfl,(rf cPur 2 0 1 h5),rfl,q28_1,(by decide),(by rw [(show Qt (rowI stock) (0+(Int.toNat d.a)*1) [.int .i64 (e - be.tokens)]=rowI (stock.set (Int.toNat d.a) (e - be.tokens)) from Qy cI (s:=1) (k:=0) (fun _=>rfl) h3 rfl (by first | decide | simp))]; rw [(show Qt (Qf purses) ((0+(Int.toNat d.b)*2)+0) [.int .i64 (pe.tokens+be.tokens)]=Qf (purses.set (Int.toNat d.b) (⟨(pe.tokens+be.tokens),pe.till⟩:Pur)) from Qy cPur (s:=2) (k:=0) (fun _=>rfl) h5 rfl (by first | decide | simp))]; exact (Qw Try.func204 (by kernel_rfl) f204b (cash_ok d.a be.price f (stock.set (Int.toNat d.a) (e - be.tokens)) cash (purses.set (Int.toNat d.b) (⟨(pe.tokens+be.tokens),pe.till⟩:Pur)) boxes lost d.at_ (sold+be.tokens) taken ret held nlost ncash g1 g2 g3 g4 stock.length purses.length boxes.length h7))),trivial⟩ (by try rfl) (by rw [qe0,qe1,qe2,qe3,qe4,qe5,qe6,qe7,qe8,qe9,qe10]; rw [(show Qt (rowI stock) (0+(Int.toNat d.a)*1) [.int .i64 (e - be.tokens)]=rowI (stock.set (Int.toNat d.a) (e - be.tokens)) from Qy cI (s:=1) (k:=0) (fun _=>rfl) h3 rfl (by first | decide | simp))]; rw [(show Qt (Qf purses) ((0+(Int.toNat d.b)*2)+0) [.int .i64 (pe.tokens+be.tokens)]=Qf (purses.set (Int.toNat d.b) (⟨(pe.tokens+be.tokens),pe.till⟩:Pur)) from Qy cPur (s:=2) (k:=0) (fun _=>rfl) h5 rfl (by first | decide | simp))]; all_goals (first | rfl | (simp only [List.length_set]; done) | (simp only [List.length_set]; rfl) | (simp only [List.length_set,List.length_replicate]; done)))
 · have h:=h.2 (ne_of_beq_false hc0)
   rcases bft (d.kind == 2) with hc1 | hc1
   · have h:=h.1 (eq_of_beq hc1)
     obtain ⟨h1,h⟩:=h
     rcases bft (decide (d.at_<(purT (⟨f,stock,cash,purses,boxes,lost,d.at_,sold,taken,ret,held,nlost,ncash⟩:Frs) d.a).till)) with hc2 | hc2
     · have h:=h.1 (odt hc2)
       obtain ⟨qe0,qe1,qe2,qe3,qe4,qe5,qe6,qe7,qe8,qe9,qe10⟩:=h
       exact p138_start_1 d f stock cash purses boxes lost last sold taken ret held nlost ncash g1 g2 g3 g4 hE ⟨(by decide),hc0,hc1,(u202 (Qcr (⟨f,stock,cash,purses,boxes,lost,d.at_,sold,taken,ret,held,nlost,ncash⟩:Frs) d.a d.at_ h1)),rfl,rfl,rfl,rfl,hc2,trivial⟩ (by try rfl) (by rw [qe0,qe1,qe2,qe3,qe4,qe5,qe6,qe7,qe8,qe9,qe10]; all_goals (first | rfl | (simp only [List.length_set]; done) | (simp only [List.length_set]; rfl) | (simp only [List.length_set,List.length_replicate]; done)))
     · have h:=h.2 (odf hc2)
       obtain ⟨h3,h⟩:=h
       obtain ⟨pe,h2,h⟩:=h
       obtain ⟨q15_3,h⟩:=h
       obtain ⟨h5,h⟩:=h
       obtain ⟨e,h4,h⟩:=h
       obtain ⟨q26_3,h⟩:=h
       obtain ⟨q31_3,h⟩:=h
       obtain ⟨qe0,qe1,qe2,qe3,qe4,qe5,qe6,qe7,qe8,qe9,qe10⟩:=h
       exact p138_start_2 d f stock cash purses boxes lost last sold taken ret held nlost ncash g1 g2 g3 g4 pe e hE ⟨(by decide),hc0,hc1,(u202 (Qcr (⟨f,stock,cash,purses,boxes,lost,d.at_,sold,taken,ret,held,nlost,ncash⟩:Frs) d.a d.at_ h1)),rfl,rfl,rfl,rfl,hc2,(Qn h3 h2),rfl,rfl,rfl,(rp cPur 2 0 1 h2),q15_3,(Qn h3 h2),rfl,rfl,(rf cPur 2 0 1 h2),rfl,(Qn h5 h4),rfl,rfl,(rp cI 1 0 1 h4),q26_3,(Qn h5 h4),rfl,(rf cI 1 0 1 h4),rfl,q31_3,(by decide),trivial⟩ (by try rfl) (by rw [qe0,qe1,qe2,qe3,qe4,qe5,qe6,qe7,qe8,qe9,qe10]; rw [(show Qt (Qf purses) ((0+(Int.toNat d.a)*2)+0) [.int .i64 (pe.tokens - d.n)]=Qf (purses.set (Int.toNat d.a) (⟨(pe.tokens - d.n),pe.till⟩:Pur)) from Qy cPur (s:=2) (k:=0) (fun _=>rfl) h2 rfl (by first | decide | simp))]; rw [(show Qt (rowI boxes) (0+(Int.toNat d.b)*1) [.int .i64 (e+d.n)]=rowI (boxes.set (Int.toNat d.b) (e+d.n)) from Qy cI (s:=1) (k:=0) (fun _=>rfl) h4 rfl (by first | decide | simp))]; all_goals (first | rfl | (simp only [List.length_set]; done) | (simp only [List.length_set]; rfl) | (simp only [List.length_set,List.length_replicate]; done)))
   · have h:=h.2 (ne_of_beq_false hc1)
     rcases bft (d.kind == 3) with hc2 | hc2
     · have h:=h.1 (eq_of_beq hc2)
       obtain ⟨h2,h⟩:=h
       obtain ⟨pe,h1,h⟩:=h
       obtain ⟨q11_3,h⟩:=h
       obtain ⟨h3,h⟩:=h
       obtain ⟨qe0,qe1,qe2,qe3,qe4,qe5,qe6,qe7,qe8,qe9,qe10⟩:=h
       exact p138_start_3 d f stock cash purses boxes lost last sold taken ret held nlost ncash g1 g2 g3 g4 pe hE ⟨(by decide),hc0,hc1,hc2,(Qn h2 h1),rfl,rfl,rfl,rfl,(rp cPur 2 1 1 h1),q11_3,rfl,rfl,(rf cPur 2 1 1 h1),rfl,(by rw [(show Qt (Qf purses) ((0+(Int.toNat d.b)*2)+1) [.int .i64 (iMax pe.till (d.at_+f.hours))]=Qf (purses.set (Int.toNat d.b) (⟨pe.tokens,(iMax pe.till (d.at_+f.hours))⟩:Pur)) from Qy cPur (s:=2) (k:=1) (fun _=>rfl) h1 rfl (by first | decide | simp))]; exact (Qw Try.func204 (by kernel_rfl) f204b (cash_ok d.a f.band f stock cash (purses.set (Int.toNat d.b) (⟨pe.tokens,(iMax pe.till (d.at_+f.hours))⟩:Pur)) boxes lost d.at_ sold taken ret held nlost ncash g1 g2 g3 g4 stock.length purses.length boxes.length h3))),trivial⟩ (by try rfl) (by rw [qe0,qe1,qe2,qe3,qe4,qe5,qe6,qe7,qe8,qe9,qe10]; rw [(show Qt (Qf purses) ((0+(Int.toNat d.b)*2)+1) [.int .i64 (iMax pe.till (d.at_+f.hours))]=Qf (purses.set (Int.toNat d.b) (⟨pe.tokens,(iMax pe.till (d.at_+f.hours))⟩:Pur)) from Qy cPur (s:=2) (k:=1) (fun _=>rfl) h1 rfl (by first | decide | simp))]; all_goals (first | rfl | (simp only [List.length_set]; done) | (simp only [List.length_set]; rfl) | (simp only [List.length_set,List.length_replicate]; done)))
     · have h:=h.2 (ne_of_beq_false hc2)
       rcases bft (d.kind == 4) with hc3 | hc3
       · have h:=h.1 (eq_of_beq hc3)
         obtain ⟨h2,h⟩:=h
         obtain ⟨pe,h1,h⟩:=h
         obtain ⟨q11_4,h⟩:=h
         obtain ⟨h4,h⟩:=h
         obtain ⟨e,h3,h⟩:=h
         obtain ⟨q22_4,h⟩:=h
         obtain ⟨q27_4,h⟩:=h
         obtain ⟨q29_4,h⟩:=h
         obtain ⟨q30_4,h⟩:=h
         obtain ⟨h5,h⟩:=h
         obtain ⟨qe0,qe1,qe2,qe3,qe4,qe5,qe6,qe7,qe8,qe9,qe10⟩:=h
         exact p138_start_4 d f stock cash purses boxes lost last sold taken ret held nlost ncash g1 g2 g3 g4 pe e hE ⟨(by decide),hc0,hc1,hc2,hc3,(Qn h2 h1),rfl,rfl,rfl,(rp cPur 2 0 1 h1),q11_4,(Qn h2 h1),rfl,rfl,(rf cPur 2 0 1 h1),rfl,(Qn h4 h3),rfl,rfl,(rp cI 1 0 1 h3),q22_4,(Qn h4 h3),rfl,(rf cI 1 0 1 h3),rfl,q27_4,(by decide),q29_4,q30_4,(by rw [(show Qt (rowI stock) (0+(Int.toNat d.a)*1) [.int .i64 (e+d.n)]=rowI (stock.set (Int.toNat d.a) (e+d.n)) from Qy cI (s:=1) (k:=0) (fun _=>rfl) h3 rfl (by first | decide | simp))]; rw [(show Qt (Qf purses) ((0+(Int.toNat d.b)*2)+0) [.int .i64 (pe.tokens - d.n)]=Qf (purses.set (Int.toNat d.b) (⟨(pe.tokens - d.n),pe.till⟩:Pur)) from Qy cPur (s:=2) (k:=0) (fun _=>rfl) h1 rfl (by first | decide | simp))]; exact (Qw Try.func204 (by kernel_rfl) f204b (cash_ok d.a ((0 - d.n)*f.refund) f (stock.set (Int.toNat d.a) (e+d.n)) cash (purses.set (Int.toNat d.b) (⟨(pe.tokens - d.n),pe.till⟩:Pur)) boxes lost d.at_ sold taken (ret+d.n) held nlost ncash g1 g2 g3 g4 stock.length purses.length boxes.length h5))),trivial⟩ (by try rfl) (by rw [qe0,qe1,qe2,qe3,qe4,qe5,qe6,qe7,qe8,qe9,qe10]; rw [(show Qt (rowI stock) (0+(Int.toNat d.a)*1) [.int .i64 (e+d.n)]=rowI (stock.set (Int.toNat d.a) (e+d.n)) from Qy cI (s:=1) (k:=0) (fun _=>rfl) h3 rfl (by first | decide | simp))]; rw [(show Qt (Qf purses) ((0+(Int.toNat d.b)*2)+0) [.int .i64 (pe.tokens - d.n)]=Qf (purses.set (Int.toNat d.b) (⟨(pe.tokens - d.n),pe.till⟩:Pur)) from Qy cPur (s:=2) (k:=0) (fun _=>rfl) h1 rfl (by first | decide | simp))]; all_goals (first | rfl | (simp only [List.length_set]; done) | (simp only [List.length_set]; rfl) | (simp only [List.length_set,List.length_replicate]; done)))
       · have h:=h.2 (ne_of_beq_false hc3)
         rcases bft (d.kind == 5) with hc4 | hc4
         · have h:=h.1 (eq_of_beq hc4)
           obtain ⟨h2,h⟩:=h
           obtain ⟨e,h1,h⟩:=h
           obtain ⟨h4,h⟩:=h
           obtain ⟨e1,h3,h⟩:=h
           obtain ⟨q16_5,h⟩:=h
           obtain ⟨qe0,qe1,qe2,qe3,qe4,qe5,qe6,qe7,qe8,qe9,qe10⟩:=h
           exact p138_start_5 d f stock cash purses boxes lost last sold taken ret held nlost ncash g1 g2 g3 g4 e e1 hE ⟨(by decide),hc0,hc1,hc2,hc3,hc4,(Qn h2 h1),rfl,rfl,(rp cI 1 0 1 h1),(Qn h4 h3),rfl,rfl,(rp cI 1 0 1 h3),q16_5,(Qn h2 h1),rfl,(rf cI 1 0 1 h1),rfl,(Qn h4 h3),rfl,(rf cI 1 0 1 h3),rfl,trivial⟩ (by try rfl) (by rw [qe0,qe1,qe2,qe3,qe4,qe5,qe6,qe7,qe8,qe9,qe10]; rw [(show Qt (rowI stock) (0+(Int.toNat d.a)*1) [.int .i64 (e+e1)]=rowI (stock.set (Int.toNat d.a) (e+e1)) from Qy cI (s:=1) (k:=0) (fun _=>rfl) h1 rfl (by first | decide | simp))]; rw [(show Qt (rowI boxes) (0+(Int.toNat d.b)*1) [.int .i64 0]=rowI (boxes.set (Int.toNat d.b) 0) from Qy cI (s:=1) (k:=0) (fun _=>rfl) h3 rfl (by first | decide | simp))]; all_goals (first | rfl | (simp only [List.length_set]; done) | (simp only [List.length_set]; rfl) | (simp only [List.length_set,List.length_replicate]; done)))
         · have h:=h.2 (ne_of_beq_false hc4)
           rcases bft (d.kind == 6) with hc5 | hc5
           · have h:=h.1 (eq_of_beq hc5)
             obtain ⟨h2,h⟩:=h
             obtain ⟨pe,h1,h⟩:=h
             obtain ⟨q13_6,h⟩:=h
             obtain ⟨h4,h⟩:=h
             obtain ⟨pe1,h3,h⟩:=h
             obtain ⟨q25_6,h⟩:=h
             obtain ⟨qe0,qe1,qe2,qe3,qe4,qe5,qe6,qe7,qe8,qe9,qe10⟩:=h
             exact p138_start_6 d f stock cash purses boxes lost last sold taken ret held nlost ncash g1 g2 g3 g4 pe pe1 hE ⟨(by decide),hc0,hc1,hc2,hc3,hc4,hc5,(Qn h2 h1),rfl,rfl,rfl,(rp cPur 2 0 1 h1),q13_6,(Qn h2 h1),rfl,rfl,(rf cPur 2 0 1 h1),rfl,(by have hx:=Qn h4 h3; simpa using hx),rfl,rfl,rfl,(by rw [(show Qt (Qf purses) ((0+(Int.toNat d.a)*2)+0) [.int .i64 (pe.tokens - d.n)]=Qf (purses.set (Int.toNat d.a) (⟨(pe.tokens - d.n),pe.till⟩:Pur)) from Qy cPur (s:=2) (k:=0) (fun _=>rfl) h1 rfl (by first | decide | simp))]; exact rp cPur 2 0 1 h3),q25_6,(by have hx:=Qn h4 h3; simpa using hx),rfl,rfl,(by rw [(show Qt (Qf purses) ((0+(Int.toNat d.a)*2)+0) [.int .i64 (pe.tokens - d.n)]=Qf (purses.set (Int.toNat d.a) (⟨(pe.tokens - d.n),pe.till⟩:Pur)) from Qy cPur (s:=2) (k:=0) (fun _=>rfl) h1 rfl (by first | decide | simp))]; exact rf cPur 2 0 1 h3),rfl,trivial⟩ (by try rfl) (by rw [qe0,qe1,qe2,qe3,qe4,qe5,qe6,qe7,qe8,qe9,qe10]; rw [(show Qt (Qf purses) ((0+(Int.toNat d.a)*2)+0) [.int .i64 (pe.tokens - d.n)]=Qf (purses.set (Int.toNat d.a) (⟨(pe.tokens - d.n),pe.till⟩:Pur)) from Qy cPur (s:=2) (k:=0) (fun _=>rfl) h1 rfl (by first | decide | simp))]; rw [(show Qt (Qf (purses.set (Int.toNat d.a) (⟨(pe.tokens - d.n),pe.till⟩:Pur))) ((0+(Int.toNat d.b)*2)+0) [.int .i64 (pe1.tokens+d.n)]=Qf ((purses.set (Int.toNat d.a) (⟨(pe.tokens - d.n),pe.till⟩:Pur)).set (Int.toNat d.b) (⟨(pe1.tokens+d.n),pe1.till⟩:Pur)) from Qy cPur (s:=2) (k:=0) (fun _=>rfl) h3 rfl (by first | decide | simp))]; all_goals (first | rfl | (simp only [List.length_set]; done) | (simp only [List.length_set]; rfl) | (simp only [List.length_set,List.length_replicate]; done)))
           · have h:=h.2 (ne_of_beq_false hc5)
             rcases bft (d.kind == 7) with hc6 | hc6
             · have h:=h.1 (eq_of_beq hc6)
               obtain ⟨h2,h⟩:=h
               obtain ⟨pe,h1,h⟩:=h
               obtain ⟨q14_7,h⟩:=h
               obtain ⟨q20_7,h⟩:=h
               obtain ⟨q22_7,h⟩:=h
               obtain ⟨qe0,qe1,qe2,qe3,qe4,qe5,qe6,qe7,qe8,qe9,qe10⟩:=h
               exact p138_start_7 d f stock cash purses boxes lost last sold taken ret held nlost ncash g1 g2 g3 g4 pe hE ⟨(by decide),hc0,hc1,hc2,hc3,hc4,hc5,hc6,(Qn h2 h1),rfl,rfl,rfl,(rp cPur 2 0 1 h1),q14_7,(Qn h2 h1),rfl,rfl,(rf cPur 2 0 1 h1),rfl,q20_7,(by decide),q22_7,(by decide),trivial⟩ (by try rfl) (by rw [qe0,qe1,qe2,qe3,qe4,qe5,qe6,qe7,qe8,qe9,qe10]; rw [(show Qt (Qf purses) ((0+(Int.toNat d.a)*2)+0) [.int .i64 (pe.tokens - d.n)]=Qf (purses.set (Int.toNat d.a) (⟨(pe.tokens - d.n),pe.till⟩:Pur)) from Qy cPur (s:=2) (k:=0) (fun _=>rfl) h1 rfl (by first | decide | simp))]; all_goals (first | rfl | (simp only [List.length_set]; done) | (simp only [List.length_set]; rfl) | (simp only [List.length_set,List.length_replicate]; done)))
             · have h:=h.2 (ne_of_beq_false hc6)
               obtain ⟨qe0,qe1,qe2,qe3,qe4,qe5,qe6,qe7,qe8,qe9,qe10⟩:=h
               exact p138_start_8 d f stock cash purses boxes lost last sold taken ret held nlost ncash g1 g2 g3 g4 hE ⟨(by decide),hc0,hc1,hc2,hc3,hc4,hc5,hc6,trivial⟩ (by try rfl) (by rw [qe0,qe1,qe2,qe3,qe4,qe5,qe6,qe7,qe8,qe9,qe10]; all_goals (first | rfl | (simp only [List.length_set]; done) | (simp only [List.length_set]; rfl) | (simp only [List.length_set,List.length_replicate]; done)))
def HapIn (T:Frs) (d:Dl):Prop:=posT T d=true∧∃ i,FOk T i∧i≤300
theorem KT {T:Frs} {d:Dl} (h:posT T d=true):posK T d=true∧d.n≤100000:=by
 unfold posT at h
 split at h
 · cases h
 split at h
 · cases h
 · rename_i hn; exact ⟨h,by omega⟩
theorem has_of {T:Frs} {p n:Int} (h:hasT T p n=true):QD T p=true∧1≤n∧n≤(purT T p).tokens:=by
 rw [hasT,Bool.and_eq_true] at h
 have:=Qq.1 h.2
 exact ⟨h.1,this.1,this.2⟩
theorem till_in {T:Frs} {n:Int} (h:Xc T n=true):0≤n∧Int.toNat n<T.stock.length:=by
 have:=Qq.1 h
 omega
theorem pos_3 {T:Frs} {d:Dl} (h:posT T d=true) (k:d.kind=3):(0≤d.a∧Int.toNat d.a<T.stock.length)∧QD T d.b=true:=by
 have h:=(KT h).1
 rw [posK,if_neg (by omega),if_neg (by omega),if_pos k] at h
 simp only [Bool.and_eq_true] at h
 exact ⟨till_in h.1,h.2.1⟩
theorem pos_4 {T:Frs} {d:Dl} (h:posT T d=true) (k:d.kind=4):(0≤d.a∧Int.toNat d.a<T.stock.length)∧QD T d.b=true∧(1≤d.n∧d.n≤100000):=by
 have h0:=(KT h).2
 have h:=(KT h).1
 rw [posK,if_neg (by omega),if_neg (by omega),if_neg (by omega),if_pos k] at h
 simp only [Bool.and_eq_true] at h
 obtain ⟨a,b,c⟩:=h
 have b:=has_of b
 exact ⟨till_in a,b.1,b.2.1,h0⟩
theorem pos_5 {T:Frs} {d:Dl} (h:posT T d=true) (k:d.kind=5):(0≤d.a∧Int.toNat d.a<T.stock.length)∧boxT T d.b=true:=by
 have h:=(KT h).1
 rw [posK,if_neg (by omega),if_neg (by omega),if_neg (by omega),if_neg (by omega),if_pos k] at h
 simp only [Bool.and_eq_true] at h
 exact ⟨till_in h.1,h.2.1⟩
theorem pos_6 {T:Frs} {d:Dl} (h:posT T d=true) (k:d.kind=6):QD T d.a=true∧(1≤d.n∧d.n≤100000)∧QD T d.b=true∧d.a ≠ d.b:=by
 have h0:=(KT h).2
 have h:=(KT h).1
 rw [posK,if_neg (by omega),if_neg (by omega),if_neg (by omega),if_neg (by omega),if_neg (by omega),if_pos k] at h
 simp only [Bool.and_eq_true,bne_iff_ne] at h
 obtain ⟨a,b,c⟩:=h
 have a:=has_of a
 exact ⟨a.1,⟨a.2.1,h0⟩,b,c⟩
theorem pos_7 {T:Frs} {d:Dl} (h:posT T d=true) (k:d.kind=7):QD T d.a=true∧(1≤d.n∧d.n≤100000):=by
 have h0:=(KT h).2
 have h:=(KT h).1
 rw [posK,if_neg (by omega),if_neg (by omega),if_neg (by omega),if_neg (by omega),if_neg (by omega),if_neg (by omega),if_pos k] at h
 simp only [Bool.and_eq_true] at h
 have a:=has_of h.1
 exact ⟨a.1,⟨a.2.1,h0⟩⟩
theorem QaV {T:Frs} {d:Dl} (h:posT T d=true):d.kind=1 ∨ d.kind=2 ∨ d.kind=3 ∨ d.kind=4 ∨ d.kind=5 ∨ d.kind=6 ∨ d.kind=7:=by
 have h:=(KT h).1
 unfold posK at h
 repeat' split at h
 all_goals first | (cases h; done) | omega
theorem mul_ref {n r:Int} (hn:1≤n∧n≤100000) (hr:0≤r∧r≤1000):Bd 100000000 ((0 - n)*r):=by
 have m1:=Int.mul_le_mul hn.2 hr.2 hr.1 (by omega)
 have m2:=Int.mul_nonneg (show 0≤n by omega) hr.1
 rw [Int.sub_mul,Int.zero_mul]
 unfold Bd; omega
theorem pos_1 {T:Frs} {d:Dl} (h:posT T d=true) (k:d.kind=1):(0≤d.a∧Int.toNat d.a<T.stock.length)∧QD T d.b=true∧(0≤d.n∧Int.toNat d.n<T.f.bundles.length)∧(bndT T d.n).tokens≤T.stock.getD (Int.toNat d.a) 0:=by
 unfold posT at h
 split at h
 · cases h
 split at h
 · cases h
 rw [posK,if_pos k] at h
 simp only [Bool.and_eq_true,decide_eq_true_eq] at h
 obtain ⟨a,b,c,e⟩:=h
 have ha:=Qq.1 a
 have hc:=Qq.1 c
 exact ⟨by omega,b,by omega,e⟩
theorem pos_2 {T:Frs} {d:Dl} (h:posT T d=true) (k:d.kind=2):QD T d.a=true∧boxT T d.b=true∧(0≤d.n∧d.n≤1000)∧(¬ d.at_<(purT T d.a).till→d.n≤(purT T d.a).tokens):=by
 unfold posT at h
 split at h
 · cases h
 split at h
 · cases h
 rw [posK,if_neg (by omega),if_pos k] at h
 simp only [Bool.and_eq_true,Bool.or_eq_true,decide_eq_true_eq] at h
 obtain ⟨a,b,c,e⟩:=h
 have hc:=Qq.1 c
 exact ⟨a,b,hc,fun hh=>by omega⟩
theorem pos_at {T:Frs} {d:Dl} (h:posT T d=true):T.last≤d.at_∧d.at_≤1440:=by
 unfold posT at h
 split at h
 · cases h
 · rename_i e
   exact Qq.1 (by simpa using e)
theorem XZ {T:Frs} (hl:FLen T) {n:Int} (h:QD T n=true):0≤n∧Int.toNat n<T.purses.length:=by
 have h1:=hl.pu
 have h2:=Qq.1 h
 omega
theorem box_in {T:Frs} (hl:FLen T) {n:Int} (h:boxT T n=true):0≤n∧Int.toNat n<T.boxes.length:=by
 have h1:=hl.bo
 have h2:=Qq.1 h
 omega
theorem happ_ok (d:Dl) (f:Fair) (stock cash:List Int) (purses:List Pur) (boxes:List Int) (lost last sold taken ret held nlost ncash:Int) (g1 g2 g3 g4:Nat) (h:HapIn (⟨f,stock,cash,purses,boxes,lost,last,sold,taken,ret,held,nlost,ncash⟩:Frs) d):Lent Try.prog 138 [.ptr 0 0 0,.agg (cDl d)] [⟨true,0,1,false,[.int .i64 f.purses,.int .i64 f.boxes,.rsl (rowI f.stock) 0 f.stock.length,.rsl (rowI f.cash) 0 f.cash.length,.rsl (Qr f.bundles) 0 f.bundles.length,.int .i64 f.refund,.int .i64 f.band,.int .i64 f.hours,.sl 1 g1 0 stock.length 1,.sl 2 g2 0 cash.length 1,.sl 3 g3 0 purses.length 2,.sl 4 g4 0 boxes.length 1,.int .i64 lost,.int .i64 last,.int .i64 sold,.int .i64 taken,.int .i64 ret,.int .i64 held,.int .i64 nlost,.int .i64 ncash],false⟩,⟨true,g1,1,true,(rowI stock),true⟩,⟨true,g2,1,true,(rowI cash),true⟩,⟨true,g3,2,true,(Qf purses),true⟩,⟨true,g4,1,true,(rowI boxes),true⟩] (.tup []) [⟨true,0,1,false,[.int .i64 f.purses,.int .i64 f.boxes,.rsl (rowI f.stock) 0 f.stock.length,.rsl (rowI f.cash) 0 f.cash.length,.rsl (Qr f.bundles) 0 f.bundles.length,.int .i64 f.refund,.int .i64 f.band,.int .i64 f.hours,.sl 1 g1 0 ((Qv (⟨f,stock,cash,purses,boxes,lost,last,sold,taken,ret,held,nlost,ncash⟩:Frs) d).stock.length) 1,.sl 2 g2 0 ((Qv (⟨f,stock,cash,purses,boxes,lost,last,sold,taken,ret,held,nlost,ncash⟩:Frs) d).cash.length) 1,.sl 3 g3 0 ((Qv (⟨f,stock,cash,purses,boxes,lost,last,sold,taken,ret,held,nlost,ncash⟩:Frs) d).purses.length) 2,.sl 4 g4 0 ((Qv (⟨f,stock,cash,purses,boxes,lost,last,sold,taken,ret,held,nlost,ncash⟩:Frs) d).boxes.length) 1,.int .i64 ((Qv (⟨f,stock,cash,purses,boxes,lost,last,sold,taken,ret,held,nlost,ncash⟩:Frs) d).lost),.int .i64 ((Qv (⟨f,stock,cash,purses,boxes,lost,last,sold,taken,ret,held,nlost,ncash⟩:Frs) d).last),.int .i64 ((Qv (⟨f,stock,cash,purses,boxes,lost,last,sold,taken,ret,held,nlost,ncash⟩:Frs) d).sold),.int .i64 ((Qv (⟨f,stock,cash,purses,boxes,lost,last,sold,taken,ret,held,nlost,ncash⟩:Frs) d).taken),.int .i64 ((Qv (⟨f,stock,cash,purses,boxes,lost,last,sold,taken,ret,held,nlost,ncash⟩:Frs) d).ret),.int .i64 held,.int .i64 ((Qv (⟨f,stock,cash,purses,boxes,lost,last,sold,taken,ret,held,nlost,ncash⟩:Frs) d).nlost),.int .i64 ((Qv (⟨f,stock,cash,purses,boxes,lost,last,sold,taken,ret,held,nlost,ncash⟩:Frs) d).ncash)],false⟩,⟨true,g1,1,true,(rowI (Qv (⟨f,stock,cash,purses,boxes,lost,last,sold,taken,ret,held,nlost,ncash⟩:Frs) d).stock),true⟩,⟨true,g2,1,true,(rowI (Qv (⟨f,stock,cash,purses,boxes,lost,last,sold,taken,ret,held,nlost,ncash⟩:Frs) d).cash),true⟩,⟨true,g3,2,true,(Qf (Qv (⟨f,stock,cash,purses,boxes,lost,last,sold,taken,ret,held,nlost,ncash⟩:Frs) d).purses),true⟩,⟨true,g4,1,true,(rowI (Qv (⟨f,stock,cash,purses,boxes,lost,last,sold,taken,ret,held,nlost,ncash⟩:Frs) d).boxes),true⟩]:=Kl _ Try.func138 f138b rfl rfl fun E hE=>by
 obtain ⟨hp,i,hF,hi⟩:=h
 have hl:=hF.len
 have hat:=pos_at hp
 have hla:=hF.la
 rcases QaV hp with k | k | k | k | k | k | k
 · obtain ⟨h1,h2,h3,h4⟩:=pos_1 hp k
   have h2:=XZ hl h2
   have e1:=hF.st _ (Xx (d:=0) h1.2)
   have e2:=hF.ca _ (Xx (d:=0) (i:=Int.toNat d.a) (by rw [hl.ca]; exact h1.2))
   have e3:=(hF.pu _ (Xx (d:=⟨0,0⟩) h2.2)).1
   have e4:=hF.bn _ (Xx (d:=⟨0,0⟩) h3.2)
   have e5:=hF.so
   have e6:=hF.nc
   have hca:=hl.ca
   simp only at hca h1 h2 h3 h4 e1 e2 e3 e4 e5 e6
   unfold Bd at e1 e2 e3 e5 e6
   refine f138W d f stock cash purses boxes lost last sold taken ret held nlost ncash g1 g2 g3 g4 (rv:=()) hE ⟨fun _=>⟨h3.1,_,XX (d:=⟨0,0⟩) h3.2,h1.1,_,XX (d:=0) h1.2,by omega,h2.1,_,XX (d:=⟨0,0⟩) h2.2,by omega,by omega,⟨⟨h1.1,by omega⟩,by unfold Bd; omega,by unfold Bd; omega,by unfold Bd; omega⟩,?_⟩,fun h=>absurd k h⟩
   rw [Qv,if_pos k]
   exact ⟨rfl,rfl,rfl,rfl,rfl,rfl,rfl,rfl,rfl,rfl,rfl⟩
 · obtain ⟨h1,h2,h3,h4⟩:=pos_2 hp k
   have h1:=XZ hl h1
   have h2:=box_in hl h2
   have e1:=(hF.pu _ (Xx (d:=⟨0,0⟩) h1.2)).1
   have e2:=hF.bo _ (Xx (d:=0) h2.2)
   have e3:=hF.ta
   simp only at h1 h2 h3 h4 e1 e2 e3
   unfold Bd at e1 e3
   have k1:¬ d.kind=1:=by omega
   refine f138W d f stock cash purses boxes lost last sold taken ret held nlost ncash g1 g2 g3 g4 (rv:=()) hE ⟨fun h=>absurd h k1,fun _=>⟨fun _=>⟨⟨h1.1,h1.2⟩,fun q=>?_,fun q=>⟨h1.1,_,XX (d:=⟨0,0⟩) h1.2,by omega,h2.1,_,XX (d:=0) h2.2,by omega,by omega,?_⟩⟩,fun h=>absurd k h⟩⟩
   · rw [Qv,if_neg k1,if_pos k,if_pos (show d.at_<(purT (⟨f,stock,cash,purses,boxes,lost,last,sold,taken,ret,held,nlost,ncash⟩:Frs) d.a).till from q)]
     exact ⟨rfl,rfl,rfl,rfl,rfl,rfl,rfl,rfl,rfl,rfl,rfl⟩
   · rw [Qv,if_neg k1,if_pos k,if_neg (show ¬ d.at_<(purT (⟨f,stock,cash,purses,boxes,lost,last,sold,taken,ret,held,nlost,ncash⟩:Frs) d.a).till from q)]
     exact ⟨rfl,rfl,rfl,rfl,rfl,rfl,rfl,rfl,rfl,rfl,rfl⟩
 · obtain ⟨h1,h2⟩:=pos_3 hp k
   have h2:=XZ hl h2
   have e2:=hF.ca _ (Xx (d:=0) (i:=Int.toNat d.a) (by rw [hl.ca]; exact h1.2))
   have e6:=hF.nc
   have e7:=hF.hours
   have e8:=hF.band
   have hca:=hl.ca
   simp only at hca h1 h2 e2 e6 e7 e8 hat hla
   unfold Bd at e2 e6
   refine f138W d f stock cash purses boxes lost last sold taken ret held nlost ncash g1 g2 g3 g4 (rv:=()) hE ⟨fun h=>by omega,fun k1=>⟨fun h=>by omega,fun k2=>⟨fun _=>⟨h2.1,_,XX (d:=⟨0,0⟩) h2.2,by omega,⟨⟨h1.1,by omega⟩,by unfold Bd; omega,by unfold Bd; omega,by unfold Bd; omega⟩,?_⟩,fun h=>absurd k h⟩⟩⟩
   rw [Qv,if_neg k1,if_neg k2,if_pos k]
   exact ⟨rfl,rfl,rfl,rfl,rfl,rfl,rfl,rfl,rfl,rfl,rfl⟩
 · obtain ⟨h1,h2,h3⟩:=pos_4 hp k
   have h2:=XZ hl h2
   have e1:=hF.st _ (Xx (d:=0) h1.2)
   have e2:=hF.ca _ (Xx (d:=0) (i:=Int.toNat d.a) (by rw [hl.ca]; exact h1.2))
   have e3:=(hF.pu _ (Xx (d:=⟨0,0⟩) h2.2)).1
   have e5:=hF.re
   have e6:=hF.nc
   have e9:=mul_ref h3 hl.rf
   have hca:=hl.ca
   simp only at hca h1 h2 h3 e1 e2 e3 e5 e6 e9
   unfold Bd at e1 e2 e3 e5 e6 e9
   refine f138W d f stock cash purses boxes lost last sold taken ret held nlost ncash g1 g2 g3 g4 (rv:=()) hE ⟨fun h=>by omega,fun k1=>⟨fun h=>by omega,fun k2=>⟨fun h=>by omega,fun k3=>⟨fun _=>⟨h2.1,_,XX (d:=⟨0,0⟩) h2.2,by omega,h1.1,_,XX (d:=0) h1.2,by omega,by omega,by omega,by omega,⟨⟨h1.1,by omega⟩,by unfold Bd; omega,by unfold Bd; omega,by unfold Bd; omega⟩,?_⟩,fun h=>absurd k h⟩⟩⟩⟩
   rw [Qv,if_neg k1,if_neg k2,if_neg k3,if_pos k]
   exact ⟨rfl,rfl,rfl,rfl,rfl,rfl,rfl,rfl,rfl,rfl,rfl⟩
 · obtain ⟨h1,h2⟩:=pos_5 hp k
   have h2:=box_in hl h2
   have e1:=hF.st _ (Xx (d:=0) h1.2)
   have e2:=hF.bo _ (Xx (d:=0) h2.2)
   simp only at h1 h2 e1 e2
   unfold Bd at e1
   refine f138W d f stock cash purses boxes lost last sold taken ret held nlost ncash g1 g2 g3 g4 (rv:=()) hE ⟨fun h=>by omega,fun k1=>⟨fun h=>by omega,fun k2=>⟨fun h=>by omega,fun k3=>⟨fun h=>by omega,fun k4=>⟨fun _=>⟨h1.1,_,XX (d:=0) h1.2,h2.1,_,XX (d:=0) h2.2,by omega,?_⟩,fun h=>absurd k h⟩⟩⟩⟩⟩
   rw [Qv,if_neg k1,if_neg k2,if_neg k3,if_neg k4,if_pos k]
   exact ⟨rfl,rfl,rfl,rfl,rfl,rfl,rfl,rfl,rfl,rfl,rfl⟩
 · obtain ⟨h1,h3,h2,h4⟩:=pos_6 hp k
   have h1:=XZ hl h1
   have h2:=XZ hl h2
   have e1:=(hF.pu _ (Xx (d:=⟨0,0⟩) h1.2)).1
   have e2:=(hF.pu _ (Xx (d:=⟨0,0⟩) h2.2)).1
   simp only at h1 h2 h3 e1 e2
   unfold Bd at e1 e2
   refine f138W d f stock cash purses boxes lost last sold taken ret held nlost ncash g1 g2 g3 g4 (rv:=()) hE ⟨fun h=>by omega,fun k1=>⟨fun h=>by omega,fun k2=>⟨fun h=>by omega,fun k3=>⟨fun h=>by omega,fun k4=>⟨fun h=>by omega,fun k5=>⟨fun _=>⟨h1.1,_,XX (d:=⟨0,0⟩) h1.2,by omega,h2.1,purses.getD (Int.toNat d.b) ⟨0,0⟩,by rw [List.getElem?_set_ne (by omega)]; exact XX h2.2,by omega,?_⟩,fun h=>absurd k h⟩⟩⟩⟩⟩⟩
   rw [Qv,if_neg k1,if_neg k2,if_neg k3,if_neg k4,if_neg k5,if_pos k]
   exact ⟨rfl,rfl,rfl,rfl,rfl,rfl,rfl,rfl,rfl,rfl,rfl⟩
 · obtain ⟨h1,h3⟩:=pos_7 hp k
   have h1:=XZ hl h1
   have e1:=(hF.pu _ (Xx (d:=⟨0,0⟩) h1.2)).1
   have e2:=hF.lo
   have e3:=hF.nl
   simp only at h1 h3 e1 e2 e3
   unfold Bd at e1 e2 e3
   refine f138W d f stock cash purses boxes lost last sold taken ret held nlost ncash g1 g2 g3 g4 (rv:=()) hE ⟨fun h=>by omega,fun k1=>⟨fun h=>by omega,fun k2=>⟨fun h=>by omega,fun k3=>⟨fun h=>by omega,fun k4=>⟨fun h=>by omega,fun k5=>⟨fun h=>by omega,fun k6=>⟨fun _=>⟨h1.1,_,XX (d:=⟨0,0⟩) h1.2,by omega,by omega,by omega,?_⟩,fun h=>absurd k h⟩⟩⟩⟩⟩⟩⟩
   rw [Qv,if_neg k1,if_neg k2,if_neg k3,if_neg k4,if_neg k5,if_neg k6,if_pos k]
   exact ⟨rfl,rfl,rfl,rfl,rfl,rfl,rfl,rfl,rfl,rfl,rfl⟩
theorem FLen.of {T S:Frs} (h:FLen T) (e:S.f=T.f) (e1:S.stock.length=T.stock.length) (e2:S.cash.length=T.cash.length) (e3:S.purses.length=T.purses.length) (e4:S.boxes.length=T.boxes.length):FLen S :=
 ⟨by rw [e1]; exact h.st,by rw [e1,e2]; exact h.ca,by rw [e,e3]; exact h.pu,by rw [e3]; exact h.pl,by rw [e,e4]; exact h.bo,by rw [e4]; exact h.bl,by rw [e]; exact h.bn,by rw [e]; exact h.rf⟩
theorem qf {T:Frs} {d:Dl} {i:Nat} (hF:FOk T i) (hp:posT T d=true) (hi:i≤300):FOk (Qv T d) (i+1):=by
 have hl:=hF.len
 have hat:=pos_at hp
 have hla:=hF.la
 have eB:(1000000+1000000000*((i+1:Nat):Int))=(1000000+1000000000*(i:Int))+1000000000:=by omega
 have eC:1000000000*((i+1:Nat):Int)=1000000000*(i:Int)+1000000000:=by omega
 have eD:1000*((i+1:Nat):Int)=1000*(i:Int)+1000:=by omega
 have a0:0≤1000000000*(i:Int):=by omega
 have u1:∀ x,Bd (1000000+1000000000*(i:Int)) x→Bd (1000000+1000000000*((i+1:Nat):Int)) x:=fun x h=>h.up (by omega)
 have u2:∀ x,Bd (1000000000*(i:Int)) x→Bd (1000000000*((i+1:Nat):Int)) x:=fun x h=>h.up (by omega)
 have u3:∀ p:Pur,Bd (1000000+1000000000*(i:Int)) p.tokens∧Bd 1000000 p.till→Bd (1000000+1000000000*((i+1:Nat):Int)) p.tokens∧Bd 1000000 p.till:=fun p h=>⟨u1 _ h.1,h.2⟩
 have hho:=hF.hours
 have hba:=hF.band
 rcases QaV hp with k | k | k | k | k | k | k
 · obtain ⟨h1,h2,h3,h4⟩:=pos_1 hp k
   have h2:=XZ hl h2
   have e1:=hF.st _ (Xx (d:=0) h1.2)
   have e2:=hF.ca _ (Xx (d:=0) (i:=Int.toNat d.a) (by rw [hl.ca]; exact h1.2))
   have e3:=(hF.pu _ (Xx (d:=⟨0,0⟩) h2.2))
   have e4:=hF.bn _ (Xx (d:=⟨0,0⟩) h3.2)
   have t1:Bd 1000 (bndT T d.n).tokens:=by unfold Bd bndT; omega
   have t2:Bd 1000000 (bndT T d.n).price:=by unfold Bd bndT; omega
   rw [Qv,if_pos k]
   exact ⟨hl.of rfl (by simp) (by simp) (by simp) rfl,hF.bn,hF.band,hF.hours,by simp only; omega,
    XW (fun x hx=>u1 x (hF.st x hx)) (e1.sub t1 (by omega)),XW (fun x hx=>u1 x (hF.ca x hx)) (e2.add t2 (by omega)),
    XW (fun x hx=>u3 x (hF.pu x hx)) ⟨e3.1.add t1 (by omega),e3.2⟩,fun x hx=>by have:=hF.bo x hx; omega,
    u2 _ hF.lo,hF.so.add t1 (by omega),u2 _ hF.ta,u2 _ hF.re,u2 _ hF.nl,hF.nc.add t2 (by omega)⟩
 · obtain ⟨h1,h2,h3,h4⟩:=pos_2 hp k
   have h1:=XZ hl h1
   have h2:=box_in hl h2
   have e1:=hF.pu _ (Xx (d:=⟨0,0⟩) h1.2)
   have e2:=hF.bo _ (Xx (d:=0) h2.2)
   have t1:Bd 1000 d.n:=by unfold Bd; omega
   rw [Qv,if_neg (by omega),if_pos k]
   split
   · exact ⟨hl.of rfl rfl rfl rfl rfl,hF.bn,hF.band,hF.hours,by simp only; omega,
      fun x hx=>u1 x (hF.st x hx),fun x hx=>u1 x (hF.ca x hx),fun x hx=>u3 x (hF.pu x hx),fun x hx=>by have:=hF.bo x hx; omega,
      u2 _ hF.lo,u2 _ hF.so,u2 _ hF.ta,u2 _ hF.re,u2 _ hF.nl,u2 _ hF.nc⟩
   · exact ⟨hl.of rfl rfl rfl (by simp) (by simp),hF.bn,hF.band,hF.hours,by simp only; omega,
      fun x hx=>u1 x (hF.st x hx),fun x hx=>u1 x (hF.ca x hx),XW (fun x hx=>u3 x (hF.pu x hx)) ⟨e1.1.sub t1 (by omega),e1.2⟩,
      XW (fun x hx=>by have:=hF.bo x hx; omega) (by omega),
      u2 _ hF.lo,u2 _ hF.so,hF.ta.add t1 (by omega),u2 _ hF.re,u2 _ hF.nl,u2 _ hF.nc⟩
 · obtain ⟨h1,h2⟩:=pos_3 hp k
   have h2:=XZ hl h2
   have e2:=hF.ca _ (Xx (d:=0) (i:=Int.toNat d.a) (by rw [hl.ca]; exact h1.2))
   have e3:=(hF.pu _ (Xx (d:=⟨0,0⟩) h2.2))
   have t2:Bd 1000000 T.f.band:=by unfold Bd; omega
   have t3:Bd 1000000 (iMax (purT T d.b).till (d.at_+T.f.hours)):=by
    have:=e3.2
    unfold Bd iMax purT at *; split <;> omega
   rw [Qv,if_neg (by omega),if_neg (by omega),if_pos k]
   exact ⟨hl.of rfl rfl (by simp) (by simp) rfl,hF.bn,hF.band,hF.hours,by simp only; omega,
    fun x hx=>u1 x (hF.st x hx),XW (fun x hx=>u1 x (hF.ca x hx)) (e2.add t2 (by omega)),
    XW (fun x hx=>u3 x (hF.pu x hx)) ⟨u1 _ e3.1,t3⟩,fun x hx=>by have:=hF.bo x hx; omega,
    u2 _ hF.lo,u2 _ hF.so,u2 _ hF.ta,u2 _ hF.re,u2 _ hF.nl,hF.nc.add t2 (by omega)⟩
 · obtain ⟨h1,h2,h3⟩:=pos_4 hp k
   have h2:=XZ hl h2
   have e1:=hF.st _ (Xx (d:=0) h1.2)
   have e2:=hF.ca _ (Xx (d:=0) (i:=Int.toNat d.a) (by rw [hl.ca]; exact h1.2))
   have e3:=(hF.pu _ (Xx (d:=⟨0,0⟩) h2.2))
   have t1:Bd 100000 d.n:=by unfold Bd; omega
   have t2:=mul_ref h3 hl.rf
   rw [Qv,if_neg (by omega),if_neg (by omega),if_neg (by omega),if_pos k]
   exact ⟨hl.of rfl (by simp) (by simp) (by simp) rfl,hF.bn,hF.band,hF.hours,by simp only; omega,
    XW (fun x hx=>u1 x (hF.st x hx)) (e1.add t1 (by omega)),XW (fun x hx=>u1 x (hF.ca x hx)) (e2.add t2 (by omega)),
    XW (fun x hx=>u3 x (hF.pu x hx)) ⟨e3.1.sub t1 (by omega),e3.2⟩,fun x hx=>by have:=hF.bo x hx; omega,
    u2 _ hF.lo,u2 _ hF.so,u2 _ hF.ta,hF.re.add t1 (by omega),u2 _ hF.nl,hF.nc.add t2 (by omega)⟩
 · obtain ⟨h1,h2⟩:=pos_5 hp k
   have h2:=box_in hl h2
   have e1:=hF.st _ (Xx (d:=0) h1.2)
   have e2:=hF.bo _ (Xx (d:=0) h2.2)
   have t1:Bd 300000 (T.boxes.getD (Int.toNat d.b) 0):=by unfold Bd; omega
   rw [Qv,if_neg (by omega),if_neg (by omega),if_neg (by omega),if_neg (by omega),if_pos k]
   exact ⟨hl.of rfl (by simp) rfl rfl (by simp),hF.bn,hF.band,hF.hours,by simp only; omega,
    XW (fun x hx=>u1 x (hF.st x hx)) (e1.add t1 (by omega)),fun x hx=>u1 x (hF.ca x hx),
    fun x hx=>u3 x (hF.pu x hx),XW (fun x hx=>by have:=hF.bo x hx; omega) (by omega),
    u2 _ hF.lo,u2 _ hF.so,u2 _ hF.ta,u2 _ hF.re,u2 _ hF.nl,u2 _ hF.nc⟩
 · obtain ⟨h1,h3,h2,h4⟩:=pos_6 hp k
   have h1:=XZ hl h1
   have h2:=XZ hl h2
   have e1:=hF.pu _ (Xx (d:=⟨0,0⟩) h1.2)
   have e2:=hF.pu _ (Xx (d:=⟨0,0⟩) h2.2)
   have t1:Bd 100000 d.n:=by unfold Bd; omega
   rw [Qv,if_neg (by omega),if_neg (by omega),if_neg (by omega),if_neg (by omega),if_neg (by omega),if_pos k]
   exact ⟨hl.of rfl rfl rfl (by simp) rfl,hF.bn,hF.band,hF.hours,by simp only; omega,
    fun x hx=>u1 x (hF.st x hx),fun x hx=>u1 x (hF.ca x hx),
    XW (XW (fun x hx=>u3 x (hF.pu x hx)) ⟨e1.1.sub t1 (by omega),e1.2⟩) ⟨e2.1.add t1 (by omega),e2.2⟩,fun x hx=>by have:=hF.bo x hx; omega,
    u2 _ hF.lo,u2 _ hF.so,u2 _ hF.ta,u2 _ hF.re,u2 _ hF.nl,u2 _ hF.nc⟩
 · obtain ⟨h1,h3⟩:=pos_7 hp k
   have h1:=XZ hl h1
   have e1:=hF.pu _ (Xx (d:=⟨0,0⟩) h1.2)
   have t1:Bd 100000 d.n:=by unfold Bd; omega
   rw [Qv,if_neg (by omega),if_neg (by omega),if_neg (by omega),if_neg (by omega),if_neg (by omega),if_neg (by omega),if_pos k]
   exact ⟨hl.of rfl rfl rfl (by simp) rfl,hF.bn,hF.band,hF.hours,by simp only; omega,
    fun x hx=>u1 x (hF.st x hx),fun x hx=>u1 x (hF.ca x hx),
    XW (fun x hx=>u3 x (hF.pu x hx)) ⟨e1.1.sub t1 (by omega),e1.2⟩,fun x hx=>by have:=hF.bo x hx; omega,
    hF.lo.add t1 (by omega),u2 _ hF.so,u2 _ hF.ta,u2 _ hF.re,hF.nl.add t1 (by omega),u2 _ hF.nc⟩
@[simp] theorem happ_l1 {T:Frs} {d:Dl}:(Qv T d).stock.length=T.stock.length:=by
 unfold Qv; repeat' split
 all_goals simp
@[simp] theorem happ_l2 {T:Frs} {d:Dl}:(Qv T d).cash.length=T.cash.length:=by
 unfold Qv; repeat' split
 all_goals simp
@[simp] theorem happ_l3 {T:Frs} {d:Dl}:(Qv T d).purses.length=T.purses.length:=by
 unfold Qv; repeat' split
 all_goals simp
@[simp] theorem happ_l4 {T:Frs} {d:Dl}:(Qv T d).boxes.length=T.boxes.length:=by
 unfold Qv; repeat' split
 all_goals simp
theorem happ_ok2 (d:Dl) (f:Fair) (stock cash:List Int) (purses:List Pur) (boxes:List Int) (lost last sold taken ret held nlost ncash:Int) (g1 g2 g3 g4:Nat) (h:HapIn (⟨f,stock,cash,purses,boxes,lost,last,sold,taken,ret,held,nlost,ncash⟩:Frs) d):Lent Try.prog 138 [.ptr 0 0 0,.agg (cDl d)] [⟨true,0,1,false,[.int .i64 f.purses,.int .i64 f.boxes,.rsl (rowI f.stock) 0 f.stock.length,.rsl (rowI f.cash) 0 f.cash.length,.rsl (Qr f.bundles) 0 f.bundles.length,.int .i64 f.refund,.int .i64 f.band,.int .i64 f.hours,.sl 1 g1 0 stock.length 1,.sl 2 g2 0 cash.length 1,.sl 3 g3 0 purses.length 2,.sl 4 g4 0 boxes.length 1,.int .i64 lost,.int .i64 last,.int .i64 sold,.int .i64 taken,.int .i64 ret,.int .i64 held,.int .i64 nlost,.int .i64 ncash],false⟩,⟨true,g1,1,true,(rowI stock),true⟩,⟨true,g2,1,true,(rowI cash),true⟩,⟨true,g3,2,true,(Qf purses),true⟩,⟨true,g4,1,true,(rowI boxes),true⟩] (.tup []) [⟨true,0,1,false,[.int .i64 f.purses,.int .i64 f.boxes,.rsl (rowI f.stock) 0 f.stock.length,.rsl (rowI f.cash) 0 f.cash.length,.rsl (Qr f.bundles) 0 f.bundles.length,.int .i64 f.refund,.int .i64 f.band,.int .i64 f.hours,.sl 1 g1 0 stock.length 1,.sl 2 g2 0 cash.length 1,.sl 3 g3 0 purses.length 2,.sl 4 g4 0 boxes.length 1,.int .i64 ((Qv (⟨f,stock,cash,purses,boxes,lost,last,sold,taken,ret,held,nlost,ncash⟩:Frs) d).lost),.int .i64 ((Qv (⟨f,stock,cash,purses,boxes,lost,last,sold,taken,ret,held,nlost,ncash⟩:Frs) d).last),.int .i64 ((Qv (⟨f,stock,cash,purses,boxes,lost,last,sold,taken,ret,held,nlost,ncash⟩:Frs) d).sold),.int .i64 ((Qv (⟨f,stock,cash,purses,boxes,lost,last,sold,taken,ret,held,nlost,ncash⟩:Frs) d).taken),.int .i64 ((Qv (⟨f,stock,cash,purses,boxes,lost,last,sold,taken,ret,held,nlost,ncash⟩:Frs) d).ret),.int .i64 held,.int .i64 ((Qv (⟨f,stock,cash,purses,boxes,lost,last,sold,taken,ret,held,nlost,ncash⟩:Frs) d).nlost),.int .i64 ((Qv (⟨f,stock,cash,purses,boxes,lost,last,sold,taken,ret,held,nlost,ncash⟩:Frs) d).ncash)],false⟩,⟨true,g1,1,true,(rowI (Qv (⟨f,stock,cash,purses,boxes,lost,last,sold,taken,ret,held,nlost,ncash⟩:Frs) d).stock),true⟩,⟨true,g2,1,true,(rowI (Qv (⟨f,stock,cash,purses,boxes,lost,last,sold,taken,ret,held,nlost,ncash⟩:Frs) d).cash),true⟩,⟨true,g3,2,true,(Qf (Qv (⟨f,stock,cash,purses,boxes,lost,last,sold,taken,ret,held,nlost,ncash⟩:Frs) d).purses),true⟩,⟨true,g4,1,true,(rowI (Qv (⟨f,stock,cash,purses,boxes,lost,last,sold,taken,ret,held,nlost,ncash⟩:Frs) d).boxes),true⟩]:=by
 have:=happ_ok d f stock cash purses boxes lost last sold taken ret held nlost ncash g1 g2 g3 g4 h
 simp only [happ_l1,happ_l2,happ_l3,happ_l4] at this
 exact this
end Go.Proofs.Ytemklbioijmjiaa
namespace Go.Proofs.Ytemklbioijmjiaa
open Go Ax
open Go.Proofs
structure Ngt where
 sold:Int
 taken:Int
 ret:Int
 held:Int
 lost:Int
 cash:Int
def cNgt (t:Ngt):List AV:=[.int .i64 t.sold,.int .i64 t.taken,.int .i64 t.ret,.int .i64 t.held,.int .i64 t.lost,.int .i64 t.cash]
def Qi (f:Fair):Frs:=⟨f,f.stock,f.cash,List.replicate (Int.toNat f.purses) ⟨0,0⟩,List.replicate (Int.toNat f.boxes) 0,0,0,0,0,0,0,0,0⟩
def runT (T:Frs) (l:List Dl):Frs:=l.foldl Qv T
/-- The first deal that can not happen. -/
def Wx:Frs→List Dl→Nat→Option Nat
 | _,[],_=>none
 | T,d :: l,i=>if posT T d=true then Wx (Qv T d) l (i+1) else some i
def badR:Option Nat→Int × Int
 | some i=>((i:Int),11)
 | none=>(0,0)
def QH (f:Fair) (l:List Dl):Int × Int:=if Xb f=0 then (if (l.length:Int) > 200 then (0,2) else badR (Wx (Qi f) l 0)) else (0,Xb f)
def Vs (f:Fair) (l:List Dl):Prop:=FairSmall f
def accK (f:Fair) (l:List Dl):Ngt × Int :=
 if (QH f l).2=0 then (⟨(runT (Qi f) l).sold,(runT (Qi f) l).taken,(runT (Qi f) l).ret,((runT (Qi f) l).purses.map Pur.tokens).sum,(runT (Qi f) l).nlost,(runT (Qi f) l).ncash⟩,0) else (⟨0,0,0,0,0,0⟩,(QH f l).2)
theorem happT_f {T:Frs} {d:Dl}:(Qv T d).f=T.f:=by
 unfold Qv; repeat' split
 all_goals rfl
theorem happT_held {T:Frs} {d:Dl}:(Qv T d).held=T.held:=by
 unfold Qv; repeat' split
 all_goals rfl
theorem runT_f {l:List Dl}:∀ {T:Frs},(runT T l).f=T.f:=by
 induction l with
 | nil=>intro T; rfl
 | cons d l ih=>intro T; exact (ih (T:=Qv T d)).trans happT_f
theorem run_ok {l:List Dl}:∀ {T:Frs} {i j:Nat},FOk T i→Wx T l j=none→i+l.length≤300→FOk (runT T l) (i+l.length):=by
 induction l with
 | nil=>intro T i j h _ _; exact h
 | cons d l ih =>
  intro T i j h hb hk
  rw [Wx] at hb
  split at hb
  · rename_i hp
    rw [List.length_cons] at hk
    have:=ih (qf h hp (by omega)) hb (by omega)
    rw [List.length_cons,show i+(l.length+1)=i+1+l.length by omega]
    exact this
  · cases hb
structure FairV (f:Fair):Prop where
 st:(1≤f.stock.length∧f.stock.length≤8)∧∀ x ∈ f.stock,0≤x∧x≤100000
 ca:f.cash.length=f.stock.length∧∀ x ∈ f.cash,0≤x∧x≤1000000
 pu:0≤f.purses∧f.purses≤20
 bo:0≤f.boxes∧f.boxes≤12
 bn:f.bundles.length≤6∧∀ b ∈ f.bundles,(1≤b.tokens∧b.tokens≤1000)∧(1≤b.price∧b.price≤1000000)
 rf:0≤f.refund∧f.refund≤1000
 band:0≤f.band∧f.band≤1000000
 hours:1≤f.hours∧f.hours≤1440
theorem fairE_ok {f:Fair} (h:Xb f=0):Yt f=true:=by
 unfold Xb at h
 split at h
 · assumption
 · omega
theorem qG {f:Fair} (h:Xb f=0):FairV f:=by
 have h:=fairE_ok h
 simp only [Yt,Bool.and_eq_true,decide_eq_true_eq,Bool.not_eq_true'] at h
 obtain ⟨h1,h2,h3,h4,h5,h6,h7,h8,h9,h10,h11⟩:=h
 have o:∀ {lo hi x:Int},¬ outB lo hi x=true→lo≤x∧x≤hi:=fun h=>Qq.1 (by simpa [outB] using h)
 rw [List.any_eq_false] at h6 h7 h11
 have q1:=Qq.1 h1
 refine ⟨⟨by omega,fun x hx=>o (h6 x hx)⟩,⟨h2,fun x hx=>o (h7 x hx)⟩,Qq.1 h3,Qq.1 h4,⟨h5,fun b hb=>?_⟩,Qq.1 h8,Qq.1 h9,Qq.1 h10⟩
 have:=h11 b hb
 unfold badB at this
 split at this
 · rename_i a
   split at this
   · rename_i c; exact ⟨Qq.1 a,Qq.1 c⟩
   · simp at this
 · simp at this
theorem Wu {f:Fair} (h:Xb f=0):FOk (Qi f) 0:=by
 have v:=qG h
 have z:∀ B:Int,0≤B→Bd B 0:=fun B hB=>by unfold Bd; omega
 exact ⟨⟨by show f.stock.length≤1000000; have:=v.st.1; omega,v.ca.1,by show f.purses=((List.replicate _ _).length:Nat); have:=v.pu; simp; omega,by show (List.replicate _ _).length≤1000000; have:=v.pu; simp; omega,
  by show f.boxes=((List.replicate _ _).length:Nat); have:=v.bo; simp; omega,by show (List.replicate _ _).length≤1000000; have:=v.bo; simp; omega,by show f.bundles.length≤1000000; have:=v.bn.1; omega,v.rf⟩,
  v.bn.2,v.band,v.hours,by simp [Qi],
  fun x hx=>by have:=v.st.2 x hx; unfold Bd; omega,fun x hx=>by have:=v.ca.2 x hx; unfold Bd; omega,
  fun p hp=>by rw [List.eq_of_mem_replicate hp]; exact ⟨z _ (by omega),z _ (by omega)⟩,fun x hx=>by rw [List.eq_of_mem_replicate hx]; omega,
  z _ (by omega),z _ (by omega),z _ (by omega),z _ (by omega),z _ (by omega),z _ (by omega)⟩
theorem f136b:Try.f136.body=some (Qd Try.prog 136):=by kernel_rfl
theorem p136_start_0 (f:Fair) {E:Env} {res:AV} {bs2:List Blk} (hE:LentE Try.prog 136 [] res bs2 E) (ho:AllP [PureO Try.prog (.clos 171 [] []) [.rsl (rowI f.stock) 0 f.stock.length] f.stock.length 1 (rowI f.stock),PureO Try.prog (.clos 171 [] []) [.rsl (rowI f.cash) 0 f.cash.length] f.cash.length 1 (rowI f.cash),0≤f.purses∧f.purses≤f.purses∧f.purses≤2147483648,0≤f.boxes∧f.boxes≤f.boxes∧f.boxes≤2147483648,5≤5])
 (hr:(.ptr 6 0 0)=res) (hb:[⟨true,0,1,true,[.int .i64 f.purses,.int .i64 f.boxes,.rsl (rowI f.stock) 0 f.stock.length,.rsl (rowI f.cash) 0 f.cash.length,.rsl (Qr f.bundles) 0 f.bundles.length,.int .i64 f.refund,.int .i64 f.band,.int .i64 f.hours],false⟩,⟨true,0,1,true,(rowI f.stock),true⟩,⟨true,0,1,true,(rowI f.cash),true⟩,⟨true,0,2,true,((List.replicate (Int.toNat f.purses) ([.int .i64 0,.int .i64 0]:List AV)).flatten),true⟩,⟨true,0,1,true,((List.replicate (Int.toNat f.boxes) ([.int .i64 0]:List AV)).flatten),true⟩,⟨true,0,1,false,[.sl 1 0 0 f.stock.length 1,.sl 2 0 0 f.cash.length 1,.sl 3 0 0 (Int.toNat f.purses) 2,.sl 4 0 0 (Int.toNat f.boxes) 1,.int .i64 0],false⟩,⟨true,0,1,false,[.int .i64 f.purses,.int .i64 f.boxes,.rsl (rowI f.stock) 0 f.stock.length,.rsl (rowI f.cash) 0 f.cash.length,.rsl (Qr f.bundles) 0 f.bundles.length,.int .i64 f.refund,.int .i64 f.band,.int .i64 f.hours,.sl 1 0 0 f.stock.length 1,.sl 2 0 0 f.cash.length 1,.sl 3 0 0 (Int.toNat f.purses) 2,.sl 4 0 0 (Int.toNat f.boxes) 1,.int .i64 0,.int .i64 0,.int .i64 0,.int .i64 0,.int .i64 0,.int .i64 0,.int .i64 0,.int .i64 0],false⟩]=bs2):G Try.prog E [.code (Qd Try.prog 136)] ⟨[.agg [.int .i64 f.purses,.int .i64 f.boxes,.rsl (rowI f.stock) 0 f.stock.length,.rsl (rowI f.cash) 0 f.cash.length,.rsl (Qr f.bundles) 0 f.bundles.length,.int .i64 f.refund,.int .i64 f.band,.int .i64 f.hours]]++unds (Try.f136.ntmps - 1),[]⟩ :=
 QV (n:=400) (live:=[2]) (m:=7) (evs:=[.lent [] (.sl 0 0 0 f.stock.length 1) [⟨true,0,1,true,(rowI f.stock),true⟩],.lent [] (.sl 0 0 0 f.cash.length 1) [⟨true,0,1,true,(rowI f.cash),true⟩]]) (obs:=_) hE (hE.nogh0 _) Try.func136 Qp (by kernel_rfl) ho hr hb
theorem f136W (f:Fair) {E:Env} {rv:Unit} {stock2:List Int} {cash2:List Int} {purses2:List Pur} {boxes2:List Int} (hE:LentE Try.prog 136 [] (.ptr 6 0 0) [⟨true,0,1,true,[.int .i64 f.purses,.int .i64 f.boxes,.rsl (rowI f.stock) 0 f.stock.length,.rsl (rowI f.cash) 0 f.cash.length,.rsl (Qr f.bundles) 0 f.bundles.length,.int .i64 f.refund,.int .i64 f.band,.int .i64 f.hours],false⟩,⟨true,0,1,true,(rowI stock2),true⟩,⟨true,0,1,true,(rowI cash2),true⟩,⟨true,0,2,true,(Qf purses2),true⟩,⟨true,0,1,true,(rowI boxes2),true⟩,⟨true,0,1,false,[.sl 1 0 0 stock2.length 1,.sl 2 0 0 cash2.length 1,.sl 3 0 0 purses2.length 2,.sl 4 0 0 boxes2.length 1,.int .i64 0],false⟩,⟨true,0,1,false,[.int .i64 f.purses,.int .i64 f.boxes,.rsl (rowI f.stock) 0 f.stock.length,.rsl (rowI f.cash) 0 f.cash.length,.rsl (Qr f.bundles) 0 f.bundles.length,.int .i64 f.refund,.int .i64 f.band,.int .i64 f.hours,.sl 1 0 0 stock2.length 1,.sl 2 0 0 cash2.length 1,.sl 3 0 0 purses2.length 2,.sl 4 0 0 boxes2.length 1,.int .i64 0,.int .i64 0,.int .i64 0,.int .i64 0,.int .i64 0,.int .i64 0,.int .i64 0,.int .i64 0],false⟩] E)
 (h:((f.stock ≠ []∧f.stock.length≤2147483648)∧((f.cash ≠ []∧f.cash.length≤2147483648)∧((0≤f.purses∧f.purses≤2147483648)∧((0≤f.boxes∧f.boxes≤2147483648)∧stock2=f.stock∧cash2=f.cash∧purses2=(List.replicate (Int.toNat f.purses) ((⟨0,0⟩:Pur):Pur))∧boxes2=(List.replicate (Int.toNat f.boxes) (0:Int))))))):G Try.prog E [.code (Qd Try.prog 136)] ⟨[.agg [.int .i64 f.purses,.int .i64 f.boxes,.rsl (rowI f.stock) 0 f.stock.length,.rsl (rowI f.cash) 0 f.cash.length,.rsl (Qr f.bundles) 0 f.bundles.length,.int .i64 f.refund,.int .i64 f.band,.int .i64 f.hours]]++unds (Try.f136.ntmps - 1),[]⟩:=by
 obtain ⟨h1,h⟩:=h
 obtain ⟨h2,h⟩:=h
 obtain ⟨h3,h⟩:=h
 obtain ⟨h4,h⟩:=h
 obtain ⟨qe0,qe1,qe2,qe3⟩:=h
 exact p136_start_0 f hE ⟨(WV Try.func171 (by kernel_rfl) f171b (clone_ok f.stock h1) (by decide) (scal_Int f.stock)),(WV Try.func171 (by kernel_rfl) f171b (clone_ok f.cash h2) (by decide) (scal_Int f.cash)),⟨h3.1,by omega,h3.2⟩,⟨h4.1,by omega,h4.2⟩,(by decide),trivial⟩ (by try rfl) (by rw [qe0,qe1,qe2,qe3]; rw [(show (List.replicate (Int.toNat f.purses) ([.int .i64 0,.int .i64 0]:List AV)).flatten=Qf (List.replicate (Int.toNat f.purses) ((⟨0,0⟩:Pur):Pur)) from WK cPur _ ((⟨0,0⟩:Pur):Pur))]; rw [(show (List.replicate (Int.toNat f.boxes) ([.int .i64 0]:List AV)).flatten=rowI (List.replicate (Int.toNat f.boxes) (0:Int)) from WK cI _ _)]; all_goals (first | rfl | (simp only [List.length_set]; done) | (simp only [List.length_set]; rfl) | (simp only [List.length_set,List.length_replicate]; done)))
def BegIn (f:Fair):Prop:=(1≤f.stock.length∧f.stock.length≤1000)∧(1≤f.cash.length∧f.cash.length≤1000)∧(0≤f.purses∧f.purses≤1000)∧(0≤f.boxes∧f.boxes≤1000)
theorem begin_ok (f:Fair) (h:BegIn f):Lent Try.prog 136 [.agg [.int .i64 f.purses,.int .i64 f.boxes,.rsl (rowI f.stock) 0 f.stock.length,.rsl (rowI f.cash) 0 f.cash.length,.rsl (Qr f.bundles) 0 f.bundles.length,.int .i64 f.refund,.int .i64 f.band,.int .i64 f.hours]] [] (.ptr 6 0 0) [⟨true,0,1,true,[.int .i64 f.purses,.int .i64 f.boxes,.rsl (rowI f.stock) 0 f.stock.length,.rsl (rowI f.cash) 0 f.cash.length,.rsl (Qr f.bundles) 0 f.bundles.length,.int .i64 f.refund,.int .i64 f.band,.int .i64 f.hours],false⟩,⟨true,0,1,true,(rowI f.stock),true⟩,⟨true,0,1,true,(rowI f.cash),true⟩,⟨true,0,2,true,(Qf (List.replicate (Int.toNat f.purses) ((⟨0,0⟩:Pur):Pur))),true⟩,⟨true,0,1,true,(rowI (List.replicate (Int.toNat f.boxes) (0:Int))),true⟩,⟨true,0,1,false,[.sl 1 0 0 f.stock.length 1,.sl 2 0 0 f.cash.length 1,.sl 3 0 0 ((List.replicate (Int.toNat f.purses) ((⟨0,0⟩:Pur):Pur)).length) 2,.sl 4 0 0 ((List.replicate (Int.toNat f.boxes) (0:Int)).length) 1,.int .i64 0],false⟩,⟨true,0,1,false,[.int .i64 f.purses,.int .i64 f.boxes,.rsl (rowI f.stock) 0 f.stock.length,.rsl (rowI f.cash) 0 f.cash.length,.rsl (Qr f.bundles) 0 f.bundles.length,.int .i64 f.refund,.int .i64 f.band,.int .i64 f.hours,.sl 1 0 0 f.stock.length 1,.sl 2 0 0 f.cash.length 1,.sl 3 0 0 ((List.replicate (Int.toNat f.purses) ((⟨0,0⟩:Pur):Pur)).length) 2,.sl 4 0 0 ((List.replicate (Int.toNat f.boxes) (0:Int)).length) 1,.int .i64 0,.int .i64 0,.int .i64 0,.int .i64 0,.int .i64 0,.int .i64 0,.int .i64 0,.int .i64 0],false⟩]:=VH Try.func136 f136b fun E hE=>by
 obtain ⟨h1,h2,h3,h4⟩:=h
 have q1:f.stock ≠ []:=fun e=>by rw [e] at h1; simp at h1
 have q2:f.cash ≠ []:=fun e=>by rw [e] at h2; simp at h2
 exact f136W f (rv:=()) hE ⟨⟨q1,by omega⟩,⟨q2,by omega⟩,by omega,by omega,rfl,rfl,rfl,rfl⟩
theorem f72b:Try.f72.body=some (Qd Try.prog 72):=by kernel_rfl
theorem u72 {a c k:List AV} {r:AV} (h:Pure Try.prog 72 (a++c++k) r):Qe Try.prog (.clos 72 a k) c r:=Qs Try.func72 (by kernel_rfl) f72b h
theorem p72_start_0 (T:Frs) {E:Env} {res:AV} (hE:Qg Try.prog 72 res E) (ho:AllP [])
 (hr:AvLe (.tup []) res):G Try.prog E [.code (Qd Try.prog 72)] ⟨[.rptr [.int .i64 T.f.purses,.int .i64 T.f.boxes,.rsl (rowI T.f.stock) 0 T.f.stock.length,.rsl (rowI T.f.cash) 0 T.f.cash.length,.rsl (Qr T.f.bundles) 0 T.f.bundles.length,.int .i64 T.f.refund,.int .i64 T.f.band,.int .i64 T.f.hours,.rsl (rowI T.stock) 0 T.stock.length,.rsl (rowI T.cash) 0 T.cash.length,.rsl (Qf T.purses) 0 T.purses.length,.rsl (rowI T.boxes) 0 T.boxes.length,.int .i64 T.lost,.int .i64 T.last,.int .i64 T.sold,.int .i64 T.taken,.int .i64 T.ret,.int .i64 T.held,.int .i64 T.nlost,.int .i64 T.ncash] 0]++unds (Try.f72.ntmps - 1),[]⟩ :=
 Qc (n:=400) (evs:=[]) (obs:=_) hE Try.func72 Qp (by kernel_rfl) ho hr
theorem f72W (T:Frs) {E:Env} {rv:Unit} (hE:Qg Try.prog 72 (.tup []) E)
 (h:rv=()):G Try.prog E [.code (Qd Try.prog 72)] ⟨[.rptr [.int .i64 T.f.purses,.int .i64 T.f.boxes,.rsl (rowI T.f.stock) 0 T.f.stock.length,.rsl (rowI T.f.cash) 0 T.f.cash.length,.rsl (Qr T.f.bundles) 0 T.f.bundles.length,.int .i64 T.f.refund,.int .i64 T.f.band,.int .i64 T.f.hours,.rsl (rowI T.stock) 0 T.stock.length,.rsl (rowI T.cash) 0 T.cash.length,.rsl (Qf T.purses) 0 T.purses.length,.rsl (rowI T.boxes) 0 T.boxes.length,.int .i64 T.lost,.int .i64 T.last,.int .i64 T.sold,.int .i64 T.taken,.int .i64 T.ret,.int .i64 T.held,.int .i64 T.nlost,.int .i64 T.ncash] 0]++unds (Try.f72.ntmps - 1),[]⟩:=by
 exact p72_start_0 T hE trivial (AvLe.of_eq rfl)
theorem quiet_ok (T:Frs):Pure Try.prog 72 [.rptr (cFrs T) 0] (.tup []):=QC Try.func72 f72b fun E hE=>f72W T (rv:=()) hE rfl
theorem f71b:Try.f71.body=some (Qd Try.prog 71):=by kernel_rfl
def f71K0 (P:Program):List Item:=kAt 400 [.code (Qd P 71)] [.b false,.b false,.stop]
def f71S0 (f:Fair) (l:(List Dl)) (i:Nat) (v2:List Int) (v3:List Int) (v4:List Pur) (v5:List Int) (v7_12:Int) (v7_13:Int) (v7_14:Int) (v7_15:Int) (v7_16:Int) (v7_18:Int) (v7_19:Int):St:=⟨([J,J,.clos 72 [] [],J,J,J,.ptr 7 0 0]++jj 15 ([.rsl (Qu l) 0 l.length,.int .i64 (l.length:Int),.int .i64 (i:Int)]++Js 17)),[⟨true,0,1,true,[.int .i64 f.purses,.int .i64 f.boxes,.rsl (rowI f.stock) 0 f.stock.length,.rsl (rowI f.cash) 0 f.cash.length,.rsl (Qr f.bundles) 0 f.bundles.length,.int .i64 f.refund,.int .i64 f.band,.int .i64 f.hours],false⟩,⟨true,0,1,true,[.int .i64 f.purses,.int .i64 f.boxes,.rsl (rowI f.stock) 0 f.stock.length,.rsl (rowI f.cash) 0 f.cash.length,.rsl (Qr f.bundles) 0 f.bundles.length,.int .i64 f.refund,.int .i64 f.band,.int .i64 f.hours],false⟩,⟨true,0,1,true,(rowI v2),true⟩,⟨true,0,1,true,(rowI v3),true⟩,⟨true,0,2,true,(Qf v4),true⟩,⟨true,0,1,true,(rowI v5),true⟩,⟨true,0,1,false,[.sl 2 0 0 v2.length 1,.sl 3 0 0 v3.length 1,.sl 4 0 0 v4.length 2,.sl 5 0 0 v5.length 1,.int .i64 0],false⟩,⟨true,0,1,false,[.int .i64 f.purses,.int .i64 f.boxes,.rsl (rowI f.stock) 0 f.stock.length,.rsl (rowI f.cash) 0 f.cash.length,.rsl (Qr f.bundles) 0 f.bundles.length,.int .i64 f.refund,.int .i64 f.band,.int .i64 f.hours,.sl 2 0 0 v2.length 1,.sl 3 0 0 v3.length 1,.sl 4 0 0 v4.length 2,.sl 5 0 0 v5.length 1,.int .i64 v7_12,.int .i64 v7_13,.int .i64 v7_14,.int .i64 v7_15,.int .i64 v7_16,.int .i64 0,.int .i64 v7_18,.int .i64 v7_19],false⟩]⟩
def f71G0 (E:Env) (f:Fair) (l:(List Dl)) (i:Nat) (v2:List Int) (v3:List Int) (v4:List Pur) (v5:List Int) (v7_12:Int) (v7_13:Int) (v7_14:Int) (v7_15:Int) (v7_16:Int) (v7_18:Int) (v7_19:Int):Prop:=G Try.prog E (f71K0 Try.prog) (f71S0 f l i v2 v3 v4 v5 v7_12 v7_13 v7_14 v7_15 v7_16 v7_18 v7_19 )
abbrev qp (f:Fair):List AV:=[.int .i64 f.purses,.int .i64 f.boxes,.rsl (rowI f.stock) 0 f.stock.length,.rsl (rowI f.cash) 0 f.cash.length,.rsl (Qr f.bundles) 0 f.bundles.length,.int .i64 f.refund,.int .i64 f.band,.int .i64 f.hours]
abbrev z71_2 (de:Dl):List AV:=[.int .i64 de.at_,.int .i64 de.kind,.int .i64 de.a,.int .i64 de.b,.int .i64 de.n]
theorem p71_start_0 (f:Fair) (l:(List Dl)) {E:Env} {res:AV} {bs2:List Blk} (hE:LentE Try.prog 71 [] res bs2 E) (ho:AllP [Qe Try.prog (.clos 114 [] []) [.agg (qp f)] (.int .i64 (Xb f)),((Xb f) != 0)=true])
 (hr:(.tup [.nilPtr,.int .i64 0,.int .i64 (Xb f)])=res) (hb:[]=bs2):G Try.prog E [.code (Qd Try.prog 71)] ⟨[.agg (qp f),.rsl (Qu l) 0 l.length,.clos 72 [] []]++unds (Try.f71.ntmps - 3),[]⟩ :=
 QV (n:=400) (live:=[6,7,8]) (m:=0) (evs:=[.v (.int .i64 (Xb f)),.b true]) (obs:=_) hE (hE.nogh0 _) Try.func71 Qp (by kernel_rfl) ho hr hb
theorem p71_start_1 (f:Fair) (l:(List Dl)) {E:Env} {res:AV} {bs2:List Blk} (hE:LentE Try.prog 71 [] res bs2 E) (ho:AllP [Qe Try.prog (.clos 114 [] []) [.agg (qp f)] (.int .i64 (Xb f)),((Xb f) != 0)=false,(decide ((l.length:Int) > 200))=true])
 (hr:(.tup [.nilPtr,.int .i64 0,.int .i64 2])=res) (hb:[]=bs2):G Try.prog E [.code (Qd Try.prog 71)] ⟨[.agg (qp f),.rsl (Qu l) 0 l.length,.clos 72 [] []]++unds (Try.f71.ntmps - 3),[]⟩ :=
 QV (n:=400) (live:=[6,7,8]) (m:=0) (evs:=[.v (.int .i64 (Xb f)),.b false,.b true]) (obs:=_) hE (hE.nogh0 _) Try.func71 Qp (by kernel_rfl) ho hr hb
theorem p71_start_2 (f:Fair) (l:(List Dl)) {E:Env} {rv:AV} {bs2:List Blk} (hE:LentE Try.prog 71 [] rv bs2 E) (ho:AllP [Qe Try.prog (.clos 114 [] []) [.agg (qp f)] (.int .i64 (Xb f)),((Xb f) != 0)=false,(decide ((l.length:Int) > 200))=false,Xf Try.prog (.clos 136 [] []) [.agg (qp f)] [] (.ptr 6 0 0) [⟨true,0,1,true,(qp f),false⟩,⟨true,0,1,true,(rowI f.stock),true⟩,⟨true,0,1,true,(rowI f.cash),true⟩,⟨true,0,2,true,(Qf (List.replicate (Int.toNat f.purses) ((⟨0,0⟩:Pur):Pur))),true⟩,⟨true,0,1,true,(rowI (List.replicate (Int.toNat f.boxes) (0:Int))),true⟩,⟨true,0,1,false,[.sl 1 0 0 f.stock.length 1,.sl 2 0 0 f.cash.length 1,.sl 3 0 0 ((List.replicate (Int.toNat f.purses) ((⟨0,0⟩:Pur):Pur)).length) 2,.sl 4 0 0 ((List.replicate (Int.toNat f.boxes) (0:Int)).length) 1,.int .i64 0],false⟩,⟨true,0,1,false,[.int .i64 f.purses,.int .i64 f.boxes,.rsl (rowI f.stock) 0 f.stock.length,.rsl (rowI f.cash) 0 f.cash.length,.rsl (Qr f.bundles) 0 f.bundles.length,.int .i64 f.refund,.int .i64 f.band,.int .i64 f.hours,.sl 1 0 0 f.stock.length 1,.sl 2 0 0 f.cash.length 1,.sl 3 0 0 ((List.replicate (Int.toNat f.purses) ((⟨0,0⟩:Pur):Pur)).length) 2,.sl 4 0 0 ((List.replicate (Int.toNat f.boxes) (0:Int)).length) 1,.int .i64 0,.int .i64 0,.int .i64 0,.int .i64 0,.int .i64 0,.int .i64 0,.int .i64 0,.int .i64 0],false⟩]])
 (hg:G Try.prog E (f71K0 Try.prog) ⟨([J,J,.clos 72 [] [],J,J,J,.ptr 7 0 0]++jj 15 ([.rsl (Qu l) 0 l.length,.int .i64 (l.length:Int),.int .i64 0]++Js 17)),[⟨true,0,1,true,(qp f),false⟩,⟨true,0,1,true,(qp f),false⟩,⟨true,0,1,true,(rowI f.stock),true⟩,⟨true,0,1,true,(rowI f.cash),true⟩,⟨true,0,2,true,(Qf (List.replicate (Int.toNat f.purses) ((⟨0,0⟩:Pur):Pur))),true⟩,⟨true,0,1,true,(rowI (List.replicate (Int.toNat f.boxes) (0:Int))),true⟩,⟨true,0,1,false,[.sl 2 0 0 f.stock.length 1,.sl 3 0 0 f.cash.length 1,.sl 4 0 0 ((List.replicate (Int.toNat f.purses) ((⟨0,0⟩:Pur):Pur)).length) 2,.sl 5 0 0 ((List.replicate (Int.toNat f.boxes) (0:Int)).length) 1,.int .i64 0],false⟩,⟨true,0,1,false,[.int .i64 f.purses,.int .i64 f.boxes,.rsl (rowI f.stock) 0 f.stock.length,.rsl (rowI f.cash) 0 f.cash.length,.rsl (Qr f.bundles) 0 f.bundles.length,.int .i64 f.refund,.int .i64 f.band,.int .i64 f.hours,.sl 2 0 0 f.stock.length 1,.sl 3 0 0 f.cash.length 1,.sl 4 0 0 ((List.replicate (Int.toNat f.purses) ((⟨0,0⟩:Pur):Pur)).length) 2,.sl 5 0 0 ((List.replicate (Int.toNat f.boxes) (0:Int)).length) 1,.int .i64 0,.int .i64 0,.int .i64 0,.int .i64 0,.int .i64 0,.int .i64 0,.int .i64 0,.int .i64 0],false⟩]⟩):G Try.prog E [.code (Qd Try.prog 71)] ⟨[.agg (qp f),.rsl (Qu l) 0 l.length,.clos 72 [] []]++unds (Try.f71.ntmps - 3),[]⟩ :=
 Ql (n:=400) (ds:=[]) (cs:=[]) (live:=[2,6,22,23,24]) (m:=8) (evs:=[.v (.int .i64 (Xb f)),.b false,.b false,.lent [] (.ptr 6 0 0) [⟨true,0,1,true,(qp f),false⟩,⟨true,0,1,true,(rowI f.stock),true⟩,⟨true,0,1,true,(rowI f.cash),true⟩,⟨true,0,2,true,(Qf (List.replicate (Int.toNat f.purses) ((⟨0,0⟩:Pur):Pur))),true⟩,⟨true,0,1,true,(rowI (List.replicate (Int.toNat f.boxes) (0:Int))),true⟩,⟨true,0,1,false,[.sl 1 0 0 f.stock.length 1,.sl 2 0 0 f.cash.length 1,.sl 3 0 0 ((List.replicate (Int.toNat f.purses) ((⟨0,0⟩:Pur):Pur)).length) 2,.sl 4 0 0 ((List.replicate (Int.toNat f.boxes) (0:Int)).length) 1,.int .i64 0],false⟩,⟨true,0,1,false,[.int .i64 f.purses,.int .i64 f.boxes,.rsl (rowI f.stock) 0 f.stock.length,.rsl (rowI f.cash) 0 f.cash.length,.rsl (Qr f.bundles) 0 f.bundles.length,.int .i64 f.refund,.int .i64 f.band,.int .i64 f.hours,.sl 1 0 0 f.stock.length 1,.sl 2 0 0 f.cash.length 1,.sl 3 0 0 ((List.replicate (Int.toNat f.purses) ((⟨0,0⟩:Pur):Pur)).length) 2,.sl 4 0 0 ((List.replicate (Int.toNat f.boxes) (0:Int)).length) 1,.int .i64 0,.int .i64 0,.int .i64 0,.int .i64 0,.int .i64 0,.int .i64 0,.int .i64 0,.int .i64 0],false⟩],.stop]) (obs:=_) hE.kind (hE.nogh0 _) Qp (by kernel_rfl) ho hg
theorem f71W (f:Fair) (l:(List Dl)) {E:Env} {res:AV} {bs2:List Blk} (hE:LentE Try.prog 71 [] res bs2 E)
 (h:((FairSmall f)∧((¬ ((Xb f)=0)→((.tup [.nilPtr,.int .i64 0,.int .i64 (Xb f)])=res∧[]=bs2))∧((Xb f)=0→(((l.length:Int) > 200→((.tup [.nilPtr,.int .i64 0,.int .i64 2])=res∧[]=bs2))∧(¬ ((l.length:Int) > 200)→((BegIn f)∧f71G0 E f l 0 f.stock f.cash (List.replicate (Int.toNat f.purses) ((⟨0,0⟩:Pur):Pur)) (List.replicate (Int.toNat f.boxes) (0:Int)) 0 0 0 0 0 0 0))))))):G Try.prog E [.code (Qd Try.prog 71)] ⟨[.agg [.int .i64 f.purses,.int .i64 f.boxes,.rsl (rowI f.stock) 0 f.stock.length,.rsl (rowI f.cash) 0 f.cash.length,.rsl (Qr f.bundles) 0 f.bundles.length,.int .i64 f.refund,.int .i64 f.band,.int .i64 f.hours],.rsl (Qu l) 0 l.length,.clos 72 [] []]++unds (Try.f71.ntmps - 3),[]⟩:=by
 obtain ⟨h1,h⟩:=h
 rcases bft ((Xb f) != 0) with hc0 | hc0
 · have h:=h.1 (bneT hc0)
   exact p71_start_0 f l hE ⟨(u114 (Vx f h1)),hc0,trivial⟩ h.1 h.2
 · have h:=h.2 (bneF hc0)
   rcases bft (decide ((l.length:Int) > 200)) with hc1 | hc1
   · have h:=h.1 (odt hc1)
     exact p71_start_1 f l hE ⟨(u114 (Vx f h1)),hc0,hc1,trivial⟩ h.1 h.2
   · have h:=h.2 (odf hc1)
     obtain ⟨h2,h⟩:=h
     exact p71_start_2 f l hE ⟨(u114 (Vx f h1)),hc0,hc1,(Qw Try.func136 (by kernel_rfl) f136b (begin_ok f h2)),trivial⟩ h
theorem p71_0_0 (f:Fair) (l:(List Dl)) (i:Nat) (v2:List Int) (v3:List Int) (v4:List Pur) (v5:List Int) (v7_12:Int) (v7_13:Int) (v7_14:Int) (v7_15:Int) (v7_16:Int) (v7_18:Int) (v7_19:Int) (de:Dl) {E:Env} {res:AV} {bs2:List Blk} (hE:LentE Try.prog 71 [] res bs2 E) (ho:AllP [(decide ((i:Int)<(l.length:Int)))=true,0≤(i:Int)∧(i:Int)<(l.length:Int),((Qu l).drop (0+(Int.toNat (i:Int))*5)).take 5=(z71_2 de),5≤5,Qe Try.prog (.clos 137 [] []) [.rptr [.int .i64 f.purses,.int .i64 f.boxes,.rsl (rowI f.stock) 0 f.stock.length,.rsl (rowI f.cash) 0 f.cash.length,.rsl (Qr f.bundles) 0 f.bundles.length,.int .i64 f.refund,.int .i64 f.band,.int .i64 f.hours,.rsl (rowI v2) 0 v2.length,.rsl (rowI v3) 0 v3.length,.rsl (Qf v4) 0 v4.length,.rsl (rowI v5) 0 v5.length,.int .i64 v7_12,.int .i64 v7_13,.int .i64 v7_14,.int .i64 v7_15,.int .i64 v7_16,.int .i64 0,.int .i64 v7_18,.int .i64 v7_19] 0,.agg (z71_2 de)] (.bool (posT (⟨f,v2,v3,v4,v5,v7_12,v7_13,v7_14,v7_15,v7_16,0,v7_18,v7_19⟩:Frs) de)),0=0,0=0,0=0,0=0,(!(posT (⟨f,v2,v3,v4,v5,v7_12,v7_13,v7_14,v7_15,v7_16,0,v7_18,v7_19⟩:Frs) de))=true])
 (hr:(.tup [.nilPtr,.int .i64 (i:Int),.int .i64 11])=res) (hb:[]=bs2):G Try.prog E (f71K0 Try.prog) (f71S0 f l i v2 v3 v4 v5 v7_12 v7_13 v7_14 v7_15 v7_16 v7_18 v7_19 ) :=
 QV (n:=400) (live:=[6,7,8]) (m:=0) (evs:=[.b true,.ld (.agg (z71_2 de)),.v (.bool (posT (⟨f,v2,v3,v4,v5,v7_12,v7_13,v7_14,v7_15,v7_16,0,v7_18,v7_19⟩:Frs) de)),.b true]) (obs:=_) hE (hE.nogh0 _) Try.func71 Qp (by kernel_rfl) ho hr hb
theorem p71_0_1 (f:Fair) (l:(List Dl)) (i:Nat) (v2:List Int) (v3:List Int) (v4:List Pur) (v5:List Int) (v7_12:Int) (v7_13:Int) (v7_14:Int) (v7_15:Int) (v7_16:Int) (v7_18:Int) (v7_19:Int) (de:Dl) {E:Env} {rv:AV} {bs2:List Blk} (hE:LentE Try.prog 71 [] rv bs2 E) (ho:AllP [(decide ((i:Int)<(l.length:Int)))=true,0≤(i:Int)∧(i:Int)<(l.length:Int),((Qu l).drop (0+(Int.toNat (i:Int))*5)).take 5=[.int .i64 de.at_,.int .i64 de.kind,.int .i64 de.a,.int .i64 de.b,.int .i64 de.n],5≤5,Qe Try.prog (.clos 137 [] []) [.rptr [.int .i64 f.purses,.int .i64 f.boxes,.rsl (rowI f.stock) 0 f.stock.length,.rsl (rowI f.cash) 0 f.cash.length,.rsl (Qr f.bundles) 0 f.bundles.length,.int .i64 f.refund,.int .i64 f.band,.int .i64 f.hours,.rsl (rowI v2) 0 v2.length,.rsl (rowI v3) 0 v3.length,.rsl (Qf v4) 0 v4.length,.rsl (rowI v5) 0 v5.length,.int .i64 v7_12,.int .i64 v7_13,.int .i64 v7_14,.int .i64 v7_15,.int .i64 v7_16,.int .i64 0,.int .i64 v7_18,.int .i64 v7_19] 0,.agg [.int .i64 de.at_,.int .i64 de.kind,.int .i64 de.a,.int .i64 de.b,.int .i64 de.n]] (.bool (posT (⟨f,v2,v3,v4,v5,v7_12,v7_13,v7_14,v7_15,v7_16,0,v7_18,v7_19⟩:Frs) de)),0=0,0=0,0=0,0=0,(!(posT (⟨f,v2,v3,v4,v5,v7_12,v7_13,v7_14,v7_15,v7_16,0,v7_18,v7_19⟩:Frs) de))=false,Xf Try.prog (.clos 138 [] []) [.ptr 0 0 0,.agg [.int .i64 de.at_,.int .i64 de.kind,.int .i64 de.a,.int .i64 de.b,.int .i64 de.n]] [⟨true,0,1,false,[.int .i64 f.purses,.int .i64 f.boxes,.rsl (rowI f.stock) 0 f.stock.length,.rsl (rowI f.cash) 0 f.cash.length,.rsl (Qr f.bundles) 0 f.bundles.length,.int .i64 f.refund,.int .i64 f.band,.int .i64 f.hours,.sl 1 0 0 v2.length 1,.sl 2 0 0 v3.length 1,.sl 3 0 0 v4.length 2,.sl 4 0 0 v5.length 1,.int .i64 v7_12,.int .i64 v7_13,.int .i64 v7_14,.int .i64 v7_15,.int .i64 v7_16,.int .i64 0,.int .i64 v7_18,.int .i64 v7_19],false⟩,⟨true,0,1,true,(rowI v2),true⟩,⟨true,0,1,true,(rowI v3),true⟩,⟨true,0,2,true,(Qf v4),true⟩,⟨true,0,1,true,(rowI v5),true⟩] (.tup []) [⟨true,0,1,false,[.int .i64 f.purses,.int .i64 f.boxes,.rsl (rowI f.stock) 0 f.stock.length,.rsl (rowI f.cash) 0 f.cash.length,.rsl (Qr f.bundles) 0 f.bundles.length,.int .i64 f.refund,.int .i64 f.band,.int .i64 f.hours,.sl 1 0 0 v2.length 1,.sl 2 0 0 v3.length 1,.sl 3 0 0 v4.length 2,.sl 4 0 0 v5.length 1,.int .i64 ((Qv (⟨f,v2,v3,v4,v5,v7_12,v7_13,v7_14,v7_15,v7_16,0,v7_18,v7_19⟩:Frs) de).lost),.int .i64 ((Qv (⟨f,v2,v3,v4,v5,v7_12,v7_13,v7_14,v7_15,v7_16,0,v7_18,v7_19⟩:Frs) de).last),.int .i64 ((Qv (⟨f,v2,v3,v4,v5,v7_12,v7_13,v7_14,v7_15,v7_16,0,v7_18,v7_19⟩:Frs) de).sold),.int .i64 ((Qv (⟨f,v2,v3,v4,v5,v7_12,v7_13,v7_14,v7_15,v7_16,0,v7_18,v7_19⟩:Frs) de).taken),.int .i64 ((Qv (⟨f,v2,v3,v4,v5,v7_12,v7_13,v7_14,v7_15,v7_16,0,v7_18,v7_19⟩:Frs) de).ret),.int .i64 0,.int .i64 ((Qv (⟨f,v2,v3,v4,v5,v7_12,v7_13,v7_14,v7_15,v7_16,0,v7_18,v7_19⟩:Frs) de).nlost),.int .i64 ((Qv (⟨f,v2,v3,v4,v5,v7_12,v7_13,v7_14,v7_15,v7_16,0,v7_18,v7_19⟩:Frs) de).ncash)],false⟩,⟨true,0,1,true,(rowI (Qv (⟨f,v2,v3,v4,v5,v7_12,v7_13,v7_14,v7_15,v7_16,0,v7_18,v7_19⟩:Frs) de).stock),true⟩,⟨true,0,1,true,(rowI (Qv (⟨f,v2,v3,v4,v5,v7_12,v7_13,v7_14,v7_15,v7_16,0,v7_18,v7_19⟩:Frs) de).cash),true⟩,⟨true,0,2,true,(Qf (Qv (⟨f,v2,v3,v4,v5,v7_12,v7_13,v7_14,v7_15,v7_16,0,v7_18,v7_19⟩:Frs) de).purses),true⟩,⟨true,0,1,true,(rowI (Qv (⟨f,v2,v3,v4,v5,v7_12,v7_13,v7_14,v7_15,v7_16,0,v7_18,v7_19⟩:Frs) de).boxes),true⟩],Qe Try.prog (.clos 72 [] []) [.rptr [.int .i64 f.purses,.int .i64 f.boxes,.rsl (rowI f.stock) 0 f.stock.length,.rsl (rowI f.cash) 0 f.cash.length,.rsl (Qr f.bundles) 0 f.bundles.length,.int .i64 f.refund,.int .i64 f.band,.int .i64 f.hours,.rsl (rowI (Qv (⟨f,v2,v3,v4,v5,v7_12,v7_13,v7_14,v7_15,v7_16,0,v7_18,v7_19⟩:Frs) de).stock) 0 v2.length,.rsl (rowI (Qv (⟨f,v2,v3,v4,v5,v7_12,v7_13,v7_14,v7_15,v7_16,0,v7_18,v7_19⟩:Frs) de).cash) 0 v3.length,.rsl (Qf (Qv (⟨f,v2,v3,v4,v5,v7_12,v7_13,v7_14,v7_15,v7_16,0,v7_18,v7_19⟩:Frs) de).purses) 0 v4.length,.rsl (rowI (Qv (⟨f,v2,v3,v4,v5,v7_12,v7_13,v7_14,v7_15,v7_16,0,v7_18,v7_19⟩:Frs) de).boxes) 0 v5.length,.int .i64 ((Qv (⟨f,v2,v3,v4,v5,v7_12,v7_13,v7_14,v7_15,v7_16,0,v7_18,v7_19⟩:Frs) de).lost),.int .i64 ((Qv (⟨f,v2,v3,v4,v5,v7_12,v7_13,v7_14,v7_15,v7_16,0,v7_18,v7_19⟩:Frs) de).last),.int .i64 ((Qv (⟨f,v2,v3,v4,v5,v7_12,v7_13,v7_14,v7_15,v7_16,0,v7_18,v7_19⟩:Frs) de).sold),.int .i64 ((Qv (⟨f,v2,v3,v4,v5,v7_12,v7_13,v7_14,v7_15,v7_16,0,v7_18,v7_19⟩:Frs) de).taken),.int .i64 ((Qv (⟨f,v2,v3,v4,v5,v7_12,v7_13,v7_14,v7_15,v7_16,0,v7_18,v7_19⟩:Frs) de).ret),.int .i64 0,.int .i64 ((Qv (⟨f,v2,v3,v4,v5,v7_12,v7_13,v7_14,v7_15,v7_16,0,v7_18,v7_19⟩:Frs) de).nlost),.int .i64 ((Qv (⟨f,v2,v3,v4,v5,v7_12,v7_13,v7_14,v7_15,v7_16,0,v7_18,v7_19⟩:Frs) de).ncash)] 0] (.tup []),0=0,0=0,0=0,0=0,InR .i64 ((i:Int)+1)])
 (hg:G Try.prog E (f71K0 Try.prog) ⟨([J,J,.clos 72 [] [],J,J,J,.ptr 7 0 0]++jj 15 ([.rsl (Qu l) 0 l.length,.int .i64 (l.length:Int),.int .i64 ((i:Int)+1)]++Js 17)),[⟨true,0,1,true,[.int .i64 f.purses,.int .i64 f.boxes,.rsl (rowI f.stock) 0 f.stock.length,.rsl (rowI f.cash) 0 f.cash.length,.rsl (Qr f.bundles) 0 f.bundles.length,.int .i64 f.refund,.int .i64 f.band,.int .i64 f.hours],false⟩,⟨true,0,1,true,[.int .i64 f.purses,.int .i64 f.boxes,.rsl (rowI f.stock) 0 f.stock.length,.rsl (rowI f.cash) 0 f.cash.length,.rsl (Qr f.bundles) 0 f.bundles.length,.int .i64 f.refund,.int .i64 f.band,.int .i64 f.hours],false⟩,⟨true,0,1,true,(rowI (Qv (⟨f,v2,v3,v4,v5,v7_12,v7_13,v7_14,v7_15,v7_16,0,v7_18,v7_19⟩:Frs) de).stock),true⟩,⟨true,0,1,true,(rowI (Qv (⟨f,v2,v3,v4,v5,v7_12,v7_13,v7_14,v7_15,v7_16,0,v7_18,v7_19⟩:Frs) de).cash),true⟩,⟨true,0,2,true,(Qf (Qv (⟨f,v2,v3,v4,v5,v7_12,v7_13,v7_14,v7_15,v7_16,0,v7_18,v7_19⟩:Frs) de).purses),true⟩,⟨true,0,1,true,(rowI (Qv (⟨f,v2,v3,v4,v5,v7_12,v7_13,v7_14,v7_15,v7_16,0,v7_18,v7_19⟩:Frs) de).boxes),true⟩,⟨true,0,1,false,[.sl 2 0 0 v2.length 1,.sl 3 0 0 v3.length 1,.sl 4 0 0 v4.length 2,.sl 5 0 0 v5.length 1,.int .i64 0],false⟩,⟨true,0,1,false,[.int .i64 f.purses,.int .i64 f.boxes,.rsl (rowI f.stock) 0 f.stock.length,.rsl (rowI f.cash) 0 f.cash.length,.rsl (Qr f.bundles) 0 f.bundles.length,.int .i64 f.refund,.int .i64 f.band,.int .i64 f.hours,.sl 2 0 0 v2.length 1,.sl 3 0 0 v3.length 1,.sl 4 0 0 v4.length 2,.sl 5 0 0 v5.length 1,.int .i64 ((Qv (⟨f,v2,v3,v4,v5,v7_12,v7_13,v7_14,v7_15,v7_16,0,v7_18,v7_19⟩:Frs) de).lost),.int .i64 ((Qv (⟨f,v2,v3,v4,v5,v7_12,v7_13,v7_14,v7_15,v7_16,0,v7_18,v7_19⟩:Frs) de).last),.int .i64 ((Qv (⟨f,v2,v3,v4,v5,v7_12,v7_13,v7_14,v7_15,v7_16,0,v7_18,v7_19⟩:Frs) de).sold),.int .i64 ((Qv (⟨f,v2,v3,v4,v5,v7_12,v7_13,v7_14,v7_15,v7_16,0,v7_18,v7_19⟩:Frs) de).taken),.int .i64 ((Qv (⟨f,v2,v3,v4,v5,v7_12,v7_13,v7_14,v7_15,v7_16,0,v7_18,v7_19⟩:Frs) de).ret),.int .i64 0,.int .i64 ((Qv (⟨f,v2,v3,v4,v5,v7_12,v7_13,v7_14,v7_15,v7_16,0,v7_18,v7_19⟩:Frs) de).nlost),.int .i64 ((Qv (⟨f,v2,v3,v4,v5,v7_12,v7_13,v7_14,v7_15,v7_16,0,v7_18,v7_19⟩:Frs) de).ncash)],false⟩]⟩):G Try.prog E (f71K0 Try.prog) (f71S0 f l i v2 v3 v4 v5 v7_12 v7_13 v7_14 v7_15 v7_16 v7_18 v7_19 ) :=
 Ql (n:=400) (ds:=[]) (cs:=[]) (live:=[2,6,22,23,24]) (m:=8) (evs:=[.b true,.ld (.agg [.int .i64 de.at_,.int .i64 de.kind,.int .i64 de.a,.int .i64 de.b,.int .i64 de.n]),.v (.bool (posT (⟨f,v2,v3,v4,v5,v7_12,v7_13,v7_14,v7_15,v7_16,0,v7_18,v7_19⟩:Frs) de)),.b false,.lent [7,2,3,4,5] (.tup []) [⟨true,0,1,false,[.int .i64 f.purses,.int .i64 f.boxes,.rsl (rowI f.stock) 0 f.stock.length,.rsl (rowI f.cash) 0 f.cash.length,.rsl (Qr f.bundles) 0 f.bundles.length,.int .i64 f.refund,.int .i64 f.band,.int .i64 f.hours,.sl 1 0 0 v2.length 1,.sl 2 0 0 v3.length 1,.sl 3 0 0 v4.length 2,.sl 4 0 0 v5.length 1,.int .i64 ((Qv (⟨f,v2,v3,v4,v5,v7_12,v7_13,v7_14,v7_15,v7_16,0,v7_18,v7_19⟩:Frs) de).lost),.int .i64 ((Qv (⟨f,v2,v3,v4,v5,v7_12,v7_13,v7_14,v7_15,v7_16,0,v7_18,v7_19⟩:Frs) de).last),.int .i64 ((Qv (⟨f,v2,v3,v4,v5,v7_12,v7_13,v7_14,v7_15,v7_16,0,v7_18,v7_19⟩:Frs) de).sold),.int .i64 ((Qv (⟨f,v2,v3,v4,v5,v7_12,v7_13,v7_14,v7_15,v7_16,0,v7_18,v7_19⟩:Frs) de).taken),.int .i64 ((Qv (⟨f,v2,v3,v4,v5,v7_12,v7_13,v7_14,v7_15,v7_16,0,v7_18,v7_19⟩:Frs) de).ret),.int .i64 0,.int .i64 ((Qv (⟨f,v2,v3,v4,v5,v7_12,v7_13,v7_14,v7_15,v7_16,0,v7_18,v7_19⟩:Frs) de).nlost),.int .i64 ((Qv (⟨f,v2,v3,v4,v5,v7_12,v7_13,v7_14,v7_15,v7_16,0,v7_18,v7_19⟩:Frs) de).ncash)],false⟩,⟨true,0,1,true,(rowI (Qv (⟨f,v2,v3,v4,v5,v7_12,v7_13,v7_14,v7_15,v7_16,0,v7_18,v7_19⟩:Frs) de).stock),true⟩,⟨true,0,1,true,(rowI (Qv (⟨f,v2,v3,v4,v5,v7_12,v7_13,v7_14,v7_15,v7_16,0,v7_18,v7_19⟩:Frs) de).cash),true⟩,⟨true,0,2,true,(Qf (Qv (⟨f,v2,v3,v4,v5,v7_12,v7_13,v7_14,v7_15,v7_16,0,v7_18,v7_19⟩:Frs) de).purses),true⟩,⟨true,0,1,true,(rowI (Qv (⟨f,v2,v3,v4,v5,v7_12,v7_13,v7_14,v7_15,v7_16,0,v7_18,v7_19⟩:Frs) de).boxes),true⟩],.v (.tup []),.stop]) (obs:=_) hE.kind (hE.nogh0 _) Qp (by kernel_rfl) ho hg
theorem p71_0_2 (f:Fair) (l:(List Dl)) (i:Nat) (v2:List Int) (v3:List Int) (v4:List Pur) (v5:List Int) (v7_12:Int) (v7_13:Int) (v7_14:Int) (v7_15:Int) (v7_16:Int) (v7_18:Int) (v7_19:Int) {E:Env} {res:AV} {bs2:List Blk} (hE:LentE Try.prog 71 [] res bs2 E) (ho:AllP [(decide ((i:Int)<(l.length:Int)))=false])
 (hr:(.tup [.ptr 7 0 0,.int .i64 0,.int .i64 0])=res) (hb:[⟨true,0,1,true,(qp f),false⟩,⟨true,0,1,true,(qp f),false⟩,⟨true,0,1,true,(rowI v2),true⟩,⟨true,0,1,true,(rowI v3),true⟩,⟨true,0,2,true,(Qf v4),true⟩,⟨true,0,1,true,(rowI v5),true⟩,⟨true,0,1,false,[.sl 2 0 0 v2.length 1,.sl 3 0 0 v3.length 1,.sl 4 0 0 v4.length 2,.sl 5 0 0 v5.length 1,.int .i64 0],false⟩,⟨true,0,1,false,[.int .i64 f.purses,.int .i64 f.boxes,.rsl (rowI f.stock) 0 f.stock.length,.rsl (rowI f.cash) 0 f.cash.length,.rsl (Qr f.bundles) 0 f.bundles.length,.int .i64 f.refund,.int .i64 f.band,.int .i64 f.hours,.sl 2 0 0 v2.length 1,.sl 3 0 0 v3.length 1,.sl 4 0 0 v4.length 2,.sl 5 0 0 v5.length 1,.int .i64 v7_12,.int .i64 v7_13,.int .i64 v7_14,.int .i64 v7_15,.int .i64 v7_16,.int .i64 0,.int .i64 v7_18,.int .i64 v7_19],false⟩]=bs2):G Try.prog E (f71K0 Try.prog) (f71S0 f l i v2 v3 v4 v5 v7_12 v7_13 v7_14 v7_15 v7_16 v7_18 v7_19 ) :=
 QV (n:=400) (live:=[6,7,8]) (m:=8) (evs:=[.b false]) (obs:=_) hE (hE.nogh0 _) Try.func71 Qp (by kernel_rfl) ho hr hb
theorem f71W0 (f:Fair) (l:(List Dl)) (i:Nat) (v2:List Int) (v3:List Int) (v4:List Pur) (v5:List Int) (v7_12:Int) (v7_13:Int) (v7_14:Int) (v7_15:Int) (v7_16:Int) (v7_18:Int) (v7_19:Int) {E:Env} {res:AV} {bs2:List Blk} (hE:LentE Try.prog 71 [] res bs2 E)
 (h:(((i:Int)<(l.length:Int)→(∃ de:Dl,l[i]?=some de∧((FLen (⟨f,v2,v3,v4,v5,v7_12,v7_13,v7_14,v7_15,v7_16,0,v7_18,v7_19⟩:Frs))∧(((posT (⟨f,v2,v3,v4,v5,v7_12,v7_13,v7_14,v7_15,v7_16,0,v7_18,v7_19⟩:Frs) de)=false→((.tup [.nilPtr,.int .i64 (i:Int),.int .i64 11])=res∧[]=bs2))∧((posT (⟨f,v2,v3,v4,v5,v7_12,v7_13,v7_14,v7_15,v7_16,0,v7_18,v7_19⟩:Frs) de)=true→((HapIn (⟨f,v2,v3,v4,v5,v7_12,v7_13,v7_14,v7_15,v7_16,0,v7_18,v7_19⟩:Frs) de)∧((I6 ((i:Int)+1))∧f71G0 E f l (i+1) ((Qv (⟨f,v2,v3,v4,v5,v7_12,v7_13,v7_14,v7_15,v7_16,0,v7_18,v7_19⟩:Frs) de).stock) ((Qv (⟨f,v2,v3,v4,v5,v7_12,v7_13,v7_14,v7_15,v7_16,0,v7_18,v7_19⟩:Frs) de).cash) ((Qv (⟨f,v2,v3,v4,v5,v7_12,v7_13,v7_14,v7_15,v7_16,0,v7_18,v7_19⟩:Frs) de).purses) ((Qv (⟨f,v2,v3,v4,v5,v7_12,v7_13,v7_14,v7_15,v7_16,0,v7_18,v7_19⟩:Frs) de).boxes) ((Qv (⟨f,v2,v3,v4,v5,v7_12,v7_13,v7_14,v7_15,v7_16,0,v7_18,v7_19⟩:Frs) de).lost) ((Qv (⟨f,v2,v3,v4,v5,v7_12,v7_13,v7_14,v7_15,v7_16,0,v7_18,v7_19⟩:Frs) de).last) ((Qv (⟨f,v2,v3,v4,v5,v7_12,v7_13,v7_14,v7_15,v7_16,0,v7_18,v7_19⟩:Frs) de).sold) ((Qv (⟨f,v2,v3,v4,v5,v7_12,v7_13,v7_14,v7_15,v7_16,0,v7_18,v7_19⟩:Frs) de).taken) ((Qv (⟨f,v2,v3,v4,v5,v7_12,v7_13,v7_14,v7_15,v7_16,0,v7_18,v7_19⟩:Frs) de).ret) ((Qv (⟨f,v2,v3,v4,v5,v7_12,v7_13,v7_14,v7_15,v7_16,0,v7_18,v7_19⟩:Frs) de).nlost) ((Qv (⟨f,v2,v3,v4,v5,v7_12,v7_13,v7_14,v7_15,v7_16,0,v7_18,v7_19⟩:Frs) de).ncash))))))))∧(¬ ((i:Int)<(l.length:Int))→((.tup [.ptr 7 0 0,.int .i64 0,.int .i64 0])=res∧[⟨true,0,1,true,[.int .i64 f.purses,.int .i64 f.boxes,.rsl (rowI f.stock) 0 f.stock.length,.rsl (rowI f.cash) 0 f.cash.length,.rsl (Qr f.bundles) 0 f.bundles.length,.int .i64 f.refund,.int .i64 f.band,.int .i64 f.hours],false⟩,⟨true,0,1,true,[.int .i64 f.purses,.int .i64 f.boxes,.rsl (rowI f.stock) 0 f.stock.length,.rsl (rowI f.cash) 0 f.cash.length,.rsl (Qr f.bundles) 0 f.bundles.length,.int .i64 f.refund,.int .i64 f.band,.int .i64 f.hours],false⟩,⟨true,0,1,true,(rowI v2),true⟩,⟨true,0,1,true,(rowI v3),true⟩,⟨true,0,2,true,(Qf v4),true⟩,⟨true,0,1,true,(rowI v5),true⟩,⟨true,0,1,false,[.sl 2 0 0 v2.length 1,.sl 3 0 0 v3.length 1,.sl 4 0 0 v4.length 2,.sl 5 0 0 v5.length 1,.int .i64 0],false⟩,⟨true,0,1,false,[.int .i64 f.purses,.int .i64 f.boxes,.rsl (rowI f.stock) 0 f.stock.length,.rsl (rowI f.cash) 0 f.cash.length,.rsl (Qr f.bundles) 0 f.bundles.length,.int .i64 f.refund,.int .i64 f.band,.int .i64 f.hours,.sl 2 0 0 v2.length 1,.sl 3 0 0 v3.length 1,.sl 4 0 0 v4.length 2,.sl 5 0 0 v5.length 1,.int .i64 v7_12,.int .i64 v7_13,.int .i64 v7_14,.int .i64 v7_15,.int .i64 v7_16,.int .i64 0,.int .i64 v7_18,.int .i64 v7_19],false⟩]=bs2)))):f71G0 E f l i v2 v3 v4 v5 v7_12 v7_13 v7_14 v7_15 v7_16 v7_18 v7_19:=by
 rcases bft (decide ((i:Int)<(l.length:Int))) with hc0 | hc0
 · have h:=h.1 (odt hc0)
   obtain ⟨de,h1,h⟩:=h
   obtain ⟨h2,h⟩:=h
   rcases bft (!(posT (⟨f,v2,v3,v4,v5,v7_12,v7_13,v7_14,v7_15,v7_16,0,v7_18,v7_19⟩:Frs) de)) with hc1 | hc1
   · have h:=h.1 (bnT hc1)
     exact p71_0_0 f l i v2 v3 v4 v5 v7_12 v7_13 v7_14 v7_15 v7_16 v7_18 v7_19 de hE ⟨hc0,(QF h1),(rp cDl 5 0 5 h1),(by decide),(u137 (pos_ok (⟨f,v2,v3,v4,v5,v7_12,v7_13,v7_14,v7_15,v7_16,0,v7_18,v7_19⟩:Frs) de h2)),rfl,rfl,rfl,rfl,hc1,trivial⟩ h.1 h.2
   · have h:=h.2 (bnF hc1)
     obtain ⟨h3,h⟩:=h
     obtain ⟨q17_2,h⟩:=h
     refine p71_0_1 f l i v2 v3 v4 v5 v7_12 v7_13 v7_14 v7_15 v7_16 v7_18 v7_19 de hE ⟨hc0,(QF h1),(rp cDl 5 0 5 h1),(by decide),(u137 (pos_ok (⟨f,v2,v3,v4,v5,v7_12,v7_13,v7_14,v7_15,v7_16,0,v7_18,v7_19⟩:Frs) de h2)),rfl,rfl,rfl,rfl,hc1,(Qw Try.func138 (by kernel_rfl) f138b (happ_ok2 de f v2 v3 v4 v5 v7_12 v7_13 v7_14 v7_15 v7_16 0 v7_18 v7_19 0 0 0 0 h3)),(by rw [(show AV.rsl (rowI (Qv (⟨f,v2,v3,v4,v5,v7_12,v7_13,v7_14,v7_15,v7_16,0,v7_18,v7_19⟩:Frs) de).stock) 0 v2.length=AV.rsl (rowI ((Qv (⟨f,v2,v3,v4,v5,v7_12,v7_13,v7_14,v7_15,v7_16,0,v7_18,v7_19⟩:Frs) de).stock)) 0 ((Qv (⟨f,v2,v3,v4,v5,v7_12,v7_13,v7_14,v7_15,v7_16,0,v7_18,v7_19⟩:Frs) de).stock).length from by rw [show v2.length=((Qv (⟨f,v2,v3,v4,v5,v7_12,v7_13,v7_14,v7_15,v7_16,0,v7_18,v7_19⟩:Frs) de).stock).length from by simp]; try rfl)]; rw [(show AV.rsl (rowI (Qv (⟨f,v2,v3,v4,v5,v7_12,v7_13,v7_14,v7_15,v7_16,0,v7_18,v7_19⟩:Frs) de).cash) 0 v3.length=AV.rsl (rowI ((Qv (⟨f,v2,v3,v4,v5,v7_12,v7_13,v7_14,v7_15,v7_16,0,v7_18,v7_19⟩:Frs) de).cash)) 0 ((Qv (⟨f,v2,v3,v4,v5,v7_12,v7_13,v7_14,v7_15,v7_16,0,v7_18,v7_19⟩:Frs) de).cash).length from by rw [show v3.length=((Qv (⟨f,v2,v3,v4,v5,v7_12,v7_13,v7_14,v7_15,v7_16,0,v7_18,v7_19⟩:Frs) de).cash).length from by simp]; try rfl)]; rw [(show AV.rsl (Qf (Qv (⟨f,v2,v3,v4,v5,v7_12,v7_13,v7_14,v7_15,v7_16,0,v7_18,v7_19⟩:Frs) de).purses) 0 v4.length=AV.rsl (Qf ((Qv (⟨f,v2,v3,v4,v5,v7_12,v7_13,v7_14,v7_15,v7_16,0,v7_18,v7_19⟩:Frs) de).purses)) 0 ((Qv (⟨f,v2,v3,v4,v5,v7_12,v7_13,v7_14,v7_15,v7_16,0,v7_18,v7_19⟩:Frs) de).purses).length from by rw [show v4.length=((Qv (⟨f,v2,v3,v4,v5,v7_12,v7_13,v7_14,v7_15,v7_16,0,v7_18,v7_19⟩:Frs) de).purses).length from by simp]; try rfl)]; rw [(show AV.rsl (rowI (Qv (⟨f,v2,v3,v4,v5,v7_12,v7_13,v7_14,v7_15,v7_16,0,v7_18,v7_19⟩:Frs) de).boxes) 0 v5.length=AV.rsl (rowI ((Qv (⟨f,v2,v3,v4,v5,v7_12,v7_13,v7_14,v7_15,v7_16,0,v7_18,v7_19⟩:Frs) de).boxes)) 0 ((Qv (⟨f,v2,v3,v4,v5,v7_12,v7_13,v7_14,v7_15,v7_16,0,v7_18,v7_19⟩:Frs) de).boxes).length from by rw [show v5.length=((Qv (⟨f,v2,v3,v4,v5,v7_12,v7_13,v7_14,v7_15,v7_16,0,v7_18,v7_19⟩:Frs) de).boxes).length from by simp]; try rfl)]; exact (u72 (quiet_ok (⟨f,(Qv (⟨f,v2,v3,v4,v5,v7_12,v7_13,v7_14,v7_15,v7_16,0,v7_18,v7_19⟩:Frs) de).stock,(Qv (⟨f,v2,v3,v4,v5,v7_12,v7_13,v7_14,v7_15,v7_16,0,v7_18,v7_19⟩:Frs) de).cash,(Qv (⟨f,v2,v3,v4,v5,v7_12,v7_13,v7_14,v7_15,v7_16,0,v7_18,v7_19⟩:Frs) de).purses,(Qv (⟨f,v2,v3,v4,v5,v7_12,v7_13,v7_14,v7_15,v7_16,0,v7_18,v7_19⟩:Frs) de).boxes,(Qv (⟨f,v2,v3,v4,v5,v7_12,v7_13,v7_14,v7_15,v7_16,0,v7_18,v7_19⟩:Frs) de).lost,(Qv (⟨f,v2,v3,v4,v5,v7_12,v7_13,v7_14,v7_15,v7_16,0,v7_18,v7_19⟩:Frs) de).last,(Qv (⟨f,v2,v3,v4,v5,v7_12,v7_13,v7_14,v7_15,v7_16,0,v7_18,v7_19⟩:Frs) de).sold,(Qv (⟨f,v2,v3,v4,v5,v7_12,v7_13,v7_14,v7_15,v7_16,0,v7_18,v7_19⟩:Frs) de).taken,(Qv (⟨f,v2,v3,v4,v5,v7_12,v7_13,v7_14,v7_15,v7_16,0,v7_18,v7_19⟩:Frs) de).ret,0,(Qv (⟨f,v2,v3,v4,v5,v7_12,v7_13,v7_14,v7_15,v7_16,0,v7_18,v7_19⟩:Frs) de).nlost,(Qv (⟨f,v2,v3,v4,v5,v7_12,v7_13,v7_14,v7_15,v7_16,0,v7_18,v7_19⟩:Frs) de).ncash⟩:Frs)))),rfl,rfl,rfl,rfl,q17_2,trivial⟩ ?_
     have h:=h
     simp only [f71G0,f71S0,List.length_set,happ_l1,happ_l2,happ_l3,happ_l4] at h
     skip
     exact h
 · have h:=h.2 (odf hc0)
   exact p71_0_2 f l i v2 v3 v4 v5 v7_12 v7_13 v7_14 v7_15 v7_16 v7_18 v7_19 hE ⟨hc0,trivial⟩ h.1 h.2
theorem play_lent (f:Fair) (l:List Dl) (h:Vs f l) {res:AV} {bs2:List Blk} (h1:(QH f l).2 ≠ 0→(.tup [.nilPtr,.int .i64 (QH f l).1,.int .i64 (QH f l).2])=res∧[]=bs2)
 (h2:(QH f l).2=0→(.tup [.ptr 7 0 0,.int .i64 0,.int .i64 0])=res∧[⟨true,0,1,true,[.int .i64 f.purses,.int .i64 f.boxes,.rsl (rowI f.stock) 0 f.stock.length,.rsl (rowI f.cash) 0 f.cash.length,.rsl (Qr f.bundles) 0 f.bundles.length,.int .i64 f.refund,.int .i64 f.band,.int .i64 f.hours],false⟩,⟨true,0,1,true,[.int .i64 f.purses,.int .i64 f.boxes,.rsl (rowI f.stock) 0 f.stock.length,.rsl (rowI f.cash) 0 f.cash.length,.rsl (Qr f.bundles) 0 f.bundles.length,.int .i64 f.refund,.int .i64 f.band,.int .i64 f.hours],false⟩,⟨true,0,1,true,(rowI (runT (Qi f) l).stock),true⟩,⟨true,0,1,true,(rowI (runT (Qi f) l).cash),true⟩,⟨true,0,2,true,(Qf (runT (Qi f) l).purses),true⟩,⟨true,0,1,true,(rowI (runT (Qi f) l).boxes),true⟩,⟨true,0,1,false,[.sl 2 0 0 ((runT (Qi f) l).stock.length) 1,.sl 3 0 0 ((runT (Qi f) l).cash.length) 1,.sl 4 0 0 ((runT (Qi f) l).purses.length) 2,.sl 5 0 0 ((runT (Qi f) l).boxes.length) 1,.int .i64 0],false⟩,⟨true,0,1,false,[.int .i64 f.purses,.int .i64 f.boxes,.rsl (rowI f.stock) 0 f.stock.length,.rsl (rowI f.cash) 0 f.cash.length,.rsl (Qr f.bundles) 0 f.bundles.length,.int .i64 f.refund,.int .i64 f.band,.int .i64 f.hours,.sl 2 0 0 ((runT (Qi f) l).stock.length) 1,.sl 3 0 0 ((runT (Qi f) l).cash.length) 1,.sl 4 0 0 ((runT (Qi f) l).purses.length) 2,.sl 5 0 0 ((runT (Qi f) l).boxes.length) 1,.int .i64 ((runT (Qi f) l).lost),.int .i64 ((runT (Qi f) l).last),.int .i64 ((runT (Qi f) l).sold),.int .i64 ((runT (Qi f) l).taken),.int .i64 ((runT (Qi f) l).ret),.int .i64 0,.int .i64 ((runT (Qi f) l).nlost),.int .i64 ((runT (Qi f) l).ncash)],false⟩]=bs2):Lent Try.prog 71 [.agg [.int .i64 f.purses,.int .i64 f.boxes,.rsl (rowI f.stock) 0 f.stock.length,.rsl (rowI f.cash) 0 f.cash.length,.rsl (Qr f.bundles) 0 f.bundles.length,.int .i64 f.refund,.int .i64 f.band,.int .i64 f.hours],.rsl (Qu l) 0 l.length,.clos 72 [] []] [] res bs2:=VH Try.func71 f71b fun E hE=>by
 refine f71W f l hE ⟨h,fun e=>?_,fun hf=>⟨fun e=>?_,fun hlen=>⟨?_,?_⟩⟩⟩
 · have e1:QH f l=(0,Xb f):=by rw [QH,if_neg e]
   have:=h1 (by rw [e1]; exact e)
   rw [e1] at this; exact this
 · have e1:QH f l=(0,2):=by rw [QH,if_pos hf,if_pos e]
   have:=h1 (by rw [e1]; simp)
   rw [e1] at this; exact this
 · have v:=qG hf
   have a1:=v.st.1
   have a2:=v.ca.1
   have a3:=v.pu
   have a4:=v.bo
   exact ⟨by omega,by omega,by omega,by omega⟩
 have key:∀ (d i:Nat) (T:Frs),i+d=l.length→T.f=f→T.held=0→FOk T i→Wx (Qi f) l 0=Wx T (l.drop i) i→runT (Qi f) l=runT T (l.drop i)→f71G0 E f l i T.stock T.cash T.purses T.boxes T.lost T.last T.sold T.taken T.ret T.nlost T.ncash:=by
  intro d
  induction d with
  | zero =>
   intro i T hd e1 e2 hF hb hr
   have hdr:l.drop i=[]:=List.drop_eq_nil_of_le (by omega)
   rw [hdr] at hb hr
   have hr:runT (Qi f) l=T:=hr
   have he:QH f l=(0,0):=by rw [QH,if_pos hf,if_neg hlen,hb]; rfl
   refine f71W0 f l i _ _ _ _ _ _ _ _ _ _ _ hE ⟨fun h=>by omega,fun _=>?_⟩
   have:=h2 (by rw [he])
   rw [hr] at this
   exact this
  | succ d ih =>
   intro i T hd e1 e2 hF hb hr
   have hg:l[i]?=some l[i]:=List.getElem?_eq_getElem (by omega)
   have hm:=List.mem_of_getElem? hg
   have hdr:l.drop i=l[i] :: l.drop (i+1):=List.drop_eq_getElem_cons (by omega)
   rw [hdr] at hb hr
   have eT:(⟨f,T.stock,T.cash,T.purses,T.boxes,T.lost,T.last,T.sold,T.taken,T.ret,0,T.nlost,T.ncash⟩:Frs)=T:=by
    obtain ⟨x1,x2,x3,x4,x5,x6,x7,x8,x9,x10,x11,x12,x13⟩:=T
    simp only at e1 e2
    subst e1; subst e2; rfl
   refine f71W0 f l i _ _ _ _ _ _ _ _ _ _ _ hE ⟨fun _=>⟨_,hg,?_⟩,fun h=>by omega⟩
   rw [eT]
   refine ⟨hF.len,fun hp=>?_,fun hp=>⟨⟨hp,i,hF,by omega⟩,by omega,?_⟩⟩
   · have he:QH f l=((i:Int),11):=by rw [QH,if_pos hf,if_neg hlen,hb,Wx,if_neg (by rw [hp]; simp)]; rfl
     have:=h1 (by rw [he]; simp)
     rw [he] at this; exact this
   · exact ih (i+1) (Qv T l[i]) (by omega) (by rw [happT_f]; exact e1) (by rw [happT_held]; exact e2) (qf hF hp (by omega)) (by rw [hb,Wx,if_pos hp]) (by rw [hr]; rfl)
 exact key l.length 0 (Qi f) (by omega) rfl rfl (Wu hf) rfl rfl
theorem play_fine (f:Fair) (l:List Dl) (h:Vs f l) (he:(QH f l).2=0):Lent Try.prog 71 [.agg [.int .i64 f.purses,.int .i64 f.boxes,.rsl (rowI f.stock) 0 f.stock.length,.rsl (rowI f.cash) 0 f.cash.length,.rsl (Qr f.bundles) 0 f.bundles.length,.int .i64 f.refund,.int .i64 f.band,.int .i64 f.hours],.rsl (Qu l) 0 l.length,.clos 72 [] []] [] (.tup [.ptr 7 0 0,.int .i64 0,.int .i64 0]) [⟨true,0,1,true,[.int .i64 f.purses,.int .i64 f.boxes,.rsl (rowI f.stock) 0 f.stock.length,.rsl (rowI f.cash) 0 f.cash.length,.rsl (Qr f.bundles) 0 f.bundles.length,.int .i64 f.refund,.int .i64 f.band,.int .i64 f.hours],false⟩,⟨true,0,1,true,[.int .i64 f.purses,.int .i64 f.boxes,.rsl (rowI f.stock) 0 f.stock.length,.rsl (rowI f.cash) 0 f.cash.length,.rsl (Qr f.bundles) 0 f.bundles.length,.int .i64 f.refund,.int .i64 f.band,.int .i64 f.hours],false⟩,⟨true,0,1,true,(rowI (runT (Qi f) l).stock),true⟩,⟨true,0,1,true,(rowI (runT (Qi f) l).cash),true⟩,⟨true,0,2,true,(Qf (runT (Qi f) l).purses),true⟩,⟨true,0,1,true,(rowI (runT (Qi f) l).boxes),true⟩,⟨true,0,1,false,[.sl 2 0 0 ((runT (Qi f) l).stock.length) 1,.sl 3 0 0 ((runT (Qi f) l).cash.length) 1,.sl 4 0 0 ((runT (Qi f) l).purses.length) 2,.sl 5 0 0 ((runT (Qi f) l).boxes.length) 1,.int .i64 0],false⟩,⟨true,0,1,false,[.int .i64 f.purses,.int .i64 f.boxes,.rsl (rowI f.stock) 0 f.stock.length,.rsl (rowI f.cash) 0 f.cash.length,.rsl (Qr f.bundles) 0 f.bundles.length,.int .i64 f.refund,.int .i64 f.band,.int .i64 f.hours,.sl 2 0 0 ((runT (Qi f) l).stock.length) 1,.sl 3 0 0 ((runT (Qi f) l).cash.length) 1,.sl 4 0 0 ((runT (Qi f) l).purses.length) 2,.sl 5 0 0 ((runT (Qi f) l).boxes.length) 1,.int .i64 ((runT (Qi f) l).lost),.int .i64 ((runT (Qi f) l).last),.int .i64 ((runT (Qi f) l).sold),.int .i64 ((runT (Qi f) l).taken),.int .i64 ((runT (Qi f) l).ret),.int .i64 0,.int .i64 ((runT (Qi f) l).nlost),.int .i64 ((runT (Qi f) l).ncash)],false⟩]:=play_lent f l h (fun h=>absurd he h) (fun _=>⟨rfl,rfl⟩)
theorem play_err (f:Fair) (l:List Dl) (h:Vs f l) (he:¬ (QH f l).2=0):Lent Try.prog 71 [.agg [.int .i64 f.purses,.int .i64 f.boxes,.rsl (rowI f.stock) 0 f.stock.length,.rsl (rowI f.cash) 0 f.cash.length,.rsl (Qr f.bundles) 0 f.bundles.length,.int .i64 f.refund,.int .i64 f.band,.int .i64 f.hours],.rsl (Qu l) 0 l.length,.clos 72 [] []] [] (.tup [.nilPtr,.int .i64 (QH f l).1,.int .i64 (QH f l).2]) []:=play_lent f l h (fun _=>⟨rfl,rfl⟩) (fun h=>absurd h he)
theorem Qal {f:Fair} {l:List Dl} (h:(QH f l).2=0):Xb f=0∧l.length≤200∧Wx (Qi f) l 0=none∧QH f l=(0,0):=by
 have hh:=h
 unfold QH at hh
 split at hh
 · rename_i e
   split at hh
   · cases hh
   · rename_i e2
     cases hb:Wx (Qi f) l 0 with
     | none=>exact ⟨e,by omega,rfl,by rw [QH,if_pos e,if_neg e2,hb]; rfl⟩
     | some i=>rw [hb] at hh; cases hh
 · exact absurd hh (by assumption)
theorem f23b:Try.f23.body=some (Qd Try.prog 23):=by kernel_rfl
theorem u23 {a c k:List AV} {r:AV} (h:Pure Try.prog 23 (a++c++k) r):Qe Try.prog (.clos 23 a k) c r:=Qs Try.func23 (by kernel_rfl) f23b h
def f23K0 (P:Program):List Item:=kAt 400 [.code (Qd P 23)] [.b false,.stop]
def f23S0 (f:Fair) (l:(List Dl)) (v6:List Pur) (v4:List Int) (v5:List Int) (v7:List Int) (i:Nat) (v9_17:Int) (g6:Nat) (g4:Nat) (g5:Nat) (g7:Nat):St:=⟨([J,J,J,J,.ptr 1 0 0,J,.ptr 9 0 0]++jj 19 ([.sl 6 g6 0 v6.length 2,.int .i64 (((runT (Qi f) l).purses.length:Nat):Int),.int .i64 (i:Int)]++Js 19)),[⟨true,0,1,true,[.int .i64 f.purses,.int .i64 f.boxes,.rsl (rowI f.stock) 0 f.stock.length,.rsl (rowI f.cash) 0 f.cash.length,.rsl (Qr f.bundles) 0 f.bundles.length,.int .i64 f.refund,.int .i64 f.band,.int .i64 f.hours],false⟩,⟨true,0,1,true,[.int .i64 0,.int .i64 0,.int .i64 0,.int .i64 0,.int .i64 0,.int .i64 0],false⟩,⟨true,0,1,true,[.int .i64 f.purses,.int .i64 f.boxes,.rsl (rowI f.stock) 0 f.stock.length,.rsl (rowI f.cash) 0 f.cash.length,.rsl (Qr f.bundles) 0 f.bundles.length,.int .i64 f.refund,.int .i64 f.band,.int .i64 f.hours],false⟩,⟨true,0,1,true,[.int .i64 f.purses,.int .i64 f.boxes,.rsl (rowI f.stock) 0 f.stock.length,.rsl (rowI f.cash) 0 f.cash.length,.rsl (Qr f.bundles) 0 f.bundles.length,.int .i64 f.refund,.int .i64 f.band,.int .i64 f.hours],false⟩,⟨true,g4,1,true,(rowI v4),true⟩,⟨true,g5,1,true,(rowI v5),true⟩,⟨true,g6,2,true,(Qf v6),true⟩,⟨true,g7,1,true,(rowI v7),true⟩,⟨true,0,1,false,[.sl 4 g4 0 v4.length 1,.sl 5 g5 0 v5.length 1,.sl 6 g6 0 v6.length 2,.sl 7 g7 0 v7.length 1,.int .i64 0],false⟩,⟨true,0,1,false,[.int .i64 f.purses,.int .i64 f.boxes,.rsl (rowI f.stock) 0 f.stock.length,.rsl (rowI f.cash) 0 f.cash.length,.rsl (Qr f.bundles) 0 f.bundles.length,.int .i64 f.refund,.int .i64 f.band,.int .i64 f.hours,.sl 4 g4 0 v4.length 1,.sl 5 g5 0 v5.length 1,.sl 6 g6 0 v6.length 2,.sl 7 g7 0 v7.length 1,.int .i64 ((runT (Qi f) l).lost),.int .i64 ((runT (Qi f) l).last),.int .i64 ((runT (Qi f) l).sold),.int .i64 ((runT (Qi f) l).taken),.int .i64 ((runT (Qi f) l).ret),.int .i64 v9_17,.int .i64 ((runT (Qi f) l).nlost),.int .i64 ((runT (Qi f) l).ncash)],false⟩]⟩
def f23G0 (E:Env) (f:Fair) (l:(List Dl)) (v6:List Pur) (v4:List Int) (v5:List Int) (v7:List Int) (i:Nat) (v9_17:Int):Prop:=∀ g6 g4 g5 g7:Nat,G Try.prog E (f23K0 Try.prog) (f23S0 f l v6 v4 v5 v7 i v9_17 g6 g4 g5 g7)
abbrev yj (f:Fair):List AV:=[.int .i64 f.purses,.int .i64 f.boxes,.rsl (rowI f.stock) 0 f.stock.length,.rsl (rowI f.cash) 0 f.cash.length,.rsl (Qr f.bundles) 0 f.bundles.length,.int .i64 f.refund,.int .i64 f.band,.int .i64 f.hours]
abbrev z23_2 (f:Fair) (l:(List Dl)):List Blk:=[⟨true,0,1,true,(yj f),false⟩,⟨true,0,1,true,(yj f),false⟩,⟨true,0,1,true,(rowI (runT (Qi f) l).stock),true⟩,⟨true,0,1,true,(rowI (runT (Qi f) l).cash),true⟩,⟨true,0,2,true,(Qf (runT (Qi f) l).purses),true⟩,⟨true,0,1,true,(rowI (runT (Qi f) l).boxes),true⟩,⟨true,0,1,false,[.sl 2 0 0 ((runT (Qi f) l).stock.length) 1,.sl 3 0 0 ((runT (Qi f) l).cash.length) 1,.sl 4 0 0 ((runT (Qi f) l).purses.length) 2,.sl 5 0 0 ((runT (Qi f) l).boxes.length) 1,.int .i64 0],false⟩,⟨true,0,1,false,[.int .i64 f.purses,.int .i64 f.boxes,.rsl (rowI f.stock) 0 f.stock.length,.rsl (rowI f.cash) 0 f.cash.length,.rsl (Qr f.bundles) 0 f.bundles.length,.int .i64 f.refund,.int .i64 f.band,.int .i64 f.hours,.sl 2 0 0 ((runT (Qi f) l).stock.length) 1,.sl 3 0 0 ((runT (Qi f) l).cash.length) 1,.sl 4 0 0 ((runT (Qi f) l).purses.length) 2,.sl 5 0 0 ((runT (Qi f) l).boxes.length) 1,.int .i64 ((runT (Qi f) l).lost),.int .i64 ((runT (Qi f) l).last),.int .i64 ((runT (Qi f) l).sold),.int .i64 ((runT (Qi f) l).taken),.int .i64 ((runT (Qi f) l).ret),.int .i64 0,.int .i64 ((runT (Qi f) l).nlost),.int .i64 ((runT (Qi f) l).ncash)],false⟩]
abbrev z23_3:List AV:=[.int .i64 0,.int .i64 0,.int .i64 0,.int .i64 0,.int .i64 0,.int .i64 0]
theorem p23_start_0 (f:Fair) (l:(List Dl)) {E:Env} {rv:AV} (hE:Qg Try.prog 23 rv E) (ho:AllP [Xf Try.prog (.clos 71 [] []) [.agg (yj f),.rsl (Qu l) 0 l.length,.clos 72 [] []] [] (.tup [.ptr 7 0 0,.int .i64 0,.int .i64 0]) (z23_2 f l),false=false,0=0])
 (hg:G Try.prog E (f23K0 Try.prog) ⟨([J,J,J,J,.ptr 1 0 0,J,.ptr 9 0 0]++jj 19 ([.sl 6 0 0 ((runT (Qi f) l).purses.length) 2,.int .i64 (((runT (Qi f) l).purses.length:Nat):Int),.int .i64 0]++Js 19)),[⟨true,0,1,true,(yj f),false⟩,⟨true,0,1,true,z23_3,false⟩,⟨true,0,1,true,(yj f),false⟩,⟨true,0,1,true,(yj f),false⟩,⟨true,0,1,true,(rowI (runT (Qi f) l).stock),true⟩,⟨true,0,1,true,(rowI (runT (Qi f) l).cash),true⟩,⟨true,0,2,true,(Qf (runT (Qi f) l).purses),true⟩,⟨true,0,1,true,(rowI (runT (Qi f) l).boxes),true⟩,⟨true,0,1,false,[.sl 4 0 0 ((runT (Qi f) l).stock.length) 1,.sl 5 0 0 ((runT (Qi f) l).cash.length) 1,.sl 6 0 0 ((runT (Qi f) l).purses.length) 2,.sl 7 0 0 ((runT (Qi f) l).boxes.length) 1,.int .i64 0],false⟩,⟨true,0,1,false,[.int .i64 f.purses,.int .i64 f.boxes,.rsl (rowI f.stock) 0 f.stock.length,.rsl (rowI f.cash) 0 f.cash.length,.rsl (Qr f.bundles) 0 f.bundles.length,.int .i64 f.refund,.int .i64 f.band,.int .i64 f.hours,.sl 4 0 0 ((runT (Qi f) l).stock.length) 1,.sl 5 0 0 ((runT (Qi f) l).cash.length) 1,.sl 6 0 0 ((runT (Qi f) l).purses.length) 2,.sl 7 0 0 ((runT (Qi f) l).boxes.length) 1,.int .i64 ((runT (Qi f) l).lost),.int .i64 ((runT (Qi f) l).last),.int .i64 ((runT (Qi f) l).sold),.int .i64 ((runT (Qi f) l).taken),.int .i64 ((runT (Qi f) l).ret),.int .i64 0,.int .i64 ((runT (Qi f) l).nlost),.int .i64 ((runT (Qi f) l).ncash)],false⟩]⟩):G Try.prog E [.code (Qd Try.prog 23)] ⟨[.agg (yj f),.rsl (Qu l) 0 l.length]++unds (Try.f23.ntmps - 2),[]⟩ :=
 Ql (n:=400) (ds:=[]) (cs:=[]) (live:=[4,6,26,27,28]) (m:=10) (evs:=[.lent [] (.tup [.ptr 7 0 0,.int .i64 0,.int .i64 0]) (z23_2 f l),.b false,.stop]) (obs:=_) hE.2.1 (hE.nogh _) Qp (by kernel_rfl) ho hg
theorem p23_start_1 (f:Fair) (l:(List Dl)) {E:Env} {res:AV} (hE:Qg Try.prog 23 res E) (ho:AllP [Xf Try.prog (.clos 71 [] []) [.agg (yj f),.rsl (Qu l) 0 l.length,.clos 72 [] []] [] (.tup [.nilPtr,.int .i64 ((QH f l).1),.int .i64 ((QH f l).2)]) [],((QH f l).2 != 0)=true,6≤6])
 (hr:AvLe (.tup [.agg z23_3,.int .i64 ((QH f l).2)]) res):G Try.prog E [.code (Qd Try.prog 23)] ⟨[.agg (yj f),.rsl (Qu l) 0 l.length]++unds (Try.f23.ntmps - 2),[]⟩ :=
 Qc (n:=400) (evs:=[.lent [] (.tup [.nilPtr,.int .i64 ((QH f l).1),.int .i64 ((QH f l).2)]) [],.b true]) (obs:=_) hE Try.func23 Qp (by kernel_rfl) ho hr
theorem f23W (f:Fair) (l:(List Dl)) {E:Env} {rv:(Ngt × Int)} (hE:Qg Try.prog 23 (.tup [.agg [.int .i64 rv.1.sold,.int .i64 rv.1.taken,.int .i64 rv.1.ret,.int .i64 rv.1.held,.int .i64 rv.1.lost,.int .i64 rv.1.cash],.int .i64 rv.2]) E)
 (h:(((QH f l).2=0→((Vs f l)∧f23G0 E f l ((runT (Qi f) l).purses) ((runT (Qi f) l).stock) ((runT (Qi f) l).cash) ((runT (Qi f) l).boxes) 0 0))∧(¬ ((QH f l).2=0)→((Vs f l)∧((¬ ((QH f l).2=0)→rv=((⟨0,0,0,0,0,0⟩:Ngt),(QH f l).2))∧((QH f l).2=0→False)))))):G Try.prog E [.code (Qd Try.prog 23)] ⟨[.agg [.int .i64 f.purses,.int .i64 f.boxes,.rsl (rowI f.stock) 0 f.stock.length,.rsl (rowI f.cash) 0 f.cash.length,.rsl (Qr f.bundles) 0 f.bundles.length,.int .i64 f.refund,.int .i64 f.band,.int .i64 f.hours],.rsl (Qu l) 0 l.length]++unds (Try.f23.ntmps - 2),[]⟩:=by
 rcases bft (decide ((QH f l).2=0)) with hc0 | hc0
 · have h:=h.1 (odt hc0)
   obtain ⟨h1,h⟩:=h
   exact p23_start_0 f l hE ⟨(Qw Try.func71 (by kernel_rfl) f71b (play_fine f l h1 (odt hc0))),rfl,rfl,trivial⟩ (h 0 0 0 0)
 · have h:=h.2 (odf hc0)
   obtain ⟨h1,h⟩:=h
   rcases bft ((QH f l).2 != 0) with hc1 | hc1
   · have h:=h.1 (bneT hc1)
     exact p23_start_1 f l hE ⟨(Qw Try.func71 (by kernel_rfl) f71b (play_err f l h1 (odf hc0))),hc1,(by decide),trivial⟩ (AvLe.of_eq (by rw [h]; try rfl))
   · have h:=h.2 (bneF hc1)
     exact h.elim
theorem p23_0_0 (f:Fair) (l:(List Dl)) (v6:List Pur) (v4:List Int) (v5:List Int) (v7:List Int) (i:Nat) (v9_17:Int) (g6:Nat) (g4:Nat) (g5:Nat) (g7:Nat) (pe:Pur) {E:Env} {rv:AV} (hE:Qg Try.prog 23 rv E) (ho:AllP [(decide ((i:Int)<(((runT (Qi f) l).purses.length:Nat):Int)))=true,0≤(i:Int)∧(i:Int)<(v6.length:Int),g6=g6,g6=g6,((Qf v6).drop (0+(Int.toNat (i:Int))*2)).take 2=[.int .i64 pe.tokens,.int .i64 pe.till],2≤2,InR .i64 (v9_17+pe.tokens),18≤20,InR .i64 ((i:Int)+1)])
 (hg:G Try.prog E (f23K0 Try.prog) ⟨([J,J,J,J,.ptr 1 0 0,J,.ptr 9 0 0]++jj 19 ([.sl 6 g6 0 v6.length 2,.int .i64 (((runT (Qi f) l).purses.length:Nat):Int),.int .i64 ((i:Int)+1)]++Js 19)),[⟨true,0,1,true,(yj f),false⟩,⟨true,0,1,true,z23_3,false⟩,⟨true,0,1,true,(yj f),false⟩,⟨true,0,1,true,(yj f),false⟩,⟨true,g4,1,true,(rowI v4),true⟩,⟨true,g5,1,true,(rowI v5),true⟩,⟨true,g6,2,true,(Qf v6),true⟩,⟨true,g7,1,true,(rowI v7),true⟩,⟨true,0,1,false,[.sl 4 g4 0 v4.length 1,.sl 5 g5 0 v5.length 1,.sl 6 g6 0 v6.length 2,.sl 7 g7 0 v7.length 1,.int .i64 0],false⟩,⟨true,0,1,false,[.int .i64 f.purses,.int .i64 f.boxes,.rsl (rowI f.stock) 0 f.stock.length,.rsl (rowI f.cash) 0 f.cash.length,.rsl (Qr f.bundles) 0 f.bundles.length,.int .i64 f.refund,.int .i64 f.band,.int .i64 f.hours,.sl 4 g4 0 v4.length 1,.sl 5 g5 0 v5.length 1,.sl 6 g6 0 v6.length 2,.sl 7 g7 0 v7.length 1,.int .i64 ((runT (Qi f) l).lost),.int .i64 ((runT (Qi f) l).last),.int .i64 ((runT (Qi f) l).sold),.int .i64 ((runT (Qi f) l).taken),.int .i64 ((runT (Qi f) l).ret),.int .i64 (v9_17+pe.tokens),.int .i64 ((runT (Qi f) l).nlost),.int .i64 ((runT (Qi f) l).ncash)],false⟩]⟩):G Try.prog E (f23K0 Try.prog) (f23S0 f l v6 v4 v5 v7 i v9_17 g6 g4 g5 g7) :=
 Ql (n:=400) (ds:=[]) (cs:=[]) (live:=[4,6,26,27,28]) (m:=10) (evs:=[.b true,.ld (.agg [.int .i64 pe.tokens,.int .i64 pe.till]),.stop]) (obs:=_) hE.2.1 (hE.nogh _) Qp (by kernel_rfl) ho hg
theorem p23_0_1 (f:Fair) (l:(List Dl)) (v6:List Pur) (v4:List Int) (v5:List Int) (v7:List Int) (i:Nat) (v9_17:Int) (g6:Nat) (g4:Nat) (g5:Nat) (g7:Nat) {E:Env} {res:AV} (hE:Qg Try.prog 23 res E) (ho:AllP [(decide ((i:Int)<(((runT (Qi f) l).purses.length:Nat):Int)))=false,6≤6])
 (hr:AvLe (.tup [.agg [.int .i64 ((runT (Qi f) l).sold),.int .i64 ((runT (Qi f) l).taken),.int .i64 ((runT (Qi f) l).ret),.int .i64 v9_17,.int .i64 ((runT (Qi f) l).nlost),.int .i64 ((runT (Qi f) l).ncash)],.int .i64 0]) res):G Try.prog E (f23K0 Try.prog) (f23S0 f l v6 v4 v5 v7 i v9_17 g6 g4 g5 g7) :=
 Qc (n:=400) (evs:=[.b false]) (obs:=_) hE Try.func23 Qp (by kernel_rfl) ho hr
theorem f23W0 (f:Fair) (l:(List Dl)) (v6:List Pur) (v4:List Int) (v5:List Int) (v7:List Int) (i:Nat) (v9_17:Int) {E:Env} {rv:(Ngt × Int)} (hE:Qg Try.prog 23 (.tup [.agg [.int .i64 rv.1.sold,.int .i64 rv.1.taken,.int .i64 rv.1.ret,.int .i64 rv.1.held,.int .i64 rv.1.lost,.int .i64 rv.1.cash],.int .i64 rv.2]) E)
 (h:(((i:Int)<(((runT (Qi f) l).purses.length:Nat):Int)→(∃ pe:Pur,v6[i]?=some pe∧((I6 (v9_17+pe.tokens))∧((I6 ((i:Int)+1))∧f23G0 E f l v6 v4 v5 v7 (i+1) (v9_17+pe.tokens)))))∧(¬ ((i:Int)<(((runT (Qi f) l).purses.length:Nat):Int))→rv=((⟨(runT (Qi f) l).sold,(runT (Qi f) l).taken,(runT (Qi f) l).ret,v9_17,(runT (Qi f) l).nlost,(runT (Qi f) l).ncash⟩:Ngt),0)))):f23G0 E f l v6 v4 v5 v7 i v9_17:=by
 intro g6 g4 g5 g7
 rcases bft (decide ((i:Int)<(((runT (Qi f) l).purses.length:Nat):Int))) with hc0 | hc0
 · have h:=h.1 (odt hc0)
   obtain ⟨pe,h1,h⟩:=h
   obtain ⟨q7_1,h⟩:=h
   obtain ⟨q9_1,h⟩:=h
   exact p23_0_0 f l v6 v4 v5 v7 i v9_17 g6 g4 g5 g7 pe hE ⟨hc0,(QF h1),rfl,rfl,(rp cPur 2 0 2 h1),(by decide),q7_1,(by decide),q9_1,trivial⟩ (h g6 g4 g5 g7)
 · have h:=h.2 (odf hc0)
   exact p23_0_1 f l v6 v4 v5 v7 i v9_17 g6 g4 g5 g7 hE ⟨hc0,(by decide),trivial⟩ (AvLe.of_eq (by rw [h]; try rfl))
theorem psum_bd {B:Int} (hB:0≤B):∀ {l:List Pur},(∀ p ∈ l,Bd B p.tokens)→Bd (B*l.length) (l.map Pur.tokens).sum
 | [],_=>by simp [Bd]
 | a :: l,h=>by
  have h1:=h a (by simp)
  have h2:=psum_bd hB (l:=l) fun x hx=>h x (by simp [hx])
  simp only [List.map_cons,List.sum_cons,List.length_cons,Int.natCast_add,Int.mul_add]
  have:B*((1:Nat):Int)=B:=by simp
  unfold Bd at *
  omega
theorem WO (f:Fair) (l:List Dl) (h:Vs f l):Pure Try.prog 23 [.agg [.int .i64 f.purses,.int .i64 f.boxes,.rsl (rowI f.stock) 0 f.stock.length,.rsl (rowI f.cash) 0 f.cash.length,.rsl (Qr f.bundles) 0 f.bundles.length,.int .i64 f.refund,.int .i64 f.band,.int .i64 f.hours],.rsl (Qu l) 0 l.length] (.tup [.agg (cNgt (accK f l).1),.int .i64 (accK f l).2]):=QC Try.func23 f23b fun E hE=>by
 refine f23W f l (rv:=accK f l) hE ⟨fun e=>⟨h,?_⟩,fun e=>⟨h,fun _=>by rw [accK,if_neg e],fun h=>absurd h e⟩⟩
 obtain ⟨z1,z2,z3,z4⟩:=Qal e
 have hR:=run_ok (Wu z1) z3 (by omega)
 have hf:(runT (Qi f) l).f=f:=runT_f
 have hpu:=(qG z1).pu
 have hl:=hR.len.pu
 rw [hf] at hl
 have ea:accK f l=(⟨(runT (Qi f) l).sold,(runT (Qi f) l).taken,(runT (Qi f) l).ret,((runT (Qi f) l).purses.map Pur.tokens).sum,(runT (Qi f) l).nlost,(runT (Qi f) l).ncash⟩,0):=by rw [accK,if_pos e]
 generalize hgen:runT (Qi f) l=R at hR hf hl ea ⊢
 have bd:∀ k,Bd 1000000000000000 ((R.purses.take k).map Pur.tokens).sum:=fun k=>by
  have h1:=psum_bd (B:=1000000+1000000000*((0+l.length:Nat):Int)) (by omega) (l:=R.purses.take k) fun p hp=>(hR.pu p (List.mem_of_mem_take hp)).1
  have h2:((R.purses.take k).length:Int)≤20:=by rw [List.length_take]; omega
  have h3:=Int.mul_le_mul (show 1000000+1000000000*((0+l.length:Nat):Int)≤1000000000000 by omega) h2 (by omega) (by omega)
  exact h1.up (by omega)
 have key:∀ (d i:Nat),i+d=R.purses.length→f23G0 E f l R.purses R.stock R.cash R.boxes i ((R.purses.take i).map Pur.tokens).sum:=by
  intro d
  induction d with
  | zero =>
   intro i hd
   have et:R.purses.take i=R.purses:=List.take_of_length_le (by omega)
   refine f23W0 f l _ _ _ _ i _ (rv:=accK f l) hE ⟨fun h=>by rw [hgen] at h; omega,fun _=>?_⟩
   rw [ea,hgen,et]
  | succ d ih =>
   intro i hd
   have hg:R.purses[i]?=some R.purses[i]:=List.getElem?_eq_getElem (by omega)
   have es:((R.purses.take (i+1)).map Pur.tokens).sum=((R.purses.take i).map Pur.tokens).sum+(R.purses[i]).tokens:=by
    rw [List.take_add_one,hg,List.map_append,List.sum_append]
    show _+(List.map Pur.tokens [R.purses[i]]).sum=_
    rw [List.map_cons,List.map_nil,List.sum_cons,List.sum_nil,Int.add_zero]
   have b1:=bd (i+1)
   unfold Bd at b1
   refine f23W0 f l _ _ _ _ i _ (rv:=accK f l) hE ⟨fun _=>⟨_,hg,by omega,by omega,?_⟩,fun h=>by rw [hgen] at h; omega⟩
   rw [← es]
   exact ih (i+1) (by omega)
 exact key R.purses.length 0 (by omega)
end Go.Proofs.Ytemklbioijmjiaa
namespace Go.Proofs.Ytemklbioijmjiaa
open Go Ax
open Go.Proofs
structure Cnt where
 stk:List Int
 csh:List Int
 prs:List Pur
 bxs:List Int
 lst:Int
def cCnt (c:Cnt):List AV:=[.rsl (rowI c.stk) 0 c.stk.length,.rsl (rowI c.csh) 0 c.csh.length,.rsl (Qf c.prs) 0 c.prs.length,.rsl (rowI c.bxs) 0 c.bxs.length,.int .i64 c.lst]
def cntT (T:Frs):Cnt:=⟨T.stock,T.cash,T.purses,T.boxes,T.lost⟩
def XJ (f:Fair) (c:Cnt):Frs:=⟨f,c.stk,c.csh,c.prs,c.bxs,c.lst,0,0,0,0,0,0,0⟩
/-- Whether a deal is possible,but for its time. -/
def YC (T:Frs) (d:Dl):Bool:=if d.n > 100000 then false else posK T d
theorem qA {T:Frs} {d:Dl}:posT T d=(Qa d.at_ T.last 1440 && YC T d):=by
 unfold posT YC
 cases Qa d.at_ T.last 1440 <;> rfl
/-- The reference adds to a deal's time before it looks at that. -/
def adjD (f:Fair) (d:Dl):Dl:=if d.kind=3 then ⟨IntKind.i64.wrap (d.at_+f.hours) - f.hours,d.kind,d.a,d.b,d.n⟩ else d
theorem adjD_n {f:Fair} {d:Dl} (h:¬ d.kind=3):adjD f d=d:=by rw [adjD,if_neg h]
theorem adjD_t {f:Fair} {d:Dl} (h:0≤d.at_∧d.at_≤1440) (hf:1≤f.hours∧f.hours≤1440):adjD f d=d:=by
 unfold adjD
 split
 · have:IntKind.i64.wrap (d.at_+f.hours)=d.at_+f.hours:=wrap_small _ (by omega) (by omega)
   rw [this,show d.at_+f.hours - f.hours=d.at_ by omega]
 · rfl
/-- A step of the reference. -/
def Yl (f:Fair) (c:Cnt) (d:Dl):Cnt × Bool:=if YC (XJ f c) d=true then (cntT (Qv (XJ f c) (adjD f d)),true) else (c,false)
theorem Xj {f:Fair} {c:Cnt} {d:Dl} (h:YC (XJ f c) d=false):Yl f c d=(c,false):=by rw [Yl,if_neg (by rw [h]; simp)]
theorem QaQ {f:Fair} {c:Cnt} {d:Dl} (h:YC (XJ f c) d=true):Yl f c d=(cntT (Qv (XJ f c) (adjD f d)),true):=by rw [Yl,if_pos h]
theorem WJ {f:Fair} {c:Cnt} {d:Dl} (k:¬ d.kind=3) (h:YC (XJ f c) d=true):Yl f c d=(cntT (Qv (XJ f c) d),true):=by rw [QaQ h,adjD_n k]
theorem happ_3 {T:Frs} {d:Dl} (k:d.kind=3):Qv T d=⟨T.f,T.stock,T.cash.set (Int.toNat d.a) (T.cash.getD (Int.toNat d.a) 0+T.f.band),T.purses.set (Int.toNat d.b) ⟨(purT T d.b).tokens,iMax (purT T d.b).till (d.at_+T.f.hours)⟩,T.boxes,T.lost,d.at_,T.sold,T.taken,T.ret,T.held,T.nlost,T.ncash+T.f.band⟩:=by
 rw [Qv,if_neg (by omega),if_neg (by omega),if_pos k]
theorem happ_cnt {T:Frs} {d:Dl}:cntT (Qv (XJ T.f (cntT T)) d)=cntT (Qv T d):=by
 unfold Qv
 by_cases h1:d.kind=1
 · rw [if_pos h1,if_pos h1]; rfl
 rw [if_neg h1,if_neg h1]
 by_cases h2:d.kind=2
 · rw [if_pos h2,if_pos h2]
   by_cases h:d.at_<(purT T d.a).till
   · rw [if_pos h,if_pos (show d.at_<(purT (XJ T.f (cntT T)) d.a).till from h)]; rfl
   · rw [if_neg h,if_neg (show ¬ d.at_<(purT (XJ T.f (cntT T)) d.a).till from h)]; rfl
 rw [if_neg h2,if_neg h2]
 by_cases h3:d.kind=3
 · rw [if_pos h3,if_pos h3]; rfl
 rw [if_neg h3,if_neg h3]
 by_cases h4:d.kind=4
 · rw [if_pos h4,if_pos h4]; rfl
 rw [if_neg h4,if_neg h4]
 by_cases h5:d.kind=5
 · rw [if_pos h5,if_pos h5]; rfl
 rw [if_neg h5,if_neg h5]
 by_cases h6:d.kind=6
 · rw [if_pos h6,if_pos h6]; rfl
 rw [if_neg h6,if_neg h6]
 by_cases h7:d.kind=7
 · rw [if_pos h7,if_pos h7]; rfl
 rw [if_neg h7,if_neg h7]; rfl
def Qj (f:Fair) (l:List Dl):Cnt × Int:=if (QH f l).2=0 then (cntT (runT (Qi f) l),0) else (⟨[],[],[],[],0⟩,(QH f l).2)
structure CopyIn (c:Cnt):Prop where
 s:c.stk.length≤1000000
 h:c.csh.length≤1000000
 p:c.prs.length≤1000000
 b:c.bxs.length≤1000000
/-- What a step of the reference is handed. -/
def StepIn (f:Fair) (c:Cnt):Prop:=f.bundles.length≤6∧∃ i,FOk (XJ f c) i∧i≤300
theorem YO {n lo hi:Int} (h:¬ (lo≤n∧n≤hi)):Qa n lo hi=false:=by
 cases hb:Qa n lo hi with
 | false=>rfl
 | true=>exact absurd (Qq.1 hb) h
theorem stepB_1 {T:Frs} {d:Dl} (k:d.kind=1) (hb:T.f.bundles.length≤6):YC T d=(Xc T d.a && (QD T d.b && (Qa d.n 0 ((T.f.bundles.length:Int) - 1) && decide (T.stock.getD (Int.toNat d.a) 0≥(bndT T d.n).tokens)))):=by
 unfold YC
 split
 · rw [YO (n:=d.n) (by omega)]; simp
 · rw [posK,if_pos k]
theorem stepB_2 {T:Frs} {d:Dl} (k:d.kind=2):YC T d=(QD T d.a && (boxT T d.b && (Qa d.n 0 1000 && (decide (d.at_<(purT T d.a).till) || decide ((purT T d.a).tokens≥d.n))))):=by
 unfold YC
 split
 · rw [YO (n:=d.n) (by omega)]; simp
 · rw [posK,if_neg (by omega),if_pos k]
theorem stepB_3 {T:Frs} {d:Dl} (k:d.kind=3):YC T d=(Xc T d.a && (QD T d.b && (d.n == 0))):=by
 unfold YC
 split
 · rw [show (d.n == 0)=false from beq_eq_false_iff_ne.2 (by omega)]; simp
 · rw [posK,if_neg (by omega),if_neg (by omega),if_pos k]
theorem has_100 {T:Frs} {p n:Int} (h:¬ n > 100000):hasT T p n=(QD T p && (Qa n 1 100000 && decide ((purT T p).tokens≥n))):=by
 rw [hasT]
 congr 1
 by_cases h1:1≤n
 · rw [Qq.2 (⟨h1,by omega⟩:1≤n∧n≤100000),Bool.true_and]
   by_cases h2:n≤(purT T p).tokens
   · rw [Qq.2 ⟨h1,h2⟩,decide_eq_true h2]
   · rw [YO (by omega),decide_eq_false h2]
 · rw [YO (by omega),YO (n:=n) (hi:=100000) (by omega),Bool.false_and]
theorem stepB_4 {T:Frs} {d:Dl} (k:d.kind=4):YC T d=(Xc T d.a && ((QD T d.b && (Qa d.n 1 100000 && decide ((purT T d.b).tokens≥d.n))) && decide (T.cash.getD (Int.toNat d.a) 0≥d.n*T.f.refund))):=by
 unfold YC
 split
 · rw [YO (n:=d.n) (by omega)]; simp
 · rename_i h; rw [posK,if_neg (by omega),if_neg (by omega),if_neg (by omega),if_pos k,has_100 h]
theorem stepB_5 {T:Frs} {d:Dl} (k:d.kind=5):YC T d=(Xc T d.a && (boxT T d.b && (d.n == 0))):=by
 unfold YC
 split
 · rw [show (d.n == 0)=false from beq_eq_false_iff_ne.2 (by omega)]; simp
 · rw [posK,if_neg (by omega),if_neg (by omega),if_neg (by omega),if_neg (by omega),if_pos k]
theorem stepB_6 {T:Frs} {d:Dl} (k:d.kind=6):YC T d=((QD T d.a && (Qa d.n 1 100000 && decide ((purT T d.a).tokens≥d.n))) && (QD T d.b && (d.a != d.b))):=by
 unfold YC
 split
 · rw [YO (n:=d.n) (by omega)]; simp
 · rename_i h; rw [posK,if_neg (by omega),if_neg (by omega),if_neg (by omega),if_neg (by omega),if_neg (by omega),if_pos k,has_100 h]
theorem stepB_7 {T:Frs} {d:Dl} (k:d.kind=7):YC T d=((QD T d.a && (Qa d.n 1 100000 && decide ((purT T d.a).tokens≥d.n))) && (d.b == 0)):=by
 unfold YC
 split
 · rw [YO (n:=d.n) (by omega)]; simp
 · rename_i h; rw [posK,if_neg (by omega),if_neg (by omega),if_neg (by omega),if_neg (by omega),if_neg (by omega),if_neg (by omega),if_pos k,has_100 h]
theorem stepB_0 {T:Frs} {d:Dl} (k1:¬ d.kind=1) (k2:¬ d.kind=2) (k3:¬ d.kind=3) (k4:¬ d.kind=4) (k5:¬ d.kind=5) (k6:¬ d.kind=6) (k7:¬ d.kind=7):YC T d=false:=by
 unfold YC
 split
 · rfl
 · rw [posK,if_neg k1,if_neg k2,if_neg k3,if_neg k4,if_neg k5,if_neg k6,if_neg k7]
theorem YM {f:Fair} (h:¬ FairV f):Xb f=10:=by
 cases hb:Yt f with
 | false=>exact XK hb
 | true=>exact absurd (qG (by unfold Xb; rw [if_pos hb])) h
theorem Kx {f:Fair} {b:Bndl} (hm:b ∈ f.bundles) (h:badB f b=true):Xb f=10:=by
 apply XK
 have:f.bundles.any (badB f)=true:=List.any_eq_true.2 ⟨b,hm,h⟩
 unfold Yt
 rw [this]; simp
theorem f41b:Try.f41.body=some (Qd Try.prog 41):=by kernel_rfl
theorem u41 {a c k:List AV} {r:AV} (h:Pure Try.prog 41 (a++c++k) r):Qe Try.prog (.clos 41 a k) c r:=Qs Try.func41 (by kernel_rfl) f41b h
abbrev z41_2 (f:Fair):List AV:=[.int .i64 f.purses,.int .i64 f.boxes,.rsl (rowI f.stock) 0 f.stock.length,.rsl (rowI f.cash) 0 f.cash.length,.rsl (Qr f.bundles) 0 f.bundles.length,.int .i64 f.refund,.int .i64 f.band,.int .i64 f.hours]
abbrev z41_1 (f:Fair) (l:(List Dl)):List Blk:=[⟨true,0,1,true,(z41_2 f),false⟩,⟨true,0,1,true,(z41_2 f),false⟩,⟨true,0,1,true,(rowI (runT (Qi f) l).stock),true⟩,⟨true,0,1,true,(rowI (runT (Qi f) l).cash),true⟩,⟨true,0,2,true,(Qf (runT (Qi f) l).purses),true⟩,⟨true,0,1,true,(rowI (runT (Qi f) l).boxes),true⟩,⟨true,0,1,false,[.sl 2 0 0 ((runT (Qi f) l).stock.length) 1,.sl 3 0 0 ((runT (Qi f) l).cash.length) 1,.sl 4 0 0 ((runT (Qi f) l).purses.length) 2,.sl 5 0 0 ((runT (Qi f) l).boxes.length) 1,.int .i64 0],false⟩,⟨true,0,1,false,[.int .i64 f.purses,.int .i64 f.boxes,.rsl (rowI f.stock) 0 f.stock.length,.rsl (rowI f.cash) 0 f.cash.length,.rsl (Qr f.bundles) 0 f.bundles.length,.int .i64 f.refund,.int .i64 f.band,.int .i64 f.hours,.sl 2 0 0 ((runT (Qi f) l).stock.length) 1,.sl 3 0 0 ((runT (Qi f) l).cash.length) 1,.sl 4 0 0 ((runT (Qi f) l).purses.length) 2,.sl 5 0 0 ((runT (Qi f) l).boxes.length) 1,.int .i64 ((runT (Qi f) l).lost),.int .i64 ((runT (Qi f) l).last),.int .i64 ((runT (Qi f) l).sold),.int .i64 ((runT (Qi f) l).taken),.int .i64 ((runT (Qi f) l).ret),.int .i64 0,.int .i64 ((runT (Qi f) l).nlost),.int .i64 ((runT (Qi f) l).ncash)],false⟩]
theorem p41_start_0 (f:Fair) (l:(List Dl)) {E:Env} {res:AV} (hE:Qg Try.prog 41 res E) (ho:AllP [Xf Try.prog (.clos 71 [] []) [.agg (z41_2 f),.rsl (Qu l) 0 l.length,.clos 72 [] []] [] (.tup [.ptr 7 0 0,.int .i64 0,.int .i64 0]) (z41_1 f l),false=false,5≤5,0=0,0=0,0=0,0=0])
 (hr:AvLe (.tup [.agg [.rsl (rowI (runT (Qi f) l).stock) 0 ((runT (Qi f) l).stock.length),.rsl (rowI (runT (Qi f) l).cash) 0 ((runT (Qi f) l).cash.length),.rsl (Qf (runT (Qi f) l).purses) 0 ((runT (Qi f) l).purses.length),.rsl (rowI (runT (Qi f) l).boxes) 0 ((runT (Qi f) l).boxes.length),.int .i64 ((runT (Qi f) l).lost)],.int .i64 0]) res):G Try.prog E [.code (Qd Try.prog 41)] ⟨[.agg (z41_2 f),.rsl (Qu l) 0 l.length]++unds (Try.f41.ntmps - 2),[]⟩ :=
 Qc (n:=400) (evs:=[.lent [] (.tup [.ptr 7 0 0,.int .i64 0,.int .i64 0]) (z41_1 f l),.b false]) (obs:=_) hE Try.func41 Qp (by kernel_rfl) ho hr
theorem p41_start_1 (f:Fair) (l:(List Dl)) {E:Env} {res:AV} (hE:Qg Try.prog 41 res E) (ho:AllP [Xf Try.prog (.clos 71 [] []) [.agg (z41_2 f),.rsl (Qu l) 0 l.length,.clos 72 [] []] [] (.tup [.nilPtr,.int .i64 ((QH f l).1),.int .i64 ((QH f l).2)]) [],((QH f l).2 != 0)=true,5≤5])
 (hr:AvLe (.tup [.agg [.nilSl,.nilSl,.nilSl,.nilSl,.int .i64 0],.int .i64 ((QH f l).2)]) res):G Try.prog E [.code (Qd Try.prog 41)] ⟨[.agg (z41_2 f),.rsl (Qu l) 0 l.length]++unds (Try.f41.ntmps - 2),[]⟩ :=
 Qc (n:=400) (evs:=[.lent [] (.tup [.nilPtr,.int .i64 ((QH f l).1),.int .i64 ((QH f l).2)]) [],.b true]) (obs:=_) hE Try.func41 Qp (by kernel_rfl) ho hr
theorem f41W (f:Fair) (l:(List Dl)) {E:Env} {rv:(Cnt × Int)} (hE:Qg Try.prog 41 (.tup [.agg [.rsl (rowI rv.1.stk) 0 rv.1.stk.length,.rsl (rowI rv.1.csh) 0 rv.1.csh.length,.rsl (Qf rv.1.prs) 0 rv.1.prs.length,.rsl (rowI rv.1.bxs) 0 rv.1.bxs.length,.int .i64 rv.1.lst],.int .i64 rv.2]) E)
 (h:(((QH f l).2=0→((Vs f l)∧rv=((⟨(runT (Qi f) l).stock,(runT (Qi f) l).cash,(runT (Qi f) l).purses,(runT (Qi f) l).boxes,(runT (Qi f) l).lost⟩:Cnt),0)))∧(¬ ((QH f l).2=0)→((Vs f l)∧((¬ ((QH f l).2=0)→rv=((⟨([]:List Int),([]:List Int),([]:List Pur),([]:List Int),0⟩:Cnt),(QH f l).2))∧((QH f l).2=0→False)))))):G Try.prog E [.code (Qd Try.prog 41)] ⟨[.agg [.int .i64 f.purses,.int .i64 f.boxes,.rsl (rowI f.stock) 0 f.stock.length,.rsl (rowI f.cash) 0 f.cash.length,.rsl (Qr f.bundles) 0 f.bundles.length,.int .i64 f.refund,.int .i64 f.band,.int .i64 f.hours],.rsl (Qu l) 0 l.length]++unds (Try.f41.ntmps - 2),[]⟩:=by
 rcases bft (decide ((QH f l).2=0)) with hc0 | hc0
 · have h:=h.1 (odt hc0)
   obtain ⟨h1,h⟩:=h
   exact p41_start_0 f l hE ⟨(Qw Try.func71 (by kernel_rfl) f71b (play_fine f l h1 (odt hc0))),rfl,(by decide),rfl,rfl,rfl,rfl,trivial⟩ (AvLe.of_eq (by rw [h]; try rfl))
 · have h:=h.2 (odf hc0)
   obtain ⟨h1,h⟩:=h
   rcases bft ((QH f l).2 != 0) with hc1 | hc1
   · have h:=h.1 (bneT hc1)
     exact p41_start_1 f l hE ⟨(Qw Try.func71 (by kernel_rfl) f71b (play_err f l h1 (odf hc0))),hc1,(by decide),trivial⟩ (by rw [h]; exact (Vh ⟨(agg_le ⟨Yd,⟨Yd,⟨Yd,⟨Yd,⟨AvLe.of_eq rfl,trivial⟩⟩⟩⟩⟩),⟨AvLe.of_eq rfl,trivial⟩⟩))
   · have h:=h.2 (bneF hc1)
     exact h.elim
theorem VO (f:Fair) (l:List Dl) (h:Vs f l):Pure Try.prog 41 [.agg [.int .i64 f.purses,.int .i64 f.boxes,.rsl (rowI f.stock) 0 f.stock.length,.rsl (rowI f.cash) 0 f.cash.length,.rsl (Qr f.bundles) 0 f.bundles.length,.int .i64 f.refund,.int .i64 f.band,.int .i64 f.hours],.rsl (Qu l) 0 l.length] (.tup [.agg (cCnt (Qj f l).1),.int .i64 (Qj f l).2]):=QC Try.func41 f41b fun E hE =>
 f41W f l (rv:=Qj f l) hE ⟨fun e=>⟨h,by rw [Qj,if_pos e]; rfl⟩,fun e=>⟨h,fun _=>by rw [Qj,if_neg e],fun h=>absurd h e⟩⟩
theorem f101b:Try.f101.body=some (Qd Try.prog 101):=by kernel_rfl
theorem u101 {a c k:List AV} {r:AV} (h:Pure Try.prog 101 (a++c++k) r):Qe Try.prog (.clos 101 a k) c r:=Qs Try.func101 (by kernel_rfl) f101b h
theorem p101_start_0 (n:Int) (lo:Int) (hi:Int) {E:Env} {res:AV} (hE:Qg Try.prog 101 res E) (ho:AllP [(decide (n≥lo))=true])
 (hr:AvLe (.bool (decide (n≤hi))) res):G Try.prog E [.code (Qd Try.prog 101)] ⟨[.int .i64 n,.int .i64 lo,.int .i64 hi]++unds (Try.f101.ntmps - 3),[]⟩ :=
 Qc (n:=400) (evs:=[.b true]) (obs:=_) hE Try.func101 Qp (by kernel_rfl) ho hr
theorem p101_start_1 (n:Int) (lo:Int) (hi:Int) {E:Env} {res:AV} (hE:Qg Try.prog 101 res E) (ho:AllP [(decide (n≥lo))=false])
 (hr:AvLe (.bool false) res):G Try.prog E [.code (Qd Try.prog 101)] ⟨[.int .i64 n,.int .i64 lo,.int .i64 hi]++unds (Try.f101.ntmps - 3),[]⟩ :=
 Qc (n:=400) (evs:=[.b false]) (obs:=_) hE Try.func101 Qp (by kernel_rfl) ho hr
theorem f101W (n:Int) (lo:Int) (hi:Int) {E:Env} {rv:Bool} (hE:Qg Try.prog 101 (.bool rv) E)
 (h:((n≥lo→rv=(decide (n≤hi)))∧(¬ (n≥lo)→rv=false))):G Try.prog E [.code (Qd Try.prog 101)] ⟨[.int .i64 n,.int .i64 lo,.int .i64 hi]++unds (Try.f101.ntmps - 3),[]⟩:=by
 rcases bft (decide (n≥lo)) with hc0 | hc0
 · have h:=h.1 (odt hc0)
   exact p101_start_0 n lo hi hE ⟨hc0,trivial⟩ (AvLe.of_eq (by rw [h]; try rfl))
 · have h:=h.2 (odf hc0)
   exact p101_start_1 n lo hi hE ⟨hc0,trivial⟩ (AvLe.of_eq (by rw [h]; try rfl))
theorem Qb (n lo hi:Int):Pure Try.prog 101 [.int .i64 n,.int .i64 lo,.int .i64 hi] (.bool (Qa n lo hi)):=QC Try.func101 f101b fun E hE=>by
 refine f101W n lo hi (rv:=Qa n lo hi) hE ⟨fun h=>?_,fun h=>YO (by omega)⟩
 by_cases h2:n≤hi
 · rw [decide_eq_true h2]; exact Qq.2 ⟨h,h2⟩
 · rw [decide_eq_false h2]; exact YO (by omega)
theorem f98b:Try.f98.body=some (Qd Try.prog 98):=by kernel_rfl
theorem u98 {a c k:List AV} {r:AV} (h:Pure Try.prog 98 (a++c++k) r):Qe Try.prog (.clos 98 a k) c r:=Qs Try.func98 (by kernel_rfl) f98b h
def KW (P:Program):List Item:=kAt 400 [.code (Qd P 98)] [.b false,.stop]
def f98S0 (f:Fair) (i:Nat):St:=⟨([J,.ptr 0 0 0,J,.int .i64 (i:Int)]++Js 105),[⟨true,0,1,true,[.int .i64 f.purses,.int .i64 f.boxes,.rsl (rowI f.stock) 0 f.stock.length,.rsl (rowI f.cash) 0 f.cash.length,.rsl (Qr f.bundles) 0 f.bundles.length,.int .i64 f.refund,.int .i64 f.band,.int .i64 f.hours],false⟩]⟩
def f98G0 (E:Env) (f:Fair) (i:Nat):Prop:=G Try.prog E (KW Try.prog) (f98S0 f i )
def f98K1 (P:Program):List Item:=kAt 400 [.code (Qd P 98)] [.b false,.b false,.b false,.stop]
def f98S1 (f:Fair) (i:Nat):St:=⟨([J,.ptr 0 0 0,J,J,.int .i64 (i:Int)]++Js 104),[⟨true,0,1,true,[.int .i64 f.purses,.int .i64 f.boxes,.rsl (rowI f.stock) 0 f.stock.length,.rsl (rowI f.cash) 0 f.cash.length,.rsl (Qr f.bundles) 0 f.bundles.length,.int .i64 f.refund,.int .i64 f.band,.int .i64 f.hours],false⟩]⟩
def f98G1 (E:Env) (f:Fair) (i:Nat):Prop:=G Try.prog E (f98K1 Try.prog) (f98S1 f i )
abbrev KR (f:Fair):List AV:=[.int .i64 f.purses,.int .i64 f.boxes,.rsl (rowI f.stock) 0 f.stock.length,.rsl (rowI f.cash) 0 f.cash.length,.rsl (Qr f.bundles) 0 f.bundles.length,.int .i64 f.refund,.int .i64 f.band,.int .i64 f.hours]
abbrev z98_2 (f:Fair):List AV:=[.int .i64 (f.stock.length:Int),.int .i64 1,.int .i64 8]
abbrev z98_3 (f:Fair):List AV:=[.int .i64 f.refund,.int .i64 0,.int .i64 1000]
abbrev z98_4 (be:Bndl):List AV:=[.int .i64 be.tokens,.int .i64 1,.int .i64 1000]
theorem p98_start_0 (f:Fair) {E:Env} {res:AV} (hE:Qg Try.prog 98 res E) (ho:AllP [Qe Try.prog (.clos 101 [] []) (z98_2 f) (.bool (Qa (f.stock.length:Int) 1 8)),(!(Qa (f.stock.length:Int) 1 8))=true,true=true,true=true,true=true,true=true])
 (hr:AvLe (.int .i64 10) res):G Try.prog E [.code (Qd Try.prog 98)] ⟨[.agg (KR f)]++unds (Try.f98.ntmps - 1),[]⟩ :=
 Qc (n:=400) (evs:=[.v (.bool (Qa (f.stock.length:Int) 1 8)),.b true,.b true,.b true,.b true,.b true]) (obs:=_) hE Try.func98 Qp (by kernel_rfl) ho hr
theorem p98_start_1 (f:Fair) {E:Env} {res:AV} (hE:Qg Try.prog 98 res E) (ho:AllP [Qe Try.prog (.clos 101 [] []) (z98_2 f) (.bool (Qa (f.stock.length:Int) 1 8)),(!(Qa (f.stock.length:Int) 1 8))=false,((f.cash.length:Int) != (f.stock.length:Int))=true,true=true,true=true,true=true])
 (hr:AvLe (.int .i64 10) res):G Try.prog E [.code (Qd Try.prog 98)] ⟨[.agg (KR f)]++unds (Try.f98.ntmps - 1),[]⟩ :=
 Qc (n:=400) (evs:=[.v (.bool (Qa (f.stock.length:Int) 1 8)),.b false,.b true,.b true,.b true,.b true]) (obs:=_) hE Try.func98 Qp (by kernel_rfl) ho hr
theorem p98_start_2 (f:Fair) {E:Env} {res:AV} (hE:Qg Try.prog 98 res E) (ho:AllP [Qe Try.prog (.clos 101 [] []) (z98_2 f) (.bool (Qa (f.stock.length:Int) 1 8)),(!(Qa (f.stock.length:Int) 1 8))=false,((f.cash.length:Int) != (f.stock.length:Int))=false,Qe Try.prog (.clos 101 [] []) [.int .i64 f.purses,.int .i64 0,.int .i64 20] (.bool (Qa f.purses 0 20)),(!(Qa f.purses 0 20))=true,true=true,true=true])
 (hr:AvLe (.int .i64 10) res):G Try.prog E [.code (Qd Try.prog 98)] ⟨[.agg (KR f)]++unds (Try.f98.ntmps - 1),[]⟩ :=
 Qc (n:=400) (evs:=[.v (.bool (Qa (f.stock.length:Int) 1 8)),.b false,.b false,.v (.bool (Qa f.purses 0 20)),.b true,.b true,.b true]) (obs:=_) hE Try.func98 Qp (by kernel_rfl) ho hr
theorem p98_start_3 (f:Fair) {E:Env} {res:AV} (hE:Qg Try.prog 98 res E) (ho:AllP [Qe Try.prog (.clos 101 [] []) (z98_2 f) (.bool (Qa (f.stock.length:Int) 1 8)),(!(Qa (f.stock.length:Int) 1 8))=false,((f.cash.length:Int) != (f.stock.length:Int))=false,Qe Try.prog (.clos 101 [] []) [.int .i64 f.purses,.int .i64 0,.int .i64 20] (.bool (Qa f.purses 0 20)),(!(Qa f.purses 0 20))=false,Qe Try.prog (.clos 101 [] []) [.int .i64 f.boxes,.int .i64 0,.int .i64 12] (.bool (Qa f.boxes 0 12)),(!(Qa f.boxes 0 12))=true,true=true])
 (hr:AvLe (.int .i64 10) res):G Try.prog E [.code (Qd Try.prog 98)] ⟨[.agg (KR f)]++unds (Try.f98.ntmps - 1),[]⟩ :=
 Qc (n:=400) (evs:=[.v (.bool (Qa (f.stock.length:Int) 1 8)),.b false,.b false,.v (.bool (Qa f.purses 0 20)),.b false,.v (.bool (Qa f.boxes 0 12)),.b true,.b true]) (obs:=_) hE Try.func98 Qp (by kernel_rfl) ho hr
theorem p98_start_4 (f:Fair) {E:Env} {res:AV} (hE:Qg Try.prog 98 res E) (ho:AllP [Qe Try.prog (.clos 101 [] []) (z98_2 f) (.bool (Qa (f.stock.length:Int) 1 8)),(!(Qa (f.stock.length:Int) 1 8))=false,((f.cash.length:Int) != (f.stock.length:Int))=false,Qe Try.prog (.clos 101 [] []) [.int .i64 f.purses,.int .i64 0,.int .i64 20] (.bool (Qa f.purses 0 20)),(!(Qa f.purses 0 20))=false,Qe Try.prog (.clos 101 [] []) [.int .i64 f.boxes,.int .i64 0,.int .i64 12] (.bool (Qa f.boxes 0 12)),(!(Qa f.boxes 0 12))=false,(decide ((f.bundles.length:Int) > 6))=true])
 (hr:AvLe (.int .i64 10) res):G Try.prog E [.code (Qd Try.prog 98)] ⟨[.agg (KR f)]++unds (Try.f98.ntmps - 1),[]⟩ :=
 Qc (n:=400) (evs:=[.v (.bool (Qa (f.stock.length:Int) 1 8)),.b false,.b false,.v (.bool (Qa f.purses 0 20)),.b false,.v (.bool (Qa f.boxes 0 12)),.b false,.b true]) (obs:=_) hE Try.func98 Qp (by kernel_rfl) ho hr
theorem p98_start_5 (f:Fair) {E:Env} {rv:AV} (hE:Qg Try.prog 98 rv E) (ho:AllP [Qe Try.prog (.clos 101 [] []) (z98_2 f) (.bool (Qa (f.stock.length:Int) 1 8)),(!(Qa (f.stock.length:Int) 1 8))=false,((f.cash.length:Int) != (f.stock.length:Int))=false,Qe Try.prog (.clos 101 [] []) [.int .i64 f.purses,.int .i64 0,.int .i64 20] (.bool (Qa f.purses 0 20)),(!(Qa f.purses 0 20))=false,Qe Try.prog (.clos 101 [] []) [.int .i64 f.boxes,.int .i64 0,.int .i64 12] (.bool (Qa f.boxes 0 12)),(!(Qa f.boxes 0 12))=false,(decide ((f.bundles.length:Int) > 6))=false])
 (hg:G Try.prog E (KW Try.prog) ⟨([J,.ptr 0 0 0,J,.int .i64 0]++Js 105),[⟨true,0,1,true,(KR f),false⟩]⟩):G Try.prog E [.code (Qd Try.prog 98)] ⟨[.agg (KR f)]++unds (Try.f98.ntmps - 1),[]⟩ :=
 Ql (n:=400) (ds:=[]) (cs:=[]) (live:=[1,3]) (m:=1) (evs:=[.v (.bool (Qa (f.stock.length:Int) 1 8)),.b false,.b false,.v (.bool (Qa f.purses 0 20)),.b false,.v (.bool (Qa f.boxes 0 12)),.b false,.b false,.stop]) (obs:=_) hE.2.1 (hE.nogh _) Qp (by kernel_rfl) ho hg
theorem f98W (f:Fair) {E:Env} {rv:Int} (hE:Qg Try.prog 98 (.int .i64 rv) E)
 (h:(((Qa (f.stock.length:Int) 1 8)=false→rv=10)∧((Qa (f.stock.length:Int) 1 8)=true→((¬ ((f.cash.length:Int)=(f.stock.length:Int))→rv=10)∧((f.cash.length:Int)=(f.stock.length:Int)→(((Qa f.purses 0 20)=false→rv=10)∧((Qa f.purses 0 20)=true→(((Qa f.boxes 0 12)=false→rv=10)∧((Qa f.boxes 0 12)=true→(((f.bundles.length:Int) > 6→rv=10)∧(¬ ((f.bundles.length:Int) > 6)→f98G0 E f 0))))))))))):G Try.prog E [.code (Qd Try.prog 98)] ⟨[.agg [.int .i64 f.purses,.int .i64 f.boxes,.rsl (rowI f.stock) 0 f.stock.length,.rsl (rowI f.cash) 0 f.cash.length,.rsl (Qr f.bundles) 0 f.bundles.length,.int .i64 f.refund,.int .i64 f.band,.int .i64 f.hours]]++unds (Try.f98.ntmps - 1),[]⟩:=by
 rcases bft (!(Qa (f.stock.length:Int) 1 8)) with hc0 | hc0
 · have h:=h.1 (bnT hc0)
   exact p98_start_0 f hE ⟨(u101 (Qb (f.stock.length:Int) 1 8)),hc0,rfl,rfl,rfl,rfl,trivial⟩ (AvLe.of_eq (by rw [h]; try rfl))
 · have h:=h.2 (bnF hc0)
   rcases bft ((f.cash.length:Int) != (f.stock.length:Int)) with hc1 | hc1
   · have h:=h.1 (bneT hc1)
     exact p98_start_1 f hE ⟨(u101 (Qb (f.stock.length:Int) 1 8)),hc0,hc1,rfl,rfl,rfl,trivial⟩ (AvLe.of_eq (by rw [h]; try rfl))
   · have h:=h.2 (bneF hc1)
     rcases bft (!(Qa f.purses 0 20)) with hc2 | hc2
     · have h:=h.1 (bnT hc2)
       exact p98_start_2 f hE ⟨(u101 (Qb (f.stock.length:Int) 1 8)),hc0,hc1,(u101 (Qb f.purses 0 20)),hc2,rfl,rfl,trivial⟩ (AvLe.of_eq (by rw [h]; try rfl))
     · have h:=h.2 (bnF hc2)
       rcases bft (!(Qa f.boxes 0 12)) with hc3 | hc3
       · have h:=h.1 (bnT hc3)
         exact p98_start_3 f hE ⟨(u101 (Qb (f.stock.length:Int) 1 8)),hc0,hc1,(u101 (Qb f.purses 0 20)),hc2,(u101 (Qb f.boxes 0 12)),hc3,rfl,trivial⟩ (AvLe.of_eq (by rw [h]; try rfl))
       · have h:=h.2 (bnF hc3)
         rcases bft (decide ((f.bundles.length:Int) > 6)) with hc4 | hc4
         · have h:=h.1 (odt hc4)
           exact p98_start_4 f hE ⟨(u101 (Qb (f.stock.length:Int) 1 8)),hc0,hc1,(u101 (Qb f.purses 0 20)),hc2,(u101 (Qb f.boxes 0 12)),hc3,hc4,trivial⟩ (AvLe.of_eq (by rw [h]; try rfl))
         · have h:=h.2 (odf hc4)
           exact p98_start_5 f hE ⟨(u101 (Qb (f.stock.length:Int) 1 8)),hc0,hc1,(u101 (Qb f.purses 0 20)),hc2,(u101 (Qb f.boxes 0 12)),hc3,hc4,trivial⟩ h
theorem p98_0_0 (f:Fair) (i:Nat) (e:Int) {E:Env} {res:AV} (hE:Qg Try.prog 98 res E) (ho:AllP [(decide ((i:Int)<(f.stock.length:Int)))=true,0≤(i:Int)∧(i:Int)<(f.stock.length:Int),((rowI f.stock).drop (0+(Int.toNat (i:Int))*1)).take 1=[.int .i64 e],Qe Try.prog (.clos 101 [] []) [.int .i64 e,.int .i64 0,.int .i64 100000] (.bool (Qa e 0 100000)),(!(Qa e 0 100000))=true,true=true])
 (hr:AvLe (.int .i64 10) res):G Try.prog E (KW Try.prog) (f98S0 f i ) :=
 Qc (n:=400) (evs:=[.b true,.auto,.ld (.int .i64 e),.v (.bool (Qa e 0 100000)),.b true,.b true]) (obs:=_) hE Try.func98 Qp (by kernel_rfl) ho hr
theorem p98_0_1 (f:Fair) (i:Nat) (e:Int) (e1:Int) {E:Env} {res:AV} (hE:Qg Try.prog 98 res E) (ho:AllP [(decide ((i:Int)<(f.stock.length:Int)))=true,0≤(i:Int)∧(i:Int)<(f.stock.length:Int),((rowI f.stock).drop (0+(Int.toNat (i:Int))*1)).take 1=[.int .i64 e],Qe Try.prog (.clos 101 [] []) [.int .i64 e,.int .i64 0,.int .i64 100000] (.bool (Qa e 0 100000)),(!(Qa e 0 100000))=false,0≤(i:Int)∧(i:Int)<(f.cash.length:Int),((rowI f.cash).drop (0+(Int.toNat (i:Int))*1)).take 1=[.int .i64 e1],Qe Try.prog (.clos 101 [] []) [.int .i64 e1,.int .i64 0,.int .i64 1000000] (.bool (Qa e1 0 1000000)),(!(Qa e1 0 1000000))=true])
 (hr:AvLe (.int .i64 10) res):G Try.prog E (KW Try.prog) (f98S0 f i ) :=
 Qc (n:=400) (evs:=[.b true,.auto,.ld (.int .i64 e),.v (.bool (Qa e 0 100000)),.b false,.auto,.ld (.int .i64 e1),.v (.bool (Qa e1 0 1000000)),.b true]) (obs:=_) hE Try.func98 Qp (by kernel_rfl) ho hr
theorem p98_0_2 (f:Fair) (i:Nat) (e:Int) (e1:Int) {E:Env} {rv:AV} (hE:Qg Try.prog 98 rv E) (ho:AllP [(decide ((i:Int)<(f.stock.length:Int)))=true,0≤(i:Int)∧(i:Int)<(f.stock.length:Int),((rowI f.stock).drop (0+(Int.toNat (i:Int))*1)).take 1=[.int .i64 e],Qe Try.prog (.clos 101 [] []) [.int .i64 e,.int .i64 0,.int .i64 100000] (.bool (Qa e 0 100000)),(!(Qa e 0 100000))=false,0≤(i:Int)∧(i:Int)<(f.cash.length:Int),((rowI f.cash).drop (0+(Int.toNat (i:Int))*1)).take 1=[.int .i64 e1],Qe Try.prog (.clos 101 [] []) [.int .i64 e1,.int .i64 0,.int .i64 1000000] (.bool (Qa e1 0 1000000)),(!(Qa e1 0 1000000))=false,InR .i64 ((i:Int)+1)])
 (hg:G Try.prog E (KW Try.prog) ⟨([J,.ptr 0 0 0,J,.int .i64 ((i:Int)+1)]++Js 105),[⟨true,0,1,true,(KR f),false⟩]⟩):G Try.prog E (KW Try.prog) (f98S0 f i ) :=
 Ql (n:=400) (ds:=[]) (cs:=[]) (live:=[1,3]) (m:=1) (evs:=[.b true,.auto,.ld (.int .i64 e),.v (.bool (Qa e 0 100000)),.b false,.auto,.ld (.int .i64 e1),.v (.bool (Qa e1 0 1000000)),.b false,.stop]) (obs:=_) hE.2.1 (hE.nogh _) Qp (by kernel_rfl) ho hg
theorem p98_0_3 (f:Fair) (i:Nat) {E:Env} {res:AV} (hE:Qg Try.prog 98 res E) (ho:AllP [(decide ((i:Int)<(f.stock.length:Int)))=false,Qe Try.prog (.clos 101 [] []) (z98_3 f) (.bool (Qa f.refund 0 1000)),(!(Qa f.refund 0 1000))=true,true=true,true=true])
 (hr:AvLe (.int .i64 10) res):G Try.prog E (KW Try.prog) (f98S0 f i ) :=
 Qc (n:=400) (evs:=[.b false,.v (.bool (Qa f.refund 0 1000)),.b true,.b true,.b true]) (obs:=_) hE Try.func98 Qp (by kernel_rfl) ho hr
theorem p98_0_4 (f:Fair) (i:Nat) {E:Env} {res:AV} (hE:Qg Try.prog 98 res E) (ho:AllP [(decide ((i:Int)<(f.stock.length:Int)))=false,Qe Try.prog (.clos 101 [] []) (z98_3 f) (.bool (Qa f.refund 0 1000)),(!(Qa f.refund 0 1000))=false,Qe Try.prog (.clos 101 [] []) [.int .i64 f.band,.int .i64 0,.int .i64 1000000] (.bool (Qa f.band 0 1000000)),(!(Qa f.band 0 1000000))=true,true=true])
 (hr:AvLe (.int .i64 10) res):G Try.prog E (KW Try.prog) (f98S0 f i ) :=
 Qc (n:=400) (evs:=[.b false,.v (.bool (Qa f.refund 0 1000)),.b false,.v (.bool (Qa f.band 0 1000000)),.b true,.b true]) (obs:=_) hE Try.func98 Qp (by kernel_rfl) ho hr
theorem p98_0_5 (f:Fair) (i:Nat) {E:Env} {res:AV} (hE:Qg Try.prog 98 res E) (ho:AllP [(decide ((i:Int)<(f.stock.length:Int)))=false,Qe Try.prog (.clos 101 [] []) (z98_3 f) (.bool (Qa f.refund 0 1000)),(!(Qa f.refund 0 1000))=false,Qe Try.prog (.clos 101 [] []) [.int .i64 f.band,.int .i64 0,.int .i64 1000000] (.bool (Qa f.band 0 1000000)),(!(Qa f.band 0 1000000))=false,Qe Try.prog (.clos 101 [] []) [.int .i64 f.hours,.int .i64 1,.int .i64 1440] (.bool (Qa f.hours 1 1440)),(!(Qa f.hours 1 1440))=true])
 (hr:AvLe (.int .i64 10) res):G Try.prog E (KW Try.prog) (f98S0 f i ) :=
 Qc (n:=400) (evs:=[.b false,.v (.bool (Qa f.refund 0 1000)),.b false,.v (.bool (Qa f.band 0 1000000)),.b false,.v (.bool (Qa f.hours 1 1440)),.b true]) (obs:=_) hE Try.func98 Qp (by kernel_rfl) ho hr
theorem p98_0_6 (f:Fair) (i:Nat) {E:Env} {rv:AV} (hE:Qg Try.prog 98 rv E) (ho:AllP [(decide ((i:Int)<(f.stock.length:Int)))=false,Qe Try.prog (.clos 101 [] []) (z98_3 f) (.bool (Qa f.refund 0 1000)),(!(Qa f.refund 0 1000))=false,Qe Try.prog (.clos 101 [] []) [.int .i64 f.band,.int .i64 0,.int .i64 1000000] (.bool (Qa f.band 0 1000000)),(!(Qa f.band 0 1000000))=false,Qe Try.prog (.clos 101 [] []) [.int .i64 f.hours,.int .i64 1,.int .i64 1440] (.bool (Qa f.hours 1 1440)),(!(Qa f.hours 1 1440))=false])
 (hg:G Try.prog E (f98K1 Try.prog) ⟨([J,.ptr 0 0 0,J,J,.int .i64 0]++Js 104),[⟨true,0,1,true,(KR f),false⟩]⟩):G Try.prog E (KW Try.prog) (f98S0 f i ) :=
 Ql (n:=400) (ds:=[]) (cs:=[]) (live:=[1,4]) (m:=1) (evs:=[.b false,.v (.bool (Qa f.refund 0 1000)),.b false,.v (.bool (Qa f.band 0 1000000)),.b false,.v (.bool (Qa f.hours 1 1440)),.b false,.stop]) (obs:=_) hE.2.1 (hE.nogh _) Qp (by kernel_rfl) ho hg
theorem f98W0 (f:Fair) (i:Nat) {E:Env} {rv:Int} (hE:Qg Try.prog 98 (.int .i64 rv) E)
 (h:(((i:Int)<(f.stock.length:Int)→(∃ e:Int,f.stock[i]?=some e∧(((Qa e 0 100000)=false→rv=10)∧((Qa e 0 100000)=true→(∃ e1:Int,f.cash[i]?=some e1∧(((Qa e1 0 1000000)=false→rv=10)∧((Qa e1 0 1000000)=true→((I6 ((i:Int)+1))∧f98G0 E f (i+1)))))))))∧(¬ ((i:Int)<(f.stock.length:Int))→(((Qa f.refund 0 1000)=false→rv=10)∧((Qa f.refund 0 1000)=true→(((Qa f.band 0 1000000)=false→rv=10)∧((Qa f.band 0 1000000)=true→(((Qa f.hours 1 1440)=false→rv=10)∧((Qa f.hours 1 1440)=true→f98G1 E f 0))))))))):f98G0 E f i:=by
 rcases bft (decide ((i:Int)<(f.stock.length:Int))) with hc0 | hc0
 · have h:=h.1 (odt hc0)
   obtain ⟨e,h1,h⟩:=h
   rcases bft (!(Qa e 0 100000)) with hc1 | hc1
   · have h:=h.1 (bnT hc1)
     exact p98_0_0 f i e hE ⟨hc0,(QF h1),(rp cI 1 0 1 h1),(u101 (Qb e 0 100000)),hc1,rfl,trivial⟩ (AvLe.of_eq (by rw [h]; try rfl))
   · have h:=h.2 (bnF hc1)
     obtain ⟨e1,h2,h⟩:=h
     rcases bft (!(Qa e1 0 1000000)) with hc2 | hc2
     · have h:=h.1 (bnT hc2)
       exact p98_0_1 f i e e1 hE ⟨hc0,(QF h1),(rp cI 1 0 1 h1),(u101 (Qb e 0 100000)),hc1,(QF h2),(rp cI 1 0 1 h2),(u101 (Qb e1 0 1000000)),hc2,trivial⟩ (AvLe.of_eq (by rw [h]; try rfl))
     · have h:=h.2 (bnF hc2)
       obtain ⟨q11_3,h⟩:=h
       exact p98_0_2 f i e e1 hE ⟨hc0,(QF h1),(rp cI 1 0 1 h1),(u101 (Qb e 0 100000)),hc1,(QF h2),(rp cI 1 0 1 h2),(u101 (Qb e1 0 1000000)),hc2,q11_3,trivial⟩ h
 · have h:=h.2 (odf hc0)
   rcases bft (!(Qa f.refund 0 1000)) with hc1 | hc1
   · have h:=h.1 (bnT hc1)
     exact p98_0_3 f i hE ⟨hc0,(u101 (Qb f.refund 0 1000)),hc1,rfl,rfl,trivial⟩ (AvLe.of_eq (by rw [h]; try rfl))
   · have h:=h.2 (bnF hc1)
     rcases bft (!(Qa f.band 0 1000000)) with hc2 | hc2
     · have h:=h.1 (bnT hc2)
       exact p98_0_4 f i hE ⟨hc0,(u101 (Qb f.refund 0 1000)),hc1,(u101 (Qb f.band 0 1000000)),hc2,rfl,trivial⟩ (AvLe.of_eq (by rw [h]; try rfl))
     · have h:=h.2 (bnF hc2)
       rcases bft (!(Qa f.hours 1 1440)) with hc3 | hc3
       · have h:=h.1 (bnT hc3)
         exact p98_0_5 f i hE ⟨hc0,(u101 (Qb f.refund 0 1000)),hc1,(u101 (Qb f.band 0 1000000)),hc2,(u101 (Qb f.hours 1 1440)),hc3,trivial⟩ (AvLe.of_eq (by rw [h]; try rfl))
       · have h:=h.2 (bnF hc3)
         exact p98_0_6 f i hE ⟨hc0,(u101 (Qb f.refund 0 1000)),hc1,(u101 (Qb f.band 0 1000000)),hc2,(u101 (Qb f.hours 1 1440)),hc3,trivial⟩ h
theorem p98_1_0 (f:Fair) (i:Nat) (be:Bndl) {E:Env} {res:AV} (hE:Qg Try.prog 98 res E) (ho:AllP [(decide ((i:Int)<(f.bundles.length:Int)))=true,0≤(i:Int)∧(i:Int)<(f.bundles.length:Int),((Qr f.bundles).drop (0+(Int.toNat (i:Int))*2)).take 2=[.int .i64 be.tokens,.int .i64 be.price],2≤2,Qe Try.prog (.clos 101 [] []) (z98_4 be) (.bool (Qa be.tokens 1 1000)),(!(Qa be.tokens 1 1000))=true,true=true,true=true])
 (hr:AvLe (.int .i64 10) res):G Try.prog E (f98K1 Try.prog) (f98S1 f i ) :=
 Qc (n:=400) (evs:=[.b true,.auto,.ld (.agg [.int .i64 be.tokens,.int .i64 be.price]),.v (.bool (Qa be.tokens 1 1000)),.b true,.b true,.b true]) (obs:=_) hE Try.func98 Qp (by kernel_rfl) ho hr
theorem p98_1_1 (f:Fair) (i:Nat) (be:Bndl) {E:Env} {res:AV} (hE:Qg Try.prog 98 res E) (ho:AllP [(decide ((i:Int)<(f.bundles.length:Int)))=true,0≤(i:Int)∧(i:Int)<(f.bundles.length:Int),((Qr f.bundles).drop (0+(Int.toNat (i:Int))*2)).take 2=[.int .i64 be.tokens,.int .i64 be.price],2≤2,Qe Try.prog (.clos 101 [] []) (z98_4 be) (.bool (Qa be.tokens 1 1000)),(!(Qa be.tokens 1 1000))=false,Qe Try.prog (.clos 101 [] []) [.int .i64 be.price,.int .i64 1,.int .i64 1000000] (.bool (Qa be.price 1 1000000)),(!(Qa be.price 1 1000000))=true,true=true])
 (hr:AvLe (.int .i64 10) res):G Try.prog E (f98K1 Try.prog) (f98S1 f i ) :=
 Qc (n:=400) (evs:=[.b true,.auto,.ld (.agg [.int .i64 be.tokens,.int .i64 be.price]),.v (.bool (Qa be.tokens 1 1000)),.b false,.v (.bool (Qa be.price 1 1000000)),.b true,.b true]) (obs:=_) hE Try.func98 Qp (by kernel_rfl) ho hr
theorem p98_1_2 (f:Fair) (i:Nat) (be:Bndl) {E:Env} {res:AV} (hE:Qg Try.prog 98 res E) (ho:AllP [(decide ((i:Int)<(f.bundles.length:Int)))=true,0≤(i:Int)∧(i:Int)<(f.bundles.length:Int),((Qr f.bundles).drop (0+(Int.toNat (i:Int))*2)).take 2=[.int .i64 be.tokens,.int .i64 be.price],2≤2,Qe Try.prog (.clos 101 [] []) (z98_4 be) (.bool (Qa be.tokens 1 1000)),(!(Qa be.tokens 1 1000))=false,Qe Try.prog (.clos 101 [] []) [.int .i64 be.price,.int .i64 1,.int .i64 1000000] (.bool (Qa be.price 1 1000000)),(!(Qa be.price 1 1000000))=false,InR .i64 (f.refund*be.tokens),(decide ((f.refund*be.tokens) > be.price))=true])
 (hr:AvLe (.int .i64 10) res):G Try.prog E (f98K1 Try.prog) (f98S1 f i ) :=
 Qc (n:=400) (evs:=[.b true,.auto,.ld (.agg [.int .i64 be.tokens,.int .i64 be.price]),.v (.bool (Qa be.tokens 1 1000)),.b false,.v (.bool (Qa be.price 1 1000000)),.b false,.b true]) (obs:=_) hE Try.func98 Qp (by kernel_rfl) ho hr
theorem p98_1_3 (f:Fair) (i:Nat) (be:Bndl) {E:Env} {rv:AV} (hE:Qg Try.prog 98 rv E) (ho:AllP [(decide ((i:Int)<(f.bundles.length:Int)))=true,0≤(i:Int)∧(i:Int)<(f.bundles.length:Int),((Qr f.bundles).drop (0+(Int.toNat (i:Int))*2)).take 2=[.int .i64 be.tokens,.int .i64 be.price],2≤2,Qe Try.prog (.clos 101 [] []) (z98_4 be) (.bool (Qa be.tokens 1 1000)),(!(Qa be.tokens 1 1000))=false,Qe Try.prog (.clos 101 [] []) [.int .i64 be.price,.int .i64 1,.int .i64 1000000] (.bool (Qa be.price 1 1000000)),(!(Qa be.price 1 1000000))=false,InR .i64 (f.refund*be.tokens),(decide ((f.refund*be.tokens) > be.price))=false,InR .i64 ((i:Int)+1)])
 (hg:G Try.prog E (f98K1 Try.prog) ⟨([J,.ptr 0 0 0,J,J,.int .i64 ((i:Int)+1)]++Js 104),[⟨true,0,1,true,(KR f),false⟩]⟩):G Try.prog E (f98K1 Try.prog) (f98S1 f i ) :=
 Ql (n:=400) (ds:=[]) (cs:=[]) (live:=[1,4]) (m:=1) (evs:=[.b true,.auto,.ld (.agg [.int .i64 be.tokens,.int .i64 be.price]),.v (.bool (Qa be.tokens 1 1000)),.b false,.v (.bool (Qa be.price 1 1000000)),.b false,.b false,.stop]) (obs:=_) hE.2.1 (hE.nogh _) Qp (by kernel_rfl) ho hg
theorem p98_1_4 (f:Fair) (i:Nat) {E:Env} {res:AV} (hE:Qg Try.prog 98 res E) (ho:AllP [(decide ((i:Int)<(f.bundles.length:Int)))=false])
 (hr:AvLe (.int .i64 0) res):G Try.prog E (f98K1 Try.prog) (f98S1 f i ) :=
 Qc (n:=400) (evs:=[.b false]) (obs:=_) hE Try.func98 Qp (by kernel_rfl) ho hr
theorem f98W1 (f:Fair) (i:Nat) {E:Env} {rv:Int} (hE:Qg Try.prog 98 (.int .i64 rv) E)
 (h:(((i:Int)<(f.bundles.length:Int)→(∃ be:Bndl,f.bundles[i]?=some be∧(((Qa be.tokens 1 1000)=false→rv=10)∧((Qa be.tokens 1 1000)=true→(((Qa be.price 1 1000000)=false→rv=10)∧((Qa be.price 1 1000000)=true→((I6 (f.refund*be.tokens))∧(((f.refund*be.tokens) > be.price→rv=10)∧(¬ ((f.refund*be.tokens) > be.price)→((I6 ((i:Int)+1))∧f98G1 E f (i+1)))))))))))∧(¬ ((i:Int)<(f.bundles.length:Int))→rv=0))):f98G1 E f i:=by
 rcases bft (decide ((i:Int)<(f.bundles.length:Int))) with hc0 | hc0
 · have h:=h.1 (odt hc0)
   obtain ⟨be,h1,h⟩:=h
   rcases bft (!(Qa be.tokens 1 1000)) with hc1 | hc1
   · have h:=h.1 (bnT hc1)
     exact p98_1_0 f i be hE ⟨hc0,(QF h1),(rp cBd 2 0 2 h1),(by decide),(u101 (Qb be.tokens 1 1000)),hc1,rfl,rfl,trivial⟩ (AvLe.of_eq (by rw [h]; try rfl))
   · have h:=h.2 (bnF hc1)
     rcases bft (!(Qa be.price 1 1000000)) with hc2 | hc2
     · have h:=h.1 (bnT hc2)
       exact p98_1_1 f i be hE ⟨hc0,(QF h1),(rp cBd 2 0 2 h1),(by decide),(u101 (Qb be.tokens 1 1000)),hc1,(u101 (Qb be.price 1 1000000)),hc2,rfl,trivial⟩ (AvLe.of_eq (by rw [h]; try rfl))
     · have h:=h.2 (bnF hc2)
       obtain ⟨q9_3,h⟩:=h
       rcases bft (decide ((f.refund*be.tokens) > be.price)) with hc3 | hc3
       · have h:=h.1 (odt hc3)
         exact p98_1_2 f i be hE ⟨hc0,(QF h1),(rp cBd 2 0 2 h1),(by decide),(u101 (Qb be.tokens 1 1000)),hc1,(u101 (Qb be.price 1 1000000)),hc2,q9_3,hc3,trivial⟩ (AvLe.of_eq (by rw [h]; try rfl))
       · have h:=h.2 (odf hc3)
         obtain ⟨q11_4,h⟩:=h
         exact p98_1_3 f i be hE ⟨hc0,(QF h1),(rp cBd 2 0 2 h1),(by decide),(u101 (Qb be.tokens 1 1000)),hc1,(u101 (Qb be.price 1 1000000)),hc2,q9_3,hc3,q11_4,trivial⟩ h
 · have h:=h.2 (odf hc0)
   exact p98_1_4 f i hE ⟨hc0,trivial⟩ (AvLe.of_eq (by rw [h]; try rfl))
theorem WL (f:Fair) (hs:FairSmall f):Pure Try.prog 98 [.agg [.int .i64 f.purses,.int .i64 f.boxes,.rsl (rowI f.stock) 0 f.stock.length,.rsl (rowI f.cash) 0 f.cash.length,.rsl (Qr f.bundles) 0 f.bundles.length,.int .i64 f.refund,.int .i64 f.band,.int .i64 f.hours]] (.int .i64 (Xb f)):=QC Try.func98 f98b fun E hE=>by
 have s1:=hs.stock
 have s2:=hs.cash
 have s3:=hs.bundles
 have no:∀ {n lo hi:Int},Qa n lo hi=false→¬ (lo≤n∧n≤hi):=fun h h2=>by rw [Qq.2 h2] at h; cases h
 refine f98W f (rv:=Xb f) hE ⟨fun h1=>YM fun v=>no h1 (by have:=v.st.1; omega),fun h1=>⟨fun h2=>YM fun v=>h2 (by have:=v.ca.1; omega),fun h2=>⟨fun h3=>YM fun v=>no h3 v.pu,fun h3=>⟨fun h4=>YM fun v=>no h4 v.bo,fun h4=>⟨fun h5=>YM fun v=>by have:=v.bn.1; omega,fun h5=>?_⟩⟩⟩⟩⟩
 have q1:=Qq.1 h1
 have second:(∀ x ∈ f.stock,Qa x 0 100000=true)→(∀ x ∈ f.cash,Qa x 0 1000000=true)→Qa f.refund 0 1000=true→Qa f.band 0 1000000=true→Qa f.hours 1 1440=true→f98G1 E f 0:=by
  intro a1 a2 a3 a4 a5
  have q3:=Qq.1 a3
  have key:∀ (d i:Nat),i+d=f.bundles.length→(∀ b ∈ f.bundles.take i,badB f b=false)→f98G1 E f i:=by
   intro d
   induction d with
   | zero =>
    intro i hd hall
    rw [List.take_of_length_le (by omega)] at hall
    refine f98W1 f i (rv:=Xb f) hE ⟨fun h=>by omega,fun _=>?_⟩
    have e1:f.stock.any (outB 0 100000)=false:=List.any_eq_false.2 fun x hx=>by rw [outB,a1 x hx]; simp
    have e2:f.cash.any (outB 0 1000000)=false:=List.any_eq_false.2 fun x hx=>by rw [outB,a2 x hx]; simp
    have e3:f.bundles.any (badB f)=false:=List.any_eq_false.2 fun b hb=>by rw [hall b hb]; simp
    have e4:Yt f=true:=by
     unfold Yt
     rw [h1,decide_eq_true (show f.cash.length=f.stock.length by omega),h3,h4,decide_eq_true (show f.bundles.length≤6 by omega),e1,e2,a3,a4,a5,e3]; rfl
    unfold Xb; rw [if_pos e4]
   | succ d ih =>
    intro i hd hall
    have hi:f.bundles[i]?=some f.bundles[i]:=List.getElem?_eq_getElem (by omega)
    have hm:=List.mem_of_getElem? hi
    generalize f.bundles[i]=b at hi hm
    refine f98W1 f i (rv:=Xb f) hE ⟨fun _=>⟨b,hi,fun t1=>Kx hm (by unfold badB; rw [t1]; rfl),fun t1=>⟨fun t2=>Kx hm (by unfold badB; rw [t1,t2]; rfl),fun t2=>?_⟩⟩,fun h=>by omega⟩
    have w1:=Qq.1 t1
    have m1:=Int.mul_le_mul q3.2 w1.2 (by omega) (by omega)
    have m2:=Int.mul_nonneg q3.1 (show 0≤b.tokens by omega)
    refine ⟨by omega,fun t3=>Kx hm (by unfold badB; rw [t1,t2]; exact decide_eq_true t3),fun t3=>⟨by omega,ih (i+1) (by omega) fun x hx=>?_⟩⟩
    rw [List.take_add_one,hi] at hx
    rcases List.mem_append.1 hx with hx | hx
    · exact hall x hx
    · simp at hx; subst hx
      unfold badB; rw [t1,t2]; exact decide_eq_false t3
  exact key f.bundles.length 0 (by omega) (by simp)
 have key:∀ (d i:Nat),i+d=f.stock.length→(∀ x ∈ f.stock.take i,Qa x 0 100000=true)→(∀ x ∈ f.cash.take i,Qa x 0 1000000=true)→f98G0 E f i:=by
  intro d
  induction d with
  | zero =>
   intro i hd a1 a2
   rw [List.take_of_length_le (by omega)] at a1
   rw [List.take_of_length_le (by omega)] at a2
   exact f98W0 f i (rv:=Xb f) hE ⟨fun h=>by omega,fun _=>⟨fun t=>YM fun v=>no t v.rf,fun t1=>⟨fun t=>YM fun v=>no t v.band,fun t2=>⟨fun t=>YM fun v=>no t v.hours,fun t3=>second a1 a2 t1 t2 t3⟩⟩⟩⟩
  | succ d ih =>
   intro i hd a1 a2
   have hi:f.stock[i]?=some f.stock[i]:=List.getElem?_eq_getElem (by omega)
   have hc:f.cash[i]?=some f.cash[i]:=List.getElem?_eq_getElem (by omega)
   have hm:=List.mem_of_getElem? hi
   have hm2:=List.mem_of_getElem? hc
   refine f98W0 f i (rv:=Xb f) hE ⟨fun _=>⟨_,hi,fun t=>YM fun v=>no t (v.st.2 _ hm),fun t1=>⟨_,hc,fun t=>YM fun v=>no t (v.ca.2 _ hm2),fun t2=>⟨by omega,ih (i+1) (by omega) (fun x hx=>?_) fun x hx=>?_⟩⟩⟩,fun h=>by omega⟩
   · rw [List.take_add_one,hi] at hx
     rcases List.mem_append.1 hx with hx | hx
     · exact a1 x hx
     · simp at hx; subst hx; exact t1
   · rw [List.take_add_one,hc] at hx
     rcases List.mem_append.1 hx with hx | hx
     · exact a2 x hx
     · simp at hx; subst hx; exact t2
 exact key f.stock.length 0 (by omega) (by simp) (by simp)
theorem XV:Try.f173.body=some (Qd Try.prog 173):=by kernel_rfl
abbrev z173_1 (c:Cnt):List AV:=[.rsl (rowI c.stk) 0 c.stk.length,.rsl (rowI c.csh) 0 c.csh.length,.rsl (Qf c.prs) 0 c.prs.length,.rsl (rowI c.bxs) 0 c.bxs.length,.int .i64 c.lst]
theorem p173_start_0 (c:Cnt) {E:Env} {res:AV} {bs2:List Blk} (hE:LentE Try.prog 173 [] res bs2 E) (ho:AllP [c.stk.length≤2147483648,((rowI c.stk).drop 0).take (c.stk.length*1)=(rowI c.stk),(rowI c.stk).length=(c.stk.length*1),noRefs (rowI c.stk)=true,c.csh.length≤2147483648,((rowI c.csh).drop 0).take (c.csh.length*1)=(rowI c.csh),(rowI c.csh).length=(c.csh.length*1),noRefs (rowI c.csh)=true,c.prs.length≤2147483648,((Qf c.prs).drop 0).take (c.prs.length*2)=(Qf c.prs),(Qf c.prs).length=(c.prs.length*2),noRefs (Qf c.prs)=true,c.bxs.length≤2147483648,((rowI c.bxs).drop 0).take (c.bxs.length*1)=(rowI c.bxs),(rowI c.bxs).length=(c.bxs.length*1),noRefs (rowI c.bxs)=true,5≤5])
 (hr:(.agg [.sl 2 0 0 c.stk.length 1,.sl 3 0 0 c.csh.length 1,.sl 4 0 0 c.prs.length 2,.sl 5 0 0 c.bxs.length 1,.int .i64 c.lst])=res) (hb:[⟨true,0,1,true,(z173_1 c),false⟩,⟨true,0,1,false,[.sl 2 0 0 c.stk.length 1,.sl 3 0 0 c.csh.length 1,.sl 4 0 0 c.prs.length 2,.sl 5 0 0 c.bxs.length 1,.int .i64 c.lst],false⟩,⟨true,0,1,true,(rowI c.stk),true⟩,⟨true,0,1,true,(rowI c.csh),true⟩,⟨true,0,2,true,(Qf c.prs),true⟩,⟨true,0,1,true,(rowI c.bxs),true⟩]=bs2):G Try.prog E [.code (Qd Try.prog 173)] ⟨[.agg (z173_1 c)]++unds (Try.f173.ntmps - 1),[]⟩ :=
 QV (n:=400) (live:=[2]) (m:=6) (evs:=[.cs (rowI c.stk),.cs (rowI c.csh),.cs (Qf c.prs),.cs (rowI c.bxs)]) (obs:=_) hE (hE.nogh0 _) Try.func173 Qp (by kernel_rfl) ho hr hb
theorem f173W (c:Cnt) {E:Env} {rv:Unit} {stock2:List Int} {cash2:List Int} {purses2:List Pur} {boxes2:List Int} (hE:LentE Try.prog 173 [] (.agg [.sl 2 0 0 stock2.length 1,.sl 3 0 0 cash2.length 1,.sl 4 0 0 purses2.length 2,.sl 5 0 0 boxes2.length 1,.int .i64 c.lst]) [⟨true,0,1,true,[.rsl (rowI c.stk) 0 c.stk.length,.rsl (rowI c.csh) 0 c.csh.length,.rsl (Qf c.prs) 0 c.prs.length,.rsl (rowI c.bxs) 0 c.bxs.length,.int .i64 c.lst],false⟩,⟨true,0,1,false,[.sl 2 0 0 stock2.length 1,.sl 3 0 0 cash2.length 1,.sl 4 0 0 purses2.length 2,.sl 5 0 0 boxes2.length 1,.int .i64 c.lst],false⟩,⟨true,0,1,true,(rowI stock2),true⟩,⟨true,0,1,true,(rowI cash2),true⟩,⟨true,0,2,true,(Qf purses2),true⟩,⟨true,0,1,true,(rowI boxes2),true⟩] E)
 (h:(c.stk.length≤2147483648∧(c.csh.length≤2147483648∧(c.prs.length≤2147483648∧(c.bxs.length≤2147483648∧stock2=c.stk∧cash2=c.csh∧purses2=c.prs∧boxes2=c.bxs))))):G Try.prog E [.code (Qd Try.prog 173)] ⟨[.agg [.rsl (rowI c.stk) 0 c.stk.length,.rsl (rowI c.csh) 0 c.csh.length,.rsl (Qf c.prs) 0 c.prs.length,.rsl (rowI c.bxs) 0 c.bxs.length,.int .i64 c.lst]]++unds (Try.f173.ntmps - 1),[]⟩:=by
 obtain ⟨h1,h⟩:=h
 obtain ⟨h2,h⟩:=h
 obtain ⟨h3,h⟩:=h
 obtain ⟨h4,h⟩:=h
 obtain ⟨qe0,qe1,qe2,qe3⟩:=h
 exact p173_start_0 c hE ⟨h1,(by exact QX cI (fun _=>rfl) c.stk),(by exact QI cI (fun _=>rfl) c.stk),(by exact Xk cI (fun _=>rfl) c.stk),h2,(by exact QX cI (fun _=>rfl) c.csh),(by exact QI cI (fun _=>rfl) c.csh),(by exact Xk cI (fun _=>rfl) c.csh),h3,(by exact QX cPur (fun _=>rfl) c.prs),(by exact QI cPur (fun _=>rfl) c.prs),(by exact Xk cPur (fun _=>rfl) c.prs),h4,(by exact QX cI (fun _=>rfl) c.bxs),(by exact QI cI (fun _=>rfl) c.bxs),(by exact Xk cI (fun _=>rfl) c.bxs),(by decide),trivial⟩ (by try rw [qe0]; try rw [qe1]; try rw [qe2]; try rw [qe3]; try rfl) (by rw [qe0,qe1,qe2,qe3]; all_goals (first | rfl | (simp only [List.length_set]; done) | (simp only [List.length_set]; rfl) | (simp only [List.length_set,List.length_replicate]; done)))
theorem QY (c:Cnt) (h:CopyIn c):Lent Try.prog 173 [.agg (cCnt c)] [] (.agg [.sl 2 0 0 c.stk.length 1,.sl 3 0 0 c.csh.length 1,.sl 4 0 0 c.prs.length 2,.sl 5 0 0 c.bxs.length 1,.int .i64 c.lst]) [⟨true,0,1,true,[.rsl (rowI c.stk) 0 c.stk.length,.rsl (rowI c.csh) 0 c.csh.length,.rsl (Qf c.prs) 0 c.prs.length,.rsl (rowI c.bxs) 0 c.bxs.length,.int .i64 c.lst],false⟩,⟨true,0,1,false,[.sl 2 0 0 c.stk.length 1,.sl 3 0 0 c.csh.length 1,.sl 4 0 0 c.prs.length 2,.sl 5 0 0 c.bxs.length 1,.int .i64 c.lst],false⟩,⟨true,0,1,true,(rowI c.stk),true⟩,⟨true,0,1,true,(rowI c.csh),true⟩,⟨true,0,2,true,(Qf c.prs),true⟩,⟨true,0,1,true,(rowI c.bxs),true⟩]:=VH Try.func173 XV fun E hE=>by
 have h1:=h.s
 have h2:=h.h
 have h3:=h.p
 have h4:=h.b
 exact f173W c (rv:=()) hE ⟨by omega,by omega,by omega,by omega,rfl,rfl,rfl,rfl⟩
end Go.Proofs.Ytemklbioijmjiaa