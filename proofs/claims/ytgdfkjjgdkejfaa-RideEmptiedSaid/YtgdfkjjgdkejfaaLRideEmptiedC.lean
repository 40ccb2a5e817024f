/- A part of the proof: several texts, one behind the other. -/
import Derived.Test.YtgdfkjjgdkejfaaLRideEmptiedB
set_option linter.unusedVariables false
set_option linter.unusedSimpArgs false
set_option maxRecDepth 100000
namespace Go.Proofs.Ytgdfkjjgdkejfaa
open Go Ax
open Go.Proofs
structure Trk where
 c:Cir
 faults:List Flt
 cars:List Car
 gos:List Bool
 tick:Int
 stopped:Int
 wrecked:Bool
 rounds:Int
 gone:Int
structure Rd4 where
 k1:List Said
 k2:List Said
 k3:List Said
def InC (c:Cir) (b:Int):Prop:=0≤b∧Int.toNat b<c.blocks.length
def CarsIn (T:Trk):Prop:=T.cars.length≤2147483648∧∀ x ∈ T.cars,InC T.c x.spot.block
def bkAt (c:Cir) (b:Int):Bk:=c.blocks.getD (Int.toNat b) ⟨0,false,0,false⟩
def XV (c:Cir) (x:Car):Bool:=x.spot.ran == (bkAt c x.spot.block).time
def Qu (s:Said) (n:Int):Bool:=s.a == n && s.b == n
theorem row_two {l:List Int} {a b:Int} (h0:l[0]?=some a) (h1:l[1]?=some b):((rowI l).drop 0).take 2=[.int .i64 a,.int .i64 b]:=by
 match l,h0,h1 with
 | x :: y :: r,h0,h1 =>
  simp at h0 h1
  subst h0; subst h1
  rfl
theorem qI {α:Type} {p:α→Bool} {l:List α} {i:Nat} {x:α} (hx:l[i]?=some x):(l.take (i+1)).any p=((l.take i).any p || p x):=by
 rw [List.take_add_one,hx]; simp [List.any_append]
theorem any_all {α:Type} {p:α→Bool} {l:List α}:(l.take l.length).any p=l.any p:=by rw [List.take_length]
/-- What is so: a block is taken,a car is at its end,all restraints are shut. -/
def isI (c:Cir) (cars:List Car) (kind b:Int):Bool :=
 if kind=1 then cars.any (fun x=>x.spot.block == b)
 else if kind=2 then cars.any (fun x=>x.spot.block == b && XV c x)
 else !(cars.any (fun x=>x.spot.block == b && x.spot.opn))
/-- What both channels say,after the faults. -/
def XD (kind b tick:Int) (s:Int × Int) (f:Flt):Int × Int :=
 if f.kind=kind∧f.block=b∧tick≥f.frm then (if f.chan=0 then (f.val,s.2) else (s.1,f.val)) else s
def saysV (fs:List Flt) (kind b tick n:Int):Int × Int:=fs.foldl (XD kind b tick) (n,n)
def b2i (b:Bool):Int:=if b then 1 else 0
def XF (T:Trk) (kind b:Int):Said:=⟨(saysV T.faults kind b T.tick (b2i (isI T.c T.cars kind b))).1,(saysV T.faults kind b T.tick (b2i (isI T.c T.cars kind b))).2⟩
def QR (T:Trk) (kind:Int):List Said:=(List.range T.c.blocks.length).map fun b:Nat=>XF T kind (b:Int)
def Qm (T:Trk):Rd4:=⟨QR T 1,QR T 2,QR T 3⟩
structure TrkIn (T:Trk):Prop where
 cars:CarsIn T
 flt:∀ f ∈ T.faults,f.chan=0 ∨ f.chan=1
 nf:T.faults.length≤1000000
 nb:T.c.blocks.length≤1000000
def QJ (s:Said):Bool:=s.a != s.b
theorem KT {α:Type} {f:Nat→α} {n k:Nat} (h:k<n):((List.range n).map f).take (k+1)=((List.range n).map f).take k++[f k]:=by
 rw [List.take_add_one,List.getElem?_map,List.getElem?_range h]; rfl
theorem Vh {α β:Type} {f:β→α→β} {s:β} {l:List α} {i:Nat} {x:α} (hx:l[i]?=some x):(l.take (i+1)).foldl f s=f ((l.take i).foldl f s) x:=by
 rw [List.take_add_one,hx]; simp [List.foldl_append]
theorem qP {T:Trk} {k:Int} {b:Nat} (h:b<T.c.blocks.length):(QR T k).take (b+1)=(QR T k).take b++[XF T k b]:=KT (f:=fun b:Nat=>XF T k (b:Int)) h
theorem scal_Spt (l:List Spt):∀ x ∈ Qb l,XU x=true:=fun c hc=>by
 obtain ⟨x,-,h⟩:=List.mem_flatMap.1 hc
 simp only [cSpt,List.mem_cons,List.not_mem_nil,or_false] at h
 rcases h with rfl | rfl | rfl <;> rfl
theorem Kd (l:List Said):∀ x ∈ Qe l,XU x=true:=fun c hc=>by
 obtain ⟨x,-,h⟩:=List.mem_flatMap.1 hc
 simp only [Xf,List.mem_cons,List.not_mem_nil,or_false] at h
 rcases h with rfl | rfl <;> rfl
theorem f93b:Try.f93.body=some (Qh Try.prog 93):=by kernel_rfl
theorem u93 {a c k:List AV} {r:AV} (h:Pure Try.prog 93 (a++c++k) r):Qd Try.prog (.clos 93 a k) c r:=QQ Try.func93 (by kernel_rfl) f93b h
theorem p93_start_0 (s:Said) (n:Int) {E:Env} {res:AV} (hE:Qn Try.prog 93 res E) (ho:AllP [])
 (hr:AvLe (.bool (s.a == n && (s.b == n && true))) res):G Try.prog E [.code (Qh Try.prog 93)] ⟨[.agg [.int .i64 s.a,.int .i64 s.b],.int .i64 n]++unds (Try.f93.ntmps - 2),[]⟩ :=
 Qf (n:=400) (evs:=[]) (obs:=_) hE Try.func93 Ql (by kernel_rfl) ho hr
theorem f93W (s:Said) (n:Int) {E:Env} {rv:Bool} (hE:Qn Try.prog 93 (.bool rv) E)
 (h:rv=(s.a == n && (s.b == n && true))):G Try.prog E [.code (Qh Try.prog 93)] ⟨[.agg [.int .i64 s.a,.int .i64 s.b],.int .i64 n]++unds (Try.f93.ntmps - 2),[]⟩:=by
 exact p93_start_0 s n hE trivial (AvLe.of_eq (by rw [h]; try rfl))
theorem f89b:Try.f89.body=some (Qh Try.prog 89):=by kernel_rfl
theorem u89 {a c k:List AV} {r:AV} (h:Pure Try.prog 89 (a++c++k) r):Qd Try.prog (.clos 89 a k) c r:=QQ Try.func89 (by kernel_rfl) f89b h
theorem p89_start_0 (x:Car) (T:Trk) (be:Bk) {E:Env} {res:AV} (hE:Qn Try.prog 89 res E) (ho:AllP [0≤x.spot.block∧x.spot.block<(T.c.blocks.length:Int),((Qk T.c.blocks).drop ((0+(Int.toNat x.spot.block)*4)+0)).take 1=[.int .i64 be.time]])
 (hr:AvLe (.bool (x.spot.ran == be.time)) res):G Try.prog E [.code (Qh Try.prog 89)] ⟨[.rptr [.rsl (Qk T.c.blocks) 0 T.c.blocks.length,.rsl (rowI T.c.cars) 0 T.c.cars.length,.rsl (Qo T.faults) 0 T.faults.length,.rsl (Qi T.cars) 0 T.cars.length,.rsl (rowB T.gos) 0 T.gos.length,.int .i64 T.tick,.int .i64 T.stopped,.bool T.wrecked,.int .i64 T.rounds,.int .i64 T.gone] 0,.agg [.int .i64 x.spot.block,.int .i64 x.spot.ran,.bool x.spot.opn,.int .i64 x.stood]]++unds (Try.f89.ntmps - 2),[]⟩ :=
 Qf (n:=400) (evs:=[.auto,.auto,.auto,.ld (.int .i64 be.time)]) (obs:=_) hE Try.func89 Ql (by kernel_rfl) ho hr
theorem f89W (x:Car) (T:Trk) {E:Env} {rv:Bool} (hE:Qn Try.prog 89 (.bool rv) E)
 (h:(0≤x.spot.block∧(∃ be:Bk,T.c.blocks[Int.toNat x.spot.block]?=some be∧rv=(x.spot.ran == be.time)))):G Try.prog E [.code (Qh Try.prog 89)] ⟨[.rptr [.rsl (Qk T.c.blocks) 0 T.c.blocks.length,.rsl (rowI T.c.cars) 0 T.c.cars.length,.rsl (Qo T.faults) 0 T.faults.length,.rsl (Qi T.cars) 0 T.cars.length,.rsl (rowB T.gos) 0 T.gos.length,.int .i64 T.tick,.int .i64 T.stopped,.bool T.wrecked,.int .i64 T.rounds,.int .i64 T.gone] 0,.agg [.int .i64 x.spot.block,.int .i64 x.spot.ran,.bool x.spot.opn,.int .i64 x.stood]]++unds (Try.f89.ntmps - 2),[]⟩:=by
 obtain ⟨h2,h⟩:=h
 obtain ⟨be,h1,h⟩:=h
 exact p89_start_0 x T be hE ⟨(QG h2 h1),(rp cBk 4 0 1 h1),trivial⟩ (AvLe.of_eq (by rw [h]; try rfl))
theorem QO (s:Said) (n:Int):Pure Try.prog 93 [.agg [.int .i64 s.a,.int .i64 s.b],.int .i64 n] (.bool (Qu s n)):=QT Try.func93 f93b fun E hE=>f93W s n (rv:=Qu s n) hE (by simp [Qu])
theorem QaW {c:Cir} {b:Int} (h:InC c b):c.blocks[Int.toNat b]?=some (bkAt c b):=getD_some h.2
theorem yM (T:Trk) (x:Car) (h:InC T.c x.spot.block):Pure Try.prog 89 [.rptr [.rsl (Qk T.c.blocks) 0 T.c.blocks.length,.rsl (rowI T.c.cars) 0 T.c.cars.length,.rsl (Qo T.faults) 0 T.faults.length,.rsl (Qi T.cars) 0 T.cars.length,.rsl (rowB T.gos) 0 T.gos.length,.int .i64 T.tick,.int .i64 T.stopped,.bool T.wrecked,.int .i64 T.rounds,.int .i64 T.gone] 0,.agg [.int .i64 x.spot.block,.int .i64 x.spot.ran,.bool x.spot.opn,.int .i64 x.stood]] (.bool (XV T.c x)):=QT Try.func89 f89b fun E hE =>
 f89W x T (rv:=XV T.c x) hE ⟨h.1,_,QaW h,rfl⟩
theorem f90b:Try.f90.body=some (Qh Try.prog 90):=by kernel_rfl
theorem u90 {a c k:List AV} {r:AV} (h:Pure Try.prog 90 (a++c++k) r):Qd Try.prog (.clos 90 a k) c r:=QQ Try.func90 (by kernel_rfl) f90b h
def qn (P:Program):List Item:=kAt 400 [.code (Qh P 90)] [.stop]
def QaS (kind:Int) (b:Int) (T:Trk) (taken:Bool) (rests:Bool) (shut:Bool) (i:Nat):St:=⟨([.rptr [.rsl (Qk T.c.blocks) 0 T.c.blocks.length,.rsl (rowI T.c.cars) 0 T.c.cars.length,.rsl (Qo T.faults) 0 T.faults.length,.rsl (Qi T.cars) 0 T.cars.length,.rsl (rowB T.gos) 0 T.gos.length,.int .i64 T.tick,.int .i64 T.stopped,.bool T.wrecked,.int .i64 T.rounds,.int .i64 T.gone] 0,.int .i64 kind,.int .i64 b,J,J,J,J,.bool taken,.bool rests,.bool shut]++jj 5 ([.rsl (Qi T.cars) 0 T.cars.length,.int .i64 (T.cars.length:Int),.int .i64 (i:Int)]++Js 30)),[]⟩
def f90G0 (E:Env) (kind:Int) (b:Int) (T:Trk) (taken:Bool) (rests:Bool) (shut:Bool) (i:Nat):Prop:=G Try.prog E (qn Try.prog) (QaS kind b T taken rests shut i )
abbrev Qau (T:Trk):List AV:=[.rsl (Qk T.c.blocks) 0 T.c.blocks.length,.rsl (rowI T.c.cars) 0 T.c.cars.length,.rsl (Qo T.faults) 0 T.faults.length,.rsl (Qi T.cars) 0 T.cars.length,.rsl (rowB T.gos) 0 T.gos.length,.int .i64 T.tick,.int .i64 T.stopped,.bool T.wrecked,.int .i64 T.rounds,.int .i64 T.gone]
abbrev yy (ce:Car):List AV:=[.int .i64 ce.spot.block,.int .i64 ce.spot.ran,.bool ce.spot.opn,.int .i64 ce.stood]
abbrev z90_3 (T:Trk) (i:Nat):List AV:=[.rsl (Qi T.cars) 0 T.cars.length,.int .i64 (T.cars.length:Int),.int .i64 ((i:Int)+1)]++Js 30
theorem p90_start_0 (kind:Int) (b:Int) (T:Trk) {E:Env} {rv:AV} (hE:Qn Try.prog 90 rv E) (ho:AllP [])
 (hg:G Try.prog E (qn Try.prog) ⟨([.rptr (Qau T) 0,.int .i64 kind,.int .i64 b,J,J,J,J,.bool false,.bool false,.bool true]++jj 5 ([.rsl (Qi T.cars) 0 T.cars.length,.int .i64 (T.cars.length:Int),.int .i64 0]++Js 30)),[]⟩):G Try.prog E [.code (Qh Try.prog 90)] ⟨[.rptr (Qau T) 0,.int .i64 kind,.int .i64 b]++unds (Try.f90.ntmps - 3),[]⟩ :=
 Qg (n:=400) (ds:=[]) (cs:=[]) (live:=[0,1,2,7,8,9,15,16,17]) (m:=0) (evs:=[.stop]) (obs:=_) hE.2.1 (hE.nogh _) Ql (by kernel_rfl) ho hg
theorem f90W (kind:Int) (b:Int) (T:Trk) {E:Env} {rv:Bool} (hE:Qn Try.prog 90 (.bool rv) E)
 (h:f90G0 E kind b T false false true 0):G Try.prog E [.code (Qh Try.prog 90)] ⟨[.rptr [.rsl (Qk T.c.blocks) 0 T.c.blocks.length,.rsl (rowI T.c.cars) 0 T.c.cars.length,.rsl (Qo T.faults) 0 T.faults.length,.rsl (Qi T.cars) 0 T.cars.length,.rsl (rowB T.gos) 0 T.gos.length,.int .i64 T.tick,.int .i64 T.stopped,.bool T.wrecked,.int .i64 T.rounds,.int .i64 T.gone] 0,.int .i64 kind,.int .i64 b]++unds (Try.f90.ntmps - 3),[]⟩:=by
 exact p90_start_0 kind b T hE trivial h
theorem p90_0_0 (kind:Int) (b:Int) (T:Trk) (taken:Bool) (rests:Bool) (shut:Bool) (i:Nat) (ce:Car) {E:Env} {rv:AV} (hE:Qn Try.prog 90 rv E) (ho:AllP [(decide ((i:Int)<(T.cars.length:Int)))=true,0≤(i:Int)∧(i:Int)<(T.cars.length:Int),((Qi T.cars).drop (0+(Int.toNat (i:Int))*4)).take 4=(yy ce),4≤4,(ce.spot.block == b)=true,rests=true,shut=true,InR .i64 ((i:Int)+1)])
 (hg:G Try.prog E (qn Try.prog) ⟨([.rptr (Qau T) 0,.int .i64 kind,.int .i64 b,J,J,J,J,.bool true,.bool true,.bool (!ce.spot.opn)]++jj 5 (z90_3 T i)),[]⟩):G Try.prog E (qn Try.prog) (QaS kind b T taken rests shut i ) :=
 Qg (n:=400) (ds:=[]) (cs:=[]) (live:=[0,1,2,7,8,9,15,16,17]) (m:=0) (evs:=[.b true,.ld (.agg (yy ce)),.b true,.b true,.b true,.stop]) (obs:=_) hE.2.1 (hE.nogh _) Ql (by kernel_rfl) ho hg
theorem p90_0_1 (kind:Int) (b:Int) (T:Trk) (taken:Bool) (rests:Bool) (shut:Bool) (i:Nat) (ce:Car) {E:Env} {rv:AV} (hE:Qn Try.prog 90 rv E) (ho:AllP [(decide ((i:Int)<(T.cars.length:Int)))=true,0≤(i:Int)∧(i:Int)<(T.cars.length:Int),((Qi T.cars).drop (0+(Int.toNat (i:Int))*4)).take 4=(yy ce),4≤4,(ce.spot.block == b)=true,rests=true,shut=false,InR .i64 ((i:Int)+1)])
 (hg:G Try.prog E (qn Try.prog) ⟨([.rptr (Qau T) 0,.int .i64 kind,.int .i64 b,J,J,J,J,.bool true,.bool true,.bool false]++jj 5 (z90_3 T i)),[]⟩):G Try.prog E (qn Try.prog) (QaS kind b T taken rests shut i ) :=
 Qg (n:=400) (ds:=[]) (cs:=[]) (live:=[0,1,2,7,8,9,15,16,17]) (m:=0) (evs:=[.b true,.ld (.agg (yy ce)),.b true,.b true,.b false,.stop]) (obs:=_) hE.2.1 (hE.nogh _) Ql (by kernel_rfl) ho hg
theorem p90_0_2 (kind:Int) (b:Int) (T:Trk) (taken:Bool) (rests:Bool) (shut:Bool) (i:Nat) (ce:Car) {E:Env} {rv:AV} (hE:Qn Try.prog 90 rv E) (ho:AllP [(decide ((i:Int)<(T.cars.length:Int)))=true,0≤(i:Int)∧(i:Int)<(T.cars.length:Int),((Qi T.cars).drop (0+(Int.toNat (i:Int))*4)).take 4=(yy ce),4≤4,(ce.spot.block == b)=true,rests=false,Qd Try.prog (.clos 89 [] []) [.rptr (Qau T) 0,.agg (yy ce)] (.bool (XV T.c ce)),shut=true,InR .i64 ((i:Int)+1)])
 (hg:G Try.prog E (qn Try.prog) ⟨([.rptr (Qau T) 0,.int .i64 kind,.int .i64 b,J,J,J,J,.bool true,.bool (XV T.c ce),.bool (!ce.spot.opn)]++jj 5 (z90_3 T i)),[]⟩):G Try.prog E (qn Try.prog) (QaS kind b T taken rests shut i ) :=
 Qg (n:=400) (ds:=[]) (cs:=[]) (live:=[0,1,2,7,8,9,15,16,17]) (m:=0) (evs:=[.b true,.ld (.agg (yy ce)),.b true,.b false,.v (.bool (XV T.c ce)),.b true,.stop]) (obs:=_) hE.2.1 (hE.nogh _) Ql (by kernel_rfl) ho hg
theorem p90_0_3 (kind:Int) (b:Int) (T:Trk) (taken:Bool) (rests:Bool) (shut:Bool) (i:Nat) (ce:Car) {E:Env} {rv:AV} (hE:Qn Try.prog 90 rv E) (ho:AllP [(decide ((i:Int)<(T.cars.length:Int)))=true,0≤(i:Int)∧(i:Int)<(T.cars.length:Int),((Qi T.cars).drop (0+(Int.toNat (i:Int))*4)).take 4=(yy ce),4≤4,(ce.spot.block == b)=true,rests=false,Qd Try.prog (.clos 89 [] []) [.rptr (Qau T) 0,.agg (yy ce)] (.bool (XV T.c ce)),shut=false,InR .i64 ((i:Int)+1)])
 (hg:G Try.prog E (qn Try.prog) ⟨([.rptr (Qau T) 0,.int .i64 kind,.int .i64 b,J,J,J,J,.bool true,.bool (XV T.c ce),.bool false]++jj 5 (z90_3 T i)),[]⟩):G Try.prog E (qn Try.prog) (QaS kind b T taken rests shut i ) :=
 Qg (n:=400) (ds:=[]) (cs:=[]) (live:=[0,1,2,7,8,9,15,16,17]) (m:=0) (evs:=[.b true,.ld (.agg (yy ce)),.b true,.b false,.v (.bool (XV T.c ce)),.b false,.stop]) (obs:=_) hE.2.1 (hE.nogh _) Ql (by kernel_rfl) ho hg
theorem p90_0_4 (kind:Int) (b:Int) (T:Trk) (taken:Bool) (rests:Bool) (shut:Bool) (i:Nat) (ce:Car) {E:Env} {rv:AV} (hE:Qn Try.prog 90 rv E) (ho:AllP [(decide ((i:Int)<(T.cars.length:Int)))=true,0≤(i:Int)∧(i:Int)<(T.cars.length:Int),((Qi T.cars).drop (0+(Int.toNat (i:Int))*4)).take 4=(yy ce),4≤4,(ce.spot.block == b)=false,InR .i64 ((i:Int)+1)])
 (hg:G Try.prog E (qn Try.prog) ⟨([.rptr (Qau T) 0,.int .i64 kind,.int .i64 b,J,J,J,J,.bool taken,.bool rests,.bool shut]++jj 5 (z90_3 T i)),[]⟩):G Try.prog E (qn Try.prog) (QaS kind b T taken rests shut i ) :=
 Qg (n:=400) (ds:=[]) (cs:=[]) (live:=[0,1,2,7,8,9,15,16,17]) (m:=0) (evs:=[.b true,.ld (.agg (yy ce)),.b false,.stop]) (obs:=_) hE.2.1 (hE.nogh _) Ql (by kernel_rfl) ho hg
theorem p90_0_5 (kind:Int) (b:Int) (T:Trk) (taken:Bool) (rests:Bool) (shut:Bool) (i:Nat) {E:Env} {res:AV} (hE:Qn Try.prog 90 res E) (ho:AllP [(decide ((i:Int)<(T.cars.length:Int)))=false,(kind == 1)=true])
 (hr:AvLe (.bool taken) res):G Try.prog E (qn Try.prog) (QaS kind b T taken rests shut i ) :=
 Qf (n:=400) (evs:=[.b false,.b true]) (obs:=_) hE Try.func90 Ql (by kernel_rfl) ho hr
theorem p90_0_6 (kind:Int) (b:Int) (T:Trk) (taken:Bool) (rests:Bool) (shut:Bool) (i:Nat) {E:Env} {res:AV} (hE:Qn Try.prog 90 res E) (ho:AllP [(decide ((i:Int)<(T.cars.length:Int)))=false,(kind == 1)=false,(kind == 2)=true])
 (hr:AvLe (.bool rests) res):G Try.prog E (qn Try.prog) (QaS kind b T taken rests shut i ) :=
 Qf (n:=400) (evs:=[.b false,.b false,.b true]) (obs:=_) hE Try.func90 Ql (by kernel_rfl) ho hr
theorem p90_0_7 (kind:Int) (b:Int) (T:Trk) (taken:Bool) (rests:Bool) (shut:Bool) (i:Nat) {E:Env} {res:AV} (hE:Qn Try.prog 90 res E) (ho:AllP [(decide ((i:Int)<(T.cars.length:Int)))=false,(kind == 1)=false,(kind == 2)=false])
 (hr:AvLe (.bool shut) res):G Try.prog E (qn Try.prog) (QaS kind b T taken rests shut i ) :=
 Qf (n:=400) (evs:=[.b false,.b false,.b false]) (obs:=_) hE Try.func90 Ql (by kernel_rfl) ho hr
theorem f90W0 (kind:Int) (b:Int) (T:Trk) (taken:Bool) (rests:Bool) (shut:Bool) (i:Nat) {E:Env} {rv:Bool} (hE:Qn Try.prog 90 (.bool rv) E)
 (h:(((i:Int)<(T.cars.length:Int)→(∃ ce:Car,T.cars[i]?=some ce∧((ce.spot.block=b→((rests=true→((shut=true→((I6 ((i:Int)+1))∧f90G0 E kind b T true true (!ce.spot.opn) (i+1)))∧(shut=false→((I6 ((i:Int)+1))∧f90G0 E kind b T true true false (i+1)))))∧(rests=false→((InC T.c ce.spot.block)∧((shut=true→((I6 ((i:Int)+1))∧f90G0 E kind b T true (XV T.c ce) (!ce.spot.opn) (i+1)))∧(shut=false→((I6 ((i:Int)+1))∧f90G0 E kind b T true (XV T.c ce) false (i+1))))))))∧(¬ (ce.spot.block=b)→((I6 ((i:Int)+1))∧f90G0 E kind b T taken rests shut (i+1))))))∧(¬ ((i:Int)<(T.cars.length:Int))→((kind=1→rv=taken)∧(¬ (kind=1)→((kind=2→rv=rests)∧(¬ (kind=2)→rv=shut))))))):f90G0 E kind b T taken rests shut i:=by
 rcases bft (decide ((i:Int)<(T.cars.length:Int))) with hc0 | hc0
 · have h:=h.1 (odt hc0)
   obtain ⟨ce,h1,h⟩:=h
   rcases bft (ce.spot.block == b) with hc1 | hc1
   · have h:=h.1 (eq_of_beq hc1)
     rcases bft rests with hc2 | hc2
     · have h:=h.1 hc2
       rcases bft shut with hc3 | hc3
       · have h:=h.1 hc3
         obtain ⟨q8_4,h⟩:=h
         exact p90_0_0 kind b T taken rests shut i ce hE ⟨hc0,(Qp h1),(rp cCar 4 0 4 h1),(by decide),hc1,hc2,hc3,q8_4,trivial⟩ h
       · have h:=h.2 hc3
         obtain ⟨q8_4,h⟩:=h
         exact p90_0_1 kind b T taken rests shut i ce hE ⟨hc0,(Qp h1),(rp cCar 4 0 4 h1),(by decide),hc1,hc2,hc3,q8_4,trivial⟩ h
     · have h:=h.2 hc2
       obtain ⟨h2,h⟩:=h
       rcases bft shut with hc3 | hc3
       · have h:=h.1 hc3
         obtain ⟨q9_4,h⟩:=h
         exact p90_0_2 kind b T taken rests shut i ce hE ⟨hc0,(Qp h1),(rp cCar 4 0 4 h1),(by decide),hc1,hc2,(u89 (yM T ce h2)),hc3,q9_4,trivial⟩ h
       · have h:=h.2 hc3
         obtain ⟨q9_4,h⟩:=h
         exact p90_0_3 kind b T taken rests shut i ce hE ⟨hc0,(Qp h1),(rp cCar 4 0 4 h1),(by decide),hc1,hc2,(u89 (yM T ce h2)),hc3,q9_4,trivial⟩ h
   · have h:=h.2 (ne_of_beq_false hc1)
     obtain ⟨q6_2,h⟩:=h
     exact p90_0_4 kind b T taken rests shut i ce hE ⟨hc0,(Qp h1),(rp cCar 4 0 4 h1),(by decide),hc1,q6_2,trivial⟩ h
 · have h:=h.2 (odf hc0)
   rcases bft (kind == 1) with hc1 | hc1
   · have h:=h.1 (eq_of_beq hc1)
     exact p90_0_5 kind b T taken rests shut i hE ⟨hc0,hc1,trivial⟩ (AvLe.of_eq (by rw [h]; try rfl))
   · have h:=h.2 (ne_of_beq_false hc1)
     rcases bft (kind == 2) with hc2 | hc2
     · have h:=h.1 (eq_of_beq hc2)
       exact p90_0_6 kind b T taken rests shut i hE ⟨hc0,hc1,hc2,trivial⟩ (AvLe.of_eq (by rw [h]; try rfl))
     · have h:=h.2 (ne_of_beq_false hc2)
       exact p90_0_7 kind b T taken rests shut i hE ⟨hc0,hc1,hc2,trivial⟩ (AvLe.of_eq (by rw [h]; try rfl))
theorem f46b:Try.f46.body=some (Qh Try.prog 46):=by kernel_rfl
def f46K0 (P:Program):List Item:=kAt 400 [.code (Qh P 46)] [.stop]
def f46S0 (T:Trk) (v0:List Spt) (i:Nat) (g0:Nat):St:=⟨([J,J,.sl 0 g0 0 v0.length 3]++jj 5 ([.rsl (Qi T.cars) 0 T.cars.length,.int .i64 (T.cars.length:Int),.int .i64 (i:Int)]++Js 10)),[⟨true,g0,3,true,(Qb v0),true⟩]⟩
def f46G0 (E:Env) (T:Trk) (v0:List Spt) (i:Nat):Prop:=∀ g0:Nat,G Try.prog E (f46K0 Try.prog) (f46S0 T v0 i g0)
theorem p46_start_0 (T:Trk) {E:Env} {rv:AV} (hE:PureNE Try.prog 46 rv E) (ho:AllP [])
 (hg:G Try.prog E (f46K0 Try.prog) ⟨([J,J,.sl 0 0 0 0 3]++jj 5 ([.rsl (Qi T.cars) 0 T.cars.length,.int .i64 (T.cars.length:Int),.int .i64 0]++Js 10)),[⟨true,0,3,true,[],true⟩]⟩):G Try.prog E [.code (Qh Try.prog 46)] ⟨[.rptr [.rsl (Qk T.c.blocks) 0 T.c.blocks.length,.rsl (rowI T.c.cars) 0 T.c.cars.length,.rsl (Qo T.faults) 0 T.faults.length,.rsl (Qi T.cars) 0 T.cars.length,.rsl (rowB T.gos) 0 T.gos.length,.int .i64 T.tick,.int .i64 T.stopped,.bool T.wrecked,.int .i64 T.rounds,.int .i64 T.gone] 0]++unds (Try.f46.ntmps - 1),[]⟩ :=
 Qg (n:=400) (ds:=[(2,3)]) (cs:=[]) (live:=[2,8,9,10]) (m:=1) (evs:=[.stop]) (obs:=_) hE.kind (hE.nogh _) Ql (by kernel_rfl) ho hg
theorem f46W (T:Trk) {E:Env} {rv:(List Spt)} (hE:PureNE Try.prog 46 (.rsl (Qb rv) 0 rv.length) E)
 (h:f46G0 E T ([]) 0):G Try.prog E [.code (Qh Try.prog 46)] ⟨[.rptr [.rsl (Qk T.c.blocks) 0 T.c.blocks.length,.rsl (rowI T.c.cars) 0 T.c.cars.length,.rsl (Qo T.faults) 0 T.faults.length,.rsl (Qi T.cars) 0 T.cars.length,.rsl (rowB T.gos) 0 T.gos.length,.int .i64 T.tick,.int .i64 T.stopped,.bool T.wrecked,.int .i64 T.rounds,.int .i64 T.gone] 0]++unds (Try.f46.ntmps - 1),[]⟩:=by
 exact p46_start_0 T hE trivial (h 0)
theorem p46_0_0 (T:Trk) (v0:List Spt) (i:Nat) (g0:Nat) (ce:Car) {E:Env} {rv:AV} (hE:PureNE Try.prog 46 rv E) (ho:AllP [(decide ((i:Int)<(T.cars.length:Int)))=true,0≤(i:Int)∧(i:Int)<(T.cars.length:Int),((Qi T.cars).drop (0+(Int.toNat (i:Int))*4)).take 4=[.int .i64 ce.spot.block,.int .i64 ce.spot.ran,.bool ce.spot.opn,.int .i64 ce.stood],4≤4,g0=g0,(0+(v0.length*3))=(Qb v0).length,(v0.length+1)≤2147483648,0=0,InR .i64 ((i:Int)+1)])
 (hg:G Try.prog E (f46K0 Try.prog) ⟨([J,J,.sl 0 (g0+1) 0 (v0.length+1) 3]++jj 5 ([.rsl (Qi T.cars) 0 T.cars.length,.int .i64 (T.cars.length:Int),.int .i64 ((i:Int)+1)]++Js 10)),[⟨true,(g0+1),3,true,((Qb v0)++[.int .i64 ce.spot.block,.int .i64 ce.spot.ran,.bool ce.spot.opn]),true⟩]⟩):G Try.prog E (f46K0 Try.prog) (f46S0 T v0 i g0) :=
 Qg (n:=400) (ds:=[]) (cs:=[]) (live:=[2,8,9,10]) (m:=1) (evs:=[.b true,.ld (.agg [.int .i64 ce.spot.block,.int .i64 ce.spot.ran,.bool ce.spot.opn,.int .i64 ce.stood]),.stop]) (obs:=_) hE.kind (hE.nogh _) Ql (by kernel_rfl) ho hg
theorem p46_0_1 (T:Trk) (v0:List Spt) (i:Nat) (g0:Nat) {E:Env} {res:AV} (hE:PureNE Try.prog 46 res E) (ho:AllP [(decide ((i:Int)<(T.cars.length:Int)))=false,g0=g0,∀ x ∈ (Qb v0),XU x=true])
 (hr:(.rsl (Qb v0) 0 v0.length)=res):G Try.prog E (f46K0 Try.prog) (f46S0 T v0 i g0) :=
 endN_step (n:=400) (evs:=[.b false]) (obs:=_) hE Try.func46 Ql (by kernel_rfl) ho hr
theorem f46W0 (T:Trk) (v0:List Spt) (i:Nat) {E:Env} {rv:(List Spt)} (hE:PureNE Try.prog 46 (.rsl (Qb rv) 0 rv.length) E)
 (h:(((i:Int)<(T.cars.length:Int)→(∃ ce:Car,T.cars[i]?=some ce∧((v0.length+1)≤2147483648∧((I6 ((i:Int)+1))∧f46G0 E T (v0++[ce.spot]) (i+1)))))∧(¬ ((i:Int)<(T.cars.length:Int))→rv=v0))):f46G0 E T v0 i:=by
 intro g0
 rcases bft (decide ((i:Int)<(T.cars.length:Int))) with hc0 | hc0
 · have h:=h.1 (odt hc0)
   obtain ⟨ce,h1,h⟩:=h
   obtain ⟨h2,h⟩:=h
   obtain ⟨q9_1,h⟩:=h
   refine p46_0_0 T v0 i g0 ce hE ⟨hc0,(Qp h1),(rp cCar 4 0 4 h1),(by decide),rfl,(by have hx:=Qv cSpt (s:=3) (fun _=>rfl) v0; simp only [Qb] at hx ⊢; rw [hx]; simp),h2,rfl,q9_1,trivial⟩ ?_
   rw [(show Qb v0++[.int .i64 ce.spot.block,.int .i64 ce.spot.ran,.bool ce.spot.opn]=Qb (v0++[ce.spot]) from (Xw cSpt v0 [ce.spot]).symm)]; rw [(show (v0.length+1)=(v0++[ce.spot]).length from by simp)]; exact (h (g0+1))
 · have h:=h.2 (odf hc0)
   exact p46_0_1 T v0 i g0 hE ⟨hc0,rfl,(scal_Spt _),trivial⟩ (by rw [h]; try rfl)
theorem is_ok (T:Trk) (kind b:Int) (h:CarsIn T):Pure Try.prog 90 [.rptr [.rsl (Qk T.c.blocks) 0 T.c.blocks.length,.rsl (rowI T.c.cars) 0 T.c.cars.length,.rsl (Qo T.faults) 0 T.faults.length,.rsl (Qi T.cars) 0 T.cars.length,.rsl (rowB T.gos) 0 T.gos.length,.int .i64 T.tick,.int .i64 T.stopped,.bool T.wrecked,.int .i64 T.rounds,.int .i64 T.gone] 0,.int .i64 kind,.int .i64 b] (.bool (isI T.c T.cars kind b)):=QT Try.func90 f90b fun E hE=>by
 have hl:=h.1
 have key:∀ (d i:Nat) (t r s:Bool),i+d=T.cars.length→t=(T.cars.take i).any (fun x=>x.spot.block == b)→r=(T.cars.take i).any (fun x=>x.spot.block == b && XV T.c x)→s=!((T.cars.take i).any (fun x=>x.spot.block == b && x.spot.opn))→f90G0 E kind b T t r s i:=by
  intro d
  induction d with
  | zero =>
   intro i t r s hi ht hr hs
   rw [show i=T.cars.length by omega,any_all] at ht hr hs
   exact f90W0 kind b T t r s i (rv:=isI T.c T.cars kind b) hE ⟨fun h=>by omega,fun _=>⟨fun h1=>by rw [isI,if_pos h1,ht],fun h1=>⟨fun h2=>by rw [isI,if_neg h1,if_pos h2,hr],fun h2=>by rw [isI,if_neg h1,if_neg h2,hs]⟩⟩⟩
  | succ d ih =>
   intro i t r s hi ht hr hs
   have hx:T.cars[i]?=some T.cars[i]:=List.getElem?_eq_getElem (by omega)
   have hin:=h.2 _ (List.getElem_mem (show i<T.cars.length by omega))
   generalize T.cars[i]=x at hx hin
   have nx:=fun (t' r' s':Bool) (h1:t'=(t || (x.spot.block == b))) (h2:r'=(r || (x.spot.block == b && XV T.c x))) (h3:s'=(s && !(x.spot.block == b && x.spot.opn)))=>ih (i+1) t' r' s' (by omega) (by rw [qI hx,← ht]; exact h1) (by rw [qI hx,← hr]; exact h2) (by rw [qI hx,Bool.not_or,← hs]; exact h3)
   refine f90W0 kind b T t r s i (rv:=isI T.c T.cars kind b) hE ⟨fun _=>⟨x,hx,fun e=>?_,fun e=>⟨by omega,?_⟩⟩,fun h=>by omega⟩
   · have eb:(x.spot.block == b)=true:=by simpa using e
     exact ⟨fun e1=>⟨fun e2=>⟨by omega,nx _ _ _ (by rw [eb]; simp) (by rw [e1]; rfl) (by rw [eb,e2]; simp)⟩,fun e2=>⟨by omega,nx _ _ _ (by rw [eb]; simp) (by rw [e1]; rfl) (by rw [e2]; rfl)⟩⟩,fun e1=>⟨hin,fun e2=>⟨by omega,nx _ _ _ (by rw [eb]; simp) (by rw [eb,e1]; simp) (by rw [eb,e2]; simp)⟩,fun e2=>⟨by omega,nx _ _ _ (by rw [eb]; simp) (by rw [eb,e1]; simp) (by rw [e2]; rfl)⟩⟩⟩
   · have eb:(x.spot.block == b)=false:=by simpa using e
     exact nx _ _ _ (by rw [eb]; simp) (by rw [eb]; simp) (by rw [eb]; simp)
 exact f90W kind b T (rv:=isI T.c T.cars kind b) hE (key T.cars.length 0 false false true (by omega) rfl rfl rfl)
theorem ym (T:Trk) (h:T.cars.length≤2147483648):PureN0 Try.prog 46 [.rptr [.rsl (Qk T.c.blocks) 0 T.c.blocks.length,.rsl (rowI T.c.cars) 0 T.c.cars.length,.rsl (Qo T.faults) 0 T.faults.length,.rsl (Qi T.cars) 0 T.cars.length,.rsl (rowB T.gos) 0 T.gos.length,.int .i64 T.tick,.int .i64 T.stopped,.bool T.wrecked,.int .i64 T.rounds,.int .i64 T.gone] 0] (.rsl (Qb (T.cars.map Car.spot)) 0 (T.cars.map Car.spot).length):=pureN_of Try.func46 f46b fun E hE=>by
 have key:∀ (d i:Nat),i+d=T.cars.length→f46G0 E T ((T.cars.take i).map Car.spot) i:=by
  intro d
  induction d with
  | zero=>intro i hi; exact f46W0 T _ i (rv:=T.cars.map Car.spot) hE ⟨fun h=>by omega,fun _=>by rw [show i=T.cars.length by omega,List.take_length]⟩
  | succ d ih =>
   intro i hi
   have hx:T.cars[i]?=some T.cars[i]:=List.getElem?_eq_getElem (by omega)
   refine f46W0 T _ i (rv:=T.cars.map Car.spot) hE ⟨fun _=>⟨_,hx,by simp; omega,by omega,?_⟩,fun h=>by omega⟩
   have:=ih (i+1) (by omega)
   rw [List.take_add_one,hx,List.map_append] at this
   exact this
 exact f46W T (rv:=T.cars.map Car.spot) hE (key T.cars.length 0 (by omega))
theorem f72b:Try.f72.body=some (Qh Try.prog 72):=by kernel_rfl
def WP (P:Program):List Item:=kAt 400 [.code (Qh P 72)] [.b true,.stop]
def yS (T:Trk) (k:Nat) (v1:List Said) (g1:Nat):St:=⟨([.rptr [.rsl (Qk T.c.blocks) 0 T.c.blocks.length,.rsl (rowI T.c.cars) 0 T.c.cars.length,.rsl (Qo T.faults) 0 T.faults.length,.rsl (Qi T.cars) 0 T.cars.length,.rsl (rowB T.gos) 0 T.gos.length,.int .i64 T.tick,.int .i64 T.stopped,.bool T.wrecked,.int .i64 T.rounds,.int .i64 T.gone] 0,J,.ptr 0 0 0,.int .i64 1]++jj 14 ([.int .i64 (T.c.blocks.length:Int),.int .i64 (k:Int)]++Js 53)),[⟨true,0,1,false,[.nilSl,.sl 1 g1 0 v1.length 2,.nilSl,.nilSl],false⟩,⟨true,g1,2,true,(Qe v1),true⟩]⟩
def qE (E:Env) (T:Trk) (k:Nat) (v1:List Said):Prop:=∀ g1:Nat,G Try.prog E (WP Try.prog) (yS T k v1 g1)
def Yt (P:Program):List Item:=kAt 400 [.code (Qh P 72)] [.b true,.b true,.b true,.stop]
def Wi (T:Trk) (j:Nat) (v2:List Int) (b:Nat) (j1:Nat) (v1:List Said) (g1:Nat):St:=⟨([.rptr [.rsl (Qk T.c.blocks) 0 T.c.blocks.length,.rsl (rowI T.c.cars) 0 T.c.cars.length,.rsl (Qo T.faults) 0 T.faults.length,.rsl (Qi T.cars) 0 T.cars.length,.rsl (rowB T.gos) 0 T.gos.length,.int .i64 T.tick,.int .i64 T.stopped,.bool T.wrecked,.int .i64 T.rounds,.int .i64 T.gone] 0,J,.ptr 0 0 0,.int .i64 1,.int .i64 (b:Int),J,.ptr 2 0 0]++jj 11 ([.int .i64 (T.c.blocks.length:Int),.int .i64 (j1:Int)]++jj 12 ([.rsl (Qo T.faults) 0 T.faults.length,.int .i64 (T.faults.length:Int),.int .i64 (j:Int)]++Js 38))),[⟨true,0,1,false,[.nilSl,.sl 1 g1 0 v1.length 2,.nilSl,.nilSl],false⟩,⟨true,g1,2,true,(Qe v1),true⟩,⟨true,0,1,true,(rowI v2),false⟩]⟩
def VG (E:Env) (T:Trk) (j:Nat) (v2:List Int) (b:Nat) (j1:Nat) (v1:List Said):Prop:=∀ g1:Nat,G Try.prog E (Yt Try.prog) (Wi T j v2 b j1 v1 g1)
def WO (P:Program):List Item:=kAt 400 [.code (Qh P 72)] [.b true,.b false,.b true,.stop]
def yR (T:Trk) (v1:List Said) (k:Nat) (v2:List Said) (g1:Nat) (g2:Nat):St:=⟨([.rptr [.rsl (Qk T.c.blocks) 0 T.c.blocks.length,.rsl (rowI T.c.cars) 0 T.c.cars.length,.rsl (Qo T.faults) 0 T.faults.length,.rsl (Qi T.cars) 0 T.cars.length,.rsl (rowB T.gos) 0 T.gos.length,.int .i64 T.tick,.int .i64 T.stopped,.bool T.wrecked,.int .i64 T.rounds,.int .i64 T.gone] 0,J,.ptr 0 0 0,.int .i64 2]++jj 14 ([.int .i64 (T.c.blocks.length:Int),.int .i64 (k:Int)]++Js 53)),[⟨true,0,1,false,[.nilSl,.sl 1 g1 0 v1.length 2,.sl 2 g2 0 v2.length 2,.nilSl],false⟩,⟨true,g1,2,true,(Qe v1),true⟩,⟨true,g2,2,true,(Qe v2),true⟩]⟩
def WR (E:Env) (T:Trk) (v1:List Said) (k:Nat) (v2:List Said):Prop:=∀ g1 g2:Nat,G Try.prog E (WO Try.prog) (yR T v1 k v2 g1 g2)
def Ys (P:Program):List Item:=kAt 400 [.code (Qh P 72)] [.b true,.b false,.b true,.b true,.b true,.stop]
def Wh (T:Trk) (v1:List Said) (j:Nat) (v3:List Int) (b:Nat) (j1:Nat) (v2:List Said) (g1:Nat) (g2:Nat):St:=⟨([.rptr [.rsl (Qk T.c.blocks) 0 T.c.blocks.length,.rsl (rowI T.c.cars) 0 T.c.cars.length,.rsl (Qo T.faults) 0 T.faults.length,.rsl (Qi T.cars) 0 T.cars.length,.rsl (rowB T.gos) 0 T.gos.length,.int .i64 T.tick,.int .i64 T.stopped,.bool T.wrecked,.int .i64 T.rounds,.int .i64 T.gone] 0,J,.ptr 0 0 0,.int .i64 2,.int .i64 (b:Int),J,.ptr 3 0 0]++jj 11 ([.int .i64 (T.c.blocks.length:Int),.int .i64 (j1:Int)]++jj 12 ([.rsl (Qo T.faults) 0 T.faults.length,.int .i64 (T.faults.length:Int),.int .i64 (j:Int)]++Js 38))),[⟨true,0,1,false,[.nilSl,.sl 1 g1 0 v1.length 2,.sl 2 g2 0 v2.length 2,.nilSl],false⟩,⟨true,g1,2,true,(Qe v1),true⟩,⟨true,g2,2,true,(Qe v2),true⟩,⟨true,0,1,true,(rowI v3),false⟩]⟩
def VF (E:Env) (T:Trk) (v1:List Said) (j:Nat) (v3:List Int) (b:Nat) (j1:Nat) (v2:List Said):Prop:=∀ g1 g2:Nat,G Try.prog E (Ys Try.prog) (Wh T v1 j v3 b j1 v2 g1 g2)
def WN (P:Program):List Item:=kAt 400 [.code (Qh P 72)] [.b true,.b false,.b true,.b false,.b true,.stop]
def yQ (T:Trk) (v1:List Said) (v2:List Said) (k:Nat) (v3:List Said) (g1:Nat) (g2:Nat) (g3:Nat):St:=⟨([.rptr [.rsl (Qk T.c.blocks) 0 T.c.blocks.length,.rsl (rowI T.c.cars) 0 T.c.cars.length,.rsl (Qo T.faults) 0 T.faults.length,.rsl (Qi T.cars) 0 T.cars.length,.rsl (rowB T.gos) 0 T.gos.length,.int .i64 T.tick,.int .i64 T.stopped,.bool T.wrecked,.int .i64 T.rounds,.int .i64 T.gone] 0,J,.ptr 0 0 0,.int .i64 3]++jj 14 ([.int .i64 (T.c.blocks.length:Int),.int .i64 (k:Int)]++Js 53)),[⟨true,0,1,false,[.nilSl,.sl 1 g1 0 v1.length 2,.sl 2 g2 0 v2.length 2,.sl 3 g3 0 v3.length 2],false⟩,⟨true,g1,2,true,(Qe v1),true⟩,⟨true,g2,2,true,(Qe v2),true⟩,⟨true,g3,2,true,(Qe v3),true⟩]⟩
def WQ (E:Env) (T:Trk) (v1:List Said) (v2:List Said) (k:Nat) (v3:List Said):Prop:=∀ g1 g2 g3:Nat,G Try.prog E (WN Try.prog) (yQ T v1 v2 k v3 g1 g2 g3)
def Yr (P:Program):List Item:=kAt 400 [.code (Qh P 72)] [.b true,.b false,.b true,.b false,.b true,.b true,.b true,.stop]
def Wg (T:Trk) (v1:List Said) (v2:List Said) (j:Nat) (v4:List Int) (b:Nat) (j1:Nat) (v3:List Said) (g1:Nat) (g2:Nat) (g3:Nat):St:=⟨([.rptr [.rsl (Qk T.c.blocks) 0 T.c.blocks.length,.rsl (rowI T.c.cars) 0 T.c.cars.length,.rsl (Qo T.faults) 0 T.faults.length,.rsl (Qi T.cars) 0 T.cars.length,.rsl (rowB T.gos) 0 T.gos.length,.int .i64 T.tick,.int .i64 T.stopped,.bool T.wrecked,.int .i64 T.rounds,.int .i64 T.gone] 0,J,.ptr 0 0 0,.int .i64 3,.int .i64 (b:Int),J,.ptr 4 0 0]++jj 11 ([.int .i64 (T.c.blocks.length:Int),.int .i64 (j1:Int)]++jj 12 ([.rsl (Qo T.faults) 0 T.faults.length,.int .i64 (T.faults.length:Int),.int .i64 (j:Int)]++Js 38))),[⟨true,0,1,false,[.nilSl,.sl 1 g1 0 v1.length 2,.sl 2 g2 0 v2.length 2,.sl 3 g3 0 v3.length 2],false⟩,⟨true,g1,2,true,(Qe v1),true⟩,⟨true,g2,2,true,(Qe v2),true⟩,⟨true,g3,2,true,(Qe v3),true⟩,⟨true,0,1,true,(rowI v4),false⟩]⟩
def VE (E:Env) (T:Trk) (v1:List Said) (v2:List Said) (j:Nat) (v4:List Int) (b:Nat) (j1:Nat) (v3:List Said):Prop:=∀ g1 g2 g3:Nat,G Try.prog E (Yr Try.prog) (Wg T v1 v2 j v4 b j1 v3 g1 g2 g3)
abbrev Vv (T:Trk):List AV:=[.rsl (Qk T.c.blocks) 0 T.c.blocks.length,.rsl (rowI T.c.cars) 0 T.c.cars.length,.rsl (Qo T.faults) 0 T.faults.length,.rsl (Qi T.cars) 0 T.cars.length,.rsl (rowB T.gos) 0 T.gos.length,.int .i64 T.tick,.int .i64 T.stopped,.bool T.wrecked,.int .i64 T.rounds,.int .i64 T.gone]
abbrev Vc (fe:Flt):List AV:=[.int .i64 fe.frm,.int .i64 fe.kind,.int .i64 fe.chan,.int .i64 fe.block,.int .i64 fe.val]
abbrev z72_3 (T:Trk) (j1:Nat) (j:Nat):List AV:=[.int .i64 (T.c.blocks.length:Int),.int .i64 (j1:Int)]++jj 12 ([.rsl (Qo T.faults) 0 T.faults.length,.int .i64 (T.faults.length:Int),.int .i64 ((j:Int)+1)]++Js 38)
abbrev z72_4 (T:Trk) (k:Nat):List AV:=[.int .i64 (T.c.blocks.length:Int),.int .i64 (k:Int)]++jj 12 ([.rsl (Qo T.faults) 0 T.faults.length,.int .i64 (T.faults.length:Int),.int .i64 0]++Js 38)
abbrev z72_5 (T:Trk) (b:Nat) (j1:Nat) (j:Nat):List AV:=[.rptr (Vv T) 0,J,.ptr 0 0 0,.int .i64 1,.int .i64 (b:Int),J,.ptr 2 0 0]++jj 11 (z72_3 T j1 j)
abbrev z72_6 (T:Trk) (b:Nat) (j1:Nat) (j:Nat):List AV:=[.rptr (Vv T) 0,J,.ptr 0 0 0,.int .i64 2,.int .i64 (b:Int),J,.ptr 3 0 0]++jj 11 (z72_3 T j1 j)
abbrev z72_7 (T:Trk) (b:Nat) (j1:Nat) (j:Nat):List AV:=[.rptr (Vv T) 0,J,.ptr 0 0 0,.int .i64 3,.int .i64 (b:Int),J,.ptr 4 0 0]++jj 11 (z72_3 T j1 j)
abbrev z72_8 (g1:Nat) (v1:List Said):List AV:=[.nilSl,.sl 1 g1 0 v1.length 2,.nilSl,.nilSl]
abbrev z72_9 (T:Trk) (j1:Nat):List AV:=[.int .i64 (T.c.blocks.length:Int),.int .i64 ((j1:Int)+1)]++Js 53
theorem p72_start_0 (T:Trk) {E:Env} {rv:AV} (hE:PureNE Try.prog 72 rv E) (ho:AllP [true=true])
 (hg:G Try.prog E (WP Try.prog) ⟨([.rptr (Vv T) 0,J,.ptr 0 0 0,.int .i64 1]++jj 14 ([.int .i64 (T.c.blocks.length:Int),.int .i64 0]++Js 53)),[⟨true,0,1,false,[.nilSl,.sl 1 0 0 0 2,.nilSl,.nilSl],false⟩,⟨true,0,2,true,[],true⟩]⟩):G Try.prog E [.code (Qh Try.prog 72)] ⟨[.rptr (Vv T) 0]++unds (Try.f72.ntmps - 1),[]⟩ :=
 Qg (n:=400) (ds:=[]) (cs:=[(0,1,2)]) (live:=[0,2,3,18,19]) (m:=2) (evs:=[.b true,.stop]) (obs:=_) hE.kind (hE.nogh _) Ql (by kernel_rfl) ho hg
theorem f72W (T:Trk) {E:Env} {rv:Rd4} (hE:PureNE Try.prog 72 (.agg [.nilSl,.rsl (Qe rv.k1) 0 rv.k1.length,.rsl (Qe rv.k2) 0 rv.k2.length,.rsl (Qe rv.k3) 0 rv.k3.length]) E)
 (h:qE E T 0 ([])):G Try.prog E [.code (Qh Try.prog 72)] ⟨[.rptr [.rsl (Qk T.c.blocks) 0 T.c.blocks.length,.rsl (rowI T.c.cars) 0 T.c.cars.length,.rsl (Qo T.faults) 0 T.faults.length,.rsl (Qi T.cars) 0 T.cars.length,.rsl (rowB T.gos) 0 T.gos.length,.int .i64 T.tick,.int .i64 T.stopped,.bool T.wrecked,.int .i64 T.rounds,.int .i64 T.gone] 0]++unds (Try.f72.ntmps - 1),[]⟩:=by
 exact p72_start_0 T hE ⟨rfl,trivial⟩ (h 0)
theorem p72_1001_0 (T:Trk) (k:Nat) (v1:List Said) (g1:Nat) {E:Env} {rv:AV} (hE:PureNE Try.prog 72 rv E) (ho:AllP [(decide ((k:Int)<(T.c.blocks.length:Int)))=true,Qd Try.prog (.clos 90 [] []) [.rptr (Vv T) 0,.int .i64 1,.int .i64 (k:Int)] (.bool (isI T.c T.cars 1 (k:Int))),(isI T.c T.cars 1 (k:Int))=true,2≤2])
 (hg:G Try.prog E (Yt Try.prog) ⟨([.rptr (Vv T) 0,J,.ptr 0 0 0,.int .i64 1,.int .i64 (k:Int),J,.ptr 2 0 0]++jj 11 (z72_4 T k)),[⟨true,0,1,false,(z72_8 g1 v1),false⟩,⟨true,g1,2,true,(Qe v1),true⟩,⟨true,0,1,true,[.int .i64 1,.int .i64 1],false⟩]⟩):G Try.prog E (WP Try.prog) (yS T k v1 g1) :=
 Qg (n:=400) (ds:=[]) (cs:=[]) (live:=[0,2,3,4,6,18,19,32,33,34]) (m:=3) (evs:=[.b true,.v (.bool (isI T.c T.cars 1 (k:Int))),.b true,.stop]) (obs:=_) hE.kind (hE.nogh _) Ql (by kernel_rfl) ho hg
theorem p72_1001_1 (T:Trk) (k:Nat) (v1:List Said) (g1:Nat) {E:Env} {rv:AV} (hE:PureNE Try.prog 72 rv E) (ho:AllP [(decide ((k:Int)<(T.c.blocks.length:Int)))=true,Qd Try.prog (.clos 90 [] []) [.rptr (Vv T) 0,.int .i64 1,.int .i64 (k:Int)] (.bool (isI T.c T.cars 1 (k:Int))),(isI T.c T.cars 1 (k:Int))=false,2≤2])
 (hg:G Try.prog E (Yt Try.prog) ⟨([.rptr (Vv T) 0,J,.ptr 0 0 0,.int .i64 1,.int .i64 (k:Int),J,.ptr 2 0 0]++jj 11 (z72_4 T k)),[⟨true,0,1,false,(z72_8 g1 v1),false⟩,⟨true,g1,2,true,(Qe v1),true⟩,⟨true,0,1,true,[.int .i64 0,.int .i64 0],false⟩]⟩):G Try.prog E (WP Try.prog) (yS T k v1 g1) :=
 Qg (n:=400) (ds:=[]) (cs:=[]) (live:=[0,2,3,4,6,18,19,32,33,34]) (m:=3) (evs:=[.b true,.v (.bool (isI T.c T.cars 1 (k:Int))),.b false,.stop]) (obs:=_) hE.kind (hE.nogh _) Ql (by kernel_rfl) ho hg
theorem p72_1001_2 (T:Trk) (k:Nat) (v1:List Said) (g1:Nat) {E:Env} {rv:AV} (hE:PureNE Try.prog 72 rv E) (ho:AllP [(decide ((k:Int)<(T.c.blocks.length:Int)))=false,InR .i64 2,true=true])
 (hg:G Try.prog E (WO Try.prog) ⟨([.rptr (Vv T) 0,J,.ptr 0 0 0,.int .i64 2]++jj 14 ([.int .i64 (T.c.blocks.length:Int),.int .i64 0]++Js 53)),[⟨true,0,1,false,[.nilSl,.sl 1 g1 0 v1.length 2,.sl 2 0 0 0 2,.nilSl],false⟩,⟨true,g1,2,true,(Qe v1),true⟩,⟨true,0,2,true,[],true⟩]⟩):G Try.prog E (WP Try.prog) (yS T k v1 g1) :=
 Qg (n:=400) (ds:=[]) (cs:=[(0,2,2)]) (live:=[0,2,3,18,19]) (m:=3) (evs:=[.b false,.b true,.stop]) (obs:=_) hE.kind (hE.nogh _) Ql (by kernel_rfl) ho hg
theorem f72W1001 (T:Trk) (k:Nat) (v1:List Said) {E:Env} {rv:Rd4} (hE:PureNE Try.prog 72 (.agg [.nilSl,.rsl (Qe rv.k1) 0 rv.k1.length,.rsl (Qe rv.k2) 0 rv.k2.length,.rsl (Qe rv.k3) 0 rv.k3.length]) E)
 (h:(((k:Int)<(T.c.blocks.length:Int)→((CarsIn T)∧(((isI T.c T.cars 1 (k:Int))=true→VG E T 0 ([1,1]) k k v1)∧((isI T.c T.cars 1 (k:Int))=false→VG E T 0 ([0,0]) k k v1))))∧(¬ ((k:Int)<(T.c.blocks.length:Int))→WR E T v1 0 ([])))):qE E T k v1:=by
 intro g1
 rcases bft (decide ((k:Int)<(T.c.blocks.length:Int))) with hc0 | hc0
 · have h:=h.1 (odt hc0)
   obtain ⟨h1,h⟩:=h
   rcases bft (isI T.c T.cars 1 (k:Int)) with hc1 | hc1
   · have h:=h.1 hc1
     exact p72_1001_0 T k v1 g1 hE ⟨hc0,(u90 (is_ok T 1 (k:Int) h1)),hc1,(by decide),trivial⟩ (h g1)
   · have h:=h.2 hc1
     exact p72_1001_1 T k v1 g1 hE ⟨hc0,(u90 (is_ok T 1 (k:Int) h1)),hc1,(by decide),trivial⟩ (h g1)
 · have h:=h.2 (odf hc0)
   exact p72_1001_2 T k v1 g1 hE ⟨hc0,(⟨by decide,by decide⟩),rfl,trivial⟩ (h g1 0)
theorem p72_1002_0 (T:Trk) (j:Nat) (v2:List Int) (b:Nat) (j1:Nat) (v1:List Said) (g1:Nat) (fe:Flt) (e:Int) {E:Env} {rv:AV} (hE:PureNE Try.prog 72 rv E) (ho:AllP [(decide ((j:Int)<(T.faults.length:Int)))=true,0≤(j:Int)∧(j:Int)<(T.faults.length:Int),((Qo T.faults).drop (0+(Int.toNat (j:Int))*5)).take 5=(Vc fe),5≤5,(fe.kind == 1)=true,(fe.block == (b:Int))=true,(decide (T.tick≥fe.frm))=true,0≤fe.chan∧fe.chan<((2:Nat):Int),((0+(Int.toNat fe.chan)*1)+1)≤(rowI v2).length,InR .i64 ((j:Int)+1)])
 (hg:G Try.prog E (Yt Try.prog) ⟨(z72_5 T b j1 j),[⟨true,0,1,false,(z72_8 g1 v1),false⟩,⟨true,g1,2,true,(Qe v1),true⟩,⟨true,0,1,true,(Qx (rowI v2) (0+(Int.toNat fe.chan)*1) [.int .i64 fe.val]),false⟩]⟩):G Try.prog E (Yt Try.prog) (Wi T j v2 b j1 v1 g1) :=
 Qg (n:=400) (ds:=[]) (cs:=[]) (live:=[0,2,3,4,6,18,19,32,33,34]) (m:=3) (evs:=[.b true,.ld (.agg (Vc fe)),.b true,.b true,.b true,.stop]) (obs:=_) hE.kind (hE.nogh _) Ql (by kernel_rfl) ho hg
theorem p72_1002_1 (T:Trk) (j:Nat) (v2:List Int) (b:Nat) (j1:Nat) (v1:List Said) (g1:Nat) (fe:Flt) {E:Env} {rv:AV} (hE:PureNE Try.prog 72 rv E) (ho:AllP [(decide ((j:Int)<(T.faults.length:Int)))=true,0≤(j:Int)∧(j:Int)<(T.faults.length:Int),((Qo T.faults).drop (0+(Int.toNat (j:Int))*5)).take 5=(Vc fe),5≤5,(fe.kind == 1)=true,(fe.block == (b:Int))=true,(decide (T.tick≥fe.frm))=false,InR .i64 ((j:Int)+1)])
 (hg:G Try.prog E (Yt Try.prog) ⟨(z72_5 T b j1 j),[⟨true,0,1,false,(z72_8 g1 v1),false⟩,⟨true,g1,2,true,(Qe v1),true⟩,⟨true,0,1,true,(rowI v2),false⟩]⟩):G Try.prog E (Yt Try.prog) (Wi T j v2 b j1 v1 g1) :=
 Qg (n:=400) (ds:=[]) (cs:=[]) (live:=[0,2,3,4,6,18,19,32,33,34]) (m:=3) (evs:=[.b true,.ld (.agg (Vc fe)),.b true,.b true,.b false,.stop]) (obs:=_) hE.kind (hE.nogh _) Ql (by kernel_rfl) ho hg
theorem p72_1002_2 (T:Trk) (j:Nat) (v2:List Int) (b:Nat) (j1:Nat) (v1:List Said) (g1:Nat) (fe:Flt) {E:Env} {rv:AV} (hE:PureNE Try.prog 72 rv E) (ho:AllP [(decide ((j:Int)<(T.faults.length:Int)))=true,0≤(j:Int)∧(j:Int)<(T.faults.length:Int),((Qo T.faults).drop (0+(Int.toNat (j:Int))*5)).take 5=(Vc fe),5≤5,(fe.kind == 1)=true,(fe.block == (b:Int))=false,false=false,InR .i64 ((j:Int)+1)])
 (hg:G Try.prog E (Yt Try.prog) ⟨(z72_5 T b j1 j),[⟨true,0,1,false,(z72_8 g1 v1),false⟩,⟨true,g1,2,true,(Qe v1),true⟩,⟨true,0,1,true,(rowI v2),false⟩]⟩):G Try.prog E (Yt Try.prog) (Wi T j v2 b j1 v1 g1) :=
 Qg (n:=400) (ds:=[]) (cs:=[]) (live:=[0,2,3,4,6,18,19,32,33,34]) (m:=3) (evs:=[.b true,.ld (.agg (Vc fe)),.b true,.b false,.b false,.stop]) (obs:=_) hE.kind (hE.nogh _) Ql (by kernel_rfl) ho hg
theorem p72_1002_3 (T:Trk) (j:Nat) (v2:List Int) (b:Nat) (j1:Nat) (v1:List Said) (g1:Nat) (fe:Flt) {E:Env} {rv:AV} (hE:PureNE Try.prog 72 rv E) (ho:AllP [(decide ((j:Int)<(T.faults.length:Int)))=true,0≤(j:Int)∧(j:Int)<(T.faults.length:Int),((Qo T.faults).drop (0+(Int.toNat (j:Int))*5)).take 5=(Vc fe),5≤5,(fe.kind == 1)=false,false=false,false=false,InR .i64 ((j:Int)+1)])
 (hg:G Try.prog E (Yt Try.prog) ⟨(z72_5 T b j1 j),[⟨true,0,1,false,(z72_8 g1 v1),false⟩,⟨true,g1,2,true,(Qe v1),true⟩,⟨true,0,1,true,(rowI v2),false⟩]⟩):G Try.prog E (Yt Try.prog) (Wi T j v2 b j1 v1 g1) :=
 Qg (n:=400) (ds:=[]) (cs:=[]) (live:=[0,2,3,4,6,18,19,32,33,34]) (m:=3) (evs:=[.b true,.ld (.agg (Vc fe)),.b false,.b false,.b false,.stop]) (obs:=_) hE.kind (hE.nogh _) Ql (by kernel_rfl) ho hg
theorem p72_1002_4 (T:Trk) (j:Nat) (v2:List Int) (b:Nat) (j1:Nat) (v1:List Said) (g1:Nat) (e:Int) (e1:Int) {E:Env} {rv:AV} (hE:PureNE Try.prog 72 rv E) (ho:AllP [(decide ((j:Int)<(T.faults.length:Int)))=false,(0:Int)≤1∧(1:Int)<((4:Nat):Int),((rowI v2).drop 0).take 2=[.int .i64 e,.int .i64 e1],g1=g1,(0+(v1.length*2))=(Qe v1).length,(v1.length+1)≤2147483648,0=0,(0:Int)≤1∧(1:Int)<((4:Nat):Int),2≤4,InR .i64 ((j1:Int)+1)])
 (hg:G Try.prog E (WP Try.prog) ⟨([.rptr (Vv T) 0,J,.ptr 0 0 0,.int .i64 1]++jj 14 (z72_9 T j1)),[⟨true,0,1,false,[.nilSl,.sl 1 (g1+1) 0 (v1.length+1) 2,.nilSl,.nilSl],false⟩,⟨true,(g1+1),2,true,((Qe v1)++[.int .i64 e,.int .i64 e1]),true⟩]⟩):G Try.prog E (Yt Try.prog) (Wi T j v2 b j1 v1 g1) :=
 Qg (n:=400) (ds:=[]) (cs:=[]) (live:=[0,2,3,18,19]) (m:=2) (evs:=[.b false,.auto,.ld (.agg [.int .i64 e,.int .i64 e1]),.stop]) (obs:=_) hE.kind (hE.nogh _) Ql (by kernel_rfl) ho hg
theorem f72W1002 (T:Trk) (j:Nat) (v2:List Int) (b:Nat) (j1:Nat) (v1:List Said) {E:Env} {rv:Rd4} (hE:PureNE Try.prog 72 (.agg [.nilSl,.rsl (Qe rv.k1) 0 rv.k1.length,.rsl (Qe rv.k2) 0 rv.k2.length,.rsl (Qe rv.k3) 0 rv.k3.length]) E)
 (h:(((j:Int)<(T.faults.length:Int)→(∃ fe:Flt,T.faults[j]?=some fe∧((fe.kind=1→((fe.block=(b:Int)→((T.tick≥fe.frm→(0≤fe.chan∧(∃ e:Int,v2[Int.toNat fe.chan]?=some e∧((0≤fe.chan∧fe.chan<((2:Nat):Int))∧((I6 ((j:Int)+1))∧VG E T (j+1) (v2.set (Int.toNat fe.chan) fe.val) b j1 v1)))))∧(¬ (T.tick≥fe.frm)→((I6 ((j:Int)+1))∧VG E T (j+1) v2 b j1 v1))))∧(¬ (fe.block=(b:Int))→((I6 ((j:Int)+1))∧VG E T (j+1) v2 b j1 v1))))∧(¬ (fe.kind=1)→((I6 ((j:Int)+1))∧VG E T (j+1) v2 b j1 v1)))))∧(¬ ((j:Int)<(T.faults.length:Int))→(∃ e:Int,v2[0]?=some e∧(∃ e1:Int,v2[1]?=some e1∧((v1.length+1)≤2147483648∧((I6 ((j1:Int)+1))∧qE E T (j1+1) (v1++[(⟨e,e1⟩:Said)])))))))):VG E T j v2 b j1 v1:=by
 intro g1
 rcases bft (decide ((j:Int)<(T.faults.length:Int))) with hc0 | hc0
 · have h:=h.1 (odt hc0)
   obtain ⟨fe,h1,h⟩:=h
   rcases bft (fe.kind == 1) with hc1 | hc1
   · have h:=h.1 (eq_of_beq hc1)
     rcases bft (fe.block == (b:Int)) with hc2 | hc2
     · have h:=h.1 (eq_of_beq hc2)
       rcases bft (decide (T.tick≥fe.frm)) with hc3 | hc3
       · have h:=h.1 (odt hc3)
         obtain ⟨h3,h⟩:=h
         obtain ⟨e,h2,h⟩:=h
         obtain ⟨q9_4,h⟩:=h
         obtain ⟨q11_4,h⟩:=h
         refine p72_1002_0 T j v2 b j1 v1 g1 fe e hE ⟨hc0,(Qp h1),(rp cFlt 5 0 5 h1),(by decide),hc1,hc2,hc3,q9_4,(rf cI 1 0 1 h2),q11_4,trivial⟩ ?_
         have h:=(h g1)
         simp only [Wi,List.length_set] at h
         rw [(show Qx (rowI v2) (0+(Int.toNat fe.chan)*1) [.int .i64 fe.val]=rowI (v2.set (Int.toNat fe.chan) fe.val) from QD cI (s:=1) (k:=0) (fun _=>rfl) h2 rfl (by first | decide | simp))]
         exact h
       · have h:=h.2 (odf hc3)
         obtain ⟨q8_4,h⟩:=h
         exact p72_1002_1 T j v2 b j1 v1 g1 fe hE ⟨hc0,(Qp h1),(rp cFlt 5 0 5 h1),(by decide),hc1,hc2,hc3,q8_4,trivial⟩ (h g1)
     · have h:=h.2 (ne_of_beq_false hc2)
       obtain ⟨q8_3,h⟩:=h
       exact p72_1002_2 T j v2 b j1 v1 g1 fe hE ⟨hc0,(Qp h1),(rp cFlt 5 0 5 h1),(by decide),hc1,hc2,rfl,q8_3,trivial⟩ (h g1)
   · have h:=h.2 (ne_of_beq_false hc1)
     obtain ⟨q8_2,h⟩:=h
     exact p72_1002_3 T j v2 b j1 v1 g1 fe hE ⟨hc0,(Qp h1),(rp cFlt 5 0 5 h1),(by decide),hc1,rfl,rfl,q8_2,trivial⟩ (h g1)
 · have h:=h.2 (odf hc0)
   obtain ⟨e,h1,h⟩:=h
   obtain ⟨e1,h2,h⟩:=h
   obtain ⟨h3,h⟩:=h
   obtain ⟨q11_1,h⟩:=h
   refine p72_1002_4 T j v2 b j1 v1 g1 e e1 hE ⟨hc0,(⟨by decide,by decide⟩),(row_two h1 h2),rfl,(by have hx:=Qv Xf (s:=2) (fun _=>rfl) v1; simp only [Qe] at hx ⊢; rw [hx]; simp),h3,rfl,(⟨by decide,by decide⟩),(by decide),q11_1,trivial⟩ ?_
   rw [(show Qe v1++[.int .i64 e,.int .i64 e1]=Qe (v1++[(⟨e,e1⟩:Said)]) from (Xw Xf v1 [(⟨e,e1⟩:Said)]).symm)]; rw [(show (v1.length+1)=(v1++[(⟨e,e1⟩:Said)]).length from by simp)]; exact (h (g1+1))
theorem p72_2001_0 (T:Trk) (v1:List Said) (k:Nat) (v2:List Said) (g1:Nat) (g2:Nat) {E:Env} {rv:AV} (hE:PureNE Try.prog 72 rv E) (ho:AllP [(decide ((k:Int)<(T.c.blocks.length:Int)))=true,Qd Try.prog (.clos 90 [] []) [.rptr (Vv T) 0,.int .i64 2,.int .i64 (k:Int)] (.bool (isI T.c T.cars 2 (k:Int))),(isI T.c T.cars 2 (k:Int))=true,2≤2])
 (hg:G Try.prog E (Ys Try.prog) ⟨([.rptr (Vv T) 0,J,.ptr 0 0 0,.int .i64 2,.int .i64 (k:Int),J,.ptr 3 0 0]++jj 11 (z72_4 T k)),[⟨true,0,1,false,[.nilSl,.sl 1 g1 0 v1.length 2,.sl 2 g2 0 v2.length 2,.nilSl],false⟩,⟨true,g1,2,true,(Qe v1),true⟩,⟨true,g2,2,true,(Qe v2),true⟩,⟨true,0,1,true,[.int .i64 1,.int .i64 1],false⟩]⟩):G Try.prog E (WO Try.prog) (yR T v1 k v2 g1 g2) :=
 Qg (n:=400) (ds:=[]) (cs:=[]) (live:=[0,2,3,4,6,18,19,32,33,34]) (m:=4) (evs:=[.b true,.v (.bool (isI T.c T.cars 2 (k:Int))),.b true,.stop]) (obs:=_) hE.kind (hE.nogh _) Ql (by kernel_rfl) ho hg
theorem p72_2001_1 (T:Trk) (v1:List Said) (k:Nat) (v2:List Said) (g1:Nat) (g2:Nat) {E:Env} {rv:AV} (hE:PureNE Try.prog 72 rv E) (ho:AllP [(decide ((k:Int)<(T.c.blocks.length:Int)))=true,Qd Try.prog (.clos 90 [] []) [.rptr (Vv T) 0,.int .i64 2,.int .i64 (k:Int)] (.bool (isI T.c T.cars 2 (k:Int))),(isI T.c T.cars 2 (k:Int))=false,2≤2])
 (hg:G Try.prog E (Ys Try.prog) ⟨([.rptr (Vv T) 0,J,.ptr 0 0 0,.int .i64 2,.int .i64 (k:Int),J,.ptr 3 0 0]++jj 11 (z72_4 T k)),[⟨true,0,1,false,[.nilSl,.sl 1 g1 0 v1.length 2,.sl 2 g2 0 v2.length 2,.nilSl],false⟩,⟨true,g1,2,true,(Qe v1),true⟩,⟨true,g2,2,true,(Qe v2),true⟩,⟨true,0,1,true,[.int .i64 0,.int .i64 0],false⟩]⟩):G Try.prog E (WO Try.prog) (yR T v1 k v2 g1 g2) :=
 Qg (n:=400) (ds:=[]) (cs:=[]) (live:=[0,2,3,4,6,18,19,32,33,34]) (m:=4) (evs:=[.b true,.v (.bool (isI T.c T.cars 2 (k:Int))),.b false,.stop]) (obs:=_) hE.kind (hE.nogh _) Ql (by kernel_rfl) ho hg
theorem p72_2001_2 (T:Trk) (v1:List Said) (k:Nat) (v2:List Said) (g1:Nat) (g2:Nat) {E:Env} {rv:AV} (hE:PureNE Try.prog 72 rv E) (ho:AllP [(decide ((k:Int)<(T.c.blocks.length:Int)))=false,InR .i64 3,true=true])
 (hg:G Try.prog E (WN Try.prog) ⟨([.rptr (Vv T) 0,J,.ptr 0 0 0,.int .i64 3]++jj 14 ([.int .i64 (T.c.blocks.length:Int),.int .i64 0]++Js 53)),[⟨true,0,1,false,[.nilSl,.sl 1 g1 0 v1.length 2,.sl 2 g2 0 v2.length 2,.sl 3 0 0 0 2],false⟩,⟨true,g1,2,true,(Qe v1),true⟩,⟨true,g2,2,true,(Qe v2),true⟩,⟨true,0,2,true,[],true⟩]⟩):G Try.prog E (WO Try.prog) (yR T v1 k v2 g1 g2) :=
 Qg (n:=400) (ds:=[]) (cs:=[(0,3,2)]) (live:=[0,2,3,18,19]) (m:=4) (evs:=[.b false,.b true,.stop]) (obs:=_) hE.kind (hE.nogh _) Ql (by kernel_rfl) ho hg
theorem f72W2001 (T:Trk) (v1:List Said) (k:Nat) (v2:List Said) {E:Env} {rv:Rd4} (hE:PureNE Try.prog 72 (.agg [.nilSl,.rsl (Qe rv.k1) 0 rv.k1.length,.rsl (Qe rv.k2) 0 rv.k2.length,.rsl (Qe rv.k3) 0 rv.k3.length]) E)
 (h:(((k:Int)<(T.c.blocks.length:Int)→((CarsIn T)∧(((isI T.c T.cars 2 (k:Int))=true→VF E T v1 0 ([1,1]) k k v2)∧((isI T.c T.cars 2 (k:Int))=false→VF E T v1 0 ([0,0]) k k v2))))∧(¬ ((k:Int)<(T.c.blocks.length:Int))→WQ E T v1 v2 0 ([])))):WR E T v1 k v2:=by
 intro g1 g2
 rcases bft (decide ((k:Int)<(T.c.blocks.length:Int))) with hc0 | hc0
 · have h:=h.1 (odt hc0)
   obtain ⟨h1,h⟩:=h
   rcases bft (isI T.c T.cars 2 (k:Int)) with hc1 | hc1
   · have h:=h.1 hc1
     exact p72_2001_0 T v1 k v2 g1 g2 hE ⟨hc0,(u90 (is_ok T 2 (k:Int) h1)),hc1,(by decide),trivial⟩ (h g1 g2)
   · have h:=h.2 hc1
     exact p72_2001_1 T v1 k v2 g1 g2 hE ⟨hc0,(u90 (is_ok T 2 (k:Int) h1)),hc1,(by decide),trivial⟩ (h g1 g2)
 · have h:=h.2 (odf hc0)
   exact p72_2001_2 T v1 k v2 g1 g2 hE ⟨hc0,(⟨by decide,by decide⟩),rfl,trivial⟩ (h g1 g2 0)
theorem p72_2002_0 (T:Trk) (v1:List Said) (j:Nat) (v3:List Int) (b:Nat) (j1:Nat) (v2:List Said) (g1:Nat) (g2:Nat) (fe:Flt) (e:Int) {E:Env} {rv:AV} (hE:PureNE Try.prog 72 rv E) (ho:AllP [(decide ((j:Int)<(T.faults.length:Int)))=true,0≤(j:Int)∧(j:Int)<(T.faults.length:Int),((Qo T.faults).drop (0+(Int.toNat (j:Int))*5)).take 5=(Vc fe),5≤5,(fe.kind == 2)=true,(fe.block == (b:Int))=true,(decide (T.tick≥fe.frm))=true,0≤fe.chan∧fe.chan<((2:Nat):Int),((0+(Int.toNat fe.chan)*1)+1)≤(rowI v3).length,InR .i64 ((j:Int)+1)])
 (hg:G Try.prog E (Ys Try.prog) ⟨(z72_6 T b j1 j),[⟨true,0,1,false,[.nilSl,.sl 1 g1 0 v1.length 2,.sl 2 g2 0 v2.length 2,.nilSl],false⟩,⟨true,g1,2,true,(Qe v1),true⟩,⟨true,g2,2,true,(Qe v2),true⟩,⟨true,0,1,true,(Qx (rowI v3) (0+(Int.toNat fe.chan)*1) [.int .i64 fe.val]),false⟩]⟩):G Try.prog E (Ys Try.prog) (Wh T v1 j v3 b j1 v2 g1 g2) :=
 Qg (n:=400) (ds:=[]) (cs:=[]) (live:=[0,2,3,4,6,18,19,32,33,34]) (m:=4) (evs:=[.b true,.ld (.agg (Vc fe)),.b true,.b true,.b true,.stop]) (obs:=_) hE.kind (hE.nogh _) Ql (by kernel_rfl) ho hg
theorem p72_2002_1 (T:Trk) (v1:List Said) (j:Nat) (v3:List Int) (b:Nat) (j1:Nat) (v2:List Said) (g1:Nat) (g2:Nat) (fe:Flt) {E:Env} {rv:AV} (hE:PureNE Try.prog 72 rv E) (ho:AllP [(decide ((j:Int)<(T.faults.length:Int)))=true,0≤(j:Int)∧(j:Int)<(T.faults.length:Int),((Qo T.faults).drop (0+(Int.toNat (j:Int))*5)).take 5=(Vc fe),5≤5,(fe.kind == 2)=true,(fe.block == (b:Int))=true,(decide (T.tick≥fe.frm))=false,InR .i64 ((j:Int)+1)])
 (hg:G Try.prog E (Ys Try.prog) ⟨(z72_6 T b j1 j),[⟨true,0,1,false,[.nilSl,.sl 1 g1 0 v1.length 2,.sl 2 g2 0 v2.length 2,.nilSl],false⟩,⟨true,g1,2,true,(Qe v1),true⟩,⟨true,g2,2,true,(Qe v2),true⟩,⟨true,0,1,true,(rowI v3),false⟩]⟩):G Try.prog E (Ys Try.prog) (Wh T v1 j v3 b j1 v2 g1 g2) :=
 Qg (n:=400) (ds:=[]) (cs:=[]) (live:=[0,2,3,4,6,18,19,32,33,34]) (m:=4) (evs:=[.b true,.ld (.agg (Vc fe)),.b true,.b true,.b false,.stop]) (obs:=_) hE.kind (hE.nogh _) Ql (by kernel_rfl) ho hg
theorem p72_2002_2 (T:Trk) (v1:List Said) (j:Nat) (v3:List Int) (b:Nat) (j1:Nat) (v2:List Said) (g1:Nat) (g2:Nat) (fe:Flt) {E:Env} {rv:AV} (hE:PureNE Try.prog 72 rv E) (ho:AllP [(decide ((j:Int)<(T.faults.length:Int)))=true,0≤(j:Int)∧(j:Int)<(T.faults.length:Int),((Qo T.faults).drop (0+(Int.toNat (j:Int))*5)).take 5=(Vc fe),5≤5,(fe.kind == 2)=true,(fe.block == (b:Int))=false,false=false,InR .i64 ((j:Int)+1)])
 (hg:G Try.prog E (Ys Try.prog) ⟨(z72_6 T b j1 j),[⟨true,0,1,false,[.nilSl,.sl 1 g1 0 v1.length 2,.sl 2 g2 0 v2.length 2,.nilSl],false⟩,⟨true,g1,2,true,(Qe v1),true⟩,⟨true,g2,2,true,(Qe v2),true⟩,⟨true,0,1,true,(rowI v3),false⟩]⟩):G Try.prog E (Ys Try.prog) (Wh T v1 j v3 b j1 v2 g1 g2) :=
 Qg (n:=400) (ds:=[]) (cs:=[]) (live:=[0,2,3,4,6,18,19,32,33,34]) (m:=4) (evs:=[.b true,.ld (.agg (Vc fe)),.b true,.b false,.b false,.stop]) (obs:=_) hE.kind (hE.nogh _) Ql (by kernel_rfl) ho hg
theorem p72_2002_3 (T:Trk) (v1:List Said) (j:Nat) (v3:List Int) (b:Nat) (j1:Nat) (v2:List Said) (g1:Nat) (g2:Nat) (fe:Flt) {E:Env} {rv:AV} (hE:PureNE Try.prog 72 rv E) (ho:AllP [(decide ((j:Int)<(T.faults.length:Int)))=true,0≤(j:Int)∧(j:Int)<(T.faults.length:Int),((Qo T.faults).drop (0+(Int.toNat (j:Int))*5)).take 5=(Vc fe),5≤5,(fe.kind == 2)=false,false=false,false=false,InR .i64 ((j:Int)+1)])
 (hg:G Try.prog E (Ys Try.prog) ⟨(z72_6 T b j1 j),[⟨true,0,1,false,[.nilSl,.sl 1 g1 0 v1.length 2,.sl 2 g2 0 v2.length 2,.nilSl],false⟩,⟨true,g1,2,true,(Qe v1),true⟩,⟨true,g2,2,true,(Qe v2),true⟩,⟨true,0,1,true,(rowI v3),false⟩]⟩):G Try.prog E (Ys Try.prog) (Wh T v1 j v3 b j1 v2 g1 g2) :=
 Qg (n:=400) (ds:=[]) (cs:=[]) (live:=[0,2,3,4,6,18,19,32,33,34]) (m:=4) (evs:=[.b true,.ld (.agg (Vc fe)),.b false,.b false,.b false,.stop]) (obs:=_) hE.kind (hE.nogh _) Ql (by kernel_rfl) ho hg
theorem p72_2002_4 (T:Trk) (v1:List Said) (j:Nat) (v3:List Int) (b:Nat) (j1:Nat) (v2:List Said) (g1:Nat) (g2:Nat) (e:Int) (e1:Int) {E:Env} {rv:AV} (hE:PureNE Try.prog 72 rv E) (ho:AllP [(decide ((j:Int)<(T.faults.length:Int)))=false,(0:Int)≤2∧(2:Int)<((4:Nat):Int),((rowI v3).drop 0).take 2=[.int .i64 e,.int .i64 e1],g2=g2,(0+(v2.length*2))=(Qe v2).length,(v2.length+1)≤2147483648,0=0,(0:Int)≤2∧(2:Int)<((4:Nat):Int),3≤4,InR .i64 ((j1:Int)+1)])
 (hg:G Try.prog E (WO Try.prog) ⟨([.rptr (Vv T) 0,J,.ptr 0 0 0,.int .i64 2]++jj 14 (z72_9 T j1)),[⟨true,0,1,false,[.nilSl,.sl 1 g1 0 v1.length 2,.sl 2 (g2+1) 0 (v2.length+1) 2,.nilSl],false⟩,⟨true,g1,2,true,(Qe v1),true⟩,⟨true,(g2+1),2,true,((Qe v2)++[.int .i64 e,.int .i64 e1]),true⟩]⟩):G Try.prog E (Ys Try.prog) (Wh T v1 j v3 b j1 v2 g1 g2) :=
 Qg (n:=400) (ds:=[]) (cs:=[]) (live:=[0,2,3,18,19]) (m:=3) (evs:=[.b false,.auto,.ld (.agg [.int .i64 e,.int .i64 e1]),.stop]) (obs:=_) hE.kind (hE.nogh _) Ql (by kernel_rfl) ho hg
theorem f72W2002 (T:Trk) (v1:List Said) (j:Nat) (v3:List Int) (b:Nat) (j1:Nat) (v2:List Said) {E:Env} {rv:Rd4} (hE:PureNE Try.prog 72 (.agg [.nilSl,.rsl (Qe rv.k1) 0 rv.k1.length,.rsl (Qe rv.k2) 0 rv.k2.length,.rsl (Qe rv.k3) 0 rv.k3.length]) E)
 (h:(((j:Int)<(T.faults.length:Int)→(∃ fe:Flt,T.faults[j]?=some fe∧((fe.kind=2→((fe.block=(b:Int)→((T.tick≥fe.frm→(0≤fe.chan∧(∃ e:Int,v3[Int.toNat fe.chan]?=some e∧((0≤fe.chan∧fe.chan<((2:Nat):Int))∧((I6 ((j:Int)+1))∧VF E T v1 (j+1) (v3.set (Int.toNat fe.chan) fe.val) b j1 v2)))))∧(¬ (T.tick≥fe.frm)→((I6 ((j:Int)+1))∧VF E T v1 (j+1) v3 b j1 v2))))∧(¬ (fe.block=(b:Int))→((I6 ((j:Int)+1))∧VF E T v1 (j+1) v3 b j1 v2))))∧(¬ (fe.kind=2)→((I6 ((j:Int)+1))∧VF E T v1 (j+1) v3 b j1 v2)))))∧(¬ ((j:Int)<(T.faults.length:Int))→(∃ e:Int,v3[0]?=some e∧(∃ e1:Int,v3[1]?=some e1∧((v2.length+1)≤2147483648∧((I6 ((j1:Int)+1))∧WR E T v1 (j1+1) (v2++[(⟨e,e1⟩:Said)])))))))):VF E T v1 j v3 b j1 v2:=by
 intro g1 g2
 rcases bft (decide ((j:Int)<(T.faults.length:Int))) with hc0 | hc0
 · have h:=h.1 (odt hc0)
   obtain ⟨fe,h1,h⟩:=h
   rcases bft (fe.kind == 2) with hc1 | hc1
   · have h:=h.1 (eq_of_beq hc1)
     rcases bft (fe.block == (b:Int)) with hc2 | hc2
     · have h:=h.1 (eq_of_beq hc2)
       rcases bft (decide (T.tick≥fe.frm)) with hc3 | hc3
       · have h:=h.1 (odt hc3)
         obtain ⟨h3,h⟩:=h
         obtain ⟨e,h2,h⟩:=h
         obtain ⟨q9_4,h⟩:=h
         obtain ⟨q11_4,h⟩:=h
         refine p72_2002_0 T v1 j v3 b j1 v2 g1 g2 fe e hE ⟨hc0,(Qp h1),(rp cFlt 5 0 5 h1),(by decide),hc1,hc2,hc3,q9_4,(rf cI 1 0 1 h2),q11_4,trivial⟩ ?_
         have h:=(h g1 g2)
         simp only [Wh,List.length_set] at h
         rw [(show Qx (rowI v3) (0+(Int.toNat fe.chan)*1) [.int .i64 fe.val]=rowI (v3.set (Int.toNat fe.chan) fe.val) from QD cI (s:=1) (k:=0) (fun _=>rfl) h2 rfl (by first | decide | simp))]
         exact h
       · have h:=h.2 (odf hc3)
         obtain ⟨q8_4,h⟩:=h
         exact p72_2002_1 T v1 j v3 b j1 v2 g1 g2 fe hE ⟨hc0,(Qp h1),(rp cFlt 5 0 5 h1),(by decide),hc1,hc2,hc3,q8_4,trivial⟩ (h g1 g2)
     · have h:=h.2 (ne_of_beq_false hc2)
       obtain ⟨q8_3,h⟩:=h
       exact p72_2002_2 T v1 j v3 b j1 v2 g1 g2 fe hE ⟨hc0,(Qp h1),(rp cFlt 5 0 5 h1),(by decide),hc1,hc2,rfl,q8_3,trivial⟩ (h g1 g2)
   · have h:=h.2 (ne_of_beq_false hc1)
     obtain ⟨q8_2,h⟩:=h
     exact p72_2002_3 T v1 j v3 b j1 v2 g1 g2 fe hE ⟨hc0,(Qp h1),(rp cFlt 5 0 5 h1),(by decide),hc1,rfl,rfl,q8_2,trivial⟩ (h g1 g2)
 · have h:=h.2 (odf hc0)
   obtain ⟨e,h1,h⟩:=h
   obtain ⟨e1,h2,h⟩:=h
   obtain ⟨h3,h⟩:=h
   obtain ⟨q11_1,h⟩:=h
   refine p72_2002_4 T v1 j v3 b j1 v2 g1 g2 e e1 hE ⟨hc0,(⟨by decide,by decide⟩),(row_two h1 h2),rfl,(by have hx:=Qv Xf (s:=2) (fun _=>rfl) v2; simp only [Qe] at hx ⊢; rw [hx]; simp),h3,rfl,(⟨by decide,by decide⟩),(by decide),q11_1,trivial⟩ ?_
   rw [(show Qe v2++[.int .i64 e,.int .i64 e1]=Qe (v2++[(⟨e,e1⟩:Said)]) from (Xw Xf v2 [(⟨e,e1⟩:Said)]).symm)]; rw [(show (v2.length+1)=(v2++[(⟨e,e1⟩:Said)]).length from by simp)]; exact (h g1 (g2+1))
theorem p72_3001_0 (T:Trk) (v1:List Said) (v2:List Said) (k:Nat) (v3:List Said) (g1:Nat) (g2:Nat) (g3:Nat) {E:Env} {rv:AV} (hE:PureNE Try.prog 72 rv E) (ho:AllP [(decide ((k:Int)<(T.c.blocks.length:Int)))=true,Qd Try.prog (.clos 90 [] []) [.rptr (Vv T) 0,.int .i64 3,.int .i64 (k:Int)] (.bool (isI T.c T.cars 3 (k:Int))),(isI T.c T.cars 3 (k:Int))=true,2≤2])
 (hg:G Try.prog E (Yr Try.prog) ⟨([.rptr (Vv T) 0,J,.ptr 0 0 0,.int .i64 3,.int .i64 (k:Int),J,.ptr 4 0 0]++jj 11 (z72_4 T k)),[⟨true,0,1,false,[.nilSl,.sl 1 g1 0 v1.length 2,.sl 2 g2 0 v2.length 2,.sl 3 g3 0 v3.length 2],false⟩,⟨true,g1,2,true,(Qe v1),true⟩,⟨true,g2,2,true,(Qe v2),true⟩,⟨true,g3,2,true,(Qe v3),true⟩,⟨true,0,1,true,[.int .i64 1,.int .i64 1],false⟩]⟩):G Try.prog E (WN Try.prog) (yQ T v1 v2 k v3 g1 g2 g3) :=
 Qg (n:=400) (ds:=[]) (cs:=[]) (live:=[0,2,3,4,6,18,19,32,33,34]) (m:=5) (evs:=[.b true,.v (.bool (isI T.c T.cars 3 (k:Int))),.b true,.stop]) (obs:=_) hE.kind (hE.nogh _) Ql (by kernel_rfl) ho hg
theorem p72_3001_1 (T:Trk) (v1:List Said) (v2:List Said) (k:Nat) (v3:List Said) (g1:Nat) (g2:Nat) (g3:Nat) {E:Env} {rv:AV} (hE:PureNE Try.prog 72 rv E) (ho:AllP [(decide ((k:Int)<(T.c.blocks.length:Int)))=true,Qd Try.prog (.clos 90 [] []) [.rptr (Vv T) 0,.int .i64 3,.int .i64 (k:Int)] (.bool (isI T.c T.cars 3 (k:Int))),(isI T.c T.cars 3 (k:Int))=false,2≤2])
 (hg:G Try.prog E (Yr Try.prog) ⟨([.rptr (Vv T) 0,J,.ptr 0 0 0,.int .i64 3,.int .i64 (k:Int),J,.ptr 4 0 0]++jj 11 (z72_4 T k)),[⟨true,0,1,false,[.nilSl,.sl 1 g1 0 v1.length 2,.sl 2 g2 0 v2.length 2,.sl 3 g3 0 v3.length 2],false⟩,⟨true,g1,2,true,(Qe v1),true⟩,⟨true,g2,2,true,(Qe v2),true⟩,⟨true,g3,2,true,(Qe v3),true⟩,⟨true,0,1,true,[.int .i64 0,.int .i64 0],false⟩]⟩):G Try.prog E (WN Try.prog) (yQ T v1 v2 k v3 g1 g2 g3) :=
 Qg (n:=400) (ds:=[]) (cs:=[]) (live:=[0,2,3,4,6,18,19,32,33,34]) (m:=5) (evs:=[.b true,.v (.bool (isI T.c T.cars 3 (k:Int))),.b false,.stop]) (obs:=_) hE.kind (hE.nogh _) Ql (by kernel_rfl) ho hg
theorem p72_3001_2 (T:Trk) (v1:List Said) (v2:List Said) (k:Nat) (v3:List Said) (g1:Nat) (g2:Nat) (g3:Nat) {E:Env} {res:AV} (hE:PureNE Try.prog 72 res E) (ho:AllP [(decide ((k:Int)<(T.c.blocks.length:Int)))=false,InR .i64 4,false=false,4≤4,g1=g1,∀ x ∈ (Qe v1),XU x=true,g2=g2,∀ x ∈ (Qe v2),XU x=true,g3=g3,∀ x ∈ (Qe v3),XU x=true])
 (hr:(.agg [.nilSl,.rsl (Qe v1) 0 v1.length,.rsl (Qe v2) 0 v2.length,.rsl (Qe v3) 0 v3.length])=res):G Try.prog E (WN Try.prog) (yQ T v1 v2 k v3 g1 g2 g3) :=
 endN_step (n:=400) (evs:=[.b false,.b false]) (obs:=_) hE Try.func72 Ql (by kernel_rfl) ho hr
theorem f72W3001 (T:Trk) (v1:List Said) (v2:List Said) (k:Nat) (v3:List Said) {E:Env} {rv:Rd4} (hE:PureNE Try.prog 72 (.agg [.nilSl,.rsl (Qe rv.k1) 0 rv.k1.length,.rsl (Qe rv.k2) 0 rv.k2.length,.rsl (Qe rv.k3) 0 rv.k3.length]) E)
 (h:(((k:Int)<(T.c.blocks.length:Int)→((CarsIn T)∧(((isI T.c T.cars 3 (k:Int))=true→VE E T v1 v2 0 ([1,1]) k k v3)∧((isI T.c T.cars 3 (k:Int))=false→VE E T v1 v2 0 ([0,0]) k k v3))))∧(¬ ((k:Int)<(T.c.blocks.length:Int))→rv=(⟨v1,v2,v3⟩:Rd4)))):WQ E T v1 v2 k v3:=by
 intro g1 g2 g3
 rcases bft (decide ((k:Int)<(T.c.blocks.length:Int))) with hc0 | hc0
 · have h:=h.1 (odt hc0)
   obtain ⟨h1,h⟩:=h
   rcases bft (isI T.c T.cars 3 (k:Int)) with hc1 | hc1
   · have h:=h.1 hc1
     exact p72_3001_0 T v1 v2 k v3 g1 g2 g3 hE ⟨hc0,(u90 (is_ok T 3 (k:Int) h1)),hc1,(by decide),trivial⟩ (h g1 g2 g3)
   · have h:=h.2 hc1
     exact p72_3001_1 T v1 v2 k v3 g1 g2 g3 hE ⟨hc0,(u90 (is_ok T 3 (k:Int) h1)),hc1,(by decide),trivial⟩ (h g1 g2 g3)
 · have h:=h.2 (odf hc0)
   exact p72_3001_2 T v1 v2 k v3 g1 g2 g3 hE ⟨hc0,(⟨by decide,by decide⟩),rfl,(by decide),rfl,(Kd _),rfl,(Kd _),rfl,(Kd _),trivial⟩ (by rw [h]; try rfl)
theorem p72_3002_0 (T:Trk) (v1:List Said) (v2:List Said) (j:Nat) (v4:List Int) (b:Nat) (j1:Nat) (v3:List Said) (g1:Nat) (g2:Nat) (g3:Nat) (fe:Flt) (e:Int) {E:Env} {rv:AV} (hE:PureNE Try.prog 72 rv E) (ho:AllP [(decide ((j:Int)<(T.faults.length:Int)))=true,0≤(j:Int)∧(j:Int)<(T.faults.length:Int),((Qo T.faults).drop (0+(Int.toNat (j:Int))*5)).take 5=(Vc fe),5≤5,(fe.kind == 3)=true,(fe.block == (b:Int))=true,(decide (T.tick≥fe.frm))=true,0≤fe.chan∧fe.chan<((2:Nat):Int),((0+(Int.toNat fe.chan)*1)+1)≤(rowI v4).length,InR .i64 ((j:Int)+1)])
 (hg:G Try.prog E (Yr Try.prog) ⟨(z72_7 T b j1 j),[⟨true,0,1,false,[.nilSl,.sl 1 g1 0 v1.length 2,.sl 2 g2 0 v2.length 2,.sl 3 g3 0 v3.length 2],false⟩,⟨true,g1,2,true,(Qe v1),true⟩,⟨true,g2,2,true,(Qe v2),true⟩,⟨true,g3,2,true,(Qe v3),true⟩,⟨true,0,1,true,(Qx (rowI v4) (0+(Int.toNat fe.chan)*1) [.int .i64 fe.val]),false⟩]⟩):G Try.prog E (Yr Try.prog) (Wg T v1 v2 j v4 b j1 v3 g1 g2 g3) :=
 Qg (n:=400) (ds:=[]) (cs:=[]) (live:=[0,2,3,4,6,18,19,32,33,34]) (m:=5) (evs:=[.b true,.ld (.agg (Vc fe)),.b true,.b true,.b true,.stop]) (obs:=_) hE.kind (hE.nogh _) Ql (by kernel_rfl) ho hg
theorem p72_3002_1 (T:Trk) (v1:List Said) (v2:List Said) (j:Nat) (v4:List Int) (b:Nat) (j1:Nat) (v3:List Said) (g1:Nat) (g2:Nat) (g3:Nat) (fe:Flt) {E:Env} {rv:AV} (hE:PureNE Try.prog 72 rv E) (ho:AllP [(decide ((j:Int)<(T.faults.length:Int)))=true,0≤(j:Int)∧(j:Int)<(T.faults.length:Int),((Qo T.faults).drop (0+(Int.toNat (j:Int))*5)).take 5=(Vc fe),5≤5,(fe.kind == 3)=true,(fe.block == (b:Int))=true,(decide (T.tick≥fe.frm))=false,InR .i64 ((j:Int)+1)])
 (hg:G Try.prog E (Yr Try.prog) ⟨(z72_7 T b j1 j),[⟨true,0,1,false,[.nilSl,.sl 1 g1 0 v1.length 2,.sl 2 g2 0 v2.length 2,.sl 3 g3 0 v3.length 2],false⟩,⟨true,g1,2,true,(Qe v1),true⟩,⟨true,g2,2,true,(Qe v2),true⟩,⟨true,g3,2,true,(Qe v3),true⟩,⟨true,0,1,true,(rowI v4),false⟩]⟩):G Try.prog E (Yr Try.prog) (Wg T v1 v2 j v4 b j1 v3 g1 g2 g3) :=
 Qg (n:=400) (ds:=[]) (cs:=[]) (live:=[0,2,3,4,6,18,19,32,33,34]) (m:=5) (evs:=[.b true,.ld (.agg (Vc fe)),.b true,.b true,.b false,.stop]) (obs:=_) hE.kind (hE.nogh _) Ql (by kernel_rfl) ho hg
theorem p72_3002_2 (T:Trk) (v1:List Said) (v2:List Said) (j:Nat) (v4:List Int) (b:Nat) (j1:Nat) (v3:List Said) (g1:Nat) (g2:Nat) (g3:Nat) (fe:Flt) {E:Env} {rv:AV} (hE:PureNE Try.prog 72 rv E) (ho:AllP [(decide ((j:Int)<(T.faults.length:Int)))=true,0≤(j:Int)∧(j:Int)<(T.faults.length:Int),((Qo T.faults).drop (0+(Int.toNat (j:Int))*5)).take 5=(Vc fe),5≤5,(fe.kind == 3)=true,(fe.block == (b:Int))=false,false=false,InR .i64 ((j:Int)+1)])
 (hg:G Try.prog E (Yr Try.prog) ⟨(z72_7 T b j1 j),[⟨true,0,1,false,[.nilSl,.sl 1 g1 0 v1.length 2,.sl 2 g2 0 v2.length 2,.sl 3 g3 0 v3.length 2],false⟩,⟨true,g1,2,true,(Qe v1),true⟩,⟨true,g2,2,true,(Qe v2),true⟩,⟨true,g3,2,true,(Qe v3),true⟩,⟨true,0,1,true,(rowI v4),false⟩]⟩):G Try.prog E (Yr Try.prog) (Wg T v1 v2 j v4 b j1 v3 g1 g2 g3) :=
 Qg (n:=400) (ds:=[]) (cs:=[]) (live:=[0,2,3,4,6,18,19,32,33,34]) (m:=5) (evs:=[.b true,.ld (.agg (Vc fe)),.b true,.b false,.b false,.stop]) (obs:=_) hE.kind (hE.nogh _) Ql (by kernel_rfl) ho hg
theorem p72_3002_3 (T:Trk) (v1:List Said) (v2:List Said) (j:Nat) (v4:List Int) (b:Nat) (j1:Nat) (v3:List Said) (g1:Nat) (g2:Nat) (g3:Nat) (fe:Flt) {E:Env} {rv:AV} (hE:PureNE Try.prog 72 rv E) (ho:AllP [(decide ((j:Int)<(T.faults.length:Int)))=true,0≤(j:Int)∧(j:Int)<(T.faults.length:Int),((Qo T.faults).drop (0+(Int.toNat (j:Int))*5)).take 5=(Vc fe),5≤5,(fe.kind == 3)=false,false=false,false=false,InR .i64 ((j:Int)+1)])
 (hg:G Try.prog E (Yr Try.prog) ⟨(z72_7 T b j1 j),[⟨true,0,1,false,[.nilSl,.sl 1 g1 0 v1.length 2,.sl 2 g2 0 v2.length 2,.sl 3 g3 0 v3.length 2],false⟩,⟨true,g1,2,true,(Qe v1),true⟩,⟨true,g2,2,true,(Qe v2),true⟩,⟨true,g3,2,true,(Qe v3),true⟩,⟨true,0,1,true,(rowI v4),false⟩]⟩):G Try.prog E (Yr Try.prog) (Wg T v1 v2 j v4 b j1 v3 g1 g2 g3) :=
 Qg (n:=400) (ds:=[]) (cs:=[]) (live:=[0,2,3,4,6,18,19,32,33,34]) (m:=5) (evs:=[.b true,.ld (.agg (Vc fe)),.b false,.b false,.b false,.stop]) (obs:=_) hE.kind (hE.nogh _) Ql (by kernel_rfl) ho hg
theorem p72_3002_4 (T:Trk) (v1:List Said) (v2:List Said) (j:Nat) (v4:List Int) (b:Nat) (j1:Nat) (v3:List Said) (g1:Nat) (g2:Nat) (g3:Nat) (e:Int) (e1:Int) {E:Env} {rv:AV} (hE:PureNE Try.prog 72 rv E) (ho:AllP [(decide ((j:Int)<(T.faults.length:Int)))=false,(0:Int)≤3∧(3:Int)<((4:Nat):Int),((rowI v4).drop 0).take 2=[.int .i64 e,.int .i64 e1],g3=g3,(0+(v3.length*2))=(Qe v3).length,(v3.length+1)≤2147483648,0=0,(0:Int)≤3∧(3:Int)<((4:Nat):Int),4≤4,InR .i64 ((j1:Int)+1)])
 (hg:G Try.prog E (WN Try.prog) ⟨([.rptr (Vv T) 0,J,.ptr 0 0 0,.int .i64 3]++jj 14 (z72_9 T j1)),[⟨true,0,1,false,[.nilSl,.sl 1 g1 0 v1.length 2,.sl 2 g2 0 v2.length 2,.sl 3 (g3+1) 0 (v3.length+1) 2],false⟩,⟨true,g1,2,true,(Qe v1),true⟩,⟨true,g2,2,true,(Qe v2),true⟩,⟨true,(g3+1),2,true,((Qe v3)++[.int .i64 e,.int .i64 e1]),true⟩]⟩):G Try.prog E (Yr Try.prog) (Wg T v1 v2 j v4 b j1 v3 g1 g2 g3) :=
 Qg (n:=400) (ds:=[]) (cs:=[]) (live:=[0,2,3,18,19]) (m:=4) (evs:=[.b false,.auto,.ld (.agg [.int .i64 e,.int .i64 e1]),.stop]) (obs:=_) hE.kind (hE.nogh _) Ql (by kernel_rfl) ho hg
theorem f72W3002 (T:Trk) (v1:List Said) (v2:List Said) (j:Nat) (v4:List Int) (b:Nat) (j1:Nat) (v3:List Said) {E:Env} {rv:Rd4} (hE:PureNE Try.prog 72 (.agg [.nilSl,.rsl (Qe rv.k1) 0 rv.k1.length,.rsl (Qe rv.k2) 0 rv.k2.length,.rsl (Qe rv.k3) 0 rv.k3.length]) E)
 (h:(((j:Int)<(T.faults.length:Int)→(∃ fe:Flt,T.faults[j]?=some fe∧((fe.kind=3→((fe.block=(b:Int)→((T.tick≥fe.frm→(0≤fe.chan∧(∃ e:Int,v4[Int.toNat fe.chan]?=some e∧((0≤fe.chan∧fe.chan<((2:Nat):Int))∧((I6 ((j:Int)+1))∧VE E T v1 v2 (j+1) (v4.set (Int.toNat fe.chan) fe.val) b j1 v3)))))∧(¬ (T.tick≥fe.frm)→((I6 ((j:Int)+1))∧VE E T v1 v2 (j+1) v4 b j1 v3))))∧(¬ (fe.block=(b:Int))→((I6 ((j:Int)+1))∧VE E T v1 v2 (j+1) v4 b j1 v3))))∧(¬ (fe.kind=3)→((I6 ((j:Int)+1))∧VE E T v1 v2 (j+1) v4 b j1 v3)))))∧(¬ ((j:Int)<(T.faults.length:Int))→(∃ e:Int,v4[0]?=some e∧(∃ e1:Int,v4[1]?=some e1∧((v3.length+1)≤2147483648∧((I6 ((j1:Int)+1))∧WQ E T v1 v2 (j1+1) (v3++[(⟨e,e1⟩:Said)])))))))):VE E T v1 v2 j v4 b j1 v3:=by
 intro g1 g2 g3
 rcases bft (decide ((j:Int)<(T.faults.length:Int))) with hc0 | hc0
 · have h:=h.1 (odt hc0)
   obtain ⟨fe,h1,h⟩:=h
   rcases bft (fe.kind == 3) with hc1 | hc1
   · have h:=h.1 (eq_of_beq hc1)
     rcases bft (fe.block == (b:Int)) with hc2 | hc2
     · have h:=h.1 (eq_of_beq hc2)
       rcases bft (decide (T.tick≥fe.frm)) with hc3 | hc3
       · have h:=h.1 (odt hc3)
         obtain ⟨h3,h⟩:=h
         obtain ⟨e,h2,h⟩:=h
         obtain ⟨q9_4,h⟩:=h
         obtain ⟨q11_4,h⟩:=h
         refine p72_3002_0 T v1 v2 j v4 b j1 v3 g1 g2 g3 fe e hE ⟨hc0,(Qp h1),(rp cFlt 5 0 5 h1),(by decide),hc1,hc2,hc3,q9_4,(rf cI 1 0 1 h2),q11_4,trivial⟩ ?_
         have h:=(h g1 g2 g3)
         simp only [Wg,List.length_set] at h
         rw [(show Qx (rowI v4) (0+(Int.toNat fe.chan)*1) [.int .i64 fe.val]=rowI (v4.set (Int.toNat fe.chan) fe.val) from QD cI (s:=1) (k:=0) (fun _=>rfl) h2 rfl (by first | decide | simp))]
         exact h
       · have h:=h.2 (odf hc3)
         obtain ⟨q8_4,h⟩:=h
         exact p72_3002_1 T v1 v2 j v4 b j1 v3 g1 g2 g3 fe hE ⟨hc0,(Qp h1),(rp cFlt 5 0 5 h1),(by decide),hc1,hc2,hc3,q8_4,trivial⟩ (h g1 g2 g3)
     · have h:=h.2 (ne_of_beq_false hc2)
       obtain ⟨q8_3,h⟩:=h
       exact p72_3002_2 T v1 v2 j v4 b j1 v3 g1 g2 g3 fe hE ⟨hc0,(Qp h1),(rp cFlt 5 0 5 h1),(by decide),hc1,hc2,rfl,q8_3,trivial⟩ (h g1 g2 g3)
   · have h:=h.2 (ne_of_beq_false hc1)
     obtain ⟨q8_2,h⟩:=h
     exact p72_3002_3 T v1 v2 j v4 b j1 v3 g1 g2 g3 fe hE ⟨hc0,(Qp h1),(rp cFlt 5 0 5 h1),(by decide),hc1,rfl,rfl,q8_2,trivial⟩ (h g1 g2 g3)
 · have h:=h.2 (odf hc0)
   obtain ⟨e,h1,h⟩:=h
   obtain ⟨e1,h2,h⟩:=h
   obtain ⟨h3,h⟩:=h
   obtain ⟨q11_1,h⟩:=h
   refine p72_3002_4 T v1 v2 j v4 b j1 v3 g1 g2 g3 e e1 hE ⟨hc0,(⟨by decide,by decide⟩),(row_two h1 h2),rfl,(by have hx:=Qv Xf (s:=2) (fun _=>rfl) v3; simp only [Qe] at hx ⊢; rw [hx]; simp),h3,rfl,(⟨by decide,by decide⟩),(by decide),q11_1,trivial⟩ ?_
   rw [(show Qe v3++[.int .i64 e,.int .i64 e1]=Qe (v3++[(⟨e,e1⟩:Said)]) from (Xw Xf v3 [(⟨e,e1⟩:Said)]).symm)]; rw [(show (v3.length+1)=(v3++[(⟨e,e1⟩:Said)]).length from by simp)]; exact (h g1 g2 (g3+1))
theorem YV (T:Trk) (hT:TrkIn T):PureN0 Try.prog 72 [.rptr [.rsl (Qk T.c.blocks) 0 T.c.blocks.length,.rsl (rowI T.c.cars) 0 T.c.cars.length,.rsl (Qo T.faults) 0 T.faults.length,.rsl (Qi T.cars) 0 T.cars.length,.rsl (rowB T.gos) 0 T.gos.length,.int .i64 T.tick,.int .i64 T.stopped,.bool T.wrecked,.int .i64 T.rounds,.int .i64 T.gone] 0] (.agg [.nilSl,.rsl (Qe (Qm T).k1) 0 (Qm T).k1.length,.rsl (Qe (Qm T).k2) 0 (Qm T).k2.length,.rsl (Qe (Qm T).k3) 0 (Qm T).k3.length]):=pureN_of Try.func72 f72b fun E hE=>by
 have hnb:=hT.nb
 have hnf:=hT.nf
 have in3:∀ (row:List Said) (b:Nat),b<T.c.blocks.length→row=(QR T 3).take b→(row.length+1≤2147483648)→(WQ E T (QR T 1) (QR T 2) (b+1) ((QR T 3).take (b+1)))→∀ (d j:Nat) (s:Int × Int),j+d=T.faults.length→s=(T.faults.take j).foldl (XD 3 b T.tick) (b2i (isI T.c T.cars 3 b),b2i (isI T.c T.cars 3 b))→VE E T (QR T 1) (QR T 2) j [s.1,s.2] b b row:=by
  intro row b hb hrow hlen nx d
  induction d with
  | zero =>
   intro j s hj hs
   refine f72W3002 T (QR T 1) (QR T 2) j [s.1,s.2] b b row (rv:=Qm T) hE ⟨fun h=>by omega,fun _=>⟨s.1,rfl,s.2,rfl,hlen,by omega,?_⟩⟩
   have e:(⟨s.1,s.2⟩:Said)=XF T 3 b:=by
    rw [hs,show j=T.faults.length by omega,List.take_length]; rfl
   rw [qP hb] at nx
   rw [e,hrow]; exact nx
  | succ d ih =>
   intro j s hj hs
   have hx:T.faults[j]?=some T.faults[j]:=List.getElem?_eq_getElem (by omega)
   have hc:=hT.flt _ (List.getElem_mem (show j<T.faults.length by omega))
   generalize T.faults[j]=fe at hx hc
   have nx2:=fun (s':Int × Int) (h:s'=XD 3 b T.tick s fe)=>ih (j+1) s' (by omega) (by rw [Vh hx,← hs]; exact h)
   refine f72W3002 T (QR T 1) (QR T 2) j [s.1,s.2] b b row (rv:=Qm T) hE ⟨fun _=>⟨fe,hx,fun e1=>⟨fun e2=>⟨fun e3=>⟨by omega,?_⟩,fun e3=>⟨by omega,nx2 s (by rw [XD,if_neg (fun h=>e3 h.2.2)])⟩⟩,fun e2=>⟨by omega,nx2 s (by rw [XD,if_neg (fun h=>e2 h.2.1)])⟩⟩,fun e1=>⟨by omega,nx2 s (by rw [XD,if_neg (fun h=>e1 h.1)])⟩⟩,fun h=>by omega⟩
   rcases hc with hc | hc
   · rw [hc]
     exact ⟨s.1,rfl,by omega,by omega,nx2 (fe.val,s.2) (by rw [XD,if_pos ⟨e1,e2,e3⟩,if_pos hc])⟩
   · rw [hc]
     exact ⟨s.2,rfl,by omega,by omega,nx2 (s.1,fe.val) (by rw [XD,if_pos ⟨e1,e2,e3⟩,if_neg (by omega)])⟩
 have out3:(Qm T=Qm T)→∀ (d k:Nat),k+d=T.c.blocks.length→WQ E T (QR T 1) (QR T 2) k ((QR T 3).take k):=by
  intro nxt d
  induction d with
  | zero =>
   intro k hk
   refine f72W3001 T (QR T 1) (QR T 2) k _ (rv:=Qm T) hE ⟨fun h=>by omega,fun _=>?_⟩
   rw [List.take_of_length_le (by simp [QR]; omega)]
   exact nxt
  | succ d ih =>
   intro k hk
   have hlen:((QR T 3).take k).length+1≤2147483648:=by have:=hT.nb; simp [QR]; omega
   have go:=in3 _ k (by omega) rfl hlen (ih (k+1) (by omega)) T.faults.length 0
   refine f72W3001 T (QR T 1) (QR T 2) k _ (rv:=Qm T) hE ⟨fun _=>⟨hT.cars,fun hi=>go (1,1) (by omega) (by rw [hi]; rfl),fun hi=>go (0,0) (by omega) (by rw [hi]; rfl)⟩,fun h=>by omega⟩
 have in2:∀ (row:List Said) (b:Nat),b<T.c.blocks.length→row=(QR T 2).take b→(row.length+1≤2147483648)→(WR E T (QR T 1) (b+1) ((QR T 2).take (b+1)))→∀ (d j:Nat) (s:Int × Int),j+d=T.faults.length→s=(T.faults.take j).foldl (XD 2 b T.tick) (b2i (isI T.c T.cars 2 b),b2i (isI T.c T.cars 2 b))→VF E T (QR T 1) j [s.1,s.2] b b row:=by
  intro row b hb hrow hlen nx d
  induction d with
  | zero =>
   intro j s hj hs
   refine f72W2002 T (QR T 1) j [s.1,s.2] b b row (rv:=Qm T) hE ⟨fun h=>by omega,fun _=>⟨s.1,rfl,s.2,rfl,hlen,by omega,?_⟩⟩
   have e:(⟨s.1,s.2⟩:Said)=XF T 2 b:=by
    rw [hs,show j=T.faults.length by omega,List.take_length]; rfl
   rw [qP hb] at nx
   rw [e,hrow]; exact nx
  | succ d ih =>
   intro j s hj hs
   have hx:T.faults[j]?=some T.faults[j]:=List.getElem?_eq_getElem (by omega)
   have hc:=hT.flt _ (List.getElem_mem (show j<T.faults.length by omega))
   generalize T.faults[j]=fe at hx hc
   have nx2:=fun (s':Int × Int) (h:s'=XD 2 b T.tick s fe)=>ih (j+1) s' (by omega) (by rw [Vh hx,← hs]; exact h)
   refine f72W2002 T (QR T 1) j [s.1,s.2] b b row (rv:=Qm T) hE ⟨fun _=>⟨fe,hx,fun e1=>⟨fun e2=>⟨fun e3=>⟨by omega,?_⟩,fun e3=>⟨by omega,nx2 s (by rw [XD,if_neg (fun h=>e3 h.2.2)])⟩⟩,fun e2=>⟨by omega,nx2 s (by rw [XD,if_neg (fun h=>e2 h.2.1)])⟩⟩,fun e1=>⟨by omega,nx2 s (by rw [XD,if_neg (fun h=>e1 h.1)])⟩⟩,fun h=>by omega⟩
   rcases hc with hc | hc
   · rw [hc]
     exact ⟨s.1,rfl,by omega,by omega,nx2 (fe.val,s.2) (by rw [XD,if_pos ⟨e1,e2,e3⟩,if_pos hc])⟩
   · rw [hc]
     exact ⟨s.2,rfl,by omega,by omega,nx2 (s.1,fe.val) (by rw [XD,if_pos ⟨e1,e2,e3⟩,if_neg (by omega)])⟩
 have out2:(WQ E T (QR T 1) (QR T 2) 0 [])→∀ (d k:Nat),k+d=T.c.blocks.length→WR E T (QR T 1) k ((QR T 2).take k):=by
  intro nxt d
  induction d with
  | zero =>
   intro k hk
   refine f72W2001 T (QR T 1) k _ (rv:=Qm T) hE ⟨fun h=>by omega,fun _=>?_⟩
   rw [List.take_of_length_le (by simp [QR]; omega)]
   exact nxt
  | succ d ih =>
   intro k hk
   have hlen:((QR T 2).take k).length+1≤2147483648:=by have:=hT.nb; simp [QR]; omega
   have go:=in2 _ k (by omega) rfl hlen (ih (k+1) (by omega)) T.faults.length 0
   refine f72W2001 T (QR T 1) k _ (rv:=Qm T) hE ⟨fun _=>⟨hT.cars,fun hi=>go (1,1) (by omega) (by rw [hi]; rfl),fun hi=>go (0,0) (by omega) (by rw [hi]; rfl)⟩,fun h=>by omega⟩
 have in1:∀ (row:List Said) (b:Nat),b<T.c.blocks.length→row=(QR T 1).take b→(row.length+1≤2147483648)→(qE E T (b+1) ((QR T 1).take (b+1)))→∀ (d j:Nat) (s:Int × Int),j+d=T.faults.length→s=(T.faults.take j).foldl (XD 1 b T.tick) (b2i (isI T.c T.cars 1 b),b2i (isI T.c T.cars 1 b))→VG E T j [s.1,s.2] b b row:=by
  intro row b hb hrow hlen nx d
  induction d with
  | zero =>
   intro j s hj hs
   refine f72W1002 T j [s.1,s.2] b b row (rv:=Qm T) hE ⟨fun h=>by omega,fun _=>⟨s.1,rfl,s.2,rfl,hlen,by omega,?_⟩⟩
   have e:(⟨s.1,s.2⟩:Said)=XF T 1 b:=by
    rw [hs,show j=T.faults.length by omega,List.take_length]; rfl
   rw [qP hb] at nx
   rw [e,hrow]; exact nx
  | succ d ih =>
   intro j s hj hs
   have hx:T.faults[j]?=some T.faults[j]:=List.getElem?_eq_getElem (by omega)
   have hc:=hT.flt _ (List.getElem_mem (show j<T.faults.length by omega))
   generalize T.faults[j]=fe at hx hc
   have nx2:=fun (s':Int × Int) (h:s'=XD 1 b T.tick s fe)=>ih (j+1) s' (by omega) (by rw [Vh hx,← hs]; exact h)
   refine f72W1002 T j [s.1,s.2] b b row (rv:=Qm T) hE ⟨fun _=>⟨fe,hx,fun e1=>⟨fun e2=>⟨fun e3=>⟨by omega,?_⟩,fun e3=>⟨by omega,nx2 s (by rw [XD,if_neg (fun h=>e3 h.2.2)])⟩⟩,fun e2=>⟨by omega,nx2 s (by rw [XD,if_neg (fun h=>e2 h.2.1)])⟩⟩,fun e1=>⟨by omega,nx2 s (by rw [XD,if_neg (fun h=>e1 h.1)])⟩⟩,fun h=>by omega⟩
   rcases hc with hc | hc
   · rw [hc]
     exact ⟨s.1,rfl,by omega,by omega,nx2 (fe.val,s.2) (by rw [XD,if_pos ⟨e1,e2,e3⟩,if_pos hc])⟩
   · rw [hc]
     exact ⟨s.2,rfl,by omega,by omega,nx2 (s.1,fe.val) (by rw [XD,if_pos ⟨e1,e2,e3⟩,if_neg (by omega)])⟩
 have out1:(WR E T (QR T 1) 0 [])→∀ (d k:Nat),k+d=T.c.blocks.length→qE E T k ((QR T 1).take k):=by
  intro nxt d
  induction d with
  | zero =>
   intro k hk
   refine f72W1001 T k _ (rv:=Qm T) hE ⟨fun h=>by omega,fun _=>?_⟩
   rw [List.take_of_length_le (by simp [QR]; omega)]
   exact nxt
  | succ d ih =>
   intro k hk
   have hlen:((QR T 1).take k).length+1≤2147483648:=by have:=hT.nb; simp [QR]; omega
   have go:=in1 _ k (by omega) rfl hlen (ih (k+1) (by omega)) T.faults.length 0
   refine f72W1001 T k _ (rv:=Qm T) hE ⟨fun _=>⟨hT.cars,fun hi=>go (1,1) (by omega) (by rw [hi]; rfl),fun hi=>go (0,0) (by omega) (by rw [hi]; rfl)⟩,fun h=>by omega⟩
 exact f72W T (rv:=Qm T) hE (out1 (out2 (out3 rfl T.c.blocks.length 0 (by omega)) T.c.blocks.length 0 (by omega)) T.c.blocks.length 0 (by omega))
theorem f73b:Try.f73.body=some (Qh Try.prog 73):=by kernel_rfl
theorem u73 {a c k:List AV} {r:AV} (h:Pure Try.prog 73 (a++c++k) r):Qd Try.prog (.clos 73 a k) c r:=QQ Try.func73 (by kernel_rfl) f73b h
theorem p73_start_0 (s:Said) {E:Env} {res:AV} (hE:Qn Try.prog 73 res E) (ho:AllP [(0:Int)≤0∧(0:Int)<((2:Nat):Int),(0:Int)≤1∧(1:Int)<((2:Nat):Int)])
 (hr:AvLe (.bool (s.a != s.b)) res):G Try.prog E [.code (Qh Try.prog 73)] ⟨[.agg [.int .i64 s.a,.int .i64 s.b]]++unds (Try.f73.ntmps - 1),[]⟩ :=
 Qf (n:=400) (evs:=[]) (obs:=_) hE Try.func73 Ql (by kernel_rfl) ho hr
theorem f73W (s:Said) {E:Env} {rv:Bool} (hE:Qn Try.prog 73 (.bool rv) E)
 (h:rv=(s.a != s.b)):G Try.prog E [.code (Qh Try.prog 73)] ⟨[.agg [.int .i64 s.a,.int .i64 s.b]]++unds (Try.f73.ntmps - 1),[]⟩:=by
 exact p73_start_0 s hE ⟨(⟨by decide,by decide⟩),(⟨by decide,by decide⟩),trivial⟩ (AvLe.of_eq (by rw [h]; try rfl))
theorem split_ok (s:Said):Pure Try.prog 73 [.agg [.int .i64 s.a,.int .i64 s.b]] (.bool (QJ s)):=QT Try.func73 f73b fun E hE=>f73W s (rv:=QJ s) hE rfl
theorem f92b:Try.f92.body=some (Qh Try.prog 92):=by kernel_rfl
theorem u92 {a c k:List AV} {r:AV} (h:Pure Try.prog 92 (a++c++k) r):Qd Try.prog (.clos 92 a k) c r:=QQ Try.func92 (by kernel_rfl) f92b h
def f92K0 (P:Program):List Item:=kAt 400 [.code (Qh P 92)] [.stop]
def f92S0 (l:(List Said)) (i:Nat):St:=⟨([.rsl (Qe l) 0 l.length,.clos 73 [] []]++jj 5 ([.int .i64 (l.length:Int),.int .i64 (i:Int)]++Js 10)),[]⟩
def f92G0 (E:Env) (l:(List Said)) (i:Nat):Prop:=G Try.prog E (f92K0 Try.prog) (f92S0 l i )
theorem p92_start_0 (l:(List Said)) {E:Env} {rv:AV} (hE:Qn Try.prog 92 rv E) (ho:AllP [])
 (hg:G Try.prog E (f92K0 Try.prog) ⟨([.rsl (Qe l) 0 l.length,.clos 73 [] []]++jj 5 ([.int .i64 (l.length:Int),.int .i64 0]++Js 10)),[]⟩):G Try.prog E [.code (Qh Try.prog 92)] ⟨[.rsl (Qe l) 0 l.length,.clos 73 [] []]++unds (Try.f92.ntmps - 2),[]⟩ :=
 Qg (n:=400) (ds:=[]) (cs:=[]) (live:=[0,1,7,8]) (m:=0) (evs:=[.stop]) (obs:=_) hE.2.1 (hE.nogh _) Ql (by kernel_rfl) ho hg
theorem f92W (l:(List Said)) {E:Env} {rv:Int} (hE:Qn Try.prog 92 (.int .i64 rv) E)
 (h:f92G0 E l 0):G Try.prog E [.code (Qh Try.prog 92)] ⟨[.rsl (Qe l) 0 l.length,.clos 73 [] []]++unds (Try.f92.ntmps - 2),[]⟩:=by
 exact p92_start_0 l hE trivial h
theorem p92_0_0 (l:(List Said)) (i:Nat) (se:Said) {E:Env} {res:AV} (hE:Qn Try.prog 92 res E) (ho:AllP [(decide ((i:Int)<(l.length:Int)))=true,0≤(i:Int)∧(i:Int)<(l.length:Int),((Qe l).drop (0+(Int.toNat (i:Int))*2)).take 2=[.int .i64 se.a,.int .i64 se.b],Qd Try.prog (.clos 73 [] []) [.agg [.int .i64 se.a,.int .i64 se.b]] (.bool (QJ se)),(QJ se)=true])
 (hr:AvLe (.int .i64 (i:Int)) res):G Try.prog E (f92K0 Try.prog) (f92S0 l i ) :=
 Qf (n:=400) (evs:=[.b true,.ld (.agg [.int .i64 se.a,.int .i64 se.b]),.v (.bool (QJ se)),.b true]) (obs:=_) hE Try.func92 Ql (by kernel_rfl) ho hr
theorem p92_0_1 (l:(List Said)) (i:Nat) (se:Said) {E:Env} {rv:AV} (hE:Qn Try.prog 92 rv E) (ho:AllP [(decide ((i:Int)<(l.length:Int)))=true,0≤(i:Int)∧(i:Int)<(l.length:Int),((Qe l).drop (0+(Int.toNat (i:Int))*2)).take 2=[.int .i64 se.a,.int .i64 se.b],Qd Try.prog (.clos 73 [] []) [.agg [.int .i64 se.a,.int .i64 se.b]] (.bool (QJ se)),(QJ se)=false,InR .i64 ((i:Int)+1)])
 (hg:G Try.prog E (f92K0 Try.prog) ⟨([.rsl (Qe l) 0 l.length,.clos 73 [] []]++jj 5 ([.int .i64 (l.length:Int),.int .i64 ((i:Int)+1)]++Js 10)),[]⟩):G Try.prog E (f92K0 Try.prog) (f92S0 l i ) :=
 Qg (n:=400) (ds:=[]) (cs:=[]) (live:=[0,1,7,8]) (m:=0) (evs:=[.b true,.ld (.agg [.int .i64 se.a,.int .i64 se.b]),.v (.bool (QJ se)),.b false,.stop]) (obs:=_) hE.2.1 (hE.nogh _) Ql (by kernel_rfl) ho hg
theorem p92_0_2 (l:(List Said)) (i:Nat) {E:Env} {res:AV} (hE:Qn Try.prog 92 res E) (ho:AllP [(decide ((i:Int)<(l.length:Int)))=false])
 (hr:AvLe (.int .i64 (-1)) res):G Try.prog E (f92K0 Try.prog) (f92S0 l i ) :=
 Qf (n:=400) (evs:=[.b false]) (obs:=_) hE Try.func92 Ql (by kernel_rfl) ho hr
theorem f92W0 (l:(List Said)) (i:Nat) {E:Env} {rv:Int} (hE:Qn Try.prog 92 (.int .i64 rv) E)
 (h:(((i:Int)<(l.length:Int)→(∃ se:Said,l[i]?=some se∧(((QJ se)=true→rv=(i:Int))∧((QJ se)=false→((I6 ((i:Int)+1))∧f92G0 E l (i+1))))))∧(¬ ((i:Int)<(l.length:Int))→rv=(-1)))):f92G0 E l i:=by
 rcases bft (decide ((i:Int)<(l.length:Int))) with hc0 | hc0
 · have h:=h.1 (odt hc0)
   obtain ⟨se,h1,h⟩:=h
   rcases bft (QJ se) with hc1 | hc1
   · have h:=h.1 hc1
     exact p92_0_0 l i se hE ⟨hc0,(Qp h1),(rp Xf 2 0 2 h1),(u73 (split_ok se)),hc1,trivial⟩ (AvLe.of_eq (by rw [h]; try rfl))
   · have h:=h.2 hc1
     obtain ⟨q6_2,h⟩:=h
     exact p92_0_1 l i se hE ⟨hc0,(Qp h1),(rp Xf 2 0 2 h1),(u73 (split_ok se)),hc1,q6_2,trivial⟩ h
 · have h:=h.2 (odf hc0)
   exact p92_0_2 l i hE ⟨hc0,trivial⟩ (AvLe.of_eq (by rw [h]; try rfl))
theorem idxS_ok (l:List Said) (h:l.length≤9223372036854775807):Pure Try.prog 92 [.rsl (Qe l) 0 l.length,.clos 73 [] []] (.int .i64 (idxG QJ l)):=QT Try.func92 f92b fun E hE=>by
 refine f92W l hE (VW QJ l l.length 0 (by omega) (fun j x hj=>by omega) (fun i=>f92G0 E l i) (fun i hi' h1 h2=>?_) (fun _ h2=>?_))
 · have hx:l[i]?=some l[i]:=List.getElem?_eq_getElem hi'
   exact f92W0 l i hE ⟨fun _=>⟨_,hx,fun hp=>h1 _ hx hp,fun hp=>⟨by omega,h2 _ hx hp⟩⟩,fun h=>by omega⟩
 · exact f92W0 l _ hE ⟨fun h=>by omega,fun _=>h2⟩
theorem f76b:Try.f76.body=some (Qh Try.prog 76):=by kernel_rfl
theorem u76 {a c k:List AV} {r:AV} (h:Pure Try.prog 76 (a++c++k) r):Qd Try.prog (.clos 76 a k) c r:=QQ Try.func76 (by kernel_rfl) f76b h
theorem p76_start_0 (l:(List Said)) {E:Env} {res:AV} (hE:Qn Try.prog 76 res E) (ho:AllP [Qd Try.prog (.clos 92 [] []) [.rsl (Qe l) 0 l.length,.clos 73 [] []] (.int .i64 (idxG QJ l))])
 (hr:AvLe (.bool (decide ((idxG QJ l)≥0))) res):G Try.prog E [.code (Qh Try.prog 76)] ⟨[.rsl (Qe l) 0 l.length,.clos 73 [] []]++unds (Try.f76.ntmps - 2),[]⟩ :=
 Qf (n:=400) (evs:=[.v (.int .i64 (idxG QJ l))]) (obs:=_) hE Try.func76 Ql (by kernel_rfl) ho hr
theorem f76W (l:(List Said)) {E:Env} {rv:Bool} (hE:Qn Try.prog 76 (.bool rv) E)
 (h:((l.length≤9223372036854775807)∧rv=(decide ((idxG QJ l)≥0)))):G Try.prog E [.code (Qh Try.prog 76)] ⟨[.rsl (Qe l) 0 l.length,.clos 73 [] []]++unds (Try.f76.ntmps - 2),[]⟩:=by
 obtain ⟨h1,h⟩:=h
 exact p76_start_0 l hE ⟨(u92 (idxS_ok l h1)),trivial⟩ (AvLe.of_eq (by rw [h]; try rfl))
theorem anyS_ok (l:List Said) (h:l.length≤9223372036854775807):Pure Try.prog 76 [.rsl (Qe l) 0 l.length,.clos 73 [] []] (.bool (l.any QJ)):=QT Try.func76 f76b fun E hE=>f76W l hE ⟨h,(WJ _ l).symm⟩
theorem f75b:Try.f75.body=some (Qh Try.prog 75):=by kernel_rfl
theorem u75 {a c k:List AV} {r:AV} (h:Pure Try.prog 75 (a++c++k) r):Qd Try.prog (.clos 75 a k) c r:=QQ Try.func75 (by kernel_rfl) f75b h
theorem p75_start_0 (l:(List Said)) {E:Env} {res:AV} (hE:Qn Try.prog 75 res E) (ho:AllP [Qd Try.prog (.clos 76 [] []) [.rsl (Qe l) 0 l.length,.clos 73 [] []] (.bool (l.any QJ))])
 (hr:AvLe (.bool (l.any QJ)) res):G Try.prog E [.code (Qh Try.prog 75)] ⟨[.rsl (Qe l) 0 l.length,.rptr [.clos 73 [] []] 0]++unds (Try.f75.ntmps - 2),[]⟩ :=
 Qf (n:=400) (evs:=[.v (.bool (l.any QJ))]) (obs:=_) hE Try.func75 Ql (by kernel_rfl) ho hr
theorem f75W (l:(List Said)) {E:Env} {rv:Bool} (hE:Qn Try.prog 75 (.bool rv) E)
 (h:((l.length≤9223372036854775807)∧rv=(l.any QJ))):G Try.prog E [.code (Qh Try.prog 75)] ⟨[.rsl (Qe l) 0 l.length,.rptr [.clos 73 [] []] 0]++unds (Try.f75.ntmps - 2),[]⟩:=by
 obtain ⟨h1,h⟩:=h
 exact p75_start_0 l hE ⟨(u76 (anyS_ok l h1)),trivial⟩ (AvLe.of_eq (by rw [h]; try rfl))
theorem splitR_ok (l:List Said) (h:l.length≤9223372036854775807):Pure Try.prog 75 [.rsl (Qe l) 0 l.length,.rptr [.clos 73 [] []] 0] (.bool (l.any QJ)):=QT Try.func75 f75b fun E hE=>f75W l (rv:=l.any QJ) hE ⟨h,rfl⟩
theorem f91b:Try.f91.body=some (Qh Try.prog 91):=by kernel_rfl
theorem u91 {a c k:List AV} {r:AV} (h:Pure Try.prog 91 (a++c++k) r):Qd Try.prog (.clos 91 a k) c r:=QQ Try.func91 (by kernel_rfl) f91b h
def f91K0 (P:Program):List Item:=kAt 400 [.code (Qh P 91)] [.stop]
def f91S0 (l:(List (List Said))) (i:Nat):St:=⟨([.rsl ((Xc Qe) l) 0 l.length,.clos 75 [] [.rptr [.clos 73 [] []] 0]]++jj 5 ([.int .i64 (l.length:Int),.int .i64 (i:Int)]++Js 10)),[]⟩
def f91G0 (E:Env) (l:(List (List Said))) (i:Nat):Prop:=G Try.prog E (f91K0 Try.prog) (f91S0 l i )
abbrev z91_1 (l:(List (List Said))):List AV:=[.rsl ((Xc Qe) l) 0 l.length,.clos 75 [] [.rptr [.clos 73 [] []] 0]]
theorem p91_start_0 (l:(List (List Said))) {E:Env} {rv:AV} (hE:Qn Try.prog 91 rv E) (ho:AllP [])
 (hg:G Try.prog E (f91K0 Try.prog) ⟨((z91_1 l)++jj 5 ([.int .i64 (l.length:Int),.int .i64 0]++Js 10)),[]⟩):G Try.prog E [.code (Qh Try.prog 91)] ⟨(z91_1 l)++unds (Try.f91.ntmps - 2),[]⟩ :=
 Qg (n:=400) (ds:=[]) (cs:=[]) (live:=[0,1,7,8]) (m:=0) (evs:=[.stop]) (obs:=_) hE.2.1 (hE.nogh _) Ql (by kernel_rfl) ho hg
theorem f91W (l:(List (List Said))) {E:Env} {rv:Int} (hE:Qn Try.prog 91 (.int .i64 rv) E)
 (h:f91G0 E l 0):G Try.prog E [.code (Qh Try.prog 91)] ⟨[.rsl ((Xc Qe) l) 0 l.length,.clos 75 [] [.rptr [.clos 73 [] []] 0]]++unds (Try.f91.ntmps - 2),[]⟩:=by
 exact p91_start_0 l hE trivial h
theorem p91_0_0 (l:(List (List Said))) (i:Nat) (le:(List Said)) {E:Env} {res:AV} (hE:Qn Try.prog 91 res E) (ho:AllP [(decide ((i:Int)<(l.length:Int)))=true,0≤(i:Int)∧(i:Int)<(l.length:Int),(((Xc Qe) l).drop (0+(Int.toNat (i:Int))*1)).take 1=[.rsl (Qe le) 0 le.length],Qd Try.prog (.clos 75 [] [.rptr [.clos 73 [] []] 0]) [.rsl (Qe le) 0 le.length] (.bool (le.any QJ)),(le.any QJ)=true])
 (hr:AvLe (.int .i64 (i:Int)) res):G Try.prog E (f91K0 Try.prog) (f91S0 l i ) :=
 Qf (n:=400) (evs:=[.b true,.ld (.rsl (Qe le) 0 le.length),.v (.bool (le.any QJ)),.b true]) (obs:=_) hE Try.func91 Ql (by kernel_rfl) ho hr
theorem p91_0_1 (l:(List (List Said))) (i:Nat) (le:(List Said)) {E:Env} {rv:AV} (hE:Qn Try.prog 91 rv E) (ho:AllP [(decide ((i:Int)<(l.length:Int)))=true,0≤(i:Int)∧(i:Int)<(l.length:Int),(((Xc Qe) l).drop (0+(Int.toNat (i:Int))*1)).take 1=[.rsl (Qe le) 0 le.length],Qd Try.prog (.clos 75 [] [.rptr [.clos 73 [] []] 0]) [.rsl (Qe le) 0 le.length] (.bool (le.any QJ)),(le.any QJ)=false,InR .i64 ((i:Int)+1)])
 (hg:G Try.prog E (f91K0 Try.prog) ⟨((z91_1 l)++jj 5 ([.int .i64 (l.length:Int),.int .i64 ((i:Int)+1)]++Js 10)),[]⟩):G Try.prog E (f91K0 Try.prog) (f91S0 l i ) :=
 Qg (n:=400) (ds:=[]) (cs:=[]) (live:=[0,1,7,8]) (m:=0) (evs:=[.b true,.ld (.rsl (Qe le) 0 le.length),.v (.bool (le.any QJ)),.b false,.stop]) (obs:=_) hE.2.1 (hE.nogh _) Ql (by kernel_rfl) ho hg
theorem p91_0_2 (l:(List (List Said))) (i:Nat) {E:Env} {res:AV} (hE:Qn Try.prog 91 res E) (ho:AllP [(decide ((i:Int)<(l.length:Int)))=false])
 (hr:AvLe (.int .i64 (-1)) res):G Try.prog E (f91K0 Try.prog) (f91S0 l i ) :=
 Qf (n:=400) (evs:=[.b false]) (obs:=_) hE Try.func91 Ql (by kernel_rfl) ho hr
theorem f91W0 (l:(List (List Said))) (i:Nat) {E:Env} {rv:Int} (hE:Qn Try.prog 91 (.int .i64 rv) E)
 (h:(((i:Int)<(l.length:Int)→(∃ le:(List Said),l[i]?=some le∧((le.length≤9223372036854775807)∧(((le.any QJ)=true→rv=(i:Int))∧((le.any QJ)=false→((I6 ((i:Int)+1))∧f91G0 E l (i+1)))))))∧(¬ ((i:Int)<(l.length:Int))→rv=(-1)))):f91G0 E l i:=by
 rcases bft (decide ((i:Int)<(l.length:Int))) with hc0 | hc0
 · have h:=h.1 (odt hc0)
   obtain ⟨le,h1,h⟩:=h
   obtain ⟨h2,h⟩:=h
   rcases bft (le.any QJ) with hc1 | hc1
   · have h:=h.1 hc1
     exact p91_0_0 l i le hE ⟨hc0,(Qp h1),(rp (cLs Qe) 1 0 1 h1),(u75 (splitR_ok le h2)),hc1,trivial⟩ (AvLe.of_eq (by rw [h]; try rfl))
   · have h:=h.2 hc1
     obtain ⟨q6_2,h⟩:=h
     exact p91_0_1 l i le hE ⟨hc0,(Qp h1),(rp (cLs Qe) 1 0 1 h1),(u75 (splitR_ok le h2)),hc1,q6_2,trivial⟩ h
 · have h:=h.2 (odf hc0)
   exact p91_0_2 l i hE ⟨hc0,trivial⟩ (AvLe.of_eq (by rw [h]; try rfl))
theorem idxSS_ok (l:List (List Said)) (h:l.length≤9223372036854775807∧∀ x ∈ l,x.length≤9223372036854775807):Pure Try.prog 91 [.rsl (Xc Qe l) 0 l.length,.clos 75 [] [.rptr [.clos 73 [] []] 0]] (.int .i64 (idxG (fun l=>l.any QJ) l)):=QT Try.func91 f91b fun E hE=>by
 have h0:=h.1
 refine f91W l hE (VW (fun l=>l.any QJ) l l.length 0 (by omega) (fun j x hj=>by omega) (fun i=>f91G0 E l i) (fun i hi' h1 h2=>?_) (fun _ h2=>?_))
 · have hx:l[i]?=some l[i]:=List.getElem?_eq_getElem hi'
   exact f91W0 l i hE ⟨fun _=>⟨_,hx,h.2 _ (List.getElem_mem _),fun hp=>h1 _ hx hp,fun hp=>⟨by omega,h2 _ hx hp⟩⟩,fun h=>by omega⟩
 · exact f91W0 l _ hE ⟨fun h=>by omega,fun _=>h2⟩
theorem f74b:Try.f74.body=some (Qh Try.prog 74):=by kernel_rfl
theorem u74 {a c k:List AV} {r:AV} (h:Pure Try.prog 74 (a++c++k) r):Qd Try.prog (.clos 74 a k) c r:=QQ Try.func74 (by kernel_rfl) f74b h
theorem p74_start_0 (l:(List (List Said))) {E:Env} {res:AV} (hE:Qn Try.prog 74 res E) (ho:AllP [Qd Try.prog (.clos 91 [] []) [.rsl ((Xc Qe) l) 0 l.length,.clos 75 [] [.rptr [.clos 73 [] []] 0]] (.int .i64 (idxG (fun l=>l.any QJ) l))])
 (hr:AvLe (.bool (decide ((idxG (fun l=>l.any QJ) l)≥0))) res):G Try.prog E [.code (Qh Try.prog 74)] ⟨[.rsl ((Xc Qe) l) 0 l.length,.clos 75 [] [.rptr [.clos 73 [] []] 0]]++unds (Try.f74.ntmps - 2),[]⟩ :=
 Qf (n:=400) (evs:=[.v (.int .i64 (idxG (fun l=>l.any QJ) l))]) (obs:=_) hE Try.func74 Ql (by kernel_rfl) ho hr
theorem f74W (l:(List (List Said))) {E:Env} {rv:Bool} (hE:Qn Try.prog 74 (.bool rv) E)
 (h:((l.length≤9223372036854775807∧∀ x ∈ l,x.length≤9223372036854775807)∧rv=(decide ((idxG (fun l=>l.any QJ) l)≥0)))):G Try.prog E [.code (Qh Try.prog 74)] ⟨[.rsl ((Xc Qe) l) 0 l.length,.clos 75 [] [.rptr [.clos 73 [] []] 0]]++unds (Try.f74.ntmps - 2),[]⟩:=by
 obtain ⟨h1,h⟩:=h
 exact p74_start_0 l hE ⟨(u91 (idxSS_ok l h1)),trivial⟩ (AvLe.of_eq (by rw [h]; try rfl))
theorem VK (l:List (List Said)) (h:l.length≤9223372036854775807∧∀ x ∈ l,x.length≤9223372036854775807):Pure Try.prog 74 [.rsl (Xc Qe l) 0 l.length,.clos 75 [] [.rptr [.clos 73 [] []] 0]] (.bool (l.any fun l=>l.any QJ)):=QT Try.func74 f74b fun E hE=>f74W l hE ⟨h,(WJ _ l).symm⟩
end Go.Proofs.Ytgdfkjjgdkejfaa