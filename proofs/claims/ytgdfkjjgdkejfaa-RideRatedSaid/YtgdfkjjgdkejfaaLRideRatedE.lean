/- A part of the proof: several texts, one behind the other. -/
import Derived.Test.YtgdfkjjgdkejfaaLRideRatedD
set_option linter.unusedVariables false
set_option linter.unusedSimpArgs false
set_option maxRecDepth 100000
namespace Go.Proofs.Ytgdfkjjgdkejfaa
open Go Ax
open Go.Proofs
def QM (T:Trk):List Car:=if T.tick > 0 then T.cars.map (Qo T.c) else T.cars
def midT (T:Trk):Trk:=⟨T.c,T.faults,QM T,T.gos,T.tick,T.stopped,T.wrecked,T.rounds,T.gone⟩
def QL (rd:Rd4):Bool:=[([]:List Said),rd.k1,rd.k2,rd.k3].any fun l=>l.any Qy
def Yf (T:Trk):Int:=if T.stopped<0 then (if QL (Qj (midT T))=true then T.tick else T.stopped) else T.stopped
def Xs (c:Cir) (rd:Rd4) (tick:Int) (s:List Car × List Bool × List Bool) (p:Prs):List Car × List Bool × List Bool:=if p.at_=tick then QT c rd p s else s
def QI (T:Trk) (l:List Prs):List Car × List Bool × List Bool:=l.foldl (Xs T.c (Qj (midT T)) T.tick) (QM T,T.gos,List.replicate T.c.blocks.length false)
def Ve (T:Trk) (l:List Prs):Brk:=Qw T.c (Qj (midT T)) (QI T l).2.2 (QI T l).1 T.c.blocks.length ⟨(QI T l).1,(QI T l).2.1,T.rounds,T.gone⟩
def actT (T:Trk) (l:List Prs):Brk:=if Yf T<0 then Ve T l else ⟨QM T,T.gos,T.rounds,T.gone⟩
def YZ (c:Cir) (cars:List Car):Bool:=decide ((QC c (cars.map Car.spot)).2≥0)
/-- A tick. -/
def Qu (T:Trk) (l:List Prs):Trk :=
 if T.wrecked=true then ⟨T.c,T.faults,T.cars,T.gos,T.tick+1,T.stopped,T.wrecked,T.rounds,T.gone⟩
 else ⟨T.c,T.faults,(actT T l).cars,(actT T l).gos,T.tick+1,Yf T,YZ T.c (actT T l).cars,(actT T l).rounds,(actT T l).gone⟩
structure CarB (c:Cir) (B:Int) (x:Car):Prop where
 inC:InC c x.spot.block
 ran:0≤x.spot.ran∧x.spot.ran≤B
 stood:0≤x.stood∧x.stood≤B
theorem CarB.up {c:Cir} {B B':Int} {x:Car} (h:CarB c B x) (hb:B≤B'):CarB c B' x:=⟨h.inC,by have:=h.ran; omega,by have:=h.stood; omega⟩
theorem CarB.roll {c:Cir} {B:Int} {x:Car} (h:CarB c B x):CarB c (B+1) (Qo c x):=by
 unfold Qo
 split
 · exact ⟨h.inC,by have:=h.ran; simp only; omega,by have:=h.stood; simp only; omega⟩
 · exact ⟨h.inC,by have:=h.ran; simp only; omega,by have:=h.stood; simp only; omega⟩
theorem CarB.ok {c:Cir} {B:Int} {x:Car} (h:CarB c B x) (hb:B≤1000000):CarOk c x:=⟨h.inC,by have:=h.ran; omega,by have:=h.stood; omega⟩
structure TOk (T:Trk) (B:Int):Prop where
 nb:0<T.c.blocks.length∧T.c.blocks.length≤1000000
 lc:T.cars.length≤1000000
 lf:T.faults.length≤1000000
 flt:∀ f ∈ T.faults,f.chan=0 ∨ f.chan=1
 lg:T.gos.length=T.c.blocks.length
 car:∀ x ∈ T.cars,CarB T.c B x
 tk:0≤T.tick∧T.tick≤B
 rd:-1000000*B≤T.rounds∧T.rounds≤1000000*B
 gn:-1000000*B≤T.gone∧T.gone≤1000000*B
 ns:T.wrecked=false→QP T.cars
def Qaq (c:Cir) (l:List Prs):Prop:=∀ p ∈ l,InC c p.block∧(p.kind=1 ∨ p.kind=2 ∨ p.kind=3)
/-! ### What is so of the cars,through a tick -/
theorem Xe {α β:Type} {f:α→β} {l:List α} {i:Nat} {d:α} {e:β} (h:i<l.length):(l.map f).getD i e=f (l.getD i d):=by simp [List.getD,h]
theorem QP.map {f:Car→Car} (hf:∀ x,(f x).spot.block=x.spot.block) {cars:List Car} (h:QP cars):QP (cars.map f):=fun i j hij hj=>by
 simp only [List.length_map] at hj
 rw [Xe (d:=dC) (by omega),Xe (d:=dC) hj,hf,hf]
 exact h i j hij hj
theorem yg {c:Cir} (x:Car):(Qo c x).spot.block=x.spot.block:=by unfold Qo; split <;> rfl
theorem press_block {op:Bool} {p:Prs} (x:Car):(XY op p x).spot.block=x.spot.block:=by unfold XY; split <;> rfl
structure PresOk (c:Cir) (B:Int) (n:Nat) (s:List Car × List Bool × List Bool):Prop where
 lc:s.1.length=n
 lg:s.2.1.length=c.blocks.length
 lo:s.2.2.length=c.blocks.length
 car:∀ x ∈ s.1,CarB c B x
 ns:QP s.1
theorem PresOk.press {c:Cir} {B:Int} {n:Nat} {s:List Car × List Bool × List Bool} {rd:Rd4} {p:Prs} (h:PresOk c B n s):PresOk c B n (QT c rd p s):=by
 unfold QT
 split
 · exact ⟨h.lc,by simp [h.lg],h.lo,h.car,h.ns⟩
 · refine ⟨by simp [h.lc],h.lg,by simp [opsP,h.lo],fun x hx=>?_,h.ns.map press_block⟩
   obtain ⟨y,hy,rfl⟩:=List.mem_map.1 hx
   have:=h.car y hy
   unfold XY
   split
   · exact ⟨this.inC,this.ran,this.stood⟩
   · exact this
theorem QaN {c:Cir} {rd:Rd4} {p:Prs} {s:List Car × List Bool × List Bool}:(QT c rd p s).2.2.length=s.2.2.length:=by unfold QT; split <;> simp [opsP]
theorem PresOk.fold {c:Cir} {B:Int} {n:Nat} {rd:Rd4} {tick:Int}:∀ {l:List Prs} {s:List Car × List Bool × List Bool},PresOk c B n s→PresOk c B n (l.foldl (Xs c rd tick) s)
 | [],s,h=>h
 | p :: l,s,h=>by
  simp only [List.foldl_cons]
  refine PresOk.fold ?_
  unfold Xs
  split
  · exact h.press
  · exact h
theorem qH {T:Trk}:RdOk T.c (Qj T):=⟨by simp [Qj,QK],by simp [Qj,QK],by simp [Qj,QK]⟩
theorem yB {c:Cir} {rd:Rd4} {ops:List Bool} {cars0:List Car} {B:Int} (hn:0<c.blocks.length) (hB:0≤B) {s:Brk}:∀ {b:Nat},(∀ x ∈ s.cars,CarB c B x)→∀ x ∈ (Qw c rd ops cars0 b s).cars,CarB c B x
 | 0,h=>h
 | b+1,h=>by
  have ih:=yB hn hB (rd:=rd) (ops:=ops) (cars0:=cars0) (b:=b) h
  simp only [Qw]
  generalize Qw c rd ops cars0 b s=s' at ih
  unfold Xz
  split
  · split
    · exact ih
    · split
      · exact ih
      · intro x hx
        simp only [goB] at hx
        rcases List.mem_or_eq_of_mem_set hx with hx | rfl
        · exact ih x hx
        · exact ⟨⟨show (0:Int)≤((Xg c b:Nat):Int) from Int.natCast_nonneg _,show Int.toNat ((Xg c b:Nat):Int)<c.blocks.length from Nat.mod_lt _ hn⟩,by simp only; omega,by simp only; omega⟩
  · exact ih
theorem Yi {T:Trk} {B:Int} (h:TOk T B):∀ x ∈ QM T,CarB T.c (B+1) x:=by
 unfold QM
 split
 · intro x hx
   obtain ⟨y,hy,rfl⟩:=List.mem_map.1 hx
   exact (h.car y hy).roll
 · exact fun x hx=>(h.car x hx).up (by omega)
theorem QX {T:Trk}:(QM T).length=T.cars.length:=by unfold QM; split <;> simp
theorem YN {T:Trk} (h:QP T.cars):QP (QM T):=by
 unfold QM
 split
 · exact h.map yg
 · exact h
theorem qx {T:Trk} {B:Int} {l:List Prs} (h:TOk T B) (hw:T.wrecked=false):PresOk T.c (B+1) T.cars.length (QI T l) :=
 PresOk.fold ⟨QX,h.lg,by simp,Yi h,YN (h.ns hw)⟩
theorem crash_ns {c:Cir} {cars:List Car} (h:YZ c cars=false):QP cars:=by
 intro i j hij hj
 have hno:∀ k,k<(cars.map Car.spot).length→badB c (cars.map Car.spot) k=false:=by
  unfold YZ QC at h
  split at h
  · simp at h
  · rename_i hn; exact VY hn
 have:=hno i (by simp; omega)
 rw [badB,Bool.or_eq_false_iff] at this
 have:=List.any_eq_false.1 this.1 j (List.mem_range.2 (by simpa using hj))
 rw [WB,decide_eq_false (by omega)] at this
 rw [Xe (d:=dC) (by omega),Xe (d:=dC) hj] at this
 simpa using this
theorem step_tok {T:Trk} {B:Int} {l:List Prs} (h:TOk T B):TOk (Qu T l) (B+1):=by
 have hB:=h.tk
 unfold Qu
 split
 · rename_i hw
   exact ⟨h.nb,h.lc,h.lf,h.flt,h.lg,fun x hx=>(h.car x hx).up (by omega),by have:=h.tk; simp only; omega,by have:=h.rd; simp only; omega,by have:=h.gn; simp only; omega,fun hw'=>by simp only at hw'; rw [hw] at hw'; cases hw'⟩
 · rename_i hw
   have hw:T.wrecked=false:=by simpa using hw
   have hp:=qx (l:=l) h hw
   have hin:BrkIn T.c (QI T l).1 (1000000*B) ⟨(QI T l).1,(QI T l).2.1,T.rounds,T.gone⟩:=⟨rfl,hp.lg,by have:=h.rd; simp only; omega,by have:=h.gn; simp only; omega⟩
   have hall:=hin.all (rd:=Qj (midT T)) (ops:=(QI T l).2.2) (b:=T.c.blocks.length)
   have hnb:=h.nb
   have act:(actT T l).cars.length≤1000000∧(actT T l).gos.length=T.c.blocks.length∧(∀ x ∈ (actT T l).cars,CarB T.c (B+1) x)∧(-1000000*(B+1)≤(actT T l).rounds∧(actT T l).rounds≤1000000*(B+1))∧(-1000000*(B+1)≤(actT T l).gone∧(actT T l).gone≤1000000*(B+1)):=by
    unfold actT
    split
    · refine ⟨?_,hall.lg,yB hnb.1 (by omega) hp.car,?_,?_⟩
      · have:=hall.lc; have:=hp.lc; have:=h.lc; unfold Ve; omega
      · have:=hall.r; unfold Ve; omega
      · have:=hall.g; unfold Ve; omega
    · exact ⟨by rw [QX]; exact h.lc,h.lg,Yi h,by have:=h.rd; simp only; omega,by have:=h.gn; simp only; omega⟩
   obtain ⟨a1,a2,a3,a4,a5⟩:=act
   exact ⟨h.nb,a1,h.lf,h.flt,a2,a3,by have:=h.tk; simp only; omega,a4,a5,fun hc=>crash_ns hc⟩
theorem f70b:Try.f70.body=some (Qf Try.prog 70):=by kernel_rfl
theorem p70_start_0 (c:Cir) (faults:List Flt) (cars:List Car) (gos:List Bool) (tick stopped:Int) (wrecked:Bool) (rounds gone:Int) (g1 g2:Nat) {E:Env} {res:AV} {bs2:List Blk} (hE:LentKE Try.prog 70 [.sl 3 g2 0 0 1] res bs2 E) (ho:AllP [InR .i64 (tick+1),6≤10])
 (hr:(.tup [])=res) (hb:[⟨true,0,1,false,[.ptr 1 0 0],false⟩,⟨true,0,1,false,[.rsl (Qc c.blocks) 0 c.blocks.length,.rsl (rowI c.cars) 0 c.cars.length,.rsl (Qi faults) 0 faults.length,.sl 2 g1 0 cars.length 4,.sl 3 g2 0 gos.length 1,.int .i64 (tick+1),.int .i64 stopped,.bool wrecked,.int .i64 rounds,.int .i64 gone],false⟩,⟨true,g1,4,true,(Qd cars),true⟩,⟨true,g2,1,true,(rowB gos),true⟩]=bs2):G Try.prog E [.code (Qf Try.prog 70)] ⟨[.ptr 0 0 0]++unds (Try.f70.ntmps - 1),[⟨true,0,1,false,[.ptr 1 0 0],false⟩,⟨true,0,1,false,[.rsl (Qc c.blocks) 0 c.blocks.length,.rsl (rowI c.cars) 0 c.cars.length,.rsl (Qi faults) 0 faults.length,.sl 2 g1 0 cars.length 4,.sl 3 g2 0 gos.length 1,.int .i64 tick,.int .i64 stopped,.bool wrecked,.int .i64 rounds,.int .i64 gone],false⟩,⟨true,g1,4,true,(Qd cars),true⟩,⟨true,g2,1,true,(rowB gos),true⟩]⟩ :=
 endK_step (n:=400) (live:=[]) (m:=4) (evs:=[]) (obs:=_) hE (hE.nogh (by kernel_rfl)) Try.func70 Qm (by kernel_rfl) ho hr hb
theorem f70W (c:Cir) (faults:List Flt) (cars:List Car) (gos:List Bool) (tick stopped:Int) (wrecked:Bool) (rounds gone:Int) (g1 g2:Nat) {E:Env} {rv:Unit} {tick2:Int} (hE:LentKE Try.prog 70 [.sl 3 g2 0 0 1] (.tup []) [⟨true,0,1,false,[.ptr 1 0 0],false⟩,⟨true,0,1,false,[.rsl (Qc c.blocks) 0 c.blocks.length,.rsl (rowI c.cars) 0 c.cars.length,.rsl (Qi faults) 0 faults.length,.sl 2 g1 0 cars.length 4,.sl 3 g2 0 gos.length 1,.int .i64 tick2,.int .i64 stopped,.bool wrecked,.int .i64 rounds,.int .i64 gone],false⟩,⟨true,g1,4,true,(Qd cars),true⟩,⟨true,g2,1,true,(rowB gos),true⟩] E)
 (h:((I6 (tick+1))∧tick2=(tick+1))):G Try.prog E [.code (Qf Try.prog 70)] ⟨[.ptr 0 0 0]++unds (Try.f70.ntmps - 1),[⟨true,0,1,false,[.ptr 1 0 0],false⟩,⟨true,0,1,false,[.rsl (Qc c.blocks) 0 c.blocks.length,.rsl (rowI c.cars) 0 c.cars.length,.rsl (Qi faults) 0 faults.length,.sl 2 g1 0 cars.length 4,.sl 3 g2 0 gos.length 1,.int .i64 tick,.int .i64 stopped,.bool wrecked,.int .i64 rounds,.int .i64 gone],false⟩,⟨true,g1,4,true,(Qd cars),true⟩,⟨true,g2,1,true,(rowB gos),true⟩]⟩:=by
 obtain ⟨q0_0,h⟩:=h
 have qe0:=h
 exact p70_start_0 c faults cars gos tick stopped wrecked rounds gone g1 g2 hE ⟨q0_0,(by decide),trivial⟩ (by try rfl) (by rw [qe0]; all_goals (first | rfl | (simp only [List.length_set]; done) | (simp only [List.length_set]; rfl)))
theorem VI (c:Cir) (faults:List Flt) (cars:List Car) (gos:List Bool) (tick stopped:Int) (wrecked:Bool) (rounds gone:Int) (g1 g2:Nat) (h:-1000000000000≤tick∧tick≤1000000000000) :
 WN Try.prog (.clos 70 [] [.ptr 0 0 0]) [⟨true,0,1,false,[.ptr 1 0 0],false⟩,⟨true,0,1,false,[.rsl (Qc c.blocks) 0 c.blocks.length,.rsl (rowI c.cars) 0 c.cars.length,.rsl (Qi faults) 0 faults.length,.sl 2 g1 0 cars.length 4,.sl 3 g2 0 gos.length 1,.int .i64 tick,.int .i64 stopped,.bool wrecked,.int .i64 rounds,.int .i64 gone],false⟩,⟨true,g1,4,true,(Qd cars),true⟩,⟨true,g2,1,true,(rowB gos),true⟩] (.tup []) [⟨true,0,1,false,[.ptr 1 0 0],false⟩,⟨true,0,1,false,[.rsl (Qc c.blocks) 0 c.blocks.length,.rsl (rowI c.cars) 0 c.cars.length,.rsl (Qi faults) 0 faults.length,.sl 2 g1 0 cars.length 4,.sl 3 g2 0 gos.length 1,.int .i64 (tick+1),.int .i64 stopped,.bool wrecked,.int .i64 rounds,.int .i64 gone],false⟩,⟨true,g1,4,true,(Qd cars),true⟩,⟨true,g2,1,true,(rowB gos),true⟩]:=lentDF_of _ Try.func70 (by kernel_rfl) f70b rfl rfl fun E hE =>
 f70W c faults cars gos tick stopped wrecked rounds gone g1 g2 (rv:=()) hE ⟨by omega,rfl⟩
theorem f45b:Try.f45.body=some (Qf Try.prog 45):=by kernel_rfl
def f45Kd (P:Program):List Item:=toOp 1 (kReg 400 [.code (Qf P 45)] [] 1)
def ql (P:Program):List Item:=toOp 2 (kReg 400 [.code (Qf P 45)] [] 1)
def Kh (P:Program):List Item:=kAt 400 (ql P) [.b false,.b true,.b true,.b true,.stop]
def Qad (l:(List Prs)) (c:Cir) (faults:List Flt) (cars:List Car) (gos:List Bool) (tick stopped:Int) (wrecked:Bool) (rounds gone:Int) (g1 g2:Nat) (v6:List Bool) (v0_6:Int) (v1:List Car) (v4_1:(List Said)) (v4_2:(List Said)) (v4_3:(List Said)) (i:Nat) (v2:List Bool) (g6:Nat):St:=⟨([J,J,.ptr 3 0 0,J,.ptr 4 0 0,J,.sl 6 g6 0 v6.length 1]++jj 47 ([.rsl (Qs l) 0 l.length,.int .i64 (l.length:Int),.int .i64 (i:Int)]++Js 35)),[⟨true,0,1,false,[.rsl (Qc c.blocks) 0 c.blocks.length,.rsl (rowI c.cars) 0 c.cars.length,.rsl (Qi faults) 0 faults.length,.sl 1 g1 0 v1.length 4,.sl 2 g2 0 v2.length 1,.int .i64 tick,.int .i64 v0_6,.bool wrecked,.int .i64 rounds,.int .i64 gone],false⟩,⟨true,g1,4,true,(Qd v1),true⟩,⟨true,g2,1,true,(rowB v2),true⟩,⟨true,0,1,false,[.ptr 0 0 0],false⟩,⟨true,0,1,true,[.nilSl,.rsl (Qb v4_1) 0 v4_1.length,.rsl (Qb v4_2) 0 v4_2.length,.rsl (Qb v4_3) 0 v4_3.length],false⟩,⟨true,0,1,true,[.clos 73 [] []],false⟩,⟨true,g6,1,true,(rowB v6),true⟩]⟩
def YY (E:Env) (l:(List Prs)) (c:Cir) (faults:List Flt) (cars:List Car) (gos:List Bool) (tick stopped:Int) (wrecked:Bool) (rounds gone:Int) (g1 g2:Nat) (v6:List Bool) (v0_6:Int) (v1:List Car) (v4_1:(List Said)) (v4_2:(List Said)) (v4_3:(List Said)) (i:Nat) (v2:List Bool):Prop:=∀ g6:Nat,G Try.prog E (Kh Try.prog) (Qad l c faults cars gos tick stopped wrecked rounds gone g1 g2 v6 v0_6 v1 v4_1 v4_2 v4_3 i v2 g6)
abbrev qs (l:(List Prs)):List AV:=[.ptr 0 0 0,.rsl (Qs l) 0 l.length,.ptr 3 0 0,.tup [],.tup [],.tup [],.tup [],.tup [],.tup [],.tup [],.tup [],.clos 70 [] [.ptr 3 0 0],.tup [],.tup [],.tup [],.tup [],.tup [],.tup [],.tup [],.tup [],.tup [],.tup [],.tup [],.tup [],.tup [],.tup [],.tup [],.tup [],.tup [],.tup [],.tup [],.tup [],.tup [],.tup [],.tup [],.tup [],.tup [],.tup [],.tup [],.tup [],.tup [],.tup [],.tup [],.tup [],.tup [],.tup [],.tup [],.tup [],.tup [],.tup [],.tup [],.tup [],.tup [],.tup [],.tup [],.tup [],.tup [],.tup [],.tup [],.tup [],.tup [],.tup [],.tup [],.tup [],.tup [],.tup [],.tup [],.tup [],.tup [],.tup [],.tup [],.tup [],.tup [],.tup [],.tup [],.tup [],.tup [],.tup [],.tup [],.tup [],.tup [],.tup [],.tup [],.tup [],.tup [],.tup [],.tup [],.tup [],.tup [],.tup [],.tup [],.tup []]
abbrev XA (c:Cir) (faults:List Flt) (cars:List Car) (gos:List Bool) (tick:Int) (stopped:Int) (wrecked:Bool) (rounds:Int) (gone:Int):=(⟨c,faults,(cars.map (Qo c)),gos,tick,stopped,wrecked,rounds,gone⟩:Trk)
abbrev Wd (c:Cir) (faults:List Flt) (cars:List Car) (gos:List Bool) (tick:Int) (stopped:Int) (wrecked:Bool) (rounds:Int) (gone:Int):List AV:=[.nilSl,.rsl (Qb ((Qj (XA c faults cars gos tick stopped wrecked rounds gone)).k1)) 0 (((Qj (XA c faults cars gos tick stopped wrecked rounds gone)).k1).length),.rsl (Qb ((Qj (XA c faults cars gos tick stopped wrecked rounds gone)).k2)) 0 (((Qj (XA c faults cars gos tick stopped wrecked rounds gone)).k2).length),.rsl (Qb ((Qj (XA c faults cars gos tick stopped wrecked rounds gone)).k3)) 0 (((Qj (XA c faults cars gos tick stopped wrecked rounds gone)).k3).length)]
abbrev QW (c:Cir) (faults:List Flt) (cars:List Car) (gos:List Bool) (tick:Int) (stopped:Int) (wrecked:Bool) (rounds:Int) (gone:Int):=Qj (⟨c,faults,cars,gos,tick,stopped,wrecked,rounds,gone⟩:Trk)
abbrev Wc (c:Cir) (faults:List Flt) (cars:List Car) (gos:List Bool) (tick:Int) (stopped:Int) (wrecked:Bool) (rounds:Int) (gone:Int):List AV:=[.nilSl,.rsl (Qb ((QW c faults cars gos tick stopped wrecked rounds gone).k1)) 0 (((QW c faults cars gos tick stopped wrecked rounds gone).k1).length),.rsl (Qb ((QW c faults cars gos tick stopped wrecked rounds gone).k2)) 0 (((QW c faults cars gos tick stopped wrecked rounds gone).k2).length),.rsl (Qb ((QW c faults cars gos tick stopped wrecked rounds gone).k3)) 0 (((QW c faults cars gos tick stopped wrecked rounds gone).k3).length)]
abbrev QZ (c:Cir) (v4_1:(List Said)) (v4_2:(List Said)) (v4_3:(List Said)) (v6:List Bool) (v1:List Car) (v2:List Bool) (rounds:Int) (gone:Int):=Qw c (⟨v4_1,v4_2,v4_3⟩:Rd4) v6 v1 c.blocks.length ⟨v1,v2,rounds,gone⟩
abbrev Ww (c:Cir) (faults:List Flt) (v4_1:(List Said)) (v4_2:(List Said)) (v4_3:(List Said)) (v6:List Bool) (v1:List Car) (v2:List Bool) (rounds:Int) (gone:Int) (tick:Int) (v0_6:Int) (wrecked:Bool):=(⟨c,faults,(QZ c v4_1 v4_2 v4_3 v6 v1 v2 rounds gone).cars,(QZ c v4_1 v4_2 v4_3 v6 v1 v2 rounds gone).gos,tick,v0_6,wrecked,(QZ c v4_1 v4_2 v4_3 v6 v1 v2 rounds gone).rounds,(QZ c v4_1 v4_2 v4_3 v6 v1 v2 rounds gone).gone⟩:Trk).cars.map Car.spot
abbrev z45_20 (c:Cir) (faults:List Flt) (g1:Nat) (cars:List Car) (g2:Nat) (gos:List Bool) (tick:Int) (stopped:Int) (wrecked:Bool) (rounds:Int) (gone:Int):List AV:=[.rsl (Qc c.blocks) 0 c.blocks.length,.rsl (rowI c.cars) 0 c.cars.length,.rsl (Qi faults) 0 faults.length,.sl 1 g1 0 cars.length 4,.sl 2 g2 0 gos.length 1,.int .i64 tick,.int .i64 stopped,.bool wrecked,.int .i64 rounds,.int .i64 gone]
abbrev qr (c:Cir) (faults:List Flt) (g1:Nat) (cars:List Car) (g2:Nat) (gos:List Bool) (tick:Int) (stopped:Int) (wrecked:Bool) (rounds:Int) (gone:Int):List Blk:=[⟨true,0,1,false,(z45_20 c faults g1 cars g2 gos tick stopped wrecked rounds gone),false⟩,⟨true,g1,4,true,(Qd cars),true⟩,⟨true,g2,1,true,(rowB gos),true⟩,⟨true,0,1,false,[.ptr 0 0 0],false⟩]
abbrev z45_24 (c:Cir) (faults:List Flt) (g1:Nat) (cars:List Car) (g2:Nat) (gos:List Bool) (tick:Int) (stopped:Int) (wrecked:Bool) (rounds:Int) (gone:Int):List AV:=[.rsl (Qc c.blocks) 0 c.blocks.length,.rsl (rowI c.cars) 0 c.cars.length,.rsl (Qi faults) 0 faults.length,.sl 1 g1 0 ((cars.map (Qo c)).length) 4,.sl 2 g2 0 gos.length 1,.int .i64 tick,.int .i64 stopped,.bool wrecked,.int .i64 rounds,.int .i64 gone]
abbrev yY (c:Cir) (faults:List Flt) (g1:Nat) (cars:List Car) (g2:Nat) (gos:List Bool) (tick:Int) (stopped:Int) (wrecked:Bool) (rounds:Int) (gone:Int):List Blk:=[⟨true,0,1,false,(z45_24 c faults g1 cars g2 gos tick stopped wrecked rounds gone),false⟩,⟨true,g1,4,true,(Qd (cars.map (Qo c))),true⟩,⟨true,g2,1,true,(rowB gos),true⟩]
abbrev z45_8 (c:Cir) (faults:List Flt) (g1:Nat) (cars:List Car) (g2:Nat) (gos:List Bool) (tick:Int) (stopped:Int) (wrecked:Bool) (rounds:Int) (gone:Int):List Blk:=[⟨true,0,1,false,(z45_20 c faults g1 cars g2 gos tick stopped wrecked rounds gone),false⟩,⟨true,g1,4,true,(Qd cars),true⟩,⟨true,g2,1,true,(rowB gos),true⟩]
abbrev z45_9 (c:Cir) (faults:List Flt) (cars:List Car) (gos:List Bool) (tick:Int) (stopped:Int) (wrecked:Bool) (rounds:Int) (gone:Int):List AV:=[.rptr [.rsl (Qc c.blocks) 0 c.blocks.length,.rsl (rowI c.cars) 0 c.cars.length,.rsl (Qi faults) 0 faults.length,.rsl (Qd (cars.map (Qo c))) 0 ((cars.map (Qo c)).length),.rsl (rowB gos) 0 gos.length,.int .i64 tick,.int .i64 stopped,.bool wrecked,.int .i64 rounds,.int .i64 gone] 0]
abbrev yL (c:Cir) (faults:List Flt) (cars:List Car) (gos:List Bool) (tick:Int) (stopped:Int) (wrecked:Bool) (rounds:Int) (gone:Int):List AV:=[.rptr [.rsl (Qc c.blocks) 0 c.blocks.length,.rsl (rowI c.cars) 0 c.cars.length,.rsl (Qi faults) 0 faults.length,.rsl (Qd cars) 0 cars.length,.rsl (rowB gos) 0 gos.length,.int .i64 tick,.int .i64 stopped,.bool wrecked,.int .i64 rounds,.int .i64 gone] 0]
abbrev XS (c:Cir) (faults:List Flt) (cars:List Car) (gos:List Bool) (tick:Int) (stopped:Int) (wrecked:Bool) (rounds:Int) (gone:Int):=(⟨c,faults,cars,gos,tick,stopped,wrecked,rounds,gone⟩:Trk).cars.map Car.spot
abbrev z45_12 (c:Cir) (faults:List Flt) (cars:List Car) (gos:List Bool) (tick:Int) (stopped:Int) (wrecked:Bool) (rounds:Int) (gone:Int):AV:=.tup [.agg [.int .i64 (((QC c (XS c faults cars gos tick stopped wrecked rounds gone)).1).block),.int .i64 (((QC c (XS c faults cars gos tick stopped wrecked rounds gone)).1).ran),.bool (((QC c (XS c faults cars gos tick stopped wrecked rounds gone)).1).opn)],.int .i64 ((QC c (XS c faults cars gos tick stopped wrecked rounds gone)).2)]
abbrev XR (c:Cir) (faults:List Flt) (cars:List Car) (gos:List Bool) (tick:Int) (stopped:Int) (wrecked:Bool) (rounds:Int) (gone:Int):=(XA c faults cars gos tick stopped wrecked rounds gone).cars.map Car.spot
abbrev z45_13 (c:Cir) (faults:List Flt) (cars:List Car) (gos:List Bool) (tick:Int) (stopped:Int) (wrecked:Bool) (rounds:Int) (gone:Int):AV:=.tup [.agg [.int .i64 (((QC c (XR c faults cars gos tick stopped wrecked rounds gone)).1).block),.int .i64 (((QC c (XR c faults cars gos tick stopped wrecked rounds gone)).1).ran),.bool (((QC c (XR c faults cars gos tick stopped wrecked rounds gone)).1).opn)],.int .i64 ((QC c (XR c faults cars gos tick stopped wrecked rounds gone)).2)]
abbrev QaF (c:Cir) (l:(List Prs)):List AV:=[J,J,.ptr 3 0 0,J,.ptr 4 0 0,J,.sl 6 0 0 (Int.toNat (c.blocks.length:Int)) 1]++jj 47 ([.rsl (Qs l) 0 l.length,.int .i64 (l.length:Int),.int .i64 0]++Js 35)
abbrev VB (c:Cir) (faults:List Flt) (cars:List Car) (gos:List Bool) (tick:Int) (wrecked:Bool) (rounds:Int) (gone:Int):=(⟨c,faults,(cars.map (Qo c)),gos,tick,tick,wrecked,rounds,gone⟩:Trk).cars.map Car.spot
abbrev VA (c:Cir) (faults:List Flt) (cars:List Car) (gos:List Bool) (tick:Int) (wrecked:Bool) (rounds:Int) (gone:Int):=(⟨c,faults,cars,gos,tick,tick,wrecked,rounds,gone⟩:Trk).cars.map Car.spot
abbrev Kz (c:Cir):List AV:=[.rsl (Qc c.blocks) 0 c.blocks.length,.rsl (rowI c.cars) 0 c.cars.length]
abbrev z45_21 (c:Cir) (faults:List Flt) (g1:Nat) (v4_1:(List Said)) (v4_2:(List Said)) (v4_3:(List Said)) (v6:List Bool) (v1:List Car) (v2:List Bool) (rounds:Int) (gone:Int) (g2:Nat) (tick:Int) (v0_6:Int) (wrecked:Bool) (g6:Nat):List Blk:=[⟨true,0,1,false,[.rsl (Qc c.blocks) 0 c.blocks.length,.rsl (rowI c.cars) 0 c.cars.length,.rsl (Qi faults) 0 faults.length,.sl 1 g1 0 ((QZ c v4_1 v4_2 v4_3 v6 v1 v2 rounds gone).cars.length) 4,.sl 2 g2 0 ((QZ c v4_1 v4_2 v4_3 v6 v1 v2 rounds gone).gos.length) 1,.int .i64 tick,.int .i64 v0_6,.bool wrecked,.int .i64 ((QZ c v4_1 v4_2 v4_3 v6 v1 v2 rounds gone).rounds),.int .i64 ((QZ c v4_1 v4_2 v4_3 v6 v1 v2 rounds gone).gone)],false⟩,⟨true,g1,4,true,(Qd (QZ c v4_1 v4_2 v4_3 v6 v1 v2 rounds gone).cars),true⟩,⟨true,g2,1,true,(rowB (QZ c v4_1 v4_2 v4_3 v6 v1 v2 rounds gone).gos),true⟩,⟨true,g6,1,true,(rowB v6),true⟩]
abbrev z45_22 (c:Cir) (faults:List Flt) (g1:Nat) (v4_1:(List Said)) (v4_2:(List Said)) (v4_3:(List Said)) (pe:Prs) (v1:List Car) (v2:List Bool) (v6:List Bool) (g2:Nat) (tick:Int) (v0_6:Int) (wrecked:Bool) (rounds:Int) (gone:Int) (g6:Nat):List Blk:=[⟨true,0,1,false,[.rsl (Qc c.blocks) 0 c.blocks.length,.rsl (rowI c.cars) 0 c.cars.length,.rsl (Qi faults) 0 faults.length,.sl 1 g1 0 ((QT c (⟨v4_1,v4_2,v4_3⟩:Rd4) pe (v1,v2,v6)).1.length) 4,.sl 2 g2 0 ((QT c (⟨v4_1,v4_2,v4_3⟩:Rd4) pe (v1,v2,v6)).2.1.length) 1,.int .i64 tick,.int .i64 v0_6,.bool wrecked,.int .i64 rounds,.int .i64 gone],false⟩,⟨true,g1,4,true,(Qd (QT c (⟨v4_1,v4_2,v4_3⟩:Rd4) pe (v1,v2,v6)).1),true⟩,⟨true,g2,1,true,(rowB (QT c (⟨v4_1,v4_2,v4_3⟩:Rd4) pe (v1,v2,v6)).2.1),true⟩,⟨true,g6,1,true,(rowB (QT c (⟨v4_1,v4_2,v4_3⟩:Rd4) pe (v1,v2,v6)).2.2),true⟩]
abbrev z45_25 (v4_1:(List Said)) (v4_2:(List Said)) (v4_3:(List Said)):List AV:=[.nilSl,.rsl (Qb v4_1) 0 v4_1.length,.rsl (Qb v4_2) 0 v4_2.length,.rsl (Qb v4_3) 0 v4_3.length]
abbrev z45_26 (c:Cir) (faults:List Flt) (g1:Nat) (v1:List Car) (g2:Nat) (v2:List Bool) (tick:Int) (v0_6:Int) (wrecked:Bool) (rounds:Int) (gone:Int):List AV:=[.rsl (Qc c.blocks) 0 c.blocks.length,.rsl (rowI c.cars) 0 c.cars.length,.rsl (Qi faults) 0 faults.length,.sl 1 g1 0 v1.length 4,.sl 2 g2 0 v2.length 1,.int .i64 tick,.int .i64 v0_6,.bool wrecked,.int .i64 rounds,.int .i64 gone]
abbrev z45_27 (pe:Prs):List AV:=[.int .i64 pe.at_,.int .i64 pe.kind,.int .i64 pe.block]
abbrev z45_28 (c:Cir) (faults:List Flt) (g1:Nat) (cars:List Car) (g2:Nat) (gos:List Bool) (tick:Int) (stopped:Int) (wrecked:Bool) (rounds:Int) (gone:Int):List Blk:=[⟨true,0,1,false,[.ptr 1 0 0],false⟩,⟨true,0,1,false,[.rsl (Qc c.blocks) 0 c.blocks.length,.rsl (rowI c.cars) 0 c.cars.length,.rsl (Qi faults) 0 faults.length,.sl 2 g1 0 cars.length 4,.sl 3 g2 0 gos.length 1,.int .i64 (tick+1),.int .i64 stopped,.bool wrecked,.int .i64 rounds,.int .i64 gone],false⟩,⟨true,g1,4,true,(Qd cars),true⟩,⟨true,g2,1,true,(rowB gos),true⟩]
abbrev z45_29 (c:Cir) (faults:List Flt) (cars:List Car) (gos:List Bool) (tick:Int) (wrecked:Bool) (rounds:Int) (gone:Int):AV:=.tup [.agg [.int .i64 (((QC c (VB c faults cars gos tick wrecked rounds gone)).1).block),.int .i64 (((QC c (VB c faults cars gos tick wrecked rounds gone)).1).ran),.bool (((QC c (VB c faults cars gos tick wrecked rounds gone)).1).opn)],.int .i64 ((QC c (VB c faults cars gos tick wrecked rounds gone)).2)]
abbrev z45_30 (c:Cir) (faults:List Flt) (cars:List Car) (gos:List Bool) (tick:Int) (wrecked:Bool) (rounds:Int) (gone:Int):AV:=.tup [.agg [.int .i64 (((QC c (VA c faults cars gos tick wrecked rounds gone)).1).block),.int .i64 (((QC c (VA c faults cars gos tick wrecked rounds gone)).1).ran),.bool (((QC c (VA c faults cars gos tick wrecked rounds gone)).1).opn)],.int .i64 ((QC c (VA c faults cars gos tick wrecked rounds gone)).2)]
theorem p45_df_0 (l:(List Prs)) (c:Cir) (faults:List Flt) (cars:List Car) (gos:List Bool) (tick stopped:Int) (wrecked:Bool) (rounds gone:Int) (g1 g2:Nat) {E:Env} {res:AV} {bs2:List Blk} (hE:LentDE Try.prog 45 [.sl 2 g2 0 0 1] (.clos 70 [] [.ptr 3 0 0]) res bs2 E) (ho:AllP [wrecked=true,WN Try.prog (.clos 70 [] [.ptr 0 0 0]) [⟨true,0,1,false,[.ptr 1 0 0],false⟩,⟨true,0,1,false,[.rsl (Qc c.blocks) 0 c.blocks.length,.rsl (rowI c.cars) 0 c.cars.length,.rsl (Qi faults) 0 faults.length,.sl 2 g1 0 cars.length 4,.sl 3 g2 0 gos.length 1,.int .i64 tick,.int .i64 stopped,.bool wrecked,.int .i64 rounds,.int .i64 gone],false⟩,⟨true,g1,4,true,(Qd cars),true⟩,⟨true,g2,1,true,(rowB gos),true⟩] (.tup []) (z45_28 c faults g1 cars g2 gos tick stopped wrecked rounds gone)])
 (hr:(.tup [])=res) (hb:[⟨true,0,1,false,[.rsl (Qc c.blocks) 0 c.blocks.length,.rsl (rowI c.cars) 0 c.cars.length,.rsl (Qi faults) 0 faults.length,.sl 1 g1 0 cars.length 4,.sl 2 g2 0 gos.length 1,.int .i64 (tick+1),.int .i64 stopped,.bool wrecked,.int .i64 rounds,.int .i64 gone],false⟩,⟨true,g1,4,true,(Qd cars),true⟩,⟨true,g2,1,true,(rowB gos),true⟩]=bs2):G Try.prog E (ql Try.prog) ⟨(qs l),(qr c faults g1 cars g2 gos tick stopped wrecked rounds gone)⟩ :=
 YS (n:=400) (ρ:=[3,0,1,2]) (bsD:=(z45_28 c faults g1 cars g2 gos tick stopped wrecked rounds gone)) (live:=[]) (m:=3) (evs:=[.b true]) (obs:=_) hE (by kernel_rfl) Try.func45 Qm (by kernel_rfl) ho hr hb
theorem p45_df_1 (l:(List Prs)) (c:Cir) (faults:List Flt) (cars:List Car) (gos:List Bool) (tick stopped:Int) (wrecked:Bool) (rounds gone:Int) (g1 g2:Nat) {E:Env} {rv:AV} {bs2:List Blk} (hE:LentDE Try.prog 45 [.sl 2 g2 0 0 1] (.clos 70 [] [.ptr 3 0 0]) rv bs2 E) (ho:AllP [wrecked=false,(decide (tick > 0))=true,XT Try.prog (.clos 71 [] []) [.ptr 0 0 0] (z45_8 c faults g1 cars g2 gos tick stopped wrecked rounds gone) (.tup []) (yY c faults g1 cars g2 gos tick stopped wrecked rounds gone),Vz Try.prog (.clos 72 [] []) (z45_9 c faults cars gos tick stopped wrecked rounds gone) (.agg (Wd c faults cars gos tick stopped wrecked rounds gone)),g1=g1,g2=g2,4≤4,1≤1,(decide (stopped<0))=true,0≤4,4≤4,4≤4,Ql Try.prog (.clos 74 [] []) [.rsl (Wd c faults cars gos tick stopped wrecked rounds gone) 0 4,.clos 75 [] [.rptr [.clos 73 [] []] 0]] (.bool (([([]:List Said),((Qj (XA c faults cars gos tick stopped wrecked rounds gone)).k1),((Qj (XA c faults cars gos tick stopped wrecked rounds gone)).k2),((Qj (XA c faults cars gos tick stopped wrecked rounds gone)).k3)]).any (fun l=>l.any Qy))),(([([]:List Said),((Qj (XA c faults cars gos tick stopped wrecked rounds gone)).k1),((Qj (XA c faults cars gos tick stopped wrecked rounds gone)).k2),((Qj (XA c faults cars gos tick stopped wrecked rounds gone)).k3)]).any (fun l=>l.any Qy))=true,7≤10,(decide (tick<0))=true,0≤(c.blocks.length:Int)∧(c.blocks.length:Int)≤(c.blocks.length:Int)∧(c.blocks.length:Int)≤2147483648])
 (hg:G Try.prog E (Kh Try.prog) ⟨(QaF c l),[⟨true,0,1,false,[.rsl (Qc c.blocks) 0 c.blocks.length,.rsl (rowI c.cars) 0 c.cars.length,.rsl (Qi faults) 0 faults.length,.sl 1 g1 0 ((cars.map (Qo c)).length) 4,.sl 2 g2 0 gos.length 1,.int .i64 tick,.int .i64 tick,.bool wrecked,.int .i64 rounds,.int .i64 gone],false⟩,⟨true,g1,4,true,(Qd (cars.map (Qo c))),true⟩,⟨true,g2,1,true,(rowB gos),true⟩,⟨true,0,1,false,[.ptr 0 0 0],false⟩,⟨true,0,1,true,(Wd c faults cars gos tick stopped wrecked rounds gone),false⟩,⟨true,0,1,true,[.clos 73 [] []],false⟩,⟨true,0,1,true,((List.replicate (Int.toNat (c.blocks.length:Int)) ([.bool false]:List AV)).flatten),true⟩]⟩):G Try.prog E (ql Try.prog) ⟨(qs l),(qr c faults g1 cars g2 gos tick stopped wrecked rounds gone)⟩ :=
 Qa (n:=400) (ds:=[]) (cs:=[]) (live:=[2,4,6,54,55,56]) (m:=7) (evs:=[.b false,.b true,.lent [0,1,2] (.tup []) (yY c faults g1 cars g2 gos tick stopped wrecked rounds gone),.vn (.agg (Wd c faults cars gos tick stopped wrecked rounds gone)),.b true,.v (.bool (([([]:List Said),((Qj (XA c faults cars gos tick stopped wrecked rounds gone)).k1),((Qj (XA c faults cars gos tick stopped wrecked rounds gone)).k2),((Qj (XA c faults cars gos tick stopped wrecked rounds gone)).k3)]).any (fun l=>l.any Qy))),.b true,.b true,.stop]) (obs:=_) hE.kind (hE.nogh (by kernel_rfl)) Qm (by kernel_rfl) ho hg
theorem p45_df_2 (l:(List Prs)) (c:Cir) (faults:List Flt) (cars:List Car) (gos:List Bool) (tick stopped:Int) (wrecked:Bool) (rounds gone:Int) (g1 g2:Nat) {E:Env} {res:AV} {bs2:List Blk} (hE:LentDE Try.prog 45 [.sl 2 g2 0 0 1] (.clos 70 [] [.ptr 3 0 0]) res bs2 E) (ho:AllP [wrecked=false,(decide (tick > 0))=true,XT Try.prog (.clos 71 [] []) [.ptr 0 0 0] (z45_8 c faults g1 cars g2 gos tick stopped wrecked rounds gone) (.tup []) (yY c faults g1 cars g2 gos tick stopped wrecked rounds gone),Vz Try.prog (.clos 72 [] []) (z45_9 c faults cars gos tick stopped wrecked rounds gone) (.agg (Wd c faults cars gos tick stopped wrecked rounds gone)),g1=g1,g2=g2,4≤4,1≤1,(decide (stopped<0))=true,0≤4,4≤4,4≤4,Ql Try.prog (.clos 74 [] []) [.rsl (Wd c faults cars gos tick stopped wrecked rounds gone) 0 4,.clos 75 [] [.rptr [.clos 73 [] []] 0]] (.bool (([([]:List Said),((Qj (XA c faults cars gos tick stopped wrecked rounds gone)).k1),((Qj (XA c faults cars gos tick stopped wrecked rounds gone)).k2),((Qj (XA c faults cars gos tick stopped wrecked rounds gone)).k3)]).any (fun l=>l.any Qy))),(([([]:List Said),((Qj (XA c faults cars gos tick stopped wrecked rounds gone)).k1),((Qj (XA c faults cars gos tick stopped wrecked rounds gone)).k2),((Qj (XA c faults cars gos tick stopped wrecked rounds gone)).k3)]).any (fun l=>l.any Qy))=true,7≤10,(decide (tick<0))=false,Vz Try.prog (.clos 46 [] []) [.rptr [.rsl (Qc c.blocks) 0 c.blocks.length,.rsl (rowI c.cars) 0 c.cars.length,.rsl (Qi faults) 0 faults.length,.rsl (Qd (cars.map (Qo c))) 0 ((cars.map (Qo c)).length),.rsl (rowB gos) 0 gos.length,.int .i64 tick,.int .i64 tick,.bool wrecked,.int .i64 rounds,.int .i64 gone] 0] (.rsl (Qg (VB c faults cars gos tick wrecked rounds gone)) 0 ((VB c faults cars gos tick wrecked rounds gone).length)),g1=g1,g2=g2,Ql Try.prog (.clos 60 [] []) [.agg (Kz c),.rsl (Qg (VB c faults cars gos tick wrecked rounds gone)) 0 ((VB c faults cars gos tick wrecked rounds gone).length)] (z45_29 c faults cars gos tick wrecked rounds gone),3≤3,8≤10,WN Try.prog (.clos 70 [] [.ptr 0 0 0]) [⟨true,0,1,false,[.ptr 1 0 0],false⟩,⟨true,0,1,false,[.rsl (Qc c.blocks) 0 c.blocks.length,.rsl (rowI c.cars) 0 c.cars.length,.rsl (Qi faults) 0 faults.length,.sl 2 g1 0 ((cars.map (Qo c)).length) 4,.sl 3 g2 0 gos.length 1,.int .i64 tick,.int .i64 tick,.bool (decide ((QC c (VB c faults cars gos tick wrecked rounds gone)).2≥0)),.int .i64 rounds,.int .i64 gone],false⟩,⟨true,g1,4,true,(Qd (cars.map (Qo c))),true⟩,⟨true,g2,1,true,(rowB gos),true⟩] (.tup []) [⟨true,0,1,false,[.ptr 1 0 0],false⟩,⟨true,0,1,false,[.rsl (Qc c.blocks) 0 c.blocks.length,.rsl (rowI c.cars) 0 c.cars.length,.rsl (Qi faults) 0 faults.length,.sl 2 g1 0 ((cars.map (Qo c)).length) 4,.sl 3 g2 0 gos.length 1,.int .i64 (tick+1),.int .i64 tick,.bool (decide ((QC c (VB c faults cars gos tick wrecked rounds gone)).2≥0)),.int .i64 rounds,.int .i64 gone],false⟩,⟨true,g1,4,true,(Qd (cars.map (Qo c))),true⟩,⟨true,g2,1,true,(rowB gos),true⟩]])
 (hr:(.tup [])=res) (hb:[⟨true,0,1,false,[.rsl (Qc c.blocks) 0 c.blocks.length,.rsl (rowI c.cars) 0 c.cars.length,.rsl (Qi faults) 0 faults.length,.sl 1 g1 0 ((cars.map (Qo c)).length) 4,.sl 2 g2 0 gos.length 1,.int .i64 (tick+1),.int .i64 tick,.bool (decide ((QC c (VB c faults cars gos tick wrecked rounds gone)).2≥0)),.int .i64 rounds,.int .i64 gone],false⟩,⟨true,g1,4,true,(Qd (cars.map (Qo c))),true⟩,⟨true,g2,1,true,(rowB gos),true⟩]=bs2):G Try.prog E (ql Try.prog) ⟨(qs l),(qr c faults g1 cars g2 gos tick stopped wrecked rounds gone)⟩ :=
 YS (n:=400) (ρ:=[3,0,1,2]) (bsD:=[⟨true,0,1,false,[.ptr 1 0 0],false⟩,⟨true,0,1,false,[.rsl (Qc c.blocks) 0 c.blocks.length,.rsl (rowI c.cars) 0 c.cars.length,.rsl (Qi faults) 0 faults.length,.sl 2 g1 0 ((cars.map (Qo c)).length) 4,.sl 3 g2 0 gos.length 1,.int .i64 (tick+1),.int .i64 tick,.bool (decide ((QC c (VB c faults cars gos tick wrecked rounds gone)).2≥0)),.int .i64 rounds,.int .i64 gone],false⟩,⟨true,g1,4,true,(Qd (cars.map (Qo c))),true⟩,⟨true,g2,1,true,(rowB gos),true⟩]) (live:=[]) (m:=3) (evs:=[.b false,.b true,.lent [0,1,2] (.tup []) (yY c faults g1 cars g2 gos tick stopped wrecked rounds gone),.vn (.agg (Wd c faults cars gos tick stopped wrecked rounds gone)),.b true,.v (.bool (([([]:List Said),((Qj (XA c faults cars gos tick stopped wrecked rounds gone)).k1),((Qj (XA c faults cars gos tick stopped wrecked rounds gone)).k2),((Qj (XA c faults cars gos tick stopped wrecked rounds gone)).k3)]).any (fun l=>l.any Qy))),.b true,.b false,.vn (.rsl (Qg (VB c faults cars gos tick wrecked rounds gone)) 0 ((VB c faults cars gos tick wrecked rounds gone).length)),.v (z45_29 c faults cars gos tick wrecked rounds gone)]) (obs:=_) hE (by kernel_rfl) Try.func45 Qm (by kernel_rfl) ho hr hb
theorem p45_df_3 (l:(List Prs)) (c:Cir) (faults:List Flt) (cars:List Car) (gos:List Bool) (tick stopped:Int) (wrecked:Bool) (rounds gone:Int) (g1 g2:Nat) {E:Env} {rv:AV} {bs2:List Blk} (hE:LentDE Try.prog 45 [.sl 2 g2 0 0 1] (.clos 70 [] [.ptr 3 0 0]) rv bs2 E) (ho:AllP [wrecked=false,(decide (tick > 0))=true,XT Try.prog (.clos 71 [] []) [.ptr 0 0 0] (z45_8 c faults g1 cars g2 gos tick stopped wrecked rounds gone) (.tup []) (yY c faults g1 cars g2 gos tick stopped wrecked rounds gone),Vz Try.prog (.clos 72 [] []) (z45_9 c faults cars gos tick stopped wrecked rounds gone) (.agg (Wd c faults cars gos tick stopped wrecked rounds gone)),g1=g1,g2=g2,4≤4,1≤1,(decide (stopped<0))=true,0≤4,4≤4,4≤4,Ql Try.prog (.clos 74 [] []) [.rsl (Wd c faults cars gos tick stopped wrecked rounds gone) 0 4,.clos 75 [] [.rptr [.clos 73 [] []] 0]] (.bool (([([]:List Said),((Qj (XA c faults cars gos tick stopped wrecked rounds gone)).k1),((Qj (XA c faults cars gos tick stopped wrecked rounds gone)).k2),((Qj (XA c faults cars gos tick stopped wrecked rounds gone)).k3)]).any (fun l=>l.any Qy))),(([([]:List Said),((Qj (XA c faults cars gos tick stopped wrecked rounds gone)).k1),((Qj (XA c faults cars gos tick stopped wrecked rounds gone)).k2),((Qj (XA c faults cars gos tick stopped wrecked rounds gone)).k3)]).any (fun l=>l.any Qy))=false,(decide (stopped<0))=true,0≤(c.blocks.length:Int)∧(c.blocks.length:Int)≤(c.blocks.length:Int)∧(c.blocks.length:Int)≤2147483648])
 (hg:G Try.prog E (Kh Try.prog) ⟨(QaF c l),[⟨true,0,1,false,(z45_24 c faults g1 cars g2 gos tick stopped wrecked rounds gone),false⟩,⟨true,g1,4,true,(Qd (cars.map (Qo c))),true⟩,⟨true,g2,1,true,(rowB gos),true⟩,⟨true,0,1,false,[.ptr 0 0 0],false⟩,⟨true,0,1,true,(Wd c faults cars gos tick stopped wrecked rounds gone),false⟩,⟨true,0,1,true,[.clos 73 [] []],false⟩,⟨true,0,1,true,((List.replicate (Int.toNat (c.blocks.length:Int)) ([.bool false]:List AV)).flatten),true⟩]⟩):G Try.prog E (ql Try.prog) ⟨(qs l),(qr c faults g1 cars g2 gos tick stopped wrecked rounds gone)⟩ :=
 Qa (n:=400) (ds:=[]) (cs:=[]) (live:=[2,4,6,54,55,56]) (m:=7) (evs:=[.b false,.b true,.lent [0,1,2] (.tup []) (yY c faults g1 cars g2 gos tick stopped wrecked rounds gone),.vn (.agg (Wd c faults cars gos tick stopped wrecked rounds gone)),.b true,.v (.bool (([([]:List Said),((Qj (XA c faults cars gos tick stopped wrecked rounds gone)).k1),((Qj (XA c faults cars gos tick stopped wrecked rounds gone)).k2),((Qj (XA c faults cars gos tick stopped wrecked rounds gone)).k3)]).any (fun l=>l.any Qy))),.b false,.b true,.stop]) (obs:=_) hE.kind (hE.nogh (by kernel_rfl)) Qm (by kernel_rfl) ho hg
theorem p45_df_4 (l:(List Prs)) (c:Cir) (faults:List Flt) (cars:List Car) (gos:List Bool) (tick stopped:Int) (wrecked:Bool) (rounds gone:Int) (g1 g2:Nat) {E:Env} {res:AV} {bs2:List Blk} (hE:LentDE Try.prog 45 [.sl 2 g2 0 0 1] (.clos 70 [] [.ptr 3 0 0]) res bs2 E) (ho:AllP [wrecked=false,(decide (tick > 0))=true,XT Try.prog (.clos 71 [] []) [.ptr 0 0 0] (z45_8 c faults g1 cars g2 gos tick stopped wrecked rounds gone) (.tup []) (yY c faults g1 cars g2 gos tick stopped wrecked rounds gone),Vz Try.prog (.clos 72 [] []) (z45_9 c faults cars gos tick stopped wrecked rounds gone) (.agg (Wd c faults cars gos tick stopped wrecked rounds gone)),g1=g1,g2=g2,4≤4,1≤1,(decide (stopped<0))=true,0≤4,4≤4,4≤4,Ql Try.prog (.clos 74 [] []) [.rsl (Wd c faults cars gos tick stopped wrecked rounds gone) 0 4,.clos 75 [] [.rptr [.clos 73 [] []] 0]] (.bool (([([]:List Said),((Qj (XA c faults cars gos tick stopped wrecked rounds gone)).k1),((Qj (XA c faults cars gos tick stopped wrecked rounds gone)).k2),((Qj (XA c faults cars gos tick stopped wrecked rounds gone)).k3)]).any (fun l=>l.any Qy))),(([([]:List Said),((Qj (XA c faults cars gos tick stopped wrecked rounds gone)).k1),((Qj (XA c faults cars gos tick stopped wrecked rounds gone)).k2),((Qj (XA c faults cars gos tick stopped wrecked rounds gone)).k3)]).any (fun l=>l.any Qy))=false,(decide (stopped<0))=false,Vz Try.prog (.clos 46 [] []) (z45_9 c faults cars gos tick stopped wrecked rounds gone) (.rsl (Qg (XR c faults cars gos tick stopped wrecked rounds gone)) 0 ((XR c faults cars gos tick stopped wrecked rounds gone).length)),g1=g1,g2=g2,Ql Try.prog (.clos 60 [] []) [.agg (Kz c),.rsl (Qg (XR c faults cars gos tick stopped wrecked rounds gone)) 0 ((XR c faults cars gos tick stopped wrecked rounds gone).length)] (z45_13 c faults cars gos tick stopped wrecked rounds gone),3≤3,8≤10,WN Try.prog (.clos 70 [] [.ptr 0 0 0]) [⟨true,0,1,false,[.ptr 1 0 0],false⟩,⟨true,0,1,false,[.rsl (Qc c.blocks) 0 c.blocks.length,.rsl (rowI c.cars) 0 c.cars.length,.rsl (Qi faults) 0 faults.length,.sl 2 g1 0 ((cars.map (Qo c)).length) 4,.sl 3 g2 0 gos.length 1,.int .i64 tick,.int .i64 stopped,.bool (decide ((QC c (XR c faults cars gos tick stopped wrecked rounds gone)).2≥0)),.int .i64 rounds,.int .i64 gone],false⟩,⟨true,g1,4,true,(Qd (cars.map (Qo c))),true⟩,⟨true,g2,1,true,(rowB gos),true⟩] (.tup []) [⟨true,0,1,false,[.ptr 1 0 0],false⟩,⟨true,0,1,false,[.rsl (Qc c.blocks) 0 c.blocks.length,.rsl (rowI c.cars) 0 c.cars.length,.rsl (Qi faults) 0 faults.length,.sl 2 g1 0 ((cars.map (Qo c)).length) 4,.sl 3 g2 0 gos.length 1,.int .i64 (tick+1),.int .i64 stopped,.bool (decide ((QC c (XR c faults cars gos tick stopped wrecked rounds gone)).2≥0)),.int .i64 rounds,.int .i64 gone],false⟩,⟨true,g1,4,true,(Qd (cars.map (Qo c))),true⟩,⟨true,g2,1,true,(rowB gos),true⟩]])
 (hr:(.tup [])=res) (hb:[⟨true,0,1,false,[.rsl (Qc c.blocks) 0 c.blocks.length,.rsl (rowI c.cars) 0 c.cars.length,.rsl (Qi faults) 0 faults.length,.sl 1 g1 0 ((cars.map (Qo c)).length) 4,.sl 2 g2 0 gos.length 1,.int .i64 (tick+1),.int .i64 stopped,.bool (decide ((QC c (XR c faults cars gos tick stopped wrecked rounds gone)).2≥0)),.int .i64 rounds,.int .i64 gone],false⟩,⟨true,g1,4,true,(Qd (cars.map (Qo c))),true⟩,⟨true,g2,1,true,(rowB gos),true⟩]=bs2):G Try.prog E (ql Try.prog) ⟨(qs l),(qr c faults g1 cars g2 gos tick stopped wrecked rounds gone)⟩ :=
 YS (n:=400) (ρ:=[3,0,1,2]) (bsD:=[⟨true,0,1,false,[.ptr 1 0 0],false⟩,⟨true,0,1,false,[.rsl (Qc c.blocks) 0 c.blocks.length,.rsl (rowI c.cars) 0 c.cars.length,.rsl (Qi faults) 0 faults.length,.sl 2 g1 0 ((cars.map (Qo c)).length) 4,.sl 3 g2 0 gos.length 1,.int .i64 (tick+1),.int .i64 stopped,.bool (decide ((QC c (XR c faults cars gos tick stopped wrecked rounds gone)).2≥0)),.int .i64 rounds,.int .i64 gone],false⟩,⟨true,g1,4,true,(Qd (cars.map (Qo c))),true⟩,⟨true,g2,1,true,(rowB gos),true⟩]) (live:=[]) (m:=3) (evs:=[.b false,.b true,.lent [0,1,2] (.tup []) (yY c faults g1 cars g2 gos tick stopped wrecked rounds gone),.vn (.agg (Wd c faults cars gos tick stopped wrecked rounds gone)),.b true,.v (.bool (([([]:List Said),((Qj (XA c faults cars gos tick stopped wrecked rounds gone)).k1),((Qj (XA c faults cars gos tick stopped wrecked rounds gone)).k2),((Qj (XA c faults cars gos tick stopped wrecked rounds gone)).k3)]).any (fun l=>l.any Qy))),.b false,.b false,.vn (.rsl (Qg (XR c faults cars gos tick stopped wrecked rounds gone)) 0 ((XR c faults cars gos tick stopped wrecked rounds gone).length)),.v (z45_13 c faults cars gos tick stopped wrecked rounds gone)]) (obs:=_) hE (by kernel_rfl) Try.func45 Qm (by kernel_rfl) ho hr hb
theorem p45_df_5 (l:(List Prs)) (c:Cir) (faults:List Flt) (cars:List Car) (gos:List Bool) (tick stopped:Int) (wrecked:Bool) (rounds gone:Int) (g1 g2:Nat) {E:Env} {rv:AV} {bs2:List Blk} (hE:LentDE Try.prog 45 [.sl 2 g2 0 0 1] (.clos 70 [] [.ptr 3 0 0]) rv bs2 E) (ho:AllP [wrecked=false,(decide (tick > 0))=true,XT Try.prog (.clos 71 [] []) [.ptr 0 0 0] (z45_8 c faults g1 cars g2 gos tick stopped wrecked rounds gone) (.tup []) (yY c faults g1 cars g2 gos tick stopped wrecked rounds gone),Vz Try.prog (.clos 72 [] []) (z45_9 c faults cars gos tick stopped wrecked rounds gone) (.agg (Wd c faults cars gos tick stopped wrecked rounds gone)),g1=g1,g2=g2,4≤4,1≤1,(decide (stopped<0))=false,false=false,(decide (stopped<0))=true,0≤(c.blocks.length:Int)∧(c.blocks.length:Int)≤(c.blocks.length:Int)∧(c.blocks.length:Int)≤2147483648])
 (hg:G Try.prog E (Kh Try.prog) ⟨(QaF c l),[⟨true,0,1,false,(z45_24 c faults g1 cars g2 gos tick stopped wrecked rounds gone),false⟩,⟨true,g1,4,true,(Qd (cars.map (Qo c))),true⟩,⟨true,g2,1,true,(rowB gos),true⟩,⟨true,0,1,false,[.ptr 0 0 0],false⟩,⟨true,0,1,true,(Wd c faults cars gos tick stopped wrecked rounds gone),false⟩,⟨true,0,1,true,[.clos 73 [] []],false⟩,⟨true,0,1,true,((List.replicate (Int.toNat (c.blocks.length:Int)) ([.bool false]:List AV)).flatten),true⟩]⟩):G Try.prog E (ql Try.prog) ⟨(qs l),(qr c faults g1 cars g2 gos tick stopped wrecked rounds gone)⟩ :=
 Qa (n:=400) (ds:=[]) (cs:=[]) (live:=[2,4,6,54,55,56]) (m:=7) (evs:=[.b false,.b true,.lent [0,1,2] (.tup []) (yY c faults g1 cars g2 gos tick stopped wrecked rounds gone),.vn (.agg (Wd c faults cars gos tick stopped wrecked rounds gone)),.b false,.b false,.b true,.stop]) (obs:=_) hE.kind (hE.nogh (by kernel_rfl)) Qm (by kernel_rfl) ho hg
theorem p45_df_6 (l:(List Prs)) (c:Cir) (faults:List Flt) (cars:List Car) (gos:List Bool) (tick stopped:Int) (wrecked:Bool) (rounds gone:Int) (g1 g2:Nat) {E:Env} {res:AV} {bs2:List Blk} (hE:LentDE Try.prog 45 [.sl 2 g2 0 0 1] (.clos 70 [] [.ptr 3 0 0]) res bs2 E) (ho:AllP [wrecked=false,(decide (tick > 0))=true,XT Try.prog (.clos 71 [] []) [.ptr 0 0 0] (z45_8 c faults g1 cars g2 gos tick stopped wrecked rounds gone) (.tup []) (yY c faults g1 cars g2 gos tick stopped wrecked rounds gone),Vz Try.prog (.clos 72 [] []) (z45_9 c faults cars gos tick stopped wrecked rounds gone) (.agg (Wd c faults cars gos tick stopped wrecked rounds gone)),g1=g1,g2=g2,4≤4,1≤1,(decide (stopped<0))=false,false=false,(decide (stopped<0))=false,Vz Try.prog (.clos 46 [] []) (z45_9 c faults cars gos tick stopped wrecked rounds gone) (.rsl (Qg (XR c faults cars gos tick stopped wrecked rounds gone)) 0 ((XR c faults cars gos tick stopped wrecked rounds gone).length)),g1=g1,g2=g2,Ql Try.prog (.clos 60 [] []) [.agg (Kz c),.rsl (Qg (XR c faults cars gos tick stopped wrecked rounds gone)) 0 ((XR c faults cars gos tick stopped wrecked rounds gone).length)] (z45_13 c faults cars gos tick stopped wrecked rounds gone),3≤3,8≤10,WN Try.prog (.clos 70 [] [.ptr 0 0 0]) [⟨true,0,1,false,[.ptr 1 0 0],false⟩,⟨true,0,1,false,[.rsl (Qc c.blocks) 0 c.blocks.length,.rsl (rowI c.cars) 0 c.cars.length,.rsl (Qi faults) 0 faults.length,.sl 2 g1 0 ((cars.map (Qo c)).length) 4,.sl 3 g2 0 gos.length 1,.int .i64 tick,.int .i64 stopped,.bool (decide ((QC c (XR c faults cars gos tick stopped wrecked rounds gone)).2≥0)),.int .i64 rounds,.int .i64 gone],false⟩,⟨true,g1,4,true,(Qd (cars.map (Qo c))),true⟩,⟨true,g2,1,true,(rowB gos),true⟩] (.tup []) [⟨true,0,1,false,[.ptr 1 0 0],false⟩,⟨true,0,1,false,[.rsl (Qc c.blocks) 0 c.blocks.length,.rsl (rowI c.cars) 0 c.cars.length,.rsl (Qi faults) 0 faults.length,.sl 2 g1 0 ((cars.map (Qo c)).length) 4,.sl 3 g2 0 gos.length 1,.int .i64 (tick+1),.int .i64 stopped,.bool (decide ((QC c (XR c faults cars gos tick stopped wrecked rounds gone)).2≥0)),.int .i64 rounds,.int .i64 gone],false⟩,⟨true,g1,4,true,(Qd (cars.map (Qo c))),true⟩,⟨true,g2,1,true,(rowB gos),true⟩]])
 (hr:(.tup [])=res) (hb:[⟨true,0,1,false,[.rsl (Qc c.blocks) 0 c.blocks.length,.rsl (rowI c.cars) 0 c.cars.length,.rsl (Qi faults) 0 faults.length,.sl 1 g1 0 ((cars.map (Qo c)).length) 4,.sl 2 g2 0 gos.length 1,.int .i64 (tick+1),.int .i64 stopped,.bool (decide ((QC c (XR c faults cars gos tick stopped wrecked rounds gone)).2≥0)),.int .i64 rounds,.int .i64 gone],false⟩,⟨true,g1,4,true,(Qd (cars.map (Qo c))),true⟩,⟨true,g2,1,true,(rowB gos),true⟩]=bs2):G Try.prog E (ql Try.prog) ⟨(qs l),(qr c faults g1 cars g2 gos tick stopped wrecked rounds gone)⟩ :=
 YS (n:=400) (ρ:=[3,0,1,2]) (bsD:=[⟨true,0,1,false,[.ptr 1 0 0],false⟩,⟨true,0,1,false,[.rsl (Qc c.blocks) 0 c.blocks.length,.rsl (rowI c.cars) 0 c.cars.length,.rsl (Qi faults) 0 faults.length,.sl 2 g1 0 ((cars.map (Qo c)).length) 4,.sl 3 g2 0 gos.length 1,.int .i64 (tick+1),.int .i64 stopped,.bool (decide ((QC c (XR c faults cars gos tick stopped wrecked rounds gone)).2≥0)),.int .i64 rounds,.int .i64 gone],false⟩,⟨true,g1,4,true,(Qd (cars.map (Qo c))),true⟩,⟨true,g2,1,true,(rowB gos),true⟩]) (live:=[]) (m:=3) (evs:=[.b false,.b true,.lent [0,1,2] (.tup []) (yY c faults g1 cars g2 gos tick stopped wrecked rounds gone),.vn (.agg (Wd c faults cars gos tick stopped wrecked rounds gone)),.b false,.b false,.b false,.vn (.rsl (Qg (XR c faults cars gos tick stopped wrecked rounds gone)) 0 ((XR c faults cars gos tick stopped wrecked rounds gone).length)),.v (z45_13 c faults cars gos tick stopped wrecked rounds gone)]) (obs:=_) hE (by kernel_rfl) Try.func45 Qm (by kernel_rfl) ho hr hb
theorem p45_df_7 (l:(List Prs)) (c:Cir) (faults:List Flt) (cars:List Car) (gos:List Bool) (tick stopped:Int) (wrecked:Bool) (rounds gone:Int) (g1 g2:Nat) {E:Env} {rv:AV} {bs2:List Blk} (hE:LentDE Try.prog 45 [.sl 2 g2 0 0 1] (.clos 70 [] [.ptr 3 0 0]) rv bs2 E) (ho:AllP [wrecked=false,(decide (tick > 0))=false,Vz Try.prog (.clos 72 [] []) (yL c faults cars gos tick stopped wrecked rounds gone) (.agg (Wc c faults cars gos tick stopped wrecked rounds gone)),g1=g1,g2=g2,4≤4,1≤1,(decide (stopped<0))=true,0≤4,4≤4,4≤4,Ql Try.prog (.clos 74 [] []) [.rsl (Wc c faults cars gos tick stopped wrecked rounds gone) 0 4,.clos 75 [] [.rptr [.clos 73 [] []] 0]] (.bool (([([]:List Said),((QW c faults cars gos tick stopped wrecked rounds gone).k1),((QW c faults cars gos tick stopped wrecked rounds gone).k2),((QW c faults cars gos tick stopped wrecked rounds gone).k3)]).any (fun l=>l.any Qy))),(([([]:List Said),((QW c faults cars gos tick stopped wrecked rounds gone).k1),((QW c faults cars gos tick stopped wrecked rounds gone).k2),((QW c faults cars gos tick stopped wrecked rounds gone).k3)]).any (fun l=>l.any Qy))=true,7≤10,(decide (tick<0))=true,0≤(c.blocks.length:Int)∧(c.blocks.length:Int)≤(c.blocks.length:Int)∧(c.blocks.length:Int)≤2147483648])
 (hg:G Try.prog E (Kh Try.prog) ⟨(QaF c l),[⟨true,0,1,false,[.rsl (Qc c.blocks) 0 c.blocks.length,.rsl (rowI c.cars) 0 c.cars.length,.rsl (Qi faults) 0 faults.length,.sl 1 g1 0 cars.length 4,.sl 2 g2 0 gos.length 1,.int .i64 tick,.int .i64 tick,.bool wrecked,.int .i64 rounds,.int .i64 gone],false⟩,⟨true,g1,4,true,(Qd cars),true⟩,⟨true,g2,1,true,(rowB gos),true⟩,⟨true,0,1,false,[.ptr 0 0 0],false⟩,⟨true,0,1,true,(Wc c faults cars gos tick stopped wrecked rounds gone),false⟩,⟨true,0,1,true,[.clos 73 [] []],false⟩,⟨true,0,1,true,((List.replicate (Int.toNat (c.blocks.length:Int)) ([.bool false]:List AV)).flatten),true⟩]⟩):G Try.prog E (ql Try.prog) ⟨(qs l),(qr c faults g1 cars g2 gos tick stopped wrecked rounds gone)⟩ :=
 Qa (n:=400) (ds:=[]) (cs:=[]) (live:=[2,4,6,54,55,56]) (m:=7) (evs:=[.b false,.b false,.vn (.agg (Wc c faults cars gos tick stopped wrecked rounds gone)),.b true,.v (.bool (([([]:List Said),((QW c faults cars gos tick stopped wrecked rounds gone).k1),((QW c faults cars gos tick stopped wrecked rounds gone).k2),((QW c faults cars gos tick stopped wrecked rounds gone).k3)]).any (fun l=>l.any Qy))),.b true,.b true,.stop]) (obs:=_) hE.kind (hE.nogh (by kernel_rfl)) Qm (by kernel_rfl) ho hg
theorem p45_df_8 (l:(List Prs)) (c:Cir) (faults:List Flt) (cars:List Car) (gos:List Bool) (tick stopped:Int) (wrecked:Bool) (rounds gone:Int) (g1 g2:Nat) {E:Env} {res:AV} {bs2:List Blk} (hE:LentDE Try.prog 45 [.sl 2 g2 0 0 1] (.clos 70 [] [.ptr 3 0 0]) res bs2 E) (ho:AllP [wrecked=false,(decide (tick > 0))=false,Vz Try.prog (.clos 72 [] []) (yL c faults cars gos tick stopped wrecked rounds gone) (.agg (Wc c faults cars gos tick stopped wrecked rounds gone)),g1=g1,g2=g2,4≤4,1≤1,(decide (stopped<0))=true,0≤4,4≤4,4≤4,Ql Try.prog (.clos 74 [] []) [.rsl (Wc c faults cars gos tick stopped wrecked rounds gone) 0 4,.clos 75 [] [.rptr [.clos 73 [] []] 0]] (.bool (([([]:List Said),((QW c faults cars gos tick stopped wrecked rounds gone).k1),((QW c faults cars gos tick stopped wrecked rounds gone).k2),((QW c faults cars gos tick stopped wrecked rounds gone).k3)]).any (fun l=>l.any Qy))),(([([]:List Said),((QW c faults cars gos tick stopped wrecked rounds gone).k1),((QW c faults cars gos tick stopped wrecked rounds gone).k2),((QW c faults cars gos tick stopped wrecked rounds gone).k3)]).any (fun l=>l.any Qy))=true,7≤10,(decide (tick<0))=false,Vz Try.prog (.clos 46 [] []) [.rptr [.rsl (Qc c.blocks) 0 c.blocks.length,.rsl (rowI c.cars) 0 c.cars.length,.rsl (Qi faults) 0 faults.length,.rsl (Qd cars) 0 cars.length,.rsl (rowB gos) 0 gos.length,.int .i64 tick,.int .i64 tick,.bool wrecked,.int .i64 rounds,.int .i64 gone] 0] (.rsl (Qg (VA c faults cars gos tick wrecked rounds gone)) 0 ((VA c faults cars gos tick wrecked rounds gone).length)),g1=g1,g2=g2,Ql Try.prog (.clos 60 [] []) [.agg (Kz c),.rsl (Qg (VA c faults cars gos tick wrecked rounds gone)) 0 ((VA c faults cars gos tick wrecked rounds gone).length)] (z45_30 c faults cars gos tick wrecked rounds gone),3≤3,8≤10,WN Try.prog (.clos 70 [] [.ptr 0 0 0]) [⟨true,0,1,false,[.ptr 1 0 0],false⟩,⟨true,0,1,false,[.rsl (Qc c.blocks) 0 c.blocks.length,.rsl (rowI c.cars) 0 c.cars.length,.rsl (Qi faults) 0 faults.length,.sl 2 g1 0 cars.length 4,.sl 3 g2 0 gos.length 1,.int .i64 tick,.int .i64 tick,.bool (decide ((QC c (VA c faults cars gos tick wrecked rounds gone)).2≥0)),.int .i64 rounds,.int .i64 gone],false⟩,⟨true,g1,4,true,(Qd cars),true⟩,⟨true,g2,1,true,(rowB gos),true⟩] (.tup []) [⟨true,0,1,false,[.ptr 1 0 0],false⟩,⟨true,0,1,false,[.rsl (Qc c.blocks) 0 c.blocks.length,.rsl (rowI c.cars) 0 c.cars.length,.rsl (Qi faults) 0 faults.length,.sl 2 g1 0 cars.length 4,.sl 3 g2 0 gos.length 1,.int .i64 (tick+1),.int .i64 tick,.bool (decide ((QC c (VA c faults cars gos tick wrecked rounds gone)).2≥0)),.int .i64 rounds,.int .i64 gone],false⟩,⟨true,g1,4,true,(Qd cars),true⟩,⟨true,g2,1,true,(rowB gos),true⟩]])
 (hr:(.tup [])=res) (hb:[⟨true,0,1,false,[.rsl (Qc c.blocks) 0 c.blocks.length,.rsl (rowI c.cars) 0 c.cars.length,.rsl (Qi faults) 0 faults.length,.sl 1 g1 0 cars.length 4,.sl 2 g2 0 gos.length 1,.int .i64 (tick+1),.int .i64 tick,.bool (decide ((QC c (VA c faults cars gos tick wrecked rounds gone)).2≥0)),.int .i64 rounds,.int .i64 gone],false⟩,⟨true,g1,4,true,(Qd cars),true⟩,⟨true,g2,1,true,(rowB gos),true⟩]=bs2):G Try.prog E (ql Try.prog) ⟨(qs l),(qr c faults g1 cars g2 gos tick stopped wrecked rounds gone)⟩ :=
 YS (n:=400) (ρ:=[3,0,1,2]) (bsD:=[⟨true,0,1,false,[.ptr 1 0 0],false⟩,⟨true,0,1,false,[.rsl (Qc c.blocks) 0 c.blocks.length,.rsl (rowI c.cars) 0 c.cars.length,.rsl (Qi faults) 0 faults.length,.sl 2 g1 0 cars.length 4,.sl 3 g2 0 gos.length 1,.int .i64 (tick+1),.int .i64 tick,.bool (decide ((QC c (VA c faults cars gos tick wrecked rounds gone)).2≥0)),.int .i64 rounds,.int .i64 gone],false⟩,⟨true,g1,4,true,(Qd cars),true⟩,⟨true,g2,1,true,(rowB gos),true⟩]) (live:=[]) (m:=3) (evs:=[.b false,.b false,.vn (.agg (Wc c faults cars gos tick stopped wrecked rounds gone)),.b true,.v (.bool (([([]:List Said),((QW c faults cars gos tick stopped wrecked rounds gone).k1),((QW c faults cars gos tick stopped wrecked rounds gone).k2),((QW c faults cars gos tick stopped wrecked rounds gone).k3)]).any (fun l=>l.any Qy))),.b true,.b false,.vn (.rsl (Qg (VA c faults cars gos tick wrecked rounds gone)) 0 ((VA c faults cars gos tick wrecked rounds gone).length)),.v (z45_30 c faults cars gos tick wrecked rounds gone)]) (obs:=_) hE (by kernel_rfl) Try.func45 Qm (by kernel_rfl) ho hr hb
theorem p45_df_9 (l:(List Prs)) (c:Cir) (faults:List Flt) (cars:List Car) (gos:List Bool) (tick stopped:Int) (wrecked:Bool) (rounds gone:Int) (g1 g2:Nat) {E:Env} {rv:AV} {bs2:List Blk} (hE:LentDE Try.prog 45 [.sl 2 g2 0 0 1] (.clos 70 [] [.ptr 3 0 0]) rv bs2 E) (ho:AllP [wrecked=false,(decide (tick > 0))=false,Vz Try.prog (.clos 72 [] []) (yL c faults cars gos tick stopped wrecked rounds gone) (.agg (Wc c faults cars gos tick stopped wrecked rounds gone)),g1=g1,g2=g2,4≤4,1≤1,(decide (stopped<0))=true,0≤4,4≤4,4≤4,Ql Try.prog (.clos 74 [] []) [.rsl (Wc c faults cars gos tick stopped wrecked rounds gone) 0 4,.clos 75 [] [.rptr [.clos 73 [] []] 0]] (.bool (([([]:List Said),((QW c faults cars gos tick stopped wrecked rounds gone).k1),((QW c faults cars gos tick stopped wrecked rounds gone).k2),((QW c faults cars gos tick stopped wrecked rounds gone).k3)]).any (fun l=>l.any Qy))),(([([]:List Said),((QW c faults cars gos tick stopped wrecked rounds gone).k1),((QW c faults cars gos tick stopped wrecked rounds gone).k2),((QW c faults cars gos tick stopped wrecked rounds gone).k3)]).any (fun l=>l.any Qy))=false,(decide (stopped<0))=true,0≤(c.blocks.length:Int)∧(c.blocks.length:Int)≤(c.blocks.length:Int)∧(c.blocks.length:Int)≤2147483648])
 (hg:G Try.prog E (Kh Try.prog) ⟨(QaF c l),[⟨true,0,1,false,(z45_20 c faults g1 cars g2 gos tick stopped wrecked rounds gone),false⟩,⟨true,g1,4,true,(Qd cars),true⟩,⟨true,g2,1,true,(rowB gos),true⟩,⟨true,0,1,false,[.ptr 0 0 0],false⟩,⟨true,0,1,true,(Wc c faults cars gos tick stopped wrecked rounds gone),false⟩,⟨true,0,1,true,[.clos 73 [] []],false⟩,⟨true,0,1,true,((List.replicate (Int.toNat (c.blocks.length:Int)) ([.bool false]:List AV)).flatten),true⟩]⟩):G Try.prog E (ql Try.prog) ⟨(qs l),(qr c faults g1 cars g2 gos tick stopped wrecked rounds gone)⟩ :=
 Qa (n:=400) (ds:=[]) (cs:=[]) (live:=[2,4,6,54,55,56]) (m:=7) (evs:=[.b false,.b false,.vn (.agg (Wc c faults cars gos tick stopped wrecked rounds gone)),.b true,.v (.bool (([([]:List Said),((QW c faults cars gos tick stopped wrecked rounds gone).k1),((QW c faults cars gos tick stopped wrecked rounds gone).k2),((QW c faults cars gos tick stopped wrecked rounds gone).k3)]).any (fun l=>l.any Qy))),.b false,.b true,.stop]) (obs:=_) hE.kind (hE.nogh (by kernel_rfl)) Qm (by kernel_rfl) ho hg
theorem p45_df_10 (l:(List Prs)) (c:Cir) (faults:List Flt) (cars:List Car) (gos:List Bool) (tick stopped:Int) (wrecked:Bool) (rounds gone:Int) (g1 g2:Nat) {E:Env} {res:AV} {bs2:List Blk} (hE:LentDE Try.prog 45 [.sl 2 g2 0 0 1] (.clos 70 [] [.ptr 3 0 0]) res bs2 E) (ho:AllP [wrecked=false,(decide (tick > 0))=false,Vz Try.prog (.clos 72 [] []) (yL c faults cars gos tick stopped wrecked rounds gone) (.agg (Wc c faults cars gos tick stopped wrecked rounds gone)),g1=g1,g2=g2,4≤4,1≤1,(decide (stopped<0))=true,0≤4,4≤4,4≤4,Ql Try.prog (.clos 74 [] []) [.rsl (Wc c faults cars gos tick stopped wrecked rounds gone) 0 4,.clos 75 [] [.rptr [.clos 73 [] []] 0]] (.bool (([([]:List Said),((QW c faults cars gos tick stopped wrecked rounds gone).k1),((QW c faults cars gos tick stopped wrecked rounds gone).k2),((QW c faults cars gos tick stopped wrecked rounds gone).k3)]).any (fun l=>l.any Qy))),(([([]:List Said),((QW c faults cars gos tick stopped wrecked rounds gone).k1),((QW c faults cars gos tick stopped wrecked rounds gone).k2),((QW c faults cars gos tick stopped wrecked rounds gone).k3)]).any (fun l=>l.any Qy))=false,(decide (stopped<0))=false,Vz Try.prog (.clos 46 [] []) (yL c faults cars gos tick stopped wrecked rounds gone) (.rsl (Qg (XS c faults cars gos tick stopped wrecked rounds gone)) 0 ((XS c faults cars gos tick stopped wrecked rounds gone).length)),g1=g1,g2=g2,Ql Try.prog (.clos 60 [] []) [.agg (Kz c),.rsl (Qg (XS c faults cars gos tick stopped wrecked rounds gone)) 0 ((XS c faults cars gos tick stopped wrecked rounds gone).length)] (z45_12 c faults cars gos tick stopped wrecked rounds gone),3≤3,8≤10,WN Try.prog (.clos 70 [] [.ptr 0 0 0]) [⟨true,0,1,false,[.ptr 1 0 0],false⟩,⟨true,0,1,false,[.rsl (Qc c.blocks) 0 c.blocks.length,.rsl (rowI c.cars) 0 c.cars.length,.rsl (Qi faults) 0 faults.length,.sl 2 g1 0 cars.length 4,.sl 3 g2 0 gos.length 1,.int .i64 tick,.int .i64 stopped,.bool (decide ((QC c (XS c faults cars gos tick stopped wrecked rounds gone)).2≥0)),.int .i64 rounds,.int .i64 gone],false⟩,⟨true,g1,4,true,(Qd cars),true⟩,⟨true,g2,1,true,(rowB gos),true⟩] (.tup []) [⟨true,0,1,false,[.ptr 1 0 0],false⟩,⟨true,0,1,false,[.rsl (Qc c.blocks) 0 c.blocks.length,.rsl (rowI c.cars) 0 c.cars.length,.rsl (Qi faults) 0 faults.length,.sl 2 g1 0 cars.length 4,.sl 3 g2 0 gos.length 1,.int .i64 (tick+1),.int .i64 stopped,.bool (decide ((QC c (XS c faults cars gos tick stopped wrecked rounds gone)).2≥0)),.int .i64 rounds,.int .i64 gone],false⟩,⟨true,g1,4,true,(Qd cars),true⟩,⟨true,g2,1,true,(rowB gos),true⟩]])
 (hr:(.tup [])=res) (hb:[⟨true,0,1,false,[.rsl (Qc c.blocks) 0 c.blocks.length,.rsl (rowI c.cars) 0 c.cars.length,.rsl (Qi faults) 0 faults.length,.sl 1 g1 0 cars.length 4,.sl 2 g2 0 gos.length 1,.int .i64 (tick+1),.int .i64 stopped,.bool (decide ((QC c (XS c faults cars gos tick stopped wrecked rounds gone)).2≥0)),.int .i64 rounds,.int .i64 gone],false⟩,⟨true,g1,4,true,(Qd cars),true⟩,⟨true,g2,1,true,(rowB gos),true⟩]=bs2):G Try.prog E (ql Try.prog) ⟨(qs l),(qr c faults g1 cars g2 gos tick stopped wrecked rounds gone)⟩ :=
 YS (n:=400) (ρ:=[3,0,1,2]) (bsD:=[⟨true,0,1,false,[.ptr 1 0 0],false⟩,⟨true,0,1,false,[.rsl (Qc c.blocks) 0 c.blocks.length,.rsl (rowI c.cars) 0 c.cars.length,.rsl (Qi faults) 0 faults.length,.sl 2 g1 0 cars.length 4,.sl 3 g2 0 gos.length 1,.int .i64 (tick+1),.int .i64 stopped,.bool (decide ((QC c (XS c faults cars gos tick stopped wrecked rounds gone)).2≥0)),.int .i64 rounds,.int .i64 gone],false⟩,⟨true,g1,4,true,(Qd cars),true⟩,⟨true,g2,1,true,(rowB gos),true⟩]) (live:=[]) (m:=3) (evs:=[.b false,.b false,.vn (.agg (Wc c faults cars gos tick stopped wrecked rounds gone)),.b true,.v (.bool (([([]:List Said),((QW c faults cars gos tick stopped wrecked rounds gone).k1),((QW c faults cars gos tick stopped wrecked rounds gone).k2),((QW c faults cars gos tick stopped wrecked rounds gone).k3)]).any (fun l=>l.any Qy))),.b false,.b false,.vn (.rsl (Qg (XS c faults cars gos tick stopped wrecked rounds gone)) 0 ((XS c faults cars gos tick stopped wrecked rounds gone).length)),.v (z45_12 c faults cars gos tick stopped wrecked rounds gone)]) (obs:=_) hE (by kernel_rfl) Try.func45 Qm (by kernel_rfl) ho hr hb
theorem p45_df_11 (l:(List Prs)) (c:Cir) (faults:List Flt) (cars:List Car) (gos:List Bool) (tick stopped:Int) (wrecked:Bool) (rounds gone:Int) (g1 g2:Nat) {E:Env} {rv:AV} {bs2:List Blk} (hE:LentDE Try.prog 45 [.sl 2 g2 0 0 1] (.clos 70 [] [.ptr 3 0 0]) rv bs2 E) (ho:AllP [wrecked=false,(decide (tick > 0))=false,Vz Try.prog (.clos 72 [] []) (yL c faults cars gos tick stopped wrecked rounds gone) (.agg (Wc c faults cars gos tick stopped wrecked rounds gone)),g1=g1,g2=g2,4≤4,1≤1,(decide (stopped<0))=false,false=false,(decide (stopped<0))=true,0≤(c.blocks.length:Int)∧(c.blocks.length:Int)≤(c.blocks.length:Int)∧(c.blocks.length:Int)≤2147483648])
 (hg:G Try.prog E (Kh Try.prog) ⟨(QaF c l),[⟨true,0,1,false,(z45_20 c faults g1 cars g2 gos tick stopped wrecked rounds gone),false⟩,⟨true,g1,4,true,(Qd cars),true⟩,⟨true,g2,1,true,(rowB gos),true⟩,⟨true,0,1,false,[.ptr 0 0 0],false⟩,⟨true,0,1,true,(Wc c faults cars gos tick stopped wrecked rounds gone),false⟩,⟨true,0,1,true,[.clos 73 [] []],false⟩,⟨true,0,1,true,((List.replicate (Int.toNat (c.blocks.length:Int)) ([.bool false]:List AV)).flatten),true⟩]⟩):G Try.prog E (ql Try.prog) ⟨(qs l),(qr c faults g1 cars g2 gos tick stopped wrecked rounds gone)⟩ :=
 Qa (n:=400) (ds:=[]) (cs:=[]) (live:=[2,4,6,54,55,56]) (m:=7) (evs:=[.b false,.b false,.vn (.agg (Wc c faults cars gos tick stopped wrecked rounds gone)),.b false,.b false,.b true,.stop]) (obs:=_) hE.kind (hE.nogh (by kernel_rfl)) Qm (by kernel_rfl) ho hg
theorem p45_df_12 (l:(List Prs)) (c:Cir) (faults:List Flt) (cars:List Car) (gos:List Bool) (tick stopped:Int) (wrecked:Bool) (rounds gone:Int) (g1 g2:Nat) {E:Env} {res:AV} {bs2:List Blk} (hE:LentDE Try.prog 45 [.sl 2 g2 0 0 1] (.clos 70 [] [.ptr 3 0 0]) res bs2 E) (ho:AllP [wrecked=false,(decide (tick > 0))=false,Vz Try.prog (.clos 72 [] []) (yL c faults cars gos tick stopped wrecked rounds gone) (.agg (Wc c faults cars gos tick stopped wrecked rounds gone)),g1=g1,g2=g2,4≤4,1≤1,(decide (stopped<0))=false,false=false,(decide (stopped<0))=false,Vz Try.prog (.clos 46 [] []) (yL c faults cars gos tick stopped wrecked rounds gone) (.rsl (Qg (XS c faults cars gos tick stopped wrecked rounds gone)) 0 ((XS c faults cars gos tick stopped wrecked rounds gone).length)),g1=g1,g2=g2,Ql Try.prog (.clos 60 [] []) [.agg (Kz c),.rsl (Qg (XS c faults cars gos tick stopped wrecked rounds gone)) 0 ((XS c faults cars gos tick stopped wrecked rounds gone).length)] (z45_12 c faults cars gos tick stopped wrecked rounds gone),3≤3,8≤10,WN Try.prog (.clos 70 [] [.ptr 0 0 0]) [⟨true,0,1,false,[.ptr 1 0 0],false⟩,⟨true,0,1,false,[.rsl (Qc c.blocks) 0 c.blocks.length,.rsl (rowI c.cars) 0 c.cars.length,.rsl (Qi faults) 0 faults.length,.sl 2 g1 0 cars.length 4,.sl 3 g2 0 gos.length 1,.int .i64 tick,.int .i64 stopped,.bool (decide ((QC c (XS c faults cars gos tick stopped wrecked rounds gone)).2≥0)),.int .i64 rounds,.int .i64 gone],false⟩,⟨true,g1,4,true,(Qd cars),true⟩,⟨true,g2,1,true,(rowB gos),true⟩] (.tup []) [⟨true,0,1,false,[.ptr 1 0 0],false⟩,⟨true,0,1,false,[.rsl (Qc c.blocks) 0 c.blocks.length,.rsl (rowI c.cars) 0 c.cars.length,.rsl (Qi faults) 0 faults.length,.sl 2 g1 0 cars.length 4,.sl 3 g2 0 gos.length 1,.int .i64 (tick+1),.int .i64 stopped,.bool (decide ((QC c (XS c faults cars gos tick stopped wrecked rounds gone)).2≥0)),.int .i64 rounds,.int .i64 gone],false⟩,⟨true,g1,4,true,(Qd cars),true⟩,⟨true,g2,1,true,(rowB gos),true⟩]])
 (hr:(.tup [])=res) (hb:[⟨true,0,1,false,[.rsl (Qc c.blocks) 0 c.blocks.length,.rsl (rowI c.cars) 0 c.cars.length,.rsl (Qi faults) 0 faults.length,.sl 1 g1 0 cars.length 4,.sl 2 g2 0 gos.length 1,.int .i64 (tick+1),.int .i64 stopped,.bool (decide ((QC c (XS c faults cars gos tick stopped wrecked rounds gone)).2≥0)),.int .i64 rounds,.int .i64 gone],false⟩,⟨true,g1,4,true,(Qd cars),true⟩,⟨true,g2,1,true,(rowB gos),true⟩]=bs2):G Try.prog E (ql Try.prog) ⟨(qs l),(qr c faults g1 cars g2 gos tick stopped wrecked rounds gone)⟩ :=
 YS (n:=400) (ρ:=[3,0,1,2]) (bsD:=[⟨true,0,1,false,[.ptr 1 0 0],false⟩,⟨true,0,1,false,[.rsl (Qc c.blocks) 0 c.blocks.length,.rsl (rowI c.cars) 0 c.cars.length,.rsl (Qi faults) 0 faults.length,.sl 2 g1 0 cars.length 4,.sl 3 g2 0 gos.length 1,.int .i64 (tick+1),.int .i64 stopped,.bool (decide ((QC c (XS c faults cars gos tick stopped wrecked rounds gone)).2≥0)),.int .i64 rounds,.int .i64 gone],false⟩,⟨true,g1,4,true,(Qd cars),true⟩,⟨true,g2,1,true,(rowB gos),true⟩]) (live:=[]) (m:=3) (evs:=[.b false,.b false,.vn (.agg (Wc c faults cars gos tick stopped wrecked rounds gone)),.b false,.b false,.b false,.vn (.rsl (Qg (XS c faults cars gos tick stopped wrecked rounds gone)) 0 ((XS c faults cars gos tick stopped wrecked rounds gone).length)),.v (z45_12 c faults cars gos tick stopped wrecked rounds gone)]) (obs:=_) hE (by kernel_rfl) Try.func45 Qm (by kernel_rfl) ho hr hb
theorem f45Wdf (l:(List Prs)) (c:Cir) (faults:List Flt) (cars:List Car) (gos:List Bool) (tick stopped:Int) (wrecked:Bool) (rounds gone:Int) (g1 g2:Nat) {E:Env} {rv:Unit} {tick2:Int} {stopped2:Int} {wrecked2:Bool} {rounds2:Int} {gone2:Int} {cars2:List Car} {gos2:List Bool} (hE:LentDE Try.prog 45 [.sl 2 g2 0 0 1] (.clos 70 [] [.ptr 3 0 0]) (.tup []) [⟨true,0,1,false,[.rsl (Qc c.blocks) 0 c.blocks.length,.rsl (rowI c.cars) 0 c.cars.length,.rsl (Qi faults) 0 faults.length,.sl 1 g1 0 cars2.length 4,.sl 2 g2 0 gos2.length 1,.int .i64 tick2,.int .i64 stopped2,.bool wrecked2,.int .i64 rounds2,.int .i64 gone2],false⟩,⟨true,g1,4,true,(Qd cars2),true⟩,⟨true,g2,1,true,(rowB gos2),true⟩] E)
 (h:((wrecked=true→((-1000000000000≤tick∧tick≤1000000000000)∧tick2=(tick+1)∧stopped2=stopped∧wrecked2=wrecked∧rounds2=rounds∧gone2=gone∧cars2=cars∧gos2=gos))∧(wrecked=false→((tick > 0→(((∀ x ∈ cars,CarOk c x)∧cars.length≤2147483648)∧((TrkIn (⟨c,faults,(cars.map (Qo c)),gos,tick,stopped,wrecked,rounds,gone⟩:Trk))∧((stopped<0→((([([]:List Said),((Qj (⟨c,faults,(cars.map (Qo c)),gos,tick,stopped,wrecked,rounds,gone⟩:Trk)).k1),((Qj (⟨c,faults,(cars.map (Qo c)),gos,tick,stopped,wrecked,rounds,gone⟩:Trk)).k2),((Qj (⟨c,faults,(cars.map (Qo c)),gos,tick,stopped,wrecked,rounds,gone⟩:Trk)).k3)]).length≤9223372036854775807∧∀ x ∈ ([([]:List Said),((Qj (⟨c,faults,(cars.map (Qo c)),gos,tick,stopped,wrecked,rounds,gone⟩:Trk)).k1),((Qj (⟨c,faults,(cars.map (Qo c)),gos,tick,stopped,wrecked,rounds,gone⟩:Trk)).k2),((Qj (⟨c,faults,(cars.map (Qo c)),gos,tick,stopped,wrecked,rounds,gone⟩:Trk)).k3)]),x.length≤9223372036854775807)∧(((([([]:List Said),((Qj (⟨c,faults,(cars.map (Qo c)),gos,tick,stopped,wrecked,rounds,gone⟩:Trk)).k1),((Qj (⟨c,faults,(cars.map (Qo c)),gos,tick,stopped,wrecked,rounds,gone⟩:Trk)).k2),((Qj (⟨c,faults,(cars.map (Qo c)),gos,tick,stopped,wrecked,rounds,gone⟩:Trk)).k3)]).any (fun l=>l.any Qy))=true→((tick<0→(c.blocks.length≤2147483648∧YY E l c faults cars gos tick stopped wrecked rounds gone g1 g2 (List.replicate c.blocks.length (false:Bool)) tick (cars.map (Qo c)) ((Qj (⟨c,faults,(cars.map (Qo c)),gos,tick,stopped,wrecked,rounds,gone⟩:Trk)).k1) ((Qj (⟨c,faults,(cars.map (Qo c)),gos,tick,stopped,wrecked,rounds,gone⟩:Trk)).k2) ((Qj (⟨c,faults,(cars.map (Qo c)),gos,tick,stopped,wrecked,rounds,gone⟩:Trk)).k3) 0 gos))∧(¬ (tick<0)→(((⟨c,faults,(cars.map (Qo c)),gos,tick,tick,wrecked,rounds,gone⟩:Trk).cars.length≤2147483648)∧(((∀ x ∈ ((⟨c,faults,(cars.map (Qo c)),gos,tick,tick,wrecked,rounds,gone⟩:Trk).cars.map Car.spot),InC c x.block)∧((⟨c,faults,(cars.map (Qo c)),gos,tick,tick,wrecked,rounds,gone⟩:Trk).cars.map Car.spot).length≤2147483648)∧((-1000000000000≤tick∧tick≤1000000000000)∧tick2=(tick+1)∧stopped2=tick∧wrecked2=(decide ((QC c ((⟨c,faults,(cars.map (Qo c)),gos,tick,tick,wrecked,rounds,gone⟩:Trk).cars.map Car.spot)).2≥0))∧rounds2=rounds∧gone2=gone∧cars2=(cars.map (Qo c))∧gos2=gos))))))∧((([([]:List Said),((Qj (⟨c,faults,(cars.map (Qo c)),gos,tick,stopped,wrecked,rounds,gone⟩:Trk)).k1),((Qj (⟨c,faults,(cars.map (Qo c)),gos,tick,stopped,wrecked,rounds,gone⟩:Trk)).k2),((Qj (⟨c,faults,(cars.map (Qo c)),gos,tick,stopped,wrecked,rounds,gone⟩:Trk)).k3)]).any (fun l=>l.any Qy))=false→((stopped<0→(c.blocks.length≤2147483648∧YY E l c faults cars gos tick stopped wrecked rounds gone g1 g2 (List.replicate c.blocks.length (false:Bool)) stopped (cars.map (Qo c)) ((Qj (⟨c,faults,(cars.map (Qo c)),gos,tick,stopped,wrecked,rounds,gone⟩:Trk)).k1) ((Qj (⟨c,faults,(cars.map (Qo c)),gos,tick,stopped,wrecked,rounds,gone⟩:Trk)).k2) ((Qj (⟨c,faults,(cars.map (Qo c)),gos,tick,stopped,wrecked,rounds,gone⟩:Trk)).k3) 0 gos))∧(¬ (stopped<0)→(((⟨c,faults,(cars.map (Qo c)),gos,tick,stopped,wrecked,rounds,gone⟩:Trk).cars.length≤2147483648)∧(((∀ x ∈ ((⟨c,faults,(cars.map (Qo c)),gos,tick,stopped,wrecked,rounds,gone⟩:Trk).cars.map Car.spot),InC c x.block)∧((⟨c,faults,(cars.map (Qo c)),gos,tick,stopped,wrecked,rounds,gone⟩:Trk).cars.map Car.spot).length≤2147483648)∧((-1000000000000≤tick∧tick≤1000000000000)∧tick2=(tick+1)∧stopped2=stopped∧wrecked2=(decide ((QC c ((⟨c,faults,(cars.map (Qo c)),gos,tick,stopped,wrecked,rounds,gone⟩:Trk).cars.map Car.spot)).2≥0))∧rounds2=rounds∧gone2=gone∧cars2=(cars.map (Qo c))∧gos2=gos)))))))))∧(¬ (stopped<0)→((stopped<0→(c.blocks.length≤2147483648∧YY E l c faults cars gos tick stopped wrecked rounds gone g1 g2 (List.replicate c.blocks.length (false:Bool)) stopped (cars.map (Qo c)) ((Qj (⟨c,faults,(cars.map (Qo c)),gos,tick,stopped,wrecked,rounds,gone⟩:Trk)).k1) ((Qj (⟨c,faults,(cars.map (Qo c)),gos,tick,stopped,wrecked,rounds,gone⟩:Trk)).k2) ((Qj (⟨c,faults,(cars.map (Qo c)),gos,tick,stopped,wrecked,rounds,gone⟩:Trk)).k3) 0 gos))∧(¬ (stopped<0)→(((⟨c,faults,(cars.map (Qo c)),gos,tick,stopped,wrecked,rounds,gone⟩:Trk).cars.length≤2147483648)∧(((∀ x ∈ ((⟨c,faults,(cars.map (Qo c)),gos,tick,stopped,wrecked,rounds,gone⟩:Trk).cars.map Car.spot),InC c x.block)∧((⟨c,faults,(cars.map (Qo c)),gos,tick,stopped,wrecked,rounds,gone⟩:Trk).cars.map Car.spot).length≤2147483648)∧((-1000000000000≤tick∧tick≤1000000000000)∧tick2=(tick+1)∧stopped2=stopped∧wrecked2=(decide ((QC c ((⟨c,faults,(cars.map (Qo c)),gos,tick,stopped,wrecked,rounds,gone⟩:Trk).cars.map Car.spot)).2≥0))∧rounds2=rounds∧gone2=gone∧cars2=(cars.map (Qo c))∧gos2=gos))))))))))∧(¬ (tick > 0)→((TrkIn (⟨c,faults,cars,gos,tick,stopped,wrecked,rounds,gone⟩:Trk))∧((stopped<0→((([([]:List Said),((Qj (⟨c,faults,cars,gos,tick,stopped,wrecked,rounds,gone⟩:Trk)).k1),((Qj (⟨c,faults,cars,gos,tick,stopped,wrecked,rounds,gone⟩:Trk)).k2),((Qj (⟨c,faults,cars,gos,tick,stopped,wrecked,rounds,gone⟩:Trk)).k3)]).length≤9223372036854775807∧∀ x ∈ ([([]:List Said),((Qj (⟨c,faults,cars,gos,tick,stopped,wrecked,rounds,gone⟩:Trk)).k1),((Qj (⟨c,faults,cars,gos,tick,stopped,wrecked,rounds,gone⟩:Trk)).k2),((Qj (⟨c,faults,cars,gos,tick,stopped,wrecked,rounds,gone⟩:Trk)).k3)]),x.length≤9223372036854775807)∧(((([([]:List Said),((Qj (⟨c,faults,cars,gos,tick,stopped,wrecked,rounds,gone⟩:Trk)).k1),((Qj (⟨c,faults,cars,gos,tick,stopped,wrecked,rounds,gone⟩:Trk)).k2),((Qj (⟨c,faults,cars,gos,tick,stopped,wrecked,rounds,gone⟩:Trk)).k3)]).any (fun l=>l.any Qy))=true→((tick<0→(c.blocks.length≤2147483648∧YY E l c faults cars gos tick stopped wrecked rounds gone g1 g2 (List.replicate c.blocks.length (false:Bool)) tick cars ((Qj (⟨c,faults,cars,gos,tick,stopped,wrecked,rounds,gone⟩:Trk)).k1) ((Qj (⟨c,faults,cars,gos,tick,stopped,wrecked,rounds,gone⟩:Trk)).k2) ((Qj (⟨c,faults,cars,gos,tick,stopped,wrecked,rounds,gone⟩:Trk)).k3) 0 gos))∧(¬ (tick<0)→(((⟨c,faults,cars,gos,tick,tick,wrecked,rounds,gone⟩:Trk).cars.length≤2147483648)∧(((∀ x ∈ ((⟨c,faults,cars,gos,tick,tick,wrecked,rounds,gone⟩:Trk).cars.map Car.spot),InC c x.block)∧((⟨c,faults,cars,gos,tick,tick,wrecked,rounds,gone⟩:Trk).cars.map Car.spot).length≤2147483648)∧((-1000000000000≤tick∧tick≤1000000000000)∧tick2=(tick+1)∧stopped2=tick∧wrecked2=(decide ((QC c ((⟨c,faults,cars,gos,tick,tick,wrecked,rounds,gone⟩:Trk).cars.map Car.spot)).2≥0))∧rounds2=rounds∧gone2=gone∧cars2=cars∧gos2=gos))))))∧((([([]:List Said),((Qj (⟨c,faults,cars,gos,tick,stopped,wrecked,rounds,gone⟩:Trk)).k1),((Qj (⟨c,faults,cars,gos,tick,stopped,wrecked,rounds,gone⟩:Trk)).k2),((Qj (⟨c,faults,cars,gos,tick,stopped,wrecked,rounds,gone⟩:Trk)).k3)]).any (fun l=>l.any Qy))=false→((stopped<0→(c.blocks.length≤2147483648∧YY E l c faults cars gos tick stopped wrecked rounds gone g1 g2 (List.replicate c.blocks.length (false:Bool)) stopped cars ((Qj (⟨c,faults,cars,gos,tick,stopped,wrecked,rounds,gone⟩:Trk)).k1) ((Qj (⟨c,faults,cars,gos,tick,stopped,wrecked,rounds,gone⟩:Trk)).k2) ((Qj (⟨c,faults,cars,gos,tick,stopped,wrecked,rounds,gone⟩:Trk)).k3) 0 gos))∧(¬ (stopped<0)→(((⟨c,faults,cars,gos,tick,stopped,wrecked,rounds,gone⟩:Trk).cars.length≤2147483648)∧(((∀ x ∈ ((⟨c,faults,cars,gos,tick,stopped,wrecked,rounds,gone⟩:Trk).cars.map Car.spot),InC c x.block)∧((⟨c,faults,cars,gos,tick,stopped,wrecked,rounds,gone⟩:Trk).cars.map Car.spot).length≤2147483648)∧((-1000000000000≤tick∧tick≤1000000000000)∧tick2=(tick+1)∧stopped2=stopped∧wrecked2=(decide ((QC c ((⟨c,faults,cars,gos,tick,stopped,wrecked,rounds,gone⟩:Trk).cars.map Car.spot)).2≥0))∧rounds2=rounds∧gone2=gone∧cars2=cars∧gos2=gos)))))))))∧(¬ (stopped<0)→((stopped<0→(c.blocks.length≤2147483648∧YY E l c faults cars gos tick stopped wrecked rounds gone g1 g2 (List.replicate c.blocks.length (false:Bool)) stopped cars ((Qj (⟨c,faults,cars,gos,tick,stopped,wrecked,rounds,gone⟩:Trk)).k1) ((Qj (⟨c,faults,cars,gos,tick,stopped,wrecked,rounds,gone⟩:Trk)).k2) ((Qj (⟨c,faults,cars,gos,tick,stopped,wrecked,rounds,gone⟩:Trk)).k3) 0 gos))∧(¬ (stopped<0)→(((⟨c,faults,cars,gos,tick,stopped,wrecked,rounds,gone⟩:Trk).cars.length≤2147483648)∧(((∀ x ∈ ((⟨c,faults,cars,gos,tick,stopped,wrecked,rounds,gone⟩:Trk).cars.map Car.spot),InC c x.block)∧((⟨c,faults,cars,gos,tick,stopped,wrecked,rounds,gone⟩:Trk).cars.map Car.spot).length≤2147483648)∧((-1000000000000≤tick∧tick≤1000000000000)∧tick2=(tick+1)∧stopped2=stopped∧wrecked2=(decide ((QC c ((⟨c,faults,cars,gos,tick,stopped,wrecked,rounds,gone⟩:Trk).cars.map Car.spot)).2≥0))∧rounds2=rounds∧gone2=gone∧cars2=cars∧gos2=gos))))))))))))):G Try.prog E (ql Try.prog) ⟨[.ptr 0 0 0,.rsl (Qs l) 0 l.length,.ptr 3 0 0,.tup [],.tup [],.tup [],.tup [],.tup [],.tup [],.tup [],.tup [],.clos 70 [] [.ptr 3 0 0],.tup [],.tup [],.tup [],.tup [],.tup [],.tup [],.tup [],.tup [],.tup [],.tup [],.tup [],.tup [],.tup [],.tup [],.tup [],.tup [],.tup [],.tup [],.tup [],.tup [],.tup [],.tup [],.tup [],.tup [],.tup [],.tup [],.tup [],.tup [],.tup [],.tup [],.tup [],.tup [],.tup [],.tup [],.tup [],.tup [],.tup [],.tup [],.tup [],.tup [],.tup [],.tup [],.tup [],.tup [],.tup [],.tup [],.tup [],.tup [],.tup [],.tup [],.tup [],.tup [],.tup [],.tup [],.tup [],.tup [],.tup [],.tup [],.tup [],.tup [],.tup [],.tup [],.tup [],.tup [],.tup [],.tup [],.tup [],.tup [],.tup [],.tup [],.tup [],.tup [],.tup [],.tup [],.tup [],.tup [],.tup [],.tup [],.tup [],.tup []],[⟨true,0,1,false,[.rsl (Qc c.blocks) 0 c.blocks.length,.rsl (rowI c.cars) 0 c.cars.length,.rsl (Qi faults) 0 faults.length,.sl 1 g1 0 cars.length 4,.sl 2 g2 0 gos.length 1,.int .i64 tick,.int .i64 stopped,.bool wrecked,.int .i64 rounds,.int .i64 gone],false⟩,⟨true,g1,4,true,(Qd cars),true⟩,⟨true,g2,1,true,(rowB gos),true⟩,⟨true,0,1,false,[.ptr 0 0 0],false⟩]⟩:=by
 rcases bft wrecked with hc0 | hc0
 · have h:=h.1 hc0
   obtain ⟨h1,h⟩:=h
   obtain ⟨qe0,qe1,qe2,qe3,qe4,qe5,qe6⟩:=h
   exact p45_df_0 l c faults cars gos tick stopped wrecked rounds gone g1 g2 hE ⟨hc0,(VI c faults cars gos tick stopped wrecked rounds gone g1 g2 h1),trivial⟩ (by try rfl) (by rw [qe0,qe1,qe2,qe3,qe4,qe5,qe6]; all_goals (first | rfl | (simp only [List.length_set]; done) | (simp only [List.length_set]; rfl)))
 · have h:=h.2 hc0
   rcases bft (decide (tick > 0)) with hc1 | hc1
   · have h:=h.1 (odt hc1)
     obtain ⟨h1,h⟩:=h
     obtain ⟨h2,h⟩:=h
     rcases bft (decide (stopped<0)) with hc2 | hc2
     · have h:=h.1 (odt hc2)
       obtain ⟨h3,h⟩:=h
       rcases bft (([([]:List Said),((Qj (⟨c,faults,(cars.map (Qo c)),gos,tick,stopped,wrecked,rounds,gone⟩:Trk)).k1),((Qj (⟨c,faults,(cars.map (Qo c)),gos,tick,stopped,wrecked,rounds,gone⟩:Trk)).k2),((Qj (⟨c,faults,(cars.map (Qo c)),gos,tick,stopped,wrecked,rounds,gone⟩:Trk)).k3)]).any (fun l=>l.any Qy)) with hc3 | hc3
       · have h:=h.1 hc3
         rcases bft (decide (tick<0)) with hc4 | hc4
         · have h:=h.1 (odt hc4)
           obtain ⟨h4,h⟩:=h
           refine p45_df_1 l c faults cars gos tick stopped wrecked rounds gone g1 g2 hE ⟨hc0,hc1,(Xl Try.func71 (by kernel_rfl) f71b (yf c faults cars gos tick stopped wrecked rounds gone g1 g2 h1)),(QY Try.func72 (by kernel_rfl) f72b (YW (⟨c,faults,(cars.map (Qo c)),gos,tick,stopped,wrecked,rounds,gone⟩:Trk) h2)),rfl,rfl,(by decide),(by decide),hc2,(by decide),(by decide),(by decide),(Ql.le (args:=[.rsl ((Yh Qb) ([([]:List Said),((Qj (⟨c,faults,(cars.map (Qo c)),gos,tick,stopped,wrecked,rounds,gone⟩:Trk)).k1),((Qj (⟨c,faults,(cars.map (Qo c)),gos,tick,stopped,wrecked,rounds,gone⟩:Trk)).k2),((Qj (⟨c,faults,(cars.map (Qo c)),gos,tick,stopped,wrecked,rounds,gone⟩:Trk)).k3)])) 0 (([([]:List Said),((Qj (⟨c,faults,(cars.map (Qo c)),gos,tick,stopped,wrecked,rounds,gone⟩:Trk)).k1),((Qj (⟨c,faults,(cars.map (Qo c)),gos,tick,stopped,wrecked,rounds,gone⟩:Trk)).k2),((Qj (⟨c,faults,(cars.map (Qo c)),gos,tick,stopped,wrecked,rounds,gone⟩:Trk)).k3)]).length),.clos 75 [] [.rptr [.clos 73 [] []] 0]]) (u74 (VL ([([]:List Said),((Qj (⟨c,faults,(cars.map (Qo c)),gos,tick,stopped,wrecked,rounds,gone⟩:Trk)).k1),((Qj (⟨c,faults,(cars.map (Qo c)),gos,tick,stopped,wrecked,rounds,gone⟩:Trk)).k2),((Qj (⟨c,faults,(cars.map (Qo c)),gos,tick,stopped,wrecked,rounds,gone⟩:Trk)).k3)]) h3)) ⟨(WE ⟨Yl,rfl,rfl,⟨AvLe.of_eq rfl,rfl,rfl,⟨AvLe.of_eq rfl,rfl,rfl,⟨AvLe.of_eq rfl,rfl,rfl,trivial⟩⟩⟩⟩),⟨AvLe.of_eq rfl,trivial⟩⟩),hc3,(by decide),hc4,⟨by omega,by omega,by have:=h4; omega⟩,trivial⟩ ?_
           have h:=(h 0)
           simp only [YY,Qad,List.length_set,List.length_replicate] at h
           rw [(show (List.replicate (Int.toNat (c.blocks.length:Int)) ([.bool false]:List AV)).flatten=rowB (List.replicate c.blocks.length (false:Bool)) from YD cB _ _)]
           exact h
         · have h:=h.2 (odf hc4)
           obtain ⟨h4,h⟩:=h
           obtain ⟨h5,h⟩:=h
           obtain ⟨h6,h⟩:=h
           obtain ⟨qe0,qe1,qe2,qe3,qe4,qe5,qe6⟩:=h
           exact p45_df_2 l c faults cars gos tick stopped wrecked rounds gone g1 g2 hE ⟨hc0,hc1,(Xl Try.func71 (by kernel_rfl) f71b (yf c faults cars gos tick stopped wrecked rounds gone g1 g2 h1)),(QY Try.func72 (by kernel_rfl) f72b (YW (⟨c,faults,(cars.map (Qo c)),gos,tick,stopped,wrecked,rounds,gone⟩:Trk) h2)),rfl,rfl,(by decide),(by decide),hc2,(by decide),(by decide),(by decide),(Ql.le (args:=[.rsl ((Yh Qb) ([([]:List Said),((Qj (⟨c,faults,(cars.map (Qo c)),gos,tick,stopped,wrecked,rounds,gone⟩:Trk)).k1),((Qj (⟨c,faults,(cars.map (Qo c)),gos,tick,stopped,wrecked,rounds,gone⟩:Trk)).k2),((Qj (⟨c,faults,(cars.map (Qo c)),gos,tick,stopped,wrecked,rounds,gone⟩:Trk)).k3)])) 0 (([([]:List Said),((Qj (⟨c,faults,(cars.map (Qo c)),gos,tick,stopped,wrecked,rounds,gone⟩:Trk)).k1),((Qj (⟨c,faults,(cars.map (Qo c)),gos,tick,stopped,wrecked,rounds,gone⟩:Trk)).k2),((Qj (⟨c,faults,(cars.map (Qo c)),gos,tick,stopped,wrecked,rounds,gone⟩:Trk)).k3)]).length),.clos 75 [] [.rptr [.clos 73 [] []] 0]]) (u74 (VL ([([]:List Said),((Qj (⟨c,faults,(cars.map (Qo c)),gos,tick,stopped,wrecked,rounds,gone⟩:Trk)).k1),((Qj (⟨c,faults,(cars.map (Qo c)),gos,tick,stopped,wrecked,rounds,gone⟩:Trk)).k2),((Qj (⟨c,faults,(cars.map (Qo c)),gos,tick,stopped,wrecked,rounds,gone⟩:Trk)).k3)]) h3)) ⟨(WE ⟨Yl,rfl,rfl,⟨AvLe.of_eq rfl,rfl,rfl,⟨AvLe.of_eq rfl,rfl,rfl,⟨AvLe.of_eq rfl,rfl,rfl,trivial⟩⟩⟩⟩),⟨AvLe.of_eq rfl,trivial⟩⟩),hc3,(by decide),hc4,(QY Try.func46 (by kernel_rfl) f46b (yM (⟨c,faults,(cars.map (Qo c)),gos,tick,tick,wrecked,rounds,gone⟩:Trk) h4)),rfl,rfl,(u60 (Wr c ((⟨c,faults,(cars.map (Qo c)),gos,tick,tick,wrecked,rounds,gone⟩:Trk).cars.map Car.spot) h5)),(by decide),(by decide),(VI c faults (cars.map (Qo c)) gos tick tick (decide ((QC c ((⟨c,faults,(cars.map (Qo c)),gos,tick,tick,wrecked,rounds,gone⟩:Trk).cars.map Car.spot)).2≥0)) rounds gone g1 g2 h6),trivial⟩ (by try rfl) (by rw [qe0,qe1,qe2,qe3,qe4,qe5,qe6]; all_goals (first | rfl | (simp only [List.length_set]; done) | (simp only [List.length_set]; rfl)))
       · have h:=h.2 hc3
         rcases bft (decide (stopped<0)) with hc4 | hc4
         · have h:=h.1 (odt hc4)
           obtain ⟨h4,h⟩:=h
           refine p45_df_3 l c faults cars gos tick stopped wrecked rounds gone g1 g2 hE ⟨hc0,hc1,(Xl Try.func71 (by kernel_rfl) f71b (yf c faults cars gos tick stopped wrecked rounds gone g1 g2 h1)),(QY Try.func72 (by kernel_rfl) f72b (YW (⟨c,faults,(cars.map (Qo c)),gos,tick,stopped,wrecked,rounds,gone⟩:Trk) h2)),rfl,rfl,(by decide),(by decide),hc2,(by decide),(by decide),(by decide),(Ql.le (args:=[.rsl ((Yh Qb) ([([]:List Said),((Qj (⟨c,faults,(cars.map (Qo c)),gos,tick,stopped,wrecked,rounds,gone⟩:Trk)).k1),((Qj (⟨c,faults,(cars.map (Qo c)),gos,tick,stopped,wrecked,rounds,gone⟩:Trk)).k2),((Qj (⟨c,faults,(cars.map (Qo c)),gos,tick,stopped,wrecked,rounds,gone⟩:Trk)).k3)])) 0 (([([]:List Said),((Qj (⟨c,faults,(cars.map (Qo c)),gos,tick,stopped,wrecked,rounds,gone⟩:Trk)).k1),((Qj (⟨c,faults,(cars.map (Qo c)),gos,tick,stopped,wrecked,rounds,gone⟩:Trk)).k2),((Qj (⟨c,faults,(cars.map (Qo c)),gos,tick,stopped,wrecked,rounds,gone⟩:Trk)).k3)]).length),.clos 75 [] [.rptr [.clos 73 [] []] 0]]) (u74 (VL ([([]:List Said),((Qj (⟨c,faults,(cars.map (Qo c)),gos,tick,stopped,wrecked,rounds,gone⟩:Trk)).k1),((Qj (⟨c,faults,(cars.map (Qo c)),gos,tick,stopped,wrecked,rounds,gone⟩:Trk)).k2),((Qj (⟨c,faults,(cars.map (Qo c)),gos,tick,stopped,wrecked,rounds,gone⟩:Trk)).k3)]) h3)) ⟨(WE ⟨Yl,rfl,rfl,⟨AvLe.of_eq rfl,rfl,rfl,⟨AvLe.of_eq rfl,rfl,rfl,⟨AvLe.of_eq rfl,rfl,rfl,trivial⟩⟩⟩⟩),⟨AvLe.of_eq rfl,trivial⟩⟩),hc3,hc4,⟨by omega,by omega,by have:=h4; omega⟩,trivial⟩ ?_
           have h:=(h 0)
           simp only [YY,Qad,List.length_set,List.length_replicate] at h
           rw [(show (List.replicate (Int.toNat (c.blocks.length:Int)) ([.bool false]:List AV)).flatten=rowB (List.replicate c.blocks.length (false:Bool)) from YD cB _ _)]
           exact h
         · have h:=h.2 (odf hc4)
           obtain ⟨h4,h⟩:=h
           obtain ⟨h5,h⟩:=h
           obtain ⟨h6,h⟩:=h
           obtain ⟨qe0,qe1,qe2,qe3,qe4,qe5,qe6⟩:=h
           exact p45_df_4 l c faults cars gos tick stopped wrecked rounds gone g1 g2 hE ⟨hc0,hc1,(Xl Try.func71 (by kernel_rfl) f71b (yf c faults cars gos tick stopped wrecked rounds gone g1 g2 h1)),(QY Try.func72 (by kernel_rfl) f72b (YW (⟨c,faults,(cars.map (Qo c)),gos,tick,stopped,wrecked,rounds,gone⟩:Trk) h2)),rfl,rfl,(by decide),(by decide),hc2,(by decide),(by decide),(by decide),(Ql.le (args:=[.rsl ((Yh Qb) ([([]:List Said),((Qj (⟨c,faults,(cars.map (Qo c)),gos,tick,stopped,wrecked,rounds,gone⟩:Trk)).k1),((Qj (⟨c,faults,(cars.map (Qo c)),gos,tick,stopped,wrecked,rounds,gone⟩:Trk)).k2),((Qj (⟨c,faults,(cars.map (Qo c)),gos,tick,stopped,wrecked,rounds,gone⟩:Trk)).k3)])) 0 (([([]:List Said),((Qj (⟨c,faults,(cars.map (Qo c)),gos,tick,stopped,wrecked,rounds,gone⟩:Trk)).k1),((Qj (⟨c,faults,(cars.map (Qo c)),gos,tick,stopped,wrecked,rounds,gone⟩:Trk)).k2),((Qj (⟨c,faults,(cars.map (Qo c)),gos,tick,stopped,wrecked,rounds,gone⟩:Trk)).k3)]).length),.clos 75 [] [.rptr [.clos 73 [] []] 0]]) (u74 (VL ([([]:List Said),((Qj (⟨c,faults,(cars.map (Qo c)),gos,tick,stopped,wrecked,rounds,gone⟩:Trk)).k1),((Qj (⟨c,faults,(cars.map (Qo c)),gos,tick,stopped,wrecked,rounds,gone⟩:Trk)).k2),((Qj (⟨c,faults,(cars.map (Qo c)),gos,tick,stopped,wrecked,rounds,gone⟩:Trk)).k3)]) h3)) ⟨(WE ⟨Yl,rfl,rfl,⟨AvLe.of_eq rfl,rfl,rfl,⟨AvLe.of_eq rfl,rfl,rfl,⟨AvLe.of_eq rfl,rfl,rfl,trivial⟩⟩⟩⟩),⟨AvLe.of_eq rfl,trivial⟩⟩),hc3,hc4,(QY Try.func46 (by kernel_rfl) f46b (yM (⟨c,faults,(cars.map (Qo c)),gos,tick,stopped,wrecked,rounds,gone⟩:Trk) h4)),rfl,rfl,(u60 (Wr c ((⟨c,faults,(cars.map (Qo c)),gos,tick,stopped,wrecked,rounds,gone⟩:Trk).cars.map Car.spot) h5)),(by decide),(by decide),(VI c faults (cars.map (Qo c)) gos tick stopped (decide ((QC c ((⟨c,faults,(cars.map (Qo c)),gos,tick,stopped,wrecked,rounds,gone⟩:Trk).cars.map Car.spot)).2≥0)) rounds gone g1 g2 h6),trivial⟩ (by try rfl) (by rw [qe0,qe1,qe2,qe3,qe4,qe5,qe6]; all_goals (first | rfl | (simp only [List.length_set]; done) | (simp only [List.length_set]; rfl)))
     · have h:=h.2 (odf hc2)
       rcases bft (decide (stopped<0)) with hc3 | hc3
       · have h:=h.1 (odt hc3)
         obtain ⟨h3,h⟩:=h
         refine p45_df_5 l c faults cars gos tick stopped wrecked rounds gone g1 g2 hE ⟨hc0,hc1,(Xl Try.func71 (by kernel_rfl) f71b (yf c faults cars gos tick stopped wrecked rounds gone g1 g2 h1)),(QY Try.func72 (by kernel_rfl) f72b (YW (⟨c,faults,(cars.map (Qo c)),gos,tick,stopped,wrecked,rounds,gone⟩:Trk) h2)),rfl,rfl,(by decide),(by decide),hc2,rfl,hc3,⟨by omega,by omega,by have:=h3; omega⟩,trivial⟩ ?_
         have h:=(h 0)
         simp only [YY,Qad,List.length_set,List.length_replicate] at h
         rw [(show (List.replicate (Int.toNat (c.blocks.length:Int)) ([.bool false]:List AV)).flatten=rowB (List.replicate c.blocks.length (false:Bool)) from YD cB _ _)]
         exact h
       · have h:=h.2 (odf hc3)
         obtain ⟨h3,h⟩:=h
         obtain ⟨h4,h⟩:=h
         obtain ⟨h5,h⟩:=h
         obtain ⟨qe0,qe1,qe2,qe3,qe4,qe5,qe6⟩:=h
         exact p45_df_6 l c faults cars gos tick stopped wrecked rounds gone g1 g2 hE ⟨hc0,hc1,(Xl Try.func71 (by kernel_rfl) f71b (yf c faults cars gos tick stopped wrecked rounds gone g1 g2 h1)),(QY Try.func72 (by kernel_rfl) f72b (YW (⟨c,faults,(cars.map (Qo c)),gos,tick,stopped,wrecked,rounds,gone⟩:Trk) h2)),rfl,rfl,(by decide),(by decide),hc2,rfl,hc3,(QY Try.func46 (by kernel_rfl) f46b (yM (⟨c,faults,(cars.map (Qo c)),gos,tick,stopped,wrecked,rounds,gone⟩:Trk) h3)),rfl,rfl,(u60 (Wr c ((⟨c,faults,(cars.map (Qo c)),gos,tick,stopped,wrecked,rounds,gone⟩:Trk).cars.map Car.spot) h4)),(by decide),(by decide),(VI c faults (cars.map (Qo c)) gos tick stopped (decide ((QC c ((⟨c,faults,(cars.map (Qo c)),gos,tick,stopped,wrecked,rounds,gone⟩:Trk).cars.map Car.spot)).2≥0)) rounds gone g1 g2 h5),trivial⟩ (by try rfl) (by rw [qe0,qe1,qe2,qe3,qe4,qe5,qe6]; all_goals (first | rfl | (simp only [List.length_set]; done) | (simp only [List.length_set]; rfl)))
   · have h:=h.2 (odf hc1)
     obtain ⟨h1,h⟩:=h
     rcases bft (decide (stopped<0)) with hc2 | hc2
     · have h:=h.1 (odt hc2)
       obtain ⟨h2,h⟩:=h
       rcases bft (([([]:List Said),((Qj (⟨c,faults,cars,gos,tick,stopped,wrecked,rounds,gone⟩:Trk)).k1),((Qj (⟨c,faults,cars,gos,tick,stopped,wrecked,rounds,gone⟩:Trk)).k2),((Qj (⟨c,faults,cars,gos,tick,stopped,wrecked,rounds,gone⟩:Trk)).k3)]).any (fun l=>l.any Qy)) with hc3 | hc3
       · have h:=h.1 hc3
         rcases bft (decide (tick<0)) with hc4 | hc4
         · have h:=h.1 (odt hc4)
           obtain ⟨h3,h⟩:=h
           refine p45_df_7 l c faults cars gos tick stopped wrecked rounds gone g1 g2 hE ⟨hc0,hc1,(QY Try.func72 (by kernel_rfl) f72b (YW (⟨c,faults,cars,gos,tick,stopped,wrecked,rounds,gone⟩:Trk) h1)),rfl,rfl,(by decide),(by decide),hc2,(by decide),(by decide),(by decide),(Ql.le (args:=[.rsl ((Yh Qb) ([([]:List Said),((Qj (⟨c,faults,cars,gos,tick,stopped,wrecked,rounds,gone⟩:Trk)).k1),((Qj (⟨c,faults,cars,gos,tick,stopped,wrecked,rounds,gone⟩:Trk)).k2),((Qj (⟨c,faults,cars,gos,tick,stopped,wrecked,rounds,gone⟩:Trk)).k3)])) 0 (([([]:List Said),((Qj (⟨c,faults,cars,gos,tick,stopped,wrecked,rounds,gone⟩:Trk)).k1),((Qj (⟨c,faults,cars,gos,tick,stopped,wrecked,rounds,gone⟩:Trk)).k2),((Qj (⟨c,faults,cars,gos,tick,stopped,wrecked,rounds,gone⟩:Trk)).k3)]).length),.clos 75 [] [.rptr [.clos 73 [] []] 0]]) (u74 (VL ([([]:List Said),((Qj (⟨c,faults,cars,gos,tick,stopped,wrecked,rounds,gone⟩:Trk)).k1),((Qj (⟨c,faults,cars,gos,tick,stopped,wrecked,rounds,gone⟩:Trk)).k2),((Qj (⟨c,faults,cars,gos,tick,stopped,wrecked,rounds,gone⟩:Trk)).k3)]) h2)) ⟨(WE ⟨Yl,rfl,rfl,⟨AvLe.of_eq rfl,rfl,rfl,⟨AvLe.of_eq rfl,rfl,rfl,⟨AvLe.of_eq rfl,rfl,rfl,trivial⟩⟩⟩⟩),⟨AvLe.of_eq rfl,trivial⟩⟩),hc3,(by decide),hc4,⟨by omega,by omega,by have:=h3; omega⟩,trivial⟩ ?_
           have h:=(h 0)
           simp only [YY,Qad,List.length_set,List.length_replicate] at h
           rw [(show (List.replicate (Int.toNat (c.blocks.length:Int)) ([.bool false]:List AV)).flatten=rowB (List.replicate c.blocks.length (false:Bool)) from YD cB _ _)]
           exact h
         · have h:=h.2 (odf hc4)
           obtain ⟨h3,h⟩:=h
           obtain ⟨h4,h⟩:=h
           obtain ⟨h5,h⟩:=h
           obtain ⟨qe0,qe1,qe2,qe3,qe4,qe5,qe6⟩:=h
           exact p45_df_8 l c faults cars gos tick stopped wrecked rounds gone g1 g2 hE ⟨hc0,hc1,(QY Try.func72 (by kernel_rfl) f72b (YW (⟨c,faults,cars,gos,tick,stopped,wrecked,rounds,gone⟩:Trk) h1)),rfl,rfl,(by decide),(by decide),hc2,(by decide),(by decide),(by decide),(Ql.le (args:=[.rsl ((Yh Qb) ([([]:List Said),((Qj (⟨c,faults,cars,gos,tick,stopped,wrecked,rounds,gone⟩:Trk)).k1),((Qj (⟨c,faults,cars,gos,tick,stopped,wrecked,rounds,gone⟩:Trk)).k2),((Qj (⟨c,faults,cars,gos,tick,stopped,wrecked,rounds,gone⟩:Trk)).k3)])) 0 (([([]:List Said),((Qj (⟨c,faults,cars,gos,tick,stopped,wrecked,rounds,gone⟩:Trk)).k1),((Qj (⟨c,faults,cars,gos,tick,stopped,wrecked,rounds,gone⟩:Trk)).k2),((Qj (⟨c,faults,cars,gos,tick,stopped,wrecked,rounds,gone⟩:Trk)).k3)]).length),.clos 75 [] [.rptr [.clos 73 [] []] 0]]) (u74 (VL ([([]:List Said),((Qj (⟨c,faults,cars,gos,tick,stopped,wrecked,rounds,gone⟩:Trk)).k1),((Qj (⟨c,faults,cars,gos,tick,stopped,wrecked,rounds,gone⟩:Trk)).k2),((Qj (⟨c,faults,cars,gos,tick,stopped,wrecked,rounds,gone⟩:Trk)).k3)]) h2)) ⟨(WE ⟨Yl,rfl,rfl,⟨AvLe.of_eq rfl,rfl,rfl,⟨AvLe.of_eq rfl,rfl,rfl,⟨AvLe.of_eq rfl,rfl,rfl,trivial⟩⟩⟩⟩),⟨AvLe.of_eq rfl,trivial⟩⟩),hc3,(by decide),hc4,(QY Try.func46 (by kernel_rfl) f46b (yM (⟨c,faults,cars,gos,tick,tick,wrecked,rounds,gone⟩:Trk) h3)),rfl,rfl,(u60 (Wr c ((⟨c,faults,cars,gos,tick,tick,wrecked,rounds,gone⟩:Trk).cars.map Car.spot) h4)),(by decide),(by decide),(VI c faults cars gos tick tick (decide ((QC c ((⟨c,faults,cars,gos,tick,tick,wrecked,rounds,gone⟩:Trk).cars.map Car.spot)).2≥0)) rounds gone g1 g2 h5),trivial⟩ (by try rfl) (by rw [qe0,qe1,qe2,qe3,qe4,qe5,qe6]; all_goals (first | rfl | (simp only [List.length_set]; done) | (simp only [List.length_set]; rfl)))
       · have h:=h.2 hc3
         rcases bft (decide (stopped<0)) with hc4 | hc4
         · have h:=h.1 (odt hc4)
           obtain ⟨h3,h⟩:=h
           refine p45_df_9 l c faults cars gos tick stopped wrecked rounds gone g1 g2 hE ⟨hc0,hc1,(QY Try.func72 (by kernel_rfl) f72b (YW (⟨c,faults,cars,gos,tick,stopped,wrecked,rounds,gone⟩:Trk) h1)),rfl,rfl,(by decide),(by decide),hc2,(by decide),(by decide),(by decide),(Ql.le (args:=[.rsl ((Yh Qb) ([([]:List Said),((Qj (⟨c,faults,cars,gos,tick,stopped,wrecked,rounds,gone⟩:Trk)).k1),((Qj (⟨c,faults,cars,gos,tick,stopped,wrecked,rounds,gone⟩:Trk)).k2),((Qj (⟨c,faults,cars,gos,tick,stopped,wrecked,rounds,gone⟩:Trk)).k3)])) 0 (([([]:List Said),((Qj (⟨c,faults,cars,gos,tick,stopped,wrecked,rounds,gone⟩:Trk)).k1),((Qj (⟨c,faults,cars,gos,tick,stopped,wrecked,rounds,gone⟩:Trk)).k2),((Qj (⟨c,faults,cars,gos,tick,stopped,wrecked,rounds,gone⟩:Trk)).k3)]).length),.clos 75 [] [.rptr [.clos 73 [] []] 0]]) (u74 (VL ([([]:List Said),((Qj (⟨c,faults,cars,gos,tick,stopped,wrecked,rounds,gone⟩:Trk)).k1),((Qj (⟨c,faults,cars,gos,tick,stopped,wrecked,rounds,gone⟩:Trk)).k2),((Qj (⟨c,faults,cars,gos,tick,stopped,wrecked,rounds,gone⟩:Trk)).k3)]) h2)) ⟨(WE ⟨Yl,rfl,rfl,⟨AvLe.of_eq rfl,rfl,rfl,⟨AvLe.of_eq rfl,rfl,rfl,⟨AvLe.of_eq rfl,rfl,rfl,trivial⟩⟩⟩⟩),⟨AvLe.of_eq rfl,trivial⟩⟩),hc3,hc4,⟨by omega,by omega,by have:=h3; omega⟩,trivial⟩ ?_
           have h:=(h 0)
           simp only [YY,Qad,List.length_set,List.length_replicate] at h
           rw [(show (List.replicate (Int.toNat (c.blocks.length:Int)) ([.bool false]:List AV)).flatten=rowB (List.replicate c.blocks.length (false:Bool)) from YD cB _ _)]
           exact h
         · have h:=h.2 (odf hc4)
           obtain ⟨h3,h⟩:=h
           obtain ⟨h4,h⟩:=h
           obtain ⟨h5,h⟩:=h
           obtain ⟨qe0,qe1,qe2,qe3,qe4,qe5,qe6⟩:=h
           exact p45_df_10 l c faults cars gos tick stopped wrecked rounds gone g1 g2 hE ⟨hc0,hc1,(QY Try.func72 (by kernel_rfl) f72b (YW (⟨c,faults,cars,gos,tick,stopped,wrecked,rounds,gone⟩:Trk) h1)),rfl,rfl,(by decide),(by decide),hc2,(by decide),(by decide),(by decide),(Ql.le (args:=[.rsl ((Yh Qb) ([([]:List Said),((Qj (⟨c,faults,cars,gos,tick,stopped,wrecked,rounds,gone⟩:Trk)).k1),((Qj (⟨c,faults,cars,gos,tick,stopped,wrecked,rounds,gone⟩:Trk)).k2),((Qj (⟨c,faults,cars,gos,tick,stopped,wrecked,rounds,gone⟩:Trk)).k3)])) 0 (([([]:List Said),((Qj (⟨c,faults,cars,gos,tick,stopped,wrecked,rounds,gone⟩:Trk)).k1),((Qj (⟨c,faults,cars,gos,tick,stopped,wrecked,rounds,gone⟩:Trk)).k2),((Qj (⟨c,faults,cars,gos,tick,stopped,wrecked,rounds,gone⟩:Trk)).k3)]).length),.clos 75 [] [.rptr [.clos 73 [] []] 0]]) (u74 (VL ([([]:List Said),((Qj (⟨c,faults,cars,gos,tick,stopped,wrecked,rounds,gone⟩:Trk)).k1),((Qj (⟨c,faults,cars,gos,tick,stopped,wrecked,rounds,gone⟩:Trk)).k2),((Qj (⟨c,faults,cars,gos,tick,stopped,wrecked,rounds,gone⟩:Trk)).k3)]) h2)) ⟨(WE ⟨Yl,rfl,rfl,⟨AvLe.of_eq rfl,rfl,rfl,⟨AvLe.of_eq rfl,rfl,rfl,⟨AvLe.of_eq rfl,rfl,rfl,trivial⟩⟩⟩⟩),⟨AvLe.of_eq rfl,trivial⟩⟩),hc3,hc4,(QY Try.func46 (by kernel_rfl) f46b (yM (⟨c,faults,cars,gos,tick,stopped,wrecked,rounds,gone⟩:Trk) h3)),rfl,rfl,(u60 (Wr c ((⟨c,faults,cars,gos,tick,stopped,wrecked,rounds,gone⟩:Trk).cars.map Car.spot) h4)),(by decide),(by decide),(VI c faults cars gos tick stopped (decide ((QC c ((⟨c,faults,cars,gos,tick,stopped,wrecked,rounds,gone⟩:Trk).cars.map Car.spot)).2≥0)) rounds gone g1 g2 h5),trivial⟩ (by try rfl) (by rw [qe0,qe1,qe2,qe3,qe4,qe5,qe6]; all_goals (first | rfl | (simp only [List.length_set]; done) | (simp only [List.length_set]; rfl)))
     · have h:=h.2 (odf hc2)
       rcases bft (decide (stopped<0)) with hc3 | hc3
       · have h:=h.1 (odt hc3)
         obtain ⟨h2,h⟩:=h
         refine p45_df_11 l c faults cars gos tick stopped wrecked rounds gone g1 g2 hE ⟨hc0,hc1,(QY Try.func72 (by kernel_rfl) f72b (YW (⟨c,faults,cars,gos,tick,stopped,wrecked,rounds,gone⟩:Trk) h1)),rfl,rfl,(by decide),(by decide),hc2,rfl,hc3,⟨by omega,by omega,by have:=h2; omega⟩,trivial⟩ ?_
         have h:=(h 0)
         simp only [YY,Qad,List.length_set,List.length_replicate] at h
         rw [(show (List.replicate (Int.toNat (c.blocks.length:Int)) ([.bool false]:List AV)).flatten=rowB (List.replicate c.blocks.length (false:Bool)) from YD cB _ _)]
         exact h
       · have h:=h.2 (odf hc3)
         obtain ⟨h2,h⟩:=h
         obtain ⟨h3,h⟩:=h
         obtain ⟨h4,h⟩:=h
         obtain ⟨qe0,qe1,qe2,qe3,qe4,qe5,qe6⟩:=h
         exact p45_df_12 l c faults cars gos tick stopped wrecked rounds gone g1 g2 hE ⟨hc0,hc1,(QY Try.func72 (by kernel_rfl) f72b (YW (⟨c,faults,cars,gos,tick,stopped,wrecked,rounds,gone⟩:Trk) h1)),rfl,rfl,(by decide),(by decide),hc2,rfl,hc3,(QY Try.func46 (by kernel_rfl) f46b (yM (⟨c,faults,cars,gos,tick,stopped,wrecked,rounds,gone⟩:Trk) h2)),rfl,rfl,(u60 (Wr c ((⟨c,faults,cars,gos,tick,stopped,wrecked,rounds,gone⟩:Trk).cars.map Car.spot) h3)),(by decide),(by decide),(VI c faults cars gos tick stopped (decide ((QC c ((⟨c,faults,cars,gos,tick,stopped,wrecked,rounds,gone⟩:Trk).cars.map Car.spot)).2≥0)) rounds gone g1 g2 h4),trivial⟩ (by try rfl) (by rw [qe0,qe1,qe2,qe3,qe4,qe5,qe6]; all_goals (first | rfl | (simp only [List.length_set]; done) | (simp only [List.length_set]; rfl)))
theorem p45_start_0 (l:(List Prs)) (c:Cir) (faults:List Flt) (cars:List Car) (gos:List Bool) (tick stopped:Int) (wrecked:Bool) (rounds gone:Int) (g1 g2:Nat) {E:Env} {rv:AV} {bs2:List Blk} (hE:LentE Try.prog 45 [.sl 2 g2 0 0 1] rv bs2 E) (ho:AllP [])
 (hg:∀ E2,LentDE Try.prog 45 [.sl 2 g2 0 0 1] (.clos 70 [] [.ptr 3 0 0]) rv bs2 E2→G Try.prog E2 (ql Try.prog) ⟨(qs l),(qr c faults g1 cars g2 gos tick stopped wrecked rounds gone)⟩):G Try.prog E [.code (Qf Try.prog 45)] ⟨[.ptr 0 0 0,.rsl (Qs l) 0 l.length]++unds (Try.f45.ntmps - 2),(z45_8 c faults g1 cars g2 gos tick stopped wrecked rounds gone)⟩:=by
 refine Qa (K':=f45Kd Try.prog) (st':=⟨(qs l),(qr c faults g1 cars g2 gos tick stopped wrecked rounds gone)⟩) (n:=400) (ds:=[]) (cs:=[]) (live:=[0,1,2,3,4,5,6,7,8,9,10,11,12,13,14,15,16,17,18,19,20,21,22,23,24,25,26,27,28,29,30,31,32,33,34,35,36,37,38,39,40,41,42,43,44,45,46,47,48,49,50,51,52,53,54,55,56,57,58,59,60,61,62,63,64,65,66,67,68,69,70,71,72,73,74,75,76,77,78,79,80,81,82,83,84,85,86,87,88,89,90,91]) (m:=4) (evs:=[.hold 2]) (obs:=_) hE.kind (hE.nogh (by kernel_rfl)) Qm (by kernel_rfl) ho ?_
 exact defer_at hE (by kernel_rfl) hg
theorem f45W (l:(List Prs)) (c:Cir) (faults:List Flt) (cars:List Car) (gos:List Bool) (tick stopped:Int) (wrecked:Bool) (rounds gone:Int) (g1 g2:Nat) {E:Env} {rv:Unit} {tick2:Int} {stopped2:Int} {wrecked2:Bool} {rounds2:Int} {gone2:Int} {cars2:List Car} {gos2:List Bool} (hE:LentE Try.prog 45 [.sl 2 g2 0 0 1] (.tup []) [⟨true,0,1,false,[.rsl (Qc c.blocks) 0 c.blocks.length,.rsl (rowI c.cars) 0 c.cars.length,.rsl (Qi faults) 0 faults.length,.sl 1 g1 0 cars2.length 4,.sl 2 g2 0 gos2.length 1,.int .i64 tick2,.int .i64 stopped2,.bool wrecked2,.int .i64 rounds2,.int .i64 gone2],false⟩,⟨true,g1,4,true,(Qd cars2),true⟩,⟨true,g2,1,true,(rowB gos2),true⟩] E)
 (h:(∀ E2,LentDE Try.prog 45 [.sl 2 g2 0 0 1] (.clos 70 [] [.ptr 3 0 0]) (.tup []) [⟨true,0,1,false,[.rsl (Qc c.blocks) 0 c.blocks.length,.rsl (rowI c.cars) 0 c.cars.length,.rsl (Qi faults) 0 faults.length,.sl 1 g1 0 cars2.length 4,.sl 2 g2 0 gos2.length 1,.int .i64 tick2,.int .i64 stopped2,.bool wrecked2,.int .i64 rounds2,.int .i64 gone2],false⟩,⟨true,g1,4,true,(Qd cars2),true⟩,⟨true,g2,1,true,(rowB gos2),true⟩] E2→((wrecked=true→((-1000000000000≤tick∧tick≤1000000000000)∧tick2=(tick+1)∧stopped2=stopped∧wrecked2=wrecked∧rounds2=rounds∧gone2=gone∧cars2=cars∧gos2=gos))∧(wrecked=false→((tick > 0→(((∀ x ∈ cars,CarOk c x)∧cars.length≤2147483648)∧((TrkIn (⟨c,faults,(cars.map (Qo c)),gos,tick,stopped,wrecked,rounds,gone⟩:Trk))∧((stopped<0→((([([]:List Said),((Qj (⟨c,faults,(cars.map (Qo c)),gos,tick,stopped,wrecked,rounds,gone⟩:Trk)).k1),((Qj (⟨c,faults,(cars.map (Qo c)),gos,tick,stopped,wrecked,rounds,gone⟩:Trk)).k2),((Qj (⟨c,faults,(cars.map (Qo c)),gos,tick,stopped,wrecked,rounds,gone⟩:Trk)).k3)]).length≤9223372036854775807∧∀ x ∈ ([([]:List Said),((Qj (⟨c,faults,(cars.map (Qo c)),gos,tick,stopped,wrecked,rounds,gone⟩:Trk)).k1),((Qj (⟨c,faults,(cars.map (Qo c)),gos,tick,stopped,wrecked,rounds,gone⟩:Trk)).k2),((Qj (⟨c,faults,(cars.map (Qo c)),gos,tick,stopped,wrecked,rounds,gone⟩:Trk)).k3)]),x.length≤9223372036854775807)∧(((([([]:List Said),((Qj (⟨c,faults,(cars.map (Qo c)),gos,tick,stopped,wrecked,rounds,gone⟩:Trk)).k1),((Qj (⟨c,faults,(cars.map (Qo c)),gos,tick,stopped,wrecked,rounds,gone⟩:Trk)).k2),((Qj (⟨c,faults,(cars.map (Qo c)),gos,tick,stopped,wrecked,rounds,gone⟩:Trk)).k3)]).any (fun l=>l.any Qy))=true→((tick<0→(c.blocks.length≤2147483648∧YY E2 l c faults cars gos tick stopped wrecked rounds gone g1 g2 (List.replicate c.blocks.length (false:Bool)) tick (cars.map (Qo c)) ((Qj (⟨c,faults,(cars.map (Qo c)),gos,tick,stopped,wrecked,rounds,gone⟩:Trk)).k1) ((Qj (⟨c,faults,(cars.map (Qo c)),gos,tick,stopped,wrecked,rounds,gone⟩:Trk)).k2) ((Qj (⟨c,faults,(cars.map (Qo c)),gos,tick,stopped,wrecked,rounds,gone⟩:Trk)).k3) 0 gos))∧(¬ (tick<0)→(((⟨c,faults,(cars.map (Qo c)),gos,tick,tick,wrecked,rounds,gone⟩:Trk).cars.length≤2147483648)∧(((∀ x ∈ ((⟨c,faults,(cars.map (Qo c)),gos,tick,tick,wrecked,rounds,gone⟩:Trk).cars.map Car.spot),InC c x.block)∧((⟨c,faults,(cars.map (Qo c)),gos,tick,tick,wrecked,rounds,gone⟩:Trk).cars.map Car.spot).length≤2147483648)∧((-1000000000000≤tick∧tick≤1000000000000)∧tick2=(tick+1)∧stopped2=tick∧wrecked2=(decide ((QC c ((⟨c,faults,(cars.map (Qo c)),gos,tick,tick,wrecked,rounds,gone⟩:Trk).cars.map Car.spot)).2≥0))∧rounds2=rounds∧gone2=gone∧cars2=(cars.map (Qo c))∧gos2=gos))))))∧((([([]:List Said),((Qj (⟨c,faults,(cars.map (Qo c)),gos,tick,stopped,wrecked,rounds,gone⟩:Trk)).k1),((Qj (⟨c,faults,(cars.map (Qo c)),gos,tick,stopped,wrecked,rounds,gone⟩:Trk)).k2),((Qj (⟨c,faults,(cars.map (Qo c)),gos,tick,stopped,wrecked,rounds,gone⟩:Trk)).k3)]).any (fun l=>l.any Qy))=false→((stopped<0→(c.blocks.length≤2147483648∧YY E2 l c faults cars gos tick stopped wrecked rounds gone g1 g2 (List.replicate c.blocks.length (false:Bool)) stopped (cars.map (Qo c)) ((Qj (⟨c,faults,(cars.map (Qo c)),gos,tick,stopped,wrecked,rounds,gone⟩:Trk)).k1) ((Qj (⟨c,faults,(cars.map (Qo c)),gos,tick,stopped,wrecked,rounds,gone⟩:Trk)).k2) ((Qj (⟨c,faults,(cars.map (Qo c)),gos,tick,stopped,wrecked,rounds,gone⟩:Trk)).k3) 0 gos))∧(¬ (stopped<0)→(((⟨c,faults,(cars.map (Qo c)),gos,tick,stopped,wrecked,rounds,gone⟩:Trk).cars.length≤2147483648)∧(((∀ x ∈ ((⟨c,faults,(cars.map (Qo c)),gos,tick,stopped,wrecked,rounds,gone⟩:Trk).cars.map Car.spot),InC c x.block)∧((⟨c,faults,(cars.map (Qo c)),gos,tick,stopped,wrecked,rounds,gone⟩:Trk).cars.map Car.spot).length≤2147483648)∧((-1000000000000≤tick∧tick≤1000000000000)∧tick2=(tick+1)∧stopped2=stopped∧wrecked2=(decide ((QC c ((⟨c,faults,(cars.map (Qo c)),gos,tick,stopped,wrecked,rounds,gone⟩:Trk).cars.map Car.spot)).2≥0))∧rounds2=rounds∧gone2=gone∧cars2=(cars.map (Qo c))∧gos2=gos)))))))))∧(¬ (stopped<0)→((stopped<0→(c.blocks.length≤2147483648∧YY E2 l c faults cars gos tick stopped wrecked rounds gone g1 g2 (List.replicate c.blocks.length (false:Bool)) stopped (cars.map (Qo c)) ((Qj (⟨c,faults,(cars.map (Qo c)),gos,tick,stopped,wrecked,rounds,gone⟩:Trk)).k1) ((Qj (⟨c,faults,(cars.map (Qo c)),gos,tick,stopped,wrecked,rounds,gone⟩:Trk)).k2) ((Qj (⟨c,faults,(cars.map (Qo c)),gos,tick,stopped,wrecked,rounds,gone⟩:Trk)).k3) 0 gos))∧(¬ (stopped<0)→(((⟨c,faults,(cars.map (Qo c)),gos,tick,stopped,wrecked,rounds,gone⟩:Trk).cars.length≤2147483648)∧(((∀ x ∈ ((⟨c,faults,(cars.map (Qo c)),gos,tick,stopped,wrecked,rounds,gone⟩:Trk).cars.map Car.spot),InC c x.block)∧((⟨c,faults,(cars.map (Qo c)),gos,tick,stopped,wrecked,rounds,gone⟩:Trk).cars.map Car.spot).length≤2147483648)∧((-1000000000000≤tick∧tick≤1000000000000)∧tick2=(tick+1)∧stopped2=stopped∧wrecked2=(decide ((QC c ((⟨c,faults,(cars.map (Qo c)),gos,tick,stopped,wrecked,rounds,gone⟩:Trk).cars.map Car.spot)).2≥0))∧rounds2=rounds∧gone2=gone∧cars2=(cars.map (Qo c))∧gos2=gos))))))))))∧(¬ (tick > 0)→((TrkIn (⟨c,faults,cars,gos,tick,stopped,wrecked,rounds,gone⟩:Trk))∧((stopped<0→((([([]:List Said),((Qj (⟨c,faults,cars,gos,tick,stopped,wrecked,rounds,gone⟩:Trk)).k1),((Qj (⟨c,faults,cars,gos,tick,stopped,wrecked,rounds,gone⟩:Trk)).k2),((Qj (⟨c,faults,cars,gos,tick,stopped,wrecked,rounds,gone⟩:Trk)).k3)]).length≤9223372036854775807∧∀ x ∈ ([([]:List Said),((Qj (⟨c,faults,cars,gos,tick,stopped,wrecked,rounds,gone⟩:Trk)).k1),((Qj (⟨c,faults,cars,gos,tick,stopped,wrecked,rounds,gone⟩:Trk)).k2),((Qj (⟨c,faults,cars,gos,tick,stopped,wrecked,rounds,gone⟩:Trk)).k3)]),x.length≤9223372036854775807)∧(((([([]:List Said),((Qj (⟨c,faults,cars,gos,tick,stopped,wrecked,rounds,gone⟩:Trk)).k1),((Qj (⟨c,faults,cars,gos,tick,stopped,wrecked,rounds,gone⟩:Trk)).k2),((Qj (⟨c,faults,cars,gos,tick,stopped,wrecked,rounds,gone⟩:Trk)).k3)]).any (fun l=>l.any Qy))=true→((tick<0→(c.blocks.length≤2147483648∧YY E2 l c faults cars gos tick stopped wrecked rounds gone g1 g2 (List.replicate c.blocks.length (false:Bool)) tick cars ((Qj (⟨c,faults,cars,gos,tick,stopped,wrecked,rounds,gone⟩:Trk)).k1) ((Qj (⟨c,faults,cars,gos,tick,stopped,wrecked,rounds,gone⟩:Trk)).k2) ((Qj (⟨c,faults,cars,gos,tick,stopped,wrecked,rounds,gone⟩:Trk)).k3) 0 gos))∧(¬ (tick<0)→(((⟨c,faults,cars,gos,tick,tick,wrecked,rounds,gone⟩:Trk).cars.length≤2147483648)∧(((∀ x ∈ ((⟨c,faults,cars,gos,tick,tick,wrecked,rounds,gone⟩:Trk).cars.map Car.spot),InC c x.block)∧((⟨c,faults,cars,gos,tick,tick,wrecked,rounds,gone⟩:Trk).cars.map Car.spot).length≤2147483648)∧((-1000000000000≤tick∧tick≤1000000000000)∧tick2=(tick+1)∧stopped2=tick∧wrecked2=(decide ((QC c ((⟨c,faults,cars,gos,tick,tick,wrecked,rounds,gone⟩:Trk).cars.map Car.spot)).2≥0))∧rounds2=rounds∧gone2=gone∧cars2=cars∧gos2=gos))))))∧((([([]:List Said),((Qj (⟨c,faults,cars,gos,tick,stopped,wrecked,rounds,gone⟩:Trk)).k1),((Qj (⟨c,faults,cars,gos,tick,stopped,wrecked,rounds,gone⟩:Trk)).k2),((Qj (⟨c,faults,cars,gos,tick,stopped,wrecked,rounds,gone⟩:Trk)).k3)]).any (fun l=>l.any Qy))=false→((stopped<0→(c.blocks.length≤2147483648∧YY E2 l c faults cars gos tick stopped wrecked rounds gone g1 g2 (List.replicate c.blocks.length (false:Bool)) stopped cars ((Qj (⟨c,faults,cars,gos,tick,stopped,wrecked,rounds,gone⟩:Trk)).k1) ((Qj (⟨c,faults,cars,gos,tick,stopped,wrecked,rounds,gone⟩:Trk)).k2) ((Qj (⟨c,faults,cars,gos,tick,stopped,wrecked,rounds,gone⟩:Trk)).k3) 0 gos))∧(¬ (stopped<0)→(((⟨c,faults,cars,gos,tick,stopped,wrecked,rounds,gone⟩:Trk).cars.length≤2147483648)∧(((∀ x ∈ ((⟨c,faults,cars,gos,tick,stopped,wrecked,rounds,gone⟩:Trk).cars.map Car.spot),InC c x.block)∧((⟨c,faults,cars,gos,tick,stopped,wrecked,rounds,gone⟩:Trk).cars.map Car.spot).length≤2147483648)∧((-1000000000000≤tick∧tick≤1000000000000)∧tick2=(tick+1)∧stopped2=stopped∧wrecked2=(decide ((QC c ((⟨c,faults,cars,gos,tick,stopped,wrecked,rounds,gone⟩:Trk).cars.map Car.spot)).2≥0))∧rounds2=rounds∧gone2=gone∧cars2=cars∧gos2=gos)))))))))∧(¬ (stopped<0)→((stopped<0→(c.blocks.length≤2147483648∧YY E2 l c faults cars gos tick stopped wrecked rounds gone g1 g2 (List.replicate c.blocks.length (false:Bool)) stopped cars ((Qj (⟨c,faults,cars,gos,tick,stopped,wrecked,rounds,gone⟩:Trk)).k1) ((Qj (⟨c,faults,cars,gos,tick,stopped,wrecked,rounds,gone⟩:Trk)).k2) ((Qj (⟨c,faults,cars,gos,tick,stopped,wrecked,rounds,gone⟩:Trk)).k3) 0 gos))∧(¬ (stopped<0)→(((⟨c,faults,cars,gos,tick,stopped,wrecked,rounds,gone⟩:Trk).cars.length≤2147483648)∧(((∀ x ∈ ((⟨c,faults,cars,gos,tick,stopped,wrecked,rounds,gone⟩:Trk).cars.map Car.spot),InC c x.block)∧((⟨c,faults,cars,gos,tick,stopped,wrecked,rounds,gone⟩:Trk).cars.map Car.spot).length≤2147483648)∧((-1000000000000≤tick∧tick≤1000000000000)∧tick2=(tick+1)∧stopped2=stopped∧wrecked2=(decide ((QC c ((⟨c,faults,cars,gos,tick,stopped,wrecked,rounds,gone⟩:Trk).cars.map Car.spot)).2≥0))∧rounds2=rounds∧gone2=gone∧cars2=cars∧gos2=gos)))))))))))))):G Try.prog E [.code (Qf Try.prog 45)] ⟨[.ptr 0 0 0,.rsl (Qs l) 0 l.length]++unds (Try.f45.ntmps - 2),[⟨true,0,1,false,[.rsl (Qc c.blocks) 0 c.blocks.length,.rsl (rowI c.cars) 0 c.cars.length,.rsl (Qi faults) 0 faults.length,.sl 1 g1 0 cars.length 4,.sl 2 g2 0 gos.length 1,.int .i64 tick,.int .i64 stopped,.bool wrecked,.int .i64 rounds,.int .i64 gone],false⟩,⟨true,g1,4,true,(Qd cars),true⟩,⟨true,g2,1,true,(rowB gos),true⟩]⟩:=by
 exact p45_start_0 l c faults cars gos tick stopped wrecked rounds gone g1 g2 hE trivial (fun E2 hE2=>f45Wdf l c faults cars gos tick stopped wrecked rounds gone g1 g2 (rv:=rv) hE2 (h E2 hE2))
theorem p45_0_0 (l:(List Prs)) (c:Cir) (faults:List Flt) (cars:List Car) (gos:List Bool) (tick stopped:Int) (wrecked:Bool) (rounds gone:Int) (g1 g2:Nat) (v6:List Bool) (v0_6:Int) (v1:List Car) (v4_1:(List Said)) (v4_2:(List Said)) (v4_3:(List Said)) (i:Nat) (v2:List Bool) (g6:Nat) (pe:Prs) {E:Env} {rv:AV} {bs2:List Blk} (hE:LentDE Try.prog 45 [.sl 2 g2 0 0 1] (.clos 70 [] [.ptr 3 0 0]) rv bs2 E) (ho:AllP [(decide ((i:Int)<(l.length:Int)))=true,0≤(i:Int)∧(i:Int)<(l.length:Int),((Qs l).drop (0+(Int.toNat (i:Int))*3)).take 3=(z45_27 pe),3≤3,(pe.at_ == tick)=true,XT Try.prog (.clos 77 [] []) [.ptr 0 0 0,.agg (z45_27 pe),.agg (z45_25 v4_1 v4_2 v4_3),.sl 3 g6 0 v6.length 1] [⟨true,0,1,false,(z45_26 c faults g1 v1 g2 v2 tick v0_6 wrecked rounds gone),false⟩,⟨true,g1,4,true,(Qd v1),true⟩,⟨true,g2,1,true,(rowB v2),true⟩,⟨true,g6,1,true,(rowB v6),true⟩] (.tup []) (z45_22 c faults g1 v4_1 v4_2 v4_3 pe v1 v2 v6 g2 tick v0_6 wrecked rounds gone g6),InR .i64 ((i:Int)+1)])
 (hg:G Try.prog E (Kh Try.prog) ⟨([J,J,.ptr 3 0 0,J,.ptr 4 0 0,J,.sl 6 g6 0 v6.length 1]++jj 47 ([.rsl (Qs l) 0 l.length,.int .i64 (l.length:Int),.int .i64 ((i:Int)+1)]++Js 35)),[⟨true,0,1,false,[.rsl (Qc c.blocks) 0 c.blocks.length,.rsl (rowI c.cars) 0 c.cars.length,.rsl (Qi faults) 0 faults.length,.sl 1 g1 0 ((QT c (⟨v4_1,v4_2,v4_3⟩:Rd4) pe (v1,v2,v6)).1.length) 4,.sl 2 g2 0 ((QT c (⟨v4_1,v4_2,v4_3⟩:Rd4) pe (v1,v2,v6)).2.1.length) 1,.int .i64 tick,.int .i64 v0_6,.bool wrecked,.int .i64 rounds,.int .i64 gone],false⟩,⟨true,g1,4,true,(Qd (QT c (⟨v4_1,v4_2,v4_3⟩:Rd4) pe (v1,v2,v6)).1),true⟩,⟨true,g2,1,true,(rowB (QT c (⟨v4_1,v4_2,v4_3⟩:Rd4) pe (v1,v2,v6)).2.1),true⟩,⟨true,0,1,false,[.ptr 0 0 0],false⟩,⟨true,0,1,true,(z45_25 v4_1 v4_2 v4_3),false⟩,⟨true,0,1,true,[.clos 73 [] []],false⟩,⟨true,g6,1,true,(rowB (QT c (⟨v4_1,v4_2,v4_3⟩:Rd4) pe (v1,v2,v6)).2.2),true⟩]⟩):G Try.prog E (Kh Try.prog) (Qad l c faults cars gos tick stopped wrecked rounds gone g1 g2 v6 v0_6 v1 v4_1 v4_2 v4_3 i v2 g6) :=
 Qa (n:=400) (ds:=[]) (cs:=[]) (live:=[2,4,6,54,55,56]) (m:=7) (evs:=[.b true,.ld (.agg (z45_27 pe)),.b true,.lent [0,1,2,6] (.tup []) (z45_22 c faults g1 v4_1 v4_2 v4_3 pe v1 v2 v6 g2 tick v0_6 wrecked rounds gone g6),.stop]) (obs:=_) hE.kind (hE.nogh (by kernel_rfl)) Qm (by kernel_rfl) ho hg
theorem p45_0_1 (l:(List Prs)) (c:Cir) (faults:List Flt) (cars:List Car) (gos:List Bool) (tick stopped:Int) (wrecked:Bool) (rounds gone:Int) (g1 g2:Nat) (v6:List Bool) (v0_6:Int) (v1:List Car) (v4_1:(List Said)) (v4_2:(List Said)) (v4_3:(List Said)) (i:Nat) (v2:List Bool) (g6:Nat) (pe:Prs) {E:Env} {rv:AV} {bs2:List Blk} (hE:LentDE Try.prog 45 [.sl 2 g2 0 0 1] (.clos 70 [] [.ptr 3 0 0]) rv bs2 E) (ho:AllP [(decide ((i:Int)<(l.length:Int)))=true,0≤(i:Int)∧(i:Int)<(l.length:Int),((Qs l).drop (0+(Int.toNat (i:Int))*3)).take 3=(z45_27 pe),3≤3,(pe.at_ == tick)=false,InR .i64 ((i:Int)+1)])
 (hg:G Try.prog E (Kh Try.prog) ⟨([J,J,.ptr 3 0 0,J,.ptr 4 0 0,J,.sl 6 g6 0 v6.length 1]++jj 47 ([.rsl (Qs l) 0 l.length,.int .i64 (l.length:Int),.int .i64 ((i:Int)+1)]++Js 35)),[⟨true,0,1,false,(z45_26 c faults g1 v1 g2 v2 tick v0_6 wrecked rounds gone),false⟩,⟨true,g1,4,true,(Qd v1),true⟩,⟨true,g2,1,true,(rowB v2),true⟩,⟨true,0,1,false,[.ptr 0 0 0],false⟩,⟨true,0,1,true,(z45_25 v4_1 v4_2 v4_3),false⟩,⟨true,0,1,true,[.clos 73 [] []],false⟩,⟨true,g6,1,true,(rowB v6),true⟩]⟩):G Try.prog E (Kh Try.prog) (Qad l c faults cars gos tick stopped wrecked rounds gone g1 g2 v6 v0_6 v1 v4_1 v4_2 v4_3 i v2 g6) :=
 Qa (n:=400) (ds:=[]) (cs:=[]) (live:=[2,4,6,54,55,56]) (m:=7) (evs:=[.b true,.ld (.agg (z45_27 pe)),.b false,.stop]) (obs:=_) hE.kind (hE.nogh (by kernel_rfl)) Qm (by kernel_rfl) ho hg
theorem p45_0_2 (l:(List Prs)) (c:Cir) (faults:List Flt) (cars:List Car) (gos:List Bool) (tick stopped:Int) (wrecked:Bool) (rounds gone:Int) (g1 g2:Nat) (v6:List Bool) (v0_6:Int) (v1:List Car) (v4_1:(List Said)) (v4_2:(List Said)) (v4_3:(List Said)) (i:Nat) (v2:List Bool) (g6:Nat) {E:Env} {res:AV} {bs2:List Blk} (hE:LentDE Try.prog 45 [.sl 2 g2 0 0 1] (.clos 70 [] [.ptr 3 0 0]) res bs2 E) (ho:AllP [(decide ((i:Int)<(l.length:Int)))=false,XT Try.prog (.clos 78 [] []) [.ptr 0 0 0,.agg (z45_25 v4_1 v4_2 v4_3),.sl 3 g6 0 v6.length 1] [⟨true,0,1,false,(z45_26 c faults g1 v1 g2 v2 tick v0_6 wrecked rounds gone),false⟩,⟨true,g1,4,true,(Qd v1),true⟩,⟨true,g2,1,true,(rowB v2),true⟩,⟨true,g6,1,true,(rowB v6),true⟩] (.tup []) (z45_21 c faults g1 v4_1 v4_2 v4_3 v6 v1 v2 rounds gone g2 tick v0_6 wrecked g6),Vz Try.prog (.clos 46 [] []) [.rptr [.rsl (Qc c.blocks) 0 c.blocks.length,.rsl (rowI c.cars) 0 c.cars.length,.rsl (Qi faults) 0 faults.length,.rsl (Qd (QZ c v4_1 v4_2 v4_3 v6 v1 v2 rounds gone).cars) 0 ((QZ c v4_1 v4_2 v4_3 v6 v1 v2 rounds gone).cars.length),.rsl (rowB (QZ c v4_1 v4_2 v4_3 v6 v1 v2 rounds gone).gos) 0 ((QZ c v4_1 v4_2 v4_3 v6 v1 v2 rounds gone).gos.length),.int .i64 tick,.int .i64 v0_6,.bool wrecked,.int .i64 ((QZ c v4_1 v4_2 v4_3 v6 v1 v2 rounds gone).rounds),.int .i64 ((QZ c v4_1 v4_2 v4_3 v6 v1 v2 rounds gone).gone)] 0] (.rsl (Qg (Ww c faults v4_1 v4_2 v4_3 v6 v1 v2 rounds gone tick v0_6 wrecked)) 0 ((Ww c faults v4_1 v4_2 v4_3 v6 v1 v2 rounds gone tick v0_6 wrecked).length)),g1=g1,g2=g2,Ql Try.prog (.clos 60 [] []) [.agg (Kz c),.rsl (Qg (Ww c faults v4_1 v4_2 v4_3 v6 v1 v2 rounds gone tick v0_6 wrecked)) 0 ((Ww c faults v4_1 v4_2 v4_3 v6 v1 v2 rounds gone tick v0_6 wrecked).length)] (.tup [.agg [.int .i64 (((QC c (Ww c faults v4_1 v4_2 v4_3 v6 v1 v2 rounds gone tick v0_6 wrecked)).1).block),.int .i64 (((QC c (Ww c faults v4_1 v4_2 v4_3 v6 v1 v2 rounds gone tick v0_6 wrecked)).1).ran),.bool (((QC c (Ww c faults v4_1 v4_2 v4_3 v6 v1 v2 rounds gone tick v0_6 wrecked)).1).opn)],.int .i64 ((QC c (Ww c faults v4_1 v4_2 v4_3 v6 v1 v2 rounds gone tick v0_6 wrecked)).2)]),3≤3,8≤10,WN Try.prog (.clos 70 [] [.ptr 0 0 0]) [⟨true,0,1,false,[.ptr 1 0 0],false⟩,⟨true,0,1,false,[.rsl (Qc c.blocks) 0 c.blocks.length,.rsl (rowI c.cars) 0 c.cars.length,.rsl (Qi faults) 0 faults.length,.sl 2 g1 0 ((QZ c v4_1 v4_2 v4_3 v6 v1 v2 rounds gone).cars.length) 4,.sl 3 g2 0 ((QZ c v4_1 v4_2 v4_3 v6 v1 v2 rounds gone).gos.length) 1,.int .i64 tick,.int .i64 v0_6,.bool (decide ((QC c (Ww c faults v4_1 v4_2 v4_3 v6 v1 v2 rounds gone tick v0_6 wrecked)).2≥0)),.int .i64 ((QZ c v4_1 v4_2 v4_3 v6 v1 v2 rounds gone).rounds),.int .i64 ((QZ c v4_1 v4_2 v4_3 v6 v1 v2 rounds gone).gone)],false⟩,⟨true,g1,4,true,(Qd (QZ c v4_1 v4_2 v4_3 v6 v1 v2 rounds gone).cars),true⟩,⟨true,g2,1,true,(rowB (QZ c v4_1 v4_2 v4_3 v6 v1 v2 rounds gone).gos),true⟩] (.tup []) [⟨true,0,1,false,[.ptr 1 0 0],false⟩,⟨true,0,1,false,[.rsl (Qc c.blocks) 0 c.blocks.length,.rsl (rowI c.cars) 0 c.cars.length,.rsl (Qi faults) 0 faults.length,.sl 2 g1 0 ((QZ c v4_1 v4_2 v4_3 v6 v1 v2 rounds gone).cars.length) 4,.sl 3 g2 0 ((QZ c v4_1 v4_2 v4_3 v6 v1 v2 rounds gone).gos.length) 1,.int .i64 (tick+1),.int .i64 v0_6,.bool (decide ((QC c (Ww c faults v4_1 v4_2 v4_3 v6 v1 v2 rounds gone tick v0_6 wrecked)).2≥0)),.int .i64 ((QZ c v4_1 v4_2 v4_3 v6 v1 v2 rounds gone).rounds),.int .i64 ((QZ c v4_1 v4_2 v4_3 v6 v1 v2 rounds gone).gone)],false⟩,⟨true,g1,4,true,(Qd (QZ c v4_1 v4_2 v4_3 v6 v1 v2 rounds gone).cars),true⟩,⟨true,g2,1,true,(rowB (QZ c v4_1 v4_2 v4_3 v6 v1 v2 rounds gone).gos),true⟩]])
 (hr:(.tup [])=res) (hb:[⟨true,0,1,false,[.rsl (Qc c.blocks) 0 c.blocks.length,.rsl (rowI c.cars) 0 c.cars.length,.rsl (Qi faults) 0 faults.length,.sl 1 g1 0 ((QZ c v4_1 v4_2 v4_3 v6 v1 v2 rounds gone).cars.length) 4,.sl 2 g2 0 ((QZ c v4_1 v4_2 v4_3 v6 v1 v2 rounds gone).gos.length) 1,.int .i64 (tick+1),.int .i64 v0_6,.bool (decide ((QC c (Ww c faults v4_1 v4_2 v4_3 v6 v1 v2 rounds gone tick v0_6 wrecked)).2≥0)),.int .i64 ((QZ c v4_1 v4_2 v4_3 v6 v1 v2 rounds gone).rounds),.int .i64 ((QZ c v4_1 v4_2 v4_3 v6 v1 v2 rounds gone).gone)],false⟩,⟨true,g1,4,true,(Qd (QZ c v4_1 v4_2 v4_3 v6 v1 v2 rounds gone).cars),true⟩,⟨true,g2,1,true,(rowB (QZ c v4_1 v4_2 v4_3 v6 v1 v2 rounds gone).gos),true⟩]=bs2):G Try.prog E (Kh Try.prog) (Qad l c faults cars gos tick stopped wrecked rounds gone g1 g2 v6 v0_6 v1 v4_1 v4_2 v4_3 i v2 g6) :=
 YS (n:=400) (ρ:=[3,0,1,2]) (bsD:=[⟨true,0,1,false,[.ptr 1 0 0],false⟩,⟨true,0,1,false,[.rsl (Qc c.blocks) 0 c.blocks.length,.rsl (rowI c.cars) 0 c.cars.length,.rsl (Qi faults) 0 faults.length,.sl 2 g1 0 ((QZ c v4_1 v4_2 v4_3 v6 v1 v2 rounds gone).cars.length) 4,.sl 3 g2 0 ((QZ c v4_1 v4_2 v4_3 v6 v1 v2 rounds gone).gos.length) 1,.int .i64 (tick+1),.int .i64 v0_6,.bool (decide ((QC c (Ww c faults v4_1 v4_2 v4_3 v6 v1 v2 rounds gone tick v0_6 wrecked)).2≥0)),.int .i64 ((QZ c v4_1 v4_2 v4_3 v6 v1 v2 rounds gone).rounds),.int .i64 ((QZ c v4_1 v4_2 v4_3 v6 v1 v2 rounds gone).gone)],false⟩,⟨true,g1,4,true,(Qd (QZ c v4_1 v4_2 v4_3 v6 v1 v2 rounds gone).cars),true⟩,⟨true,g2,1,true,(rowB (QZ c v4_1 v4_2 v4_3 v6 v1 v2 rounds gone).gos),true⟩]) (live:=[]) (m:=3) (evs:=[.b false,.lent [0,1,2,6] (.tup []) (z45_21 c faults g1 v4_1 v4_2 v4_3 v6 v1 v2 rounds gone g2 tick v0_6 wrecked g6),.vn (.rsl (Qg (Ww c faults v4_1 v4_2 v4_3 v6 v1 v2 rounds gone tick v0_6 wrecked)) 0 ((Ww c faults v4_1 v4_2 v4_3 v6 v1 v2 rounds gone tick v0_6 wrecked).length)),.v (.tup [.agg [.int .i64 (((QC c (Ww c faults v4_1 v4_2 v4_3 v6 v1 v2 rounds gone tick v0_6 wrecked)).1).block),.int .i64 (((QC c (Ww c faults v4_1 v4_2 v4_3 v6 v1 v2 rounds gone tick v0_6 wrecked)).1).ran),.bool (((QC c (Ww c faults v4_1 v4_2 v4_3 v6 v1 v2 rounds gone tick v0_6 wrecked)).1).opn)],.int .i64 ((QC c (Ww c faults v4_1 v4_2 v4_3 v6 v1 v2 rounds gone tick v0_6 wrecked)).2)])]) (obs:=_) hE (by kernel_rfl) Try.func45 Qm (by kernel_rfl) ho hr hb
theorem f45W0 (l:(List Prs)) (c:Cir) (faults:List Flt) (cars:List Car) (gos:List Bool) (tick stopped:Int) (wrecked:Bool) (rounds gone:Int) (g1 g2:Nat) (v6:List Bool) (v0_6:Int) (v1:List Car) (v4_1:(List Said)) (v4_2:(List Said)) (v4_3:(List Said)) (i:Nat) (v2:List Bool) {E:Env} {rv:Unit} {tick2:Int} {stopped2:Int} {wrecked2:Bool} {rounds2:Int} {gone2:Int} {cars2:List Car} {gos2:List Bool} (hE:LentDE Try.prog 45 [.sl 2 g2 0 0 1] (.clos 70 [] [.ptr 3 0 0]) (.tup []) [⟨true,0,1,false,[.rsl (Qc c.blocks) 0 c.blocks.length,.rsl (rowI c.cars) 0 c.cars.length,.rsl (Qi faults) 0 faults.length,.sl 1 g1 0 cars2.length 4,.sl 2 g2 0 gos2.length 1,.int .i64 tick2,.int .i64 stopped2,.bool wrecked2,.int .i64 rounds2,.int .i64 gone2],false⟩,⟨true,g1,4,true,(Qd cars2),true⟩,⟨true,g2,1,true,(rowB gos2),true⟩] E)
 (h:(((i:Int)<(l.length:Int)→(∃ pe:Prs,l[i]?=some pe∧((pe.at_=tick→(((InC c pe.block∧(pe.kind=1 ∨ pe.kind=2 ∨ pe.kind=3))∧RdOk c (⟨v4_1,v4_2,v4_3⟩:Rd4)∧(v1.length≤2147483648∧v2.length=c.blocks.length∧v6.length=c.blocks.length))∧((I6 ((i:Int)+1))∧YY E l c faults cars gos tick stopped wrecked rounds gone g1 g2 ((QT c (⟨v4_1,v4_2,v4_3⟩:Rd4) pe (v1,v2,v6)).2.2) v0_6 ((QT c (⟨v4_1,v4_2,v4_3⟩:Rd4) pe (v1,v2,v6)).1) v4_1 v4_2 v4_3 (i+1) ((QT c (⟨v4_1,v4_2,v4_3⟩:Rd4) pe (v1,v2,v6)).2.1))))∧(¬ (pe.at_=tick)→((I6 ((i:Int)+1))∧YY E l c faults cars gos tick stopped wrecked rounds gone g1 g2 v6 v0_6 v1 v4_1 v4_2 v4_3 (i+1) v2)))))∧(¬ ((i:Int)<(l.length:Int))→(((QP v1∧(∀ x ∈ v1,CarOk c x))∧RdOk c (⟨v4_1,v4_2,v4_3⟩:Rd4)∧(v1.length≤1000000∧v2.length=c.blocks.length∧v6.length=c.blocks.length)∧(0<c.blocks.length∧c.blocks.length≤1000000)∧(-1000000000000≤rounds∧rounds≤1000000000000)∧(-1000000000000≤gone∧gone≤1000000000000))∧(((⟨c,faults,(Qw c (⟨v4_1,v4_2,v4_3⟩:Rd4) v6 v1 c.blocks.length ⟨v1,v2,rounds,gone⟩).cars,(Qw c (⟨v4_1,v4_2,v4_3⟩:Rd4) v6 v1 c.blocks.length ⟨v1,v2,rounds,gone⟩).gos,tick,v0_6,wrecked,(Qw c (⟨v4_1,v4_2,v4_3⟩:Rd4) v6 v1 c.blocks.length ⟨v1,v2,rounds,gone⟩).rounds,(Qw c (⟨v4_1,v4_2,v4_3⟩:Rd4) v6 v1 c.blocks.length ⟨v1,v2,rounds,gone⟩).gone⟩:Trk).cars.length≤2147483648)∧(((∀ x ∈ ((⟨c,faults,(Qw c (⟨v4_1,v4_2,v4_3⟩:Rd4) v6 v1 c.blocks.length ⟨v1,v2,rounds,gone⟩).cars,(Qw c (⟨v4_1,v4_2,v4_3⟩:Rd4) v6 v1 c.blocks.length ⟨v1,v2,rounds,gone⟩).gos,tick,v0_6,wrecked,(Qw c (⟨v4_1,v4_2,v4_3⟩:Rd4) v6 v1 c.blocks.length ⟨v1,v2,rounds,gone⟩).rounds,(Qw c (⟨v4_1,v4_2,v4_3⟩:Rd4) v6 v1 c.blocks.length ⟨v1,v2,rounds,gone⟩).gone⟩:Trk).cars.map Car.spot),InC c x.block)∧((⟨c,faults,(Qw c (⟨v4_1,v4_2,v4_3⟩:Rd4) v6 v1 c.blocks.length ⟨v1,v2,rounds,gone⟩).cars,(Qw c (⟨v4_1,v4_2,v4_3⟩:Rd4) v6 v1 c.blocks.length ⟨v1,v2,rounds,gone⟩).gos,tick,v0_6,wrecked,(Qw c (⟨v4_1,v4_2,v4_3⟩:Rd4) v6 v1 c.blocks.length ⟨v1,v2,rounds,gone⟩).rounds,(Qw c (⟨v4_1,v4_2,v4_3⟩:Rd4) v6 v1 c.blocks.length ⟨v1,v2,rounds,gone⟩).gone⟩:Trk).cars.map Car.spot).length≤2147483648)∧((-1000000000000≤tick∧tick≤1000000000000)∧tick2=(tick+1)∧stopped2=v0_6∧wrecked2=(decide ((QC c ((⟨c,faults,(Qw c (⟨v4_1,v4_2,v4_3⟩:Rd4) v6 v1 c.blocks.length ⟨v1,v2,rounds,gone⟩).cars,(Qw c (⟨v4_1,v4_2,v4_3⟩:Rd4) v6 v1 c.blocks.length ⟨v1,v2,rounds,gone⟩).gos,tick,v0_6,wrecked,(Qw c (⟨v4_1,v4_2,v4_3⟩:Rd4) v6 v1 c.blocks.length ⟨v1,v2,rounds,gone⟩).rounds,(Qw c (⟨v4_1,v4_2,v4_3⟩:Rd4) v6 v1 c.blocks.length ⟨v1,v2,rounds,gone⟩).gone⟩:Trk).cars.map Car.spot)).2≥0))∧rounds2=(Qw c (⟨v4_1,v4_2,v4_3⟩:Rd4) v6 v1 c.blocks.length ⟨v1,v2,rounds,gone⟩).rounds∧gone2=(Qw c (⟨v4_1,v4_2,v4_3⟩:Rd4) v6 v1 c.blocks.length ⟨v1,v2,rounds,gone⟩).gone∧cars2=(Qw c (⟨v4_1,v4_2,v4_3⟩:Rd4) v6 v1 c.blocks.length ⟨v1,v2,rounds,gone⟩).cars∧gos2=(Qw c (⟨v4_1,v4_2,v4_3⟩:Rd4) v6 v1 c.blocks.length ⟨v1,v2,rounds,gone⟩).gos))))))):YY E l c faults cars gos tick stopped wrecked rounds gone g1 g2 v6 v0_6 v1 v4_1 v4_2 v4_3 i v2:=by
 intro g6
 rcases bft (decide ((i:Int)<(l.length:Int))) with hc0 | hc0
 · have h:=h.1 (odt hc0)
   obtain ⟨pe,h1,h⟩:=h
   rcases bft (pe.at_ == tick) with hc1 | hc1
   · have h:=h.1 (eq_of_beq hc1)
     obtain ⟨h2,h⟩:=h
     obtain ⟨q7_2,h⟩:=h
     refine p45_0_0 l c faults cars gos tick stopped wrecked rounds gone g1 g2 v6 v0_6 v1 v4_1 v4_2 v4_3 i v2 g6 pe hE ⟨hc0,(Qe h1),(rp cPrs 3 0 3 h1),(by decide),hc1,(Xl Try.func77 (by kernel_rfl) f77b (press_ok pe c faults v1 v2 tick v0_6 wrecked rounds gone g1 g2 (⟨v4_1,v4_2,v4_3⟩:Rd4) v6 g6 h2)),q7_2,trivial⟩ ?_
     have h:=(h g6)
     simp only [YY,Qad,List.length_set,QaN] at h
     skip
     exact h
   · have h:=h.2 (ne_of_beq_false hc1)
     obtain ⟨q6_2,h⟩:=h
     exact p45_0_1 l c faults cars gos tick stopped wrecked rounds gone g1 g2 v6 v0_6 v1 v4_1 v4_2 v4_3 i v2 g6 pe hE ⟨hc0,(Qe h1),(rp cPrs 3 0 3 h1),(by decide),hc1,q6_2,trivial⟩ (h g6)
 · have h:=h.2 (odf hc0)
   obtain ⟨h1,h⟩:=h
   obtain ⟨h2,h⟩:=h
   obtain ⟨h3,h⟩:=h
   obtain ⟨h4,h⟩:=h
   obtain ⟨qe0,qe1,qe2,qe3,qe4,qe5,qe6⟩:=h
   exact p45_0_2 l c faults cars gos tick stopped wrecked rounds gone g1 g2 v6 v0_6 v1 v4_1 v4_2 v4_3 i v2 g6 hE ⟨hc0,(Xl Try.func78 (by kernel_rfl) f78b (brake_ok c faults v1 v2 tick v0_6 wrecked rounds gone g1 g2 (⟨v4_1,v4_2,v4_3⟩:Rd4) v6 g6 h1)),(by exact (QY Try.func46 (by kernel_rfl) f46b (yM (⟨c,faults,(Qw c (⟨v4_1,v4_2,v4_3⟩:Rd4) v6 v1 c.blocks.length ⟨v1,v2,rounds,gone⟩).cars,(Qw c (⟨v4_1,v4_2,v4_3⟩:Rd4) v6 v1 c.blocks.length ⟨v1,v2,rounds,gone⟩).gos,tick,v0_6,wrecked,(Qw c (⟨v4_1,v4_2,v4_3⟩:Rd4) v6 v1 c.blocks.length ⟨v1,v2,rounds,gone⟩).rounds,(Qw c (⟨v4_1,v4_2,v4_3⟩:Rd4) v6 v1 c.blocks.length ⟨v1,v2,rounds,gone⟩).gone⟩:Trk) h2))),rfl,rfl,(u60 (Wr c ((⟨c,faults,(Qw c (⟨v4_1,v4_2,v4_3⟩:Rd4) v6 v1 c.blocks.length ⟨v1,v2,rounds,gone⟩).cars,(Qw c (⟨v4_1,v4_2,v4_3⟩:Rd4) v6 v1 c.blocks.length ⟨v1,v2,rounds,gone⟩).gos,tick,v0_6,wrecked,(Qw c (⟨v4_1,v4_2,v4_3⟩:Rd4) v6 v1 c.blocks.length ⟨v1,v2,rounds,gone⟩).rounds,(Qw c (⟨v4_1,v4_2,v4_3⟩:Rd4) v6 v1 c.blocks.length ⟨v1,v2,rounds,gone⟩).gone⟩:Trk).cars.map Car.spot) h3)),(by decide),(by decide),(VI c faults ((Qw c (⟨v4_1,v4_2,v4_3⟩:Rd4) v6 v1 c.blocks.length ⟨v1,v2,rounds,gone⟩).cars) ((Qw c (⟨v4_1,v4_2,v4_3⟩:Rd4) v6 v1 c.blocks.length ⟨v1,v2,rounds,gone⟩).gos) tick v0_6 (decide ((QC c ((⟨c,faults,(Qw c (⟨v4_1,v4_2,v4_3⟩:Rd4) v6 v1 c.blocks.length ⟨v1,v2,rounds,gone⟩).cars,(Qw c (⟨v4_1,v4_2,v4_3⟩:Rd4) v6 v1 c.blocks.length ⟨v1,v2,rounds,gone⟩).gos,tick,v0_6,wrecked,(Qw c (⟨v4_1,v4_2,v4_3⟩:Rd4) v6 v1 c.blocks.length ⟨v1,v2,rounds,gone⟩).rounds,(Qw c (⟨v4_1,v4_2,v4_3⟩:Rd4) v6 v1 c.blocks.length ⟨v1,v2,rounds,gone⟩).gone⟩:Trk).cars.map Car.spot)).2≥0)) ((Qw c (⟨v4_1,v4_2,v4_3⟩:Rd4) v6 v1 c.blocks.length ⟨v1,v2,rounds,gone⟩).rounds) ((Qw c (⟨v4_1,v4_2,v4_3⟩:Rd4) v6 v1 c.blocks.length ⟨v1,v2,rounds,gone⟩).gone) g1 g2 h4),trivial⟩ (by try rfl) (by rw [qe0,qe1,qe2,qe3,qe4,qe5,qe6]; all_goals (first | rfl | (simp only [List.length_set]; done) | (simp only [List.length_set]; rfl)))
theorem step_ok (l:List Prs) (c:Cir) (faults:List Flt) (cars:List Car) (gos:List Bool) (tick stopped:Int) (wrecked:Bool) (rounds gone:Int) (g1 g2:Nat) (B:Int)
 (hh:TOk (⟨c,faults,cars,gos,tick,stopped,wrecked,rounds,gone⟩:Trk) B∧B≤100000∧Qaq c l∧l.length≤2147483648) :
 Lent Try.prog 45 [.ptr 0 0 0,.rsl (Qs l) 0 l.length] [⟨true,0,1,false,[.rsl (Qc c.blocks) 0 c.blocks.length,.rsl (rowI c.cars) 0 c.cars.length,.rsl (Qi faults) 0 faults.length,.sl 1 g1 0 cars.length 4,.sl 2 g2 0 gos.length 1,.int .i64 tick,.int .i64 stopped,.bool wrecked,.int .i64 rounds,.int .i64 gone],false⟩,⟨true,g1,4,true,(Qd cars),true⟩,⟨true,g2,1,true,(rowB gos),true⟩] (.tup []) [⟨true,0,1,false,[.rsl (Qc c.blocks) 0 c.blocks.length,.rsl (rowI c.cars) 0 c.cars.length,.rsl (Qi faults) 0 faults.length,.sl 1 g1 0 (Qu (⟨c,faults,cars,gos,tick,stopped,wrecked,rounds,gone⟩:Trk) l).cars.length 4,.sl 2 g2 0 (Qu (⟨c,faults,cars,gos,tick,stopped,wrecked,rounds,gone⟩:Trk) l).gos.length 1,.int .i64 (Qu (⟨c,faults,cars,gos,tick,stopped,wrecked,rounds,gone⟩:Trk) l).tick,.int .i64 (Qu (⟨c,faults,cars,gos,tick,stopped,wrecked,rounds,gone⟩:Trk) l).stopped,.bool (Qu (⟨c,faults,cars,gos,tick,stopped,wrecked,rounds,gone⟩:Trk) l).wrecked,.int .i64 (Qu (⟨c,faults,cars,gos,tick,stopped,wrecked,rounds,gone⟩:Trk) l).rounds,.int .i64 (Qu (⟨c,faults,cars,gos,tick,stopped,wrecked,rounds,gone⟩:Trk) l).gone],false⟩,⟨true,g1,4,true,(Qd (Qu (⟨c,faults,cars,gos,tick,stopped,wrecked,rounds,gone⟩:Trk) l).cars),true⟩,⟨true,g2,1,true,(rowB (Qu (⟨c,faults,cars,gos,tick,stopped,wrecked,rounds,gone⟩:Trk) l).gos),true⟩]:=ym _ Try.func45 f45b rfl rfl fun E hE=>by
 obtain ⟨h,hB,hprs,hl⟩:=hh
 have hnb:=h.nb
 have hlc:=h.lc
 have htk:=h.tk
 have hlg:=h.lg
 simp only at hnb hlc htk hlg
 refine f45W l c faults cars gos tick stopped wrecked rounds gone g1 g2 (rv:=()) hE fun E2 hE2=>?_
 refine ⟨fun hw=>⟨⟨by omega,by omega⟩,?_⟩,fun hw=>?_⟩
 · rw [Qu,if_pos (show ((⟨c,faults,cars,gos,tick,stopped,wrecked,rounds,gone⟩:Trk)).wrecked=true from hw)]
   exact ⟨rfl,rfl,rfl,rfl,rfl,rfl,rfl⟩
 -- the presses
 have loop:∀ st,Yf (⟨c,faults,cars,gos,tick,stopped,wrecked,rounds,gone⟩:Trk)=st→st<0→∀ (d i:Nat) (s:List Car × List Bool × List Bool),i+d=l.length→s=(l.take i).foldl (Xs c (Qj (midT (⟨c,faults,cars,gos,tick,stopped,wrecked,rounds,gone⟩:Trk))) tick) (QM (⟨c,faults,cars,gos,tick,stopped,wrecked,rounds,gone⟩:Trk),gos,List.replicate c.blocks.length false) →
  YY E2 l c faults cars gos tick stopped wrecked rounds gone g1 g2 s.2.2 st s.1 (Qj (midT (⟨c,faults,cars,gos,tick,stopped,wrecked,rounds,gone⟩:Trk))).k1 (Qj (midT (⟨c,faults,cars,gos,tick,stopped,wrecked,rounds,gone⟩:Trk))).k2 (Qj (midT (⟨c,faults,cars,gos,tick,stopped,wrecked,rounds,gone⟩:Trk))).k3 i s.2.1:=by
  intro st hst hlt d
  induction d with
  | zero =>
   intro i s hi hs
   rw [show i=l.length by omega,List.take_length] at hs
   have hs':s=QI (⟨c,faults,cars,gos,tick,stopped,wrecked,rounds,gone⟩:Trk) l:=hs
   have hp:=qx (l:=l) h hw
   rw [← hs'] at hp
   have ha:actT (⟨c,faults,cars,gos,tick,stopped,wrecked,rounds,gone⟩:Trk) l=Qw c (Qj (midT (⟨c,faults,cars,gos,tick,stopped,wrecked,rounds,gone⟩:Trk))) s.2.2 s.1 c.blocks.length ⟨s.1,s.2.1,rounds,gone⟩:=by
    rw [actT,if_pos (by rw [hst]; exact hlt),Ve,← hs']
   have hin:BrkIn c s.1 (1000000*B) ⟨s.1,s.2.1,rounds,gone⟩:=⟨rfl,hp.lg,by have:=h.rd; simp only at this ⊢; omega,by have:=h.gn; simp only at this ⊢; omega⟩
   have hall:=hin.all (rd:=Qj (midT (⟨c,faults,cars,gos,tick,stopped,wrecked,rounds,gone⟩:Trk))) (ops:=s.2.2) (b:=c.blocks.length)
   have hcb:=yB (rd:=Qj (midT (⟨c,faults,cars,gos,tick,stopped,wrecked,rounds,gone⟩:Trk))) (ops:=s.2.2) (cars0:=s.1) (b:=c.blocks.length) (s:=⟨s.1,s.2.1,rounds,gone⟩) hnb.1 (show 0≤B+1 by omega) hp.car
   have hr:=h.rd; have hg:=h.gn
   simp only at hr hg
   have hlcar:=hp.lc
   have hla:=hall.lc
   simp only at hlcar
   refine f45W0 l c faults cars gos tick stopped wrecked rounds gone g1 g2 _ _ _ _ _ _ i _ (rv:=()) hE2 ⟨fun h=>by omega,fun _=>⟨⟨⟨hp.ns,fun x hx=>(hp.car x hx).ok (by omega)⟩,qH (T:=midT (⟨c,faults,cars,gos,tick,stopped,wrecked,rounds,gone⟩:Trk)),⟨by omega,hp.lg,hp.lo⟩,hnb,by omega,by omega⟩,Nat.le_trans (Nat.le_of_eq hall.lc) (by omega),⟨fun x hx=>?_,by rw [List.length_map]; exact Nat.le_trans (Nat.le_of_eq hall.lc) (by omega)⟩,⟨by omega,by omega⟩,?_⟩⟩
   · obtain ⟨y,hy,rfl⟩:=List.mem_map.1 hx
     exact (hcb y hy).inC
   · rw [Qu,if_neg (show ¬ ((⟨c,faults,cars,gos,tick,stopped,wrecked,rounds,gone⟩:Trk)).wrecked=true by simp only [hw]; simp),ha,hst]
     exact ⟨rfl,rfl,rfl,rfl,rfl,rfl,rfl⟩
  | succ d ih =>
   intro i s hi hs
   have hx:l[i]?=some l[i]:=List.getElem?_eq_getElem (by omega)
   have hpi:=hprs _ (List.getElem_mem (show i<l.length by omega))
   generalize l[i]=p at hx hpi
   have hp:PresOk c (B+1) cars.length s:=by
    rw [hs]
    exact PresOk.fold ⟨QX,hlg,by simp,Yi h,YN (h.ns hw)⟩
   have nx:=fun s' (e:s'=Xs c (Qj (midT (⟨c,faults,cars,gos,tick,stopped,wrecked,rounds,gone⟩:Trk))) tick s p)=>ih (i+1) s' (by omega) (by rw [Vh hx,← hs]; exact e)
   have hlcar:=hp.lc
   refine f45W0 l c faults cars gos tick stopped wrecked rounds gone g1 g2 _ _ _ _ _ _ i _ (rv:=()) hE2 ⟨fun _=>⟨p,hx,fun e=>⟨⟨hpi,qH (T:=midT (⟨c,faults,cars,gos,tick,stopped,wrecked,rounds,gone⟩:Trk)),by omega,hp.lg,hp.lo⟩,by omega,nx _ ?_⟩,fun e=>⟨by omega,nx s ?_⟩⟩,fun h=>by omega⟩
   · rw [Xs,if_pos e]
   · rw [Xs,if_neg e]
 refine ⟨fun ht=>?_,fun ht=>?_⟩
 · have hroll:QM (⟨c,faults,cars,gos,tick,stopped,wrecked,rounds,gone⟩:Trk)=(cars.map (Qo c)):=by rw [QM,if_pos (show ((⟨c,faults,cars,gos,tick,stopped,wrecked,rounds,gone⟩:Trk)).tick > 0 from ht)]
   have hmid:(⟨c,faults,(cars.map (Qo c)),gos,tick,stopped,wrecked,rounds,gone⟩:Trk)=midT (⟨c,faults,cars,gos,tick,stopped,wrecked,rounds,gone⟩:Trk):=by rw [midT,hroll]
   have hlen:((cars.map (Qo c))).length=cars.length:=by first | rfl | (have:=QX (T:=(⟨c,faults,cars,gos,tick,stopped,wrecked,rounds,gone⟩:Trk)); rw [hroll] at this; exact this)
   have hcar:∀ x ∈ (cars.map (Qo c)),CarB c (B+1) x:=by have:=Yi h; rw [hroll] at this; exact this
   have htin:TrkIn (⟨c,faults,(cars.map (Qo c)),gos,tick,stopped,wrecked,rounds,gone⟩:Trk):=⟨⟨by simp only [hlen]; omega,fun x hx=>(hcar x hx).inC⟩,h.flt,by have:=h.lf; simpa using this,by simp only; omega⟩
   have hst:∀ y,(if stopped<0 then (if QL (Qj (midT (⟨c,faults,cars,gos,tick,stopped,wrecked,rounds,gone⟩:Trk)))=true then tick else stopped) else stopped)=y→Yf (⟨c,faults,cars,gos,tick,stopped,wrecked,rounds,gone⟩:Trk)=y:=fun y h=>h
   have fin:∀ st,Yf (⟨c,faults,cars,gos,tick,stopped,wrecked,rounds,gone⟩:Trk)=st→¬ st<0→(((⟨c,faults,(cars.map (Qo c)),gos,tick,st,wrecked,rounds,gone⟩:Trk).cars.length≤2147483648)∧(((∀ x ∈ ((⟨c,faults,(cars.map (Qo c)),gos,tick,st,wrecked,rounds,gone⟩:Trk).cars.map Car.spot),InC c x.block)∧((⟨c,faults,(cars.map (Qo c)),gos,tick,st,wrecked,rounds,gone⟩:Trk).cars.map Car.spot).length≤2147483648)∧((-1000000000000≤tick∧tick≤1000000000000)∧(Qu (⟨c,faults,cars,gos,tick,stopped,wrecked,rounds,gone⟩:Trk) l).tick=(tick+1)∧(Qu (⟨c,faults,cars,gos,tick,stopped,wrecked,rounds,gone⟩:Trk) l).stopped=st∧(Qu (⟨c,faults,cars,gos,tick,stopped,wrecked,rounds,gone⟩:Trk) l).wrecked=(decide ((QC c ((⟨c,faults,(cars.map (Qo c)),gos,tick,st,wrecked,rounds,gone⟩:Trk).cars.map Car.spot)).2≥0))∧(Qu (⟨c,faults,cars,gos,tick,stopped,wrecked,rounds,gone⟩:Trk) l).rounds=rounds∧(Qu (⟨c,faults,cars,gos,tick,stopped,wrecked,rounds,gone⟩:Trk) l).gone=gone∧(Qu (⟨c,faults,cars,gos,tick,stopped,wrecked,rounds,gone⟩:Trk) l).cars=(cars.map (Qo c))∧(Qu (⟨c,faults,cars,gos,tick,stopped,wrecked,rounds,gone⟩:Trk) l).gos=gos))):=fun st e1 e2=>by
    have ha:actT (⟨c,faults,cars,gos,tick,stopped,wrecked,rounds,gone⟩:Trk) l=⟨(cars.map (Qo c)),gos,rounds,gone⟩:=by rw [actT,if_neg (by rw [e1]; exact e2),hroll]
    refine ⟨by simp only [hlen]; omega,⟨fun x hx=>?_,by simp only [List.length_map,hlen]; omega⟩,⟨by omega,by omega⟩,?_⟩
    · obtain ⟨y,hy,rfl⟩:=List.mem_map.1 hx
      exact (hcar y hy).inC
    · rw [Qu,if_neg (show ¬ ((⟨c,faults,cars,gos,tick,stopped,wrecked,rounds,gone⟩:Trk)).wrecked=true by simp only [hw]; simp),ha,e1]
      exact ⟨rfl,rfl,rfl,rfl,rfl,rfl,rfl⟩
   have loop0:∀ st,Yf (⟨c,faults,cars,gos,tick,stopped,wrecked,rounds,gone⟩:Trk)=st→st<0→YY E2 l c faults cars gos tick stopped wrecked rounds gone g1 g2 (List.replicate c.blocks.length false) st ((cars.map (Qo c))) (Qj (⟨c,faults,(cars.map (Qo c)),gos,tick,stopped,wrecked,rounds,gone⟩:Trk)).k1 (Qj (⟨c,faults,(cars.map (Qo c)),gos,tick,stopped,wrecked,rounds,gone⟩:Trk)).k2 (Qj (⟨c,faults,(cars.map (Qo c)),gos,tick,stopped,wrecked,rounds,gone⟩:Trk)).k3 0 gos:=fun st e1 e2=>by
    have:=loop st e1 e2 l.length 0 _ (by omega) rfl
    simp only [List.take_zero,List.foldl_nil] at this
    rw [hroll] at this
    rw [hmid]; exact this
   have hlk:∀ x ∈ [([]:List Said),(Qj (⟨c,faults,(cars.map (Qo c)),gos,tick,stopped,wrecked,rounds,gone⟩:Trk)).k1,(Qj (⟨c,faults,(cars.map (Qo c)),gos,tick,stopped,wrecked,rounds,gone⟩:Trk)).k2,(Qj (⟨c,faults,(cars.map (Qo c)),gos,tick,stopped,wrecked,rounds,gone⟩:Trk)).k3],x.length≤9223372036854775807:=by
    have hl:=qH (T:=(⟨c,faults,(cars.map (Qo c)),gos,tick,stopped,wrecked,rounds,gone⟩:Trk))
    have h1:=hl.l1; have h2:=hl.l2; have h3:=hl.l3
    simp only at h1 h2 h3
    intro x hx
    simp only [List.mem_cons,List.not_mem_nil,or_false] at hx
    rcases hx with rfl | rfl | rfl | rfl
    · simp
    · omega
    · omega
    · omega
   refine ⟨⟨fun x hx=>(h.car x hx).ok (by omega),by omega⟩,htin,fun hs=>⟨⟨by simp,hlk⟩,fun hsp=>⟨fun ht=>⟨by omega,loop0 tick (hst _ ?_) ht⟩,fun ht=>fin tick (hst _ ?_) ht⟩,fun hsp=>⟨fun ht=>⟨by omega,loop0 stopped (hst _ ?_) ht⟩,fun ht=>fin stopped (hst _ ?_) ht⟩⟩,fun hs=>⟨fun ht=>absurd ht hs,fun ht=>fin stopped (hst _ ?_) ht⟩⟩
   · have hsp':QL (Qj (⟨c,faults,(cars.map (Qo c)),gos,tick,stopped,wrecked,rounds,gone⟩:Trk))=true:=hsp
     rw [if_pos hs,← hmid,if_pos hsp']
   · have hsp':QL (Qj (⟨c,faults,(cars.map (Qo c)),gos,tick,stopped,wrecked,rounds,gone⟩:Trk))=true:=hsp
     rw [if_pos hs,← hmid,if_pos hsp']
   · have hsp':QL (Qj (⟨c,faults,(cars.map (Qo c)),gos,tick,stopped,wrecked,rounds,gone⟩:Trk))=false:=hsp
     rw [if_pos hs,← hmid,if_neg (by rw [hsp']; simp)]
   · have hsp':QL (Qj (⟨c,faults,(cars.map (Qo c)),gos,tick,stopped,wrecked,rounds,gone⟩:Trk))=false:=hsp
     rw [if_pos hs,← hmid,if_neg (by rw [hsp']; simp)]
   · rw [if_neg hs]
 · have hroll:QM (⟨c,faults,cars,gos,tick,stopped,wrecked,rounds,gone⟩:Trk)=cars:=by rw [QM,if_neg (show ¬ ((⟨c,faults,cars,gos,tick,stopped,wrecked,rounds,gone⟩:Trk)).tick > 0 from ht)]
   have hmid:(⟨c,faults,cars,gos,tick,stopped,wrecked,rounds,gone⟩:Trk)=midT (⟨c,faults,cars,gos,tick,stopped,wrecked,rounds,gone⟩:Trk):=by rw [midT,hroll]
   have hlen:(cars).length=cars.length:=by first | rfl | (have:=QX (T:=(⟨c,faults,cars,gos,tick,stopped,wrecked,rounds,gone⟩:Trk)); rw [hroll] at this; exact this)
   have hcar:∀ x ∈ cars,CarB c (B+1) x:=by have:=Yi h; rw [hroll] at this; exact this
   have htin:TrkIn (⟨c,faults,cars,gos,tick,stopped,wrecked,rounds,gone⟩:Trk):=⟨⟨by simp only [hlen]; omega,fun x hx=>(hcar x hx).inC⟩,h.flt,by have:=h.lf; simpa using this,by simp only; omega⟩
   have hst:∀ y,(if stopped<0 then (if QL (Qj (midT (⟨c,faults,cars,gos,tick,stopped,wrecked,rounds,gone⟩:Trk)))=true then tick else stopped) else stopped)=y→Yf (⟨c,faults,cars,gos,tick,stopped,wrecked,rounds,gone⟩:Trk)=y:=fun y h=>h
   have fin:∀ st,Yf (⟨c,faults,cars,gos,tick,stopped,wrecked,rounds,gone⟩:Trk)=st→¬ st<0→(((⟨c,faults,cars,gos,tick,st,wrecked,rounds,gone⟩:Trk).cars.length≤2147483648)∧(((∀ x ∈ ((⟨c,faults,cars,gos,tick,st,wrecked,rounds,gone⟩:Trk).cars.map Car.spot),InC c x.block)∧((⟨c,faults,cars,gos,tick,st,wrecked,rounds,gone⟩:Trk).cars.map Car.spot).length≤2147483648)∧((-1000000000000≤tick∧tick≤1000000000000)∧(Qu (⟨c,faults,cars,gos,tick,stopped,wrecked,rounds,gone⟩:Trk) l).tick=(tick+1)∧(Qu (⟨c,faults,cars,gos,tick,stopped,wrecked,rounds,gone⟩:Trk) l).stopped=st∧(Qu (⟨c,faults,cars,gos,tick,stopped,wrecked,rounds,gone⟩:Trk) l).wrecked=(decide ((QC c ((⟨c,faults,cars,gos,tick,st,wrecked,rounds,gone⟩:Trk).cars.map Car.spot)).2≥0))∧(Qu (⟨c,faults,cars,gos,tick,stopped,wrecked,rounds,gone⟩:Trk) l).rounds=rounds∧(Qu (⟨c,faults,cars,gos,tick,stopped,wrecked,rounds,gone⟩:Trk) l).gone=gone∧(Qu (⟨c,faults,cars,gos,tick,stopped,wrecked,rounds,gone⟩:Trk) l).cars=cars∧(Qu (⟨c,faults,cars,gos,tick,stopped,wrecked,rounds,gone⟩:Trk) l).gos=gos))):=fun st e1 e2=>by
    have ha:actT (⟨c,faults,cars,gos,tick,stopped,wrecked,rounds,gone⟩:Trk) l=⟨cars,gos,rounds,gone⟩:=by rw [actT,if_neg (by rw [e1]; exact e2),hroll]
    refine ⟨by simp only [hlen]; omega,⟨fun x hx=>?_,by simp only [List.length_map,hlen]; omega⟩,⟨by omega,by omega⟩,?_⟩
    · obtain ⟨y,hy,rfl⟩:=List.mem_map.1 hx
      exact (hcar y hy).inC
    · rw [Qu,if_neg (show ¬ ((⟨c,faults,cars,gos,tick,stopped,wrecked,rounds,gone⟩:Trk)).wrecked=true by simp only [hw]; simp),ha,e1]
      exact ⟨rfl,rfl,rfl,rfl,rfl,rfl,rfl⟩
   have loop0:∀ st,Yf (⟨c,faults,cars,gos,tick,stopped,wrecked,rounds,gone⟩:Trk)=st→st<0→YY E2 l c faults cars gos tick stopped wrecked rounds gone g1 g2 (List.replicate c.blocks.length false) st (cars) (Qj (⟨c,faults,cars,gos,tick,stopped,wrecked,rounds,gone⟩:Trk)).k1 (Qj (⟨c,faults,cars,gos,tick,stopped,wrecked,rounds,gone⟩:Trk)).k2 (Qj (⟨c,faults,cars,gos,tick,stopped,wrecked,rounds,gone⟩:Trk)).k3 0 gos:=fun st e1 e2=>by
    have:=loop st e1 e2 l.length 0 _ (by omega) rfl
    simp only [List.take_zero,List.foldl_nil] at this
    rw [hroll] at this
    rw [hmid]; exact this
   have hlk:∀ x ∈ [([]:List Said),(Qj (⟨c,faults,cars,gos,tick,stopped,wrecked,rounds,gone⟩:Trk)).k1,(Qj (⟨c,faults,cars,gos,tick,stopped,wrecked,rounds,gone⟩:Trk)).k2,(Qj (⟨c,faults,cars,gos,tick,stopped,wrecked,rounds,gone⟩:Trk)).k3],x.length≤9223372036854775807:=by
    have hl:=qH (T:=(⟨c,faults,cars,gos,tick,stopped,wrecked,rounds,gone⟩:Trk))
    have h1:=hl.l1; have h2:=hl.l2; have h3:=hl.l3
    simp only at h1 h2 h3
    intro x hx
    simp only [List.mem_cons,List.not_mem_nil,or_false] at hx
    rcases hx with rfl | rfl | rfl | rfl
    · simp
    · omega
    · omega
    · omega
   refine ⟨ htin,fun hs=>⟨⟨by simp,hlk⟩,fun hsp=>⟨fun ht=>⟨by omega,loop0 tick (hst _ ?_) ht⟩,fun ht=>fin tick (hst _ ?_) ht⟩,fun hsp=>⟨fun ht=>⟨by omega,loop0 stopped (hst _ ?_) ht⟩,fun ht=>fin stopped (hst _ ?_) ht⟩⟩,fun hs=>⟨fun ht=>absurd ht hs,fun ht=>fin stopped (hst _ ?_) ht⟩⟩
   · have hsp':QL (Qj (⟨c,faults,cars,gos,tick,stopped,wrecked,rounds,gone⟩:Trk))=true:=hsp
     rw [if_pos hs,← hmid,if_pos hsp']
   · have hsp':QL (Qj (⟨c,faults,cars,gos,tick,stopped,wrecked,rounds,gone⟩:Trk))=true:=hsp
     rw [if_pos hs,← hmid,if_pos hsp']
   · have hsp':QL (Qj (⟨c,faults,cars,gos,tick,stopped,wrecked,rounds,gone⟩:Trk))=false:=hsp
     rw [if_pos hs,← hmid,if_neg (by rw [hsp']; simp)]
   · have hsp':QL (Qj (⟨c,faults,cars,gos,tick,stopped,wrecked,rounds,gone⟩:Trk))=false:=hsp
     rw [if_pos hs,← hmid,if_neg (by rw [hsp']; simp)]
   · rw [if_neg hs]
end Go.Proofs.Ytgdfkjjgdkejfaa
namespace Go.Proofs.Ytgdfkjjgdkejfaa
open Go Ax
open Go.Proofs
theorem Qap {nb:Nat} {l:List Int}:∀ {n:Nat},n≤l.length→YU nb l n=true→(∀ i,i<n→0≤l.getD i 0∧l.getD i 0<nb)∧∀ i j,i<j→j<n→l.getD i 0 ≠ l.getD j 0
 | 0,_,_=>⟨fun i h=>by omega,fun i j h h'=>by omega⟩
 | n+1,hn,h=>by
  simp only [YU,Bool.and_eq_true,Bool.not_eq_true'] at h
  obtain ⟨⟨h1,h2⟩,h3⟩:=h
  obtain ⟨a,b⟩:=Qap (by omega) h1
  have hw:=Xj.1 h2
  refine ⟨fun i hi=>?_,fun i j hij hj=>?_⟩
  · rcases Nat.lt_or_ge i n with h4 | h4
    · exact a i h4
    · rw [show i=n by omega]; omega
  · rcases Nat.lt_or_ge j n with h4 | h4
    · exact b i j hij h4
    · have e:j=n:=by omega
      subst e
      have:=List.any_eq_false.1 h3 (l.getD i 0) (List.mem_of_getElem? (i:=i) (by rw [List.getElem?_take,if_pos hij]; exact getD_some (by omega)))
      simp only [beq_iff_eq] at this
      exact fun h=>this h.symm
structure ChkIn (c:Cir):Prop where
 nb:2≤c.blocks.length∧c.blocks.length≤12
 nc:c.cars.length≤10
 bk:∀ b ∈ c.blocks,(1≤b.time∧b.time≤30)∧(0≤b.hold∧b.hold≤30)∧(b.station=false→b.hold=0)
 cin:∀ i,i<c.cars.length→0≤c.cars.getD i 0∧c.cars.getD i 0<c.blocks.length
 ne:∀ i j,i<j→j<c.cars.length→c.cars.getD i 0 ≠ c.cars.getD j 0
theorem chk_in {c:Cir} (h:QE c=0):ChkIn c:=by
 have h:=checkC_eq.1 h
 simp only [VK,Bool.and_eq_true,decide_eq_true_eq] at h
 obtain ⟨⟨⟨h1,h2⟩,h3⟩,h4⟩:=h
 have h1:=Xj.1 h1
 obtain ⟨a,b⟩:=Qap (Nat.le_refl _) h4
 refine ⟨by omega,h2,fun x hx=>?_,a,b⟩
 have:=List.all_eq_true.1 h3 x hx
 simp only [bkOk,Bool.and_eq_true] at this
 obtain ⟨⟨q1,q2⟩,q3⟩:=this
 refine ⟨by have:=Xj.1 q1; omega,by have:=Xj.1 q2; omega,fun h=>?_⟩
 rw [h] at q3; simpa using q3
structure PlayIn (c:Cir) (ticks:Int) (l:List Prs) (f:List Flt):Prop where
 chk:ChkIn c
 tk:0≤ticks∧ticks≤500
 nl:l.length≤200
 pr:∀ p ∈ l,(0≤p.at_∧p.at_≤ticks - 1)∧(1≤p.kind∧p.kind≤3)∧(0≤p.block∧p.block≤(c.blocks.length:Int) - 1)
 nf:f.length≤5
 fl:∀ x ∈ f,(0≤x.frm∧x.frm≤500)∧(1≤x.kind∧x.kind≤3)∧(0≤x.chan∧x.chan≤1)∧(0≤x.block∧x.block≤(c.blocks.length:Int) - 1)∧(0≤x.val∧x.val≤1)
theorem play_in {c:Cir} {ticks:Int} {l:List Prs} {f:List Flt} (h:Xf c ticks l f=0):QE c=0∧PlayIn c ticks l f:=by
 unfold Xf at h
 split at h
 · rename_i h0
   split at h
   · rename_i h1
     split at h
     · cases h
     · rename_i h2
       split at h
       · cases h
       · rename_i h3
         split at h
         · cases h
         · rename_i h4
           split at h
           · cases h
           · rename_i h5
             have h1:=Xj.1 h1
             refine ⟨h0,chk_in h0,by omega,by omega,fun p hp=>?_,by omega,fun x hx=>?_⟩
             · have:=List.any_eq_false.1 (Bool.eq_false_iff.2 h3) p hp
               simp only [Bool.not_eq_true',Bool.not_eq_false,XQ,Bool.and_eq_true] at this
               obtain ⟨⟨q1,q2⟩,q3⟩:=this
               have q1:=Xj.1 q1; have q2:=Xj.1 q2; have q3:=Xj.1 q3
               omega
             · have:=List.any_eq_false.1 (Bool.eq_false_iff.2 h5) x hx
               simp only [Bool.not_eq_true',Bool.not_eq_false,Yd,Bool.and_eq_true] at this
               obtain ⟨⟨⟨⟨q1,q2⟩,q3⟩,q4⟩,q5⟩:=this
               have q1:=Xj.1 q1; have q2:=Xj.1 q2; have q3:=Xj.1 q3; have q4:=Xj.1 q4; have q5:=Xj.1 q5
               omega
   · cases h
 · exact absurd h ‹_›
/-- A track before the first tick. -/
def newT (c:Cir) (f:List Flt):Trk:=⟨c,f,c.cars.map fun b=>⟨⟨b,(bkAt c b).time,false⟩,0⟩,List.replicate c.blocks.length false,0,-1,false,0,0⟩
def NewIn (c:Cir):Prop:=c.blocks.length≤1000000∧c.cars.length≤1000000∧∀ b ∈ c.cars,InC c b
theorem ChkIn.new {c:Cir} (h:ChkIn c):NewIn c:=⟨by have:=h.nb; omega,by have:=h.nc; omega,fun b hb=>by
 obtain ⟨i,hi⟩:=List.getElem?_of_mem hb
 have:=h.cin i (List.getElem?_eq_some_iff.1 hi).1
 rw [getD_of hi] at this
 exact ⟨this.1,by omega⟩⟩
def qp (T:Trk) (l:List Prs):Prop:=∃ B,TOk T B∧B≤100000∧Qaq T.c l∧l.length≤2147483648
def runT (T:Trk) (l:Nat→List Prs):Nat→Trk
 | 0=>T
 | n+1=>Qu (runT T l n) (l n)
theorem step_c {T:Trk} {l:List Prs}:(Qu T l).c=T.c:=by unfold Qu; split <;> rfl
theorem step_f {T:Trk} {l:List Prs}:(Qu T l).faults=T.faults:=by unfold Qu; split <;> rfl
theorem step_t {T:Trk} {l:List Prs}:(Qu T l).tick=T.tick+1:=by unfold Qu; split <;> rfl
theorem run_c {T:Trk} {l:Nat→List Prs}:∀ {n:Nat},(runT T l n).c=T.c
 | 0=>rfl
 | n+1=>by rw [runT,step_c,run_c]
theorem run_f {T:Trk} {l:Nat→List Prs}:∀ {n:Nat},(runT T l n).faults=T.faults
 | 0=>rfl
 | n+1=>by rw [runT,step_f,run_f]
theorem run_t {T:Trk} {l:Nat→List Prs}:∀ {n:Nat},(runT T l n).tick=T.tick+n
 | 0=>by simp [runT]
 | n+1=>by rw [runT,step_t,run_t]; omega
theorem new_tok {c:Cir} {f:List Flt} (h:ChkIn c) (hf:f.length≤5) (hc:∀ x ∈ f,x.chan=0 ∨ x.chan=1):TOk (newT c f) 30:=by
 have hn:=h.new
 refine ⟨by have:=h.nb; simp only [newT]; omega,by have:=h.nc; simp only [newT,List.length_map]; omega,by simp only [newT]; omega,hc,by simp [newT],fun x hx=>?_,by simp [newT],by simp [newT],by simp [newT],fun _ i j hij hj=>?_⟩
 · obtain ⟨b,hb,rfl⟩:=List.mem_map.1 hx
   have hin:=hn.2.2 b hb
   have:=h.bk _ (List.mem_of_getElem? (yC hin))
   exact ⟨hin,by simp only; omega,by simp only; omega⟩
 · simp only [newT,List.length_map] at hj ⊢
   rw [Xe (d:=0) (by omega),Xe (d:=0) hj]
   exact h.ne i j hij hj
theorem run_tok {T:Trk} {B:Int} {l:Nat→List Prs} (h:TOk T B):∀ {n:Nat},TOk (runT T l n) (B+n)
 | 0=>by rw [show B+((0:Nat):Int)=B by omega]; exact h
 | n+1=>by
  rw [show B+((n+1:Nat):Int)=B+n+1 by omega]
  exact step_tok (run_tok h)
theorem PlayIn.tok {c:Cir} {ticks:Int} {l:List Prs} {f:List Flt} (h:PlayIn c ticks l f):TOk (newT c f) 30:=new_tok h.chk h.nf fun x hx=>by have:=(h.fl x hx).2.2.1; omega
theorem PlayIn.prs {c:Cir} {ticks:Int} {l:List Prs} {f:List Flt} (h:PlayIn c ticks l f):Qaq c l:=fun p hp=>by
 have:=h.pr p hp
 exact ⟨⟨this.2.2.1,by omega⟩,by omega⟩
/-- What is played: the track before each tick. -/
def Xq (c:Cir) (f:List Flt) (l:List Prs) (n:Nat):Trk:=runT (newT c f) (fun _=>l) n
def XH (c:Cir) (ticks:Int) (l:List Prs) (f:List Flt):List (List Spt) × Int :=
 if Xf c ticks l f=0 then ((List.range (Int.toNat ticks)).map fun i=>(Xq c f l (i+1)).cars.map Car.spot,0) else ([],Xf c ticks l f)
def Vb (c:Cir) (ticks:Int) (l:List Prs) (f:List Flt):Int × Int :=
 if Xf c ticks l f=0 then ((Xq c f l (Int.toNat ticks)).stopped,0) else (0,Xf c ticks l f)
theorem Qbr {T:Trk} {c:Cir} {f:List Flt} (hc:T.c=c) (hf:T.faults=f):(⟨c,f,T.cars,T.gos,T.tick,T.stopped,T.wrecked,T.rounds,T.gone⟩:Trk)=T:=by subst hc; subst hf; rfl
theorem Qbu (l:List Prs) (c:Cir) (faults:List Flt) (cars:List Car) (gos:List Bool) (tick stopped:Int) (wrecked:Bool) (rounds gone:Int) (g1 g2:Nat) (hh:qp (⟨c,faults,cars,gos,tick,stopped,wrecked,rounds,gone⟩:Trk) l) :
 Lent Try.prog 45 [.ptr 0 0 0,.rsl (Qs l) 0 l.length] [⟨true,0,1,false,[.rsl (Qc c.blocks) 0 c.blocks.length,.rsl (rowI c.cars) 0 c.cars.length,.rsl (Qi faults) 0 faults.length,.sl 1 g1 0 cars.length 4,.sl 2 g2 0 gos.length 1,.int .i64 tick,.int .i64 stopped,.bool wrecked,.int .i64 rounds,.int .i64 gone],false⟩,⟨true,g1,4,true,(Qd cars),true⟩,⟨true,g2,1,true,(rowB gos),true⟩] (.tup []) [⟨true,0,1,false,[.rsl (Qc c.blocks) 0 c.blocks.length,.rsl (rowI c.cars) 0 c.cars.length,.rsl (Qi faults) 0 faults.length,.sl 1 g1 0 (Qu (⟨c,faults,cars,gos,tick,stopped,wrecked,rounds,gone⟩:Trk) l).cars.length 4,.sl 2 g2 0 (Qu (⟨c,faults,cars,gos,tick,stopped,wrecked,rounds,gone⟩:Trk) l).gos.length 1,.int .i64 (Qu (⟨c,faults,cars,gos,tick,stopped,wrecked,rounds,gone⟩:Trk) l).tick,.int .i64 (Qu (⟨c,faults,cars,gos,tick,stopped,wrecked,rounds,gone⟩:Trk) l).stopped,.bool (Qu (⟨c,faults,cars,gos,tick,stopped,wrecked,rounds,gone⟩:Trk) l).wrecked,.int .i64 (Qu (⟨c,faults,cars,gos,tick,stopped,wrecked,rounds,gone⟩:Trk) l).rounds,.int .i64 (Qu (⟨c,faults,cars,gos,tick,stopped,wrecked,rounds,gone⟩:Trk) l).gone],false⟩,⟨true,g1,4,true,(Qd (Qu (⟨c,faults,cars,gos,tick,stopped,wrecked,rounds,gone⟩:Trk) l).cars),true⟩,⟨true,g2,1,true,(rowB (Qu (⟨c,faults,cars,gos,tick,stopped,wrecked,rounds,gone⟩:Trk) l).gos),true⟩]:=by
 obtain ⟨B,h⟩:=hh
 exact step_ok l c faults cars gos tick stopped wrecked rounds gone g1 g2 B h
theorem f44b:Try.f44.body=some (Qf Try.prog 44):=by kernel_rfl
def f44K0 (P:Program):List Item:=kAt 400 [.code (Qf P 44)] [.stop]
def f44S0 (c:Cir) (f:(List Flt)) (v1:List Bool) (i:Nat) (v3:List Car):St:=⟨([J,J,.ptr 0 0 0,J,J,.ptr 2 0 0]++jj 11 ([.rsl (rowI c.cars) 0 c.cars.length,.int .i64 (c.cars.length:Int),.int .i64 (i:Int)]++Js 23)),[⟨true,0,1,true,[.rsl (Qc c.blocks) 0 c.blocks.length,.rsl (rowI c.cars) 0 c.cars.length],false⟩,⟨true,0,1,true,(rowB v1),true⟩,⟨true,0,1,false,[.rsl (Qc c.blocks) 0 c.blocks.length,.rsl (rowI c.cars) 0 c.cars.length,.rsl (Qi f) 0 f.length,.sl 3 i 0 v3.length 4,.sl 1 0 0 v1.length 1,.int .i64 0,.int .i64 (-1),.bool false,.int .i64 0,.int .i64 0],false⟩,⟨true,i,4,true,(Qd v3),true⟩]⟩
def f44G0 (E:Env) (c:Cir) (f:(List Flt)) (v1:List Bool) (i:Nat) (v3:List Car):Prop:=G Try.prog E (f44K0 Try.prog) (f44S0 c f v1 i v3 )
abbrev z44_1 (c:Cir):List AV:=[.rsl (Qc c.blocks) 0 c.blocks.length,.rsl (rowI c.cars) 0 c.cars.length]
theorem p44_start_0 (c:Cir) (f:(List Flt)) {E:Env} {rv:AV} {bs2:List Blk} (hE:LentE Try.prog 44 [] rv bs2 E) (ho:AllP [0≤(c.blocks.length:Int)∧(c.blocks.length:Int)≤(c.blocks.length:Int)∧(c.blocks.length:Int)≤2147483648])
 (hg:G Try.prog E (f44K0 Try.prog) ⟨([J,J,.ptr 0 0 0,J,J,.ptr 2 0 0]++jj 11 ([.rsl (rowI c.cars) 0 c.cars.length,.int .i64 (c.cars.length:Int),.int .i64 0]++Js 23)),[⟨true,0,1,true,(z44_1 c),false⟩,⟨true,0,1,true,((List.replicate (Int.toNat (c.blocks.length:Int)) ([.bool false]:List AV)).flatten),true⟩,⟨true,0,1,false,[.rsl (Qc c.blocks) 0 c.blocks.length,.rsl (rowI c.cars) 0 c.cars.length,.rsl (Qi f) 0 f.length,.sl 3 0 0 0 4,.sl 1 0 0 (Int.toNat (c.blocks.length:Int)) 1,.int .i64 0,.int .i64 (-1),.bool false,.int .i64 0,.int .i64 0],false⟩,⟨true,0,4,true,[],true⟩]⟩):G Try.prog E [.code (Qf Try.prog 44)] ⟨[.agg (z44_1 c),.rsl (Qi f) 0 f.length]++unds (Try.f44.ntmps - 2),[]⟩ :=
 Qa (n:=400) (ds:=[]) (cs:=[(2,3,4)]) (live:=[2,5,17,18,19]) (m:=4) (evs:=[.stop]) (obs:=_) hE.kind (hE.nogh0 _) Qm (by kernel_rfl) ho hg
theorem f44W (c:Cir) (f:(List Flt)) {E:Env} {rv:Unit} {gos2:List Bool} {cars2:List Car} {gc:Nat} (hE:LentE Try.prog 44 [] (.ptr 2 0 0) [⟨true,0,1,true,[.rsl (Qc c.blocks) 0 c.blocks.length,.rsl (rowI c.cars) 0 c.cars.length],false⟩,⟨true,0,1,true,(rowB gos2),true⟩,⟨true,0,1,false,[.rsl (Qc c.blocks) 0 c.blocks.length,.rsl (rowI c.cars) 0 c.cars.length,.rsl (Qi f) 0 f.length,.sl 3 gc 0 cars2.length 4,.sl 1 0 0 gos2.length 1,.int .i64 0,.int .i64 (-1),.bool false,.int .i64 0,.int .i64 0],false⟩,⟨true,gc,4,true,(Qd cars2),true⟩] E)
 (h:(c.blocks.length≤2147483648∧f44G0 E c f (List.replicate c.blocks.length (false:Bool)) 0 ([]))):G Try.prog E [.code (Qf Try.prog 44)] ⟨[.agg [.rsl (Qc c.blocks) 0 c.blocks.length,.rsl (rowI c.cars) 0 c.cars.length],.rsl (Qi f) 0 f.length]++unds (Try.f44.ntmps - 2),[]⟩:=by
 obtain ⟨h1,h⟩:=h
 refine p44_start_0 c f hE ⟨⟨by omega,by omega,by have:=h1; omega⟩,trivial⟩ ?_
 have h:=h
 simp only [f44G0,f44S0,List.length_set,List.length_replicate] at h
 rw [(show (List.replicate (Int.toNat (c.blocks.length:Int)) ([.bool false]:List AV)).flatten=rowB (List.replicate c.blocks.length (false:Bool)) from YD cB _ _)]
 exact h
theorem p44_0_0 (c:Cir) (f:(List Flt)) (v1:List Bool) (i:Nat) (v3:List Car) (e:Int) (be:Bk) {E:Env} {rv:AV} {bs2:List Blk} (hE:LentE Try.prog 44 [] rv bs2 E) (ho:AllP [(decide ((i:Int)<(c.cars.length:Int)))=true,0≤(i:Int)∧(i:Int)<(c.cars.length:Int),((rowI c.cars).drop (0+(Int.toNat (i:Int))*1)).take 1=[.int .i64 e],0≤e∧e<(c.blocks.length:Int),((Qc c.blocks).drop ((0+(Int.toNat e)*4)+0)).take 1=[.int .i64 be.time],i=i,(0+(v3.length*4))=(Qd v3).length,(v3.length+1)≤2147483648,0=0,4≤10,InR .i64 ((i:Int)+1)])
 (hg:G Try.prog E (f44K0 Try.prog) ⟨([J,J,.ptr 0 0 0,J,J,.ptr 2 0 0]++jj 11 ([.rsl (rowI c.cars) 0 c.cars.length,.int .i64 (c.cars.length:Int),.int .i64 ((i:Int)+1)]++Js 23)),[⟨true,0,1,true,(z44_1 c),false⟩,⟨true,0,1,true,(rowB v1),true⟩,⟨true,0,1,false,[.rsl (Qc c.blocks) 0 c.blocks.length,.rsl (rowI c.cars) 0 c.cars.length,.rsl (Qi f) 0 f.length,.sl 3 (i+1) 0 (v3.length+1) 4,.sl 1 0 0 v1.length 1,.int .i64 0,.int .i64 (-1),.bool false,.int .i64 0,.int .i64 0],false⟩,⟨true,(i+1),4,true,((Qd v3)++[.int .i64 e,.int .i64 be.time,.bool false,.int .i64 0]),true⟩]⟩):G Try.prog E (f44K0 Try.prog) (f44S0 c f v1 i v3 ) :=
 Qa (n:=400) (ds:=[]) (cs:=[]) (live:=[2,5,17,18,19]) (m:=4) (evs:=[.b true,.ld (.int .i64 e),.auto,.auto,.ld (.int .i64 be.time),.stop]) (obs:=_) hE.kind (hE.nogh0 _) Qm (by kernel_rfl) ho hg
theorem p44_0_1 (c:Cir) (f:(List Flt)) (v1:List Bool) (i:Nat) (v3:List Car) {E:Env} {res:AV} {bs2:List Blk} (hE:LentE Try.prog 44 [] res bs2 E) (ho:AllP [(decide ((i:Int)<(c.cars.length:Int)))=false])
 (hr:(.ptr 2 0 0)=res) (hb:[⟨true,0,1,true,(z44_1 c),false⟩,⟨true,0,1,true,(rowB v1),true⟩,⟨true,0,1,false,[.rsl (Qc c.blocks) 0 c.blocks.length,.rsl (rowI c.cars) 0 c.cars.length,.rsl (Qi f) 0 f.length,.sl 3 i 0 v3.length 4,.sl 1 0 0 v1.length 1,.int .i64 0,.int .i64 (-1),.bool false,.int .i64 0,.int .i64 0],false⟩,⟨true,i,4,true,(Qd v3),true⟩]=bs2):G Try.prog E (f44K0 Try.prog) (f44S0 c f v1 i v3 ) :=
 Xb (n:=400) (live:=[4]) (m:=4) (evs:=[.b false]) (obs:=_) hE (hE.nogh0 _) Try.func44 Qm (by kernel_rfl) ho hr hb
theorem f44W0 (c:Cir) (f:(List Flt)) (v1:List Bool) (i:Nat) (v3:List Car) {E:Env} {rv:Unit} {gos2:List Bool} {cars2:List Car} {gc:Nat} (hE:LentE Try.prog 44 [] (.ptr 2 0 0) [⟨true,0,1,true,[.rsl (Qc c.blocks) 0 c.blocks.length,.rsl (rowI c.cars) 0 c.cars.length],false⟩,⟨true,0,1,true,(rowB gos2),true⟩,⟨true,0,1,false,[.rsl (Qc c.blocks) 0 c.blocks.length,.rsl (rowI c.cars) 0 c.cars.length,.rsl (Qi f) 0 f.length,.sl 3 gc 0 cars2.length 4,.sl 1 0 0 gos2.length 1,.int .i64 0,.int .i64 (-1),.bool false,.int .i64 0,.int .i64 0],false⟩,⟨true,gc,4,true,(Qd cars2),true⟩] E)
 (h:(((i:Int)<(c.cars.length:Int)→(∃ e:Int,c.cars[i]?=some e∧(0≤e∧(∃ be:Bk,c.blocks[Int.toNat e]?=some be∧((v3.length+1)≤2147483648∧((I6 ((i:Int)+1))∧f44G0 E c f v1 (i+1) (v3++[(⟨(⟨e,be.time,false⟩:Spt),0⟩:Car)])))))))∧(¬ ((i:Int)<(c.cars.length:Int))→gos2=v1∧cars2=v3∧gc=i))):f44G0 E c f v1 i v3:=by
 rcases bft (decide ((i:Int)<(c.cars.length:Int))) with hc0 | hc0
 · have h:=h.1 (odt hc0)
   obtain ⟨e,h1,h⟩:=h
   obtain ⟨h3,h⟩:=h
   obtain ⟨be,h2,h⟩:=h
   obtain ⟨h4,h⟩:=h
   obtain ⟨q12_1,h⟩:=h
   refine p44_0_0 c f v1 i v3 e be hE ⟨hc0,(Qe h1),(rp cI 1 0 1 h1),(Qq h3 h2),(rp cBk 4 0 1 h2),rfl,(by have hx:=XO cCar (s:=4) (fun _=>rfl) v3; simp only [Qd] at hx ⊢; rw [hx]; simp),h4,rfl,(by decide),q12_1,trivial⟩ ?_
   rw [(show Qd v3++[.int .i64 e,.int .i64 be.time,.bool false,.int .i64 0]=Qd (v3++[(⟨(⟨e,be.time,false⟩:Spt),0⟩:Car)]) from (YV cCar v3 [(⟨(⟨e,be.time,false⟩:Spt),0⟩:Car)]).symm)]; rw [(show (v3.length+1)=(v3++[(⟨(⟨e,be.time,false⟩:Spt),0⟩:Car)]).length from by simp)]; exact h
 · have h:=h.2 (odf hc0)
   obtain ⟨qe0,qe1,qe2⟩:=h
   exact p44_0_1 c f v1 i v3 hE ⟨hc0,trivial⟩ (by try rfl) (by rw [qe0,qe1,qe2]; all_goals (first | rfl | (simp only [List.length_set]; done) | (simp only [List.length_set]; rfl)))
theorem Wi (c:Cir) (f:List Flt) (h:NewIn c):Lent Try.prog 44 [.agg [.rsl (Qc c.blocks) 0 c.blocks.length,.rsl (rowI c.cars) 0 c.cars.length],.rsl (Qi f) 0 f.length] [] (.ptr 2 0 0)
 [⟨true,0,1,true,[.rsl (Qc c.blocks) 0 c.blocks.length,.rsl (rowI c.cars) 0 c.cars.length],false⟩,⟨true,0,1,true,(rowB (newT c f).gos),true⟩,⟨true,0,1,false,[.rsl (Qc c.blocks) 0 c.blocks.length,.rsl (rowI c.cars) 0 c.cars.length,.rsl (Qi f) 0 f.length,.sl 3 c.cars.length 0 (newT c f).cars.length 4,.sl 1 0 0 (newT c f).gos.length 1,.int .i64 0,.int .i64 (-1),.bool false,.int .i64 0,.int .i64 0],false⟩,⟨true,c.cars.length,4,true,(Qd (newT c f).cars),true⟩]:=lent_of0 Try.func44 f44b fun E hE=>by
 obtain ⟨h1,h2,h3⟩:=h
 have key:∀ (d i:Nat),i+d=c.cars.length→f44G0 E c f (newT c f).gos i ((newT c f).cars.take i):=by
  intro d
  induction d with
  | zero =>
   intro i hi
   refine f44W0 c f _ i _ (rv:=()) hE ⟨fun h=>by omega,fun _=>⟨rfl,?_,by omega⟩⟩
   rw [List.take_of_length_le (by simp [newT]; omega)]
  | succ d ih =>
   intro i hi
   have hx:c.cars[i]?=some (c.cars.getD i 0):=getD_some (by omega)
   have hin:=h3 _ (List.mem_of_getElem? hx)
   have nx:=ih (i+1) (by omega)
   have hy:(newT c f).cars[i]?=some ⟨⟨c.cars.getD i 0,(bkAt c (c.cars.getD i 0)).time,false⟩,0⟩:=by rw [newT,List.getElem?_map,hx]; rfl
   rw [List.take_add_one,hy] at nx
   exact f44W0 c f _ i _ (rv:=()) hE ⟨fun _=>⟨_,hx,hin.1,_,yC hin,by simp [newT]; omega,by omega,nx⟩,fun h=>by omega⟩
 exact f44W c f (rv:=()) hE ⟨by omega,key c.cars.length 0 (by omega)⟩
theorem f19b:Try.f19.body=some (Qf Try.prog 19):=by kernel_rfl
theorem u19 {a c k:List AV} {r:AV} (h:Pure Try.prog 19 (a++c++k) r):Ql Try.prog (.clos 19 a k) c r:=QJ Try.func19 (by kernel_rfl) f19b h
def f19K0 (P:Program):List Item:=kAt 400 [.code (Qf P 19)] [.b false,.stop]
def f19S0 (c:Cir) (ticks:Int) (l:(List Prs)) (f:(List Flt)) (v4:List Car) (v2:List Bool) (v5:List (List Spt)) (i:Nat) (v3_5:Int) (v3_6:Int) (v3_7:Bool) (v3_8:Int) (v3_9:Int) (g5:Nat):St:=⟨([J,J,.rsl (Qs l) 0 l.length]++jj 5 ([.sl 5 g5 0 v5.length 1,J,J,.ptr 3 0 0]++jj 11 ([.int .i64 ticks,.int .i64 (i:Int)]++Js 11))),[⟨true,0,1,true,[.rsl (Qc c.blocks) 0 c.blocks.length,.rsl (rowI c.cars) 0 c.cars.length],false⟩,⟨true,0,1,true,[.rsl (Qc c.blocks) 0 c.blocks.length,.rsl (rowI c.cars) 0 c.cars.length],false⟩,⟨true,0,1,true,(rowB v2),true⟩,⟨true,0,1,false,[.rsl (Qc c.blocks) 0 c.blocks.length,.rsl (rowI c.cars) 0 c.cars.length,.rsl (Qi f) 0 f.length,.sl 4 c.cars.length 0 v4.length 4,.sl 2 0 0 v2.length 1,.int .i64 v3_5,.int .i64 v3_6,.bool v3_7,.int .i64 v3_8,.int .i64 v3_9],false⟩,⟨true,c.cars.length,4,true,(Qd v4),true⟩,⟨true,g5,1,true,((Yh Qg) v5),true⟩]⟩
def f19G0 (E:Env) (c:Cir) (ticks:Int) (l:(List Prs)) (f:(List Flt)) (v4:List Car) (v2:List Bool) (v5:List (List Spt)) (i:Nat) (v3_5:Int) (v3_6:Int) (v3_7:Bool) (v3_8:Int) (v3_9:Int):Prop:=∀ g5:Nat,G Try.prog E (f19K0 Try.prog) (f19S0 c ticks l f v4 v2 v5 i v3_5 v3_6 v3_7 v3_8 v3_9 g5)
abbrev Yb (c:Cir) (f:(List Flt)) (v4:List Car) (v2:List Bool) (v3_5:Int) (v3_6:Int) (v3_7:Bool) (v3_8:Int) (v3_9:Int) (l:(List Prs)):=Qu (⟨c,f,v4,v2,v3_5,v3_6,v3_7,v3_8,v3_9⟩:Trk) l
abbrev z19_1 (c:Cir) (f:(List Flt)) (v4:List Car) (v2:List Bool) (v3_5:Int) (v3_6:Int) (v3_7:Bool) (v3_8:Int) (v3_9:Int) (l:(List Prs)):=(⟨c,f,(Yb c f v4 v2 v3_5 v3_6 v3_7 v3_8 v3_9 l).cars,(Yb c f v4 v2 v3_5 v3_6 v3_7 v3_8 v3_9 l).gos,(Yb c f v4 v2 v3_5 v3_6 v3_7 v3_8 v3_9 l).tick,(Yb c f v4 v2 v3_5 v3_6 v3_7 v3_8 v3_9 l).stopped,(Yb c f v4 v2 v3_5 v3_6 v3_7 v3_8 v3_9 l).wrecked,(Yb c f v4 v2 v3_5 v3_6 v3_7 v3_8 v3_9 l).rounds,(Yb c f v4 v2 v3_5 v3_6 v3_7 v3_8 v3_9 l).gone⟩:Trk).cars.map Car.spot
abbrev z19_2 (c:Cir) (f:(List Flt)) (v4:List Car) (v2:List Bool) (v3_5:Int) (v3_6:Int) (v3_7:Bool) (v3_8:Int) (v3_9:Int) (l:(List Prs)):List Blk:=[⟨true,0,1,false,[.rsl (Qc c.blocks) 0 c.blocks.length,.rsl (rowI c.cars) 0 c.cars.length,.rsl (Qi f) 0 f.length,.sl 1 c.cars.length 0 ((Yb c f v4 v2 v3_5 v3_6 v3_7 v3_8 v3_9 l).cars.length) 4,.sl 2 0 0 ((Yb c f v4 v2 v3_5 v3_6 v3_7 v3_8 v3_9 l).gos.length) 1,.int .i64 ((Yb c f v4 v2 v3_5 v3_6 v3_7 v3_8 v3_9 l).tick),.int .i64 ((Yb c f v4 v2 v3_5 v3_6 v3_7 v3_8 v3_9 l).stopped),.bool ((Yb c f v4 v2 v3_5 v3_6 v3_7 v3_8 v3_9 l).wrecked),.int .i64 ((Yb c f v4 v2 v3_5 v3_6 v3_7 v3_8 v3_9 l).rounds),.int .i64 ((Yb c f v4 v2 v3_5 v3_6 v3_7 v3_8 v3_9 l).gone)],false⟩,⟨true,c.cars.length,4,true,(Qd (Yb c f v4 v2 v3_5 v3_6 v3_7 v3_8 v3_9 l).cars),true⟩,⟨true,0,1,true,(rowB (Yb c f v4 v2 v3_5 v3_6 v3_7 v3_8 v3_9 l).gos),true⟩]
abbrev z19_3 (c:Cir):List AV:=[.rsl (Qc c.blocks) 0 c.blocks.length,.rsl (rowI c.cars) 0 c.cars.length]
abbrev z19_4 (c:Cir) (f:(List Flt)):List Blk:=[⟨true,0,1,true,(z19_3 c),false⟩,⟨true,0,1,true,(rowB (newT c f).gos),true⟩,⟨true,0,1,false,[.rsl (Qc c.blocks) 0 c.blocks.length,.rsl (rowI c.cars) 0 c.cars.length,.rsl (Qi f) 0 f.length,.sl 3 c.cars.length 0 ((newT c f).cars.length) 4,.sl 1 0 0 ((newT c f).gos.length) 1,.int .i64 0,.int .i64 (-1),.bool false,.int .i64 0,.int .i64 0],false⟩,⟨true,c.cars.length,4,true,(Qd (newT c f).cars),true⟩]
abbrev z19_6 (c:Cir) (ticks:Int) (l:(List Prs)) (f:(List Flt)):List AV:=[.agg (z19_3 c),.int .i64 ticks,.rsl (Qs l) 0 l.length,.rsl (Qi f) 0 f.length]
theorem p19_start_0 (c:Cir) (ticks:Int) (l:(List Prs)) (f:(List Flt)) {E:Env} {res:AV} (hE:Qn Try.prog 19 res E) (ho:AllP [Ql Try.prog (.clos 43 [] []) (z19_6 c ticks l f) (.int .i64 (Xf c ticks l f)),((Xf c ticks l f) != 0)=true])
 (hr:AvLe (.tup [.nilSl,.int .i64 (Xf c ticks l f)]) res):G Try.prog E [.code (Qf Try.prog 19)] ⟨(z19_6 c ticks l f)++unds (Try.f19.ntmps - 4),[]⟩ :=
 Qk (n:=400) (evs:=[.v (.int .i64 (Xf c ticks l f)),.b true]) (obs:=_) hE Try.func19 Qm (by kernel_rfl) ho hr
theorem p19_start_1 (c:Cir) (ticks:Int) (l:(List Prs)) (f:(List Flt)) {E:Env} {rv:AV} (hE:Qn Try.prog 19 rv E) (ho:AllP [Ql Try.prog (.clos 43 [] []) (z19_6 c ticks l f) (.int .i64 (Xf c ticks l f)),((Xf c ticks l f) != 0)=false,XT Try.prog (.clos 44 [] []) [.agg (z19_3 c),.rsl (Qi f) 0 f.length] [] (.ptr 2 0 0) (z19_4 c f)])
 (hg:G Try.prog E (f19K0 Try.prog) ⟨([J,J,.rsl (Qs l) 0 l.length]++jj 5 ([.sl 5 0 0 0 1,J,J,.ptr 3 0 0]++jj 11 ([.int .i64 ticks,.int .i64 0]++Js 11))),[⟨true,0,1,true,(z19_3 c),false⟩,⟨true,0,1,true,(z19_3 c),false⟩,⟨true,0,1,true,(rowB (newT c f).gos),true⟩,⟨true,0,1,false,[.rsl (Qc c.blocks) 0 c.blocks.length,.rsl (rowI c.cars) 0 c.cars.length,.rsl (Qi f) 0 f.length,.sl 4 c.cars.length 0 ((newT c f).cars.length) 4,.sl 2 0 0 ((newT c f).gos.length) 1,.int .i64 0,.int .i64 (-1),.bool false,.int .i64 0,.int .i64 0],false⟩,⟨true,c.cars.length,4,true,(Qd (newT c f).cars),true⟩,⟨true,0,1,true,[],true⟩]⟩):G Try.prog E [.code (Qf Try.prog 19)] ⟨(z19_6 c ticks l f)++unds (Try.f19.ntmps - 4),[]⟩ :=
 Qa (n:=400) (ds:=[(8,1)]) (cs:=[]) (live:=[2,8,11,23,24]) (m:=6) (evs:=[.v (.int .i64 (Xf c ticks l f)),.b false,.lent [] (.ptr 2 0 0) (z19_4 c f),.stop]) (obs:=_) hE.2.1 (hE.nogh _) Qm (by kernel_rfl) ho hg
theorem f19W (c:Cir) (ticks:Int) (l:(List Prs)) (f:(List Flt)) {E:Env} {rv:((List (List Spt)) × Int)} (hE:Qn Try.prog 19 (.tup [.rsl ((Yh Qg) rv.1) 0 rv.1.length,.int .i64 rv.2]) E)
 (h:(((c.blocks.length≤9223372036854775807∧c.cars.length≤9223372036854775807)∧l.length≤9223372036854775807∧f.length≤9223372036854775807)∧((¬ ((Xf c ticks l f)=0)→rv=(([]:List (List Spt)),(Xf c ticks l f)))∧((Xf c ticks l f)=0→((NewIn c)∧f19G0 E c ticks l f ((newT c f).cars) ((newT c f).gos) ([]) 0 0 (-1) false 0 0))))):G Try.prog E [.code (Qf Try.prog 19)] ⟨[.agg [.rsl (Qc c.blocks) 0 c.blocks.length,.rsl (rowI c.cars) 0 c.cars.length],.int .i64 ticks,.rsl (Qs l) 0 l.length,.rsl (Qi f) 0 f.length]++unds (Try.f19.ntmps - 4),[]⟩:=by
 obtain ⟨h1,h⟩:=h
 rcases bft ((Xf c ticks l f) != 0) with hc0 | hc0
 · have h:=h.1 (bneT hc0)
   exact p19_start_0 c ticks l f hE ⟨(u43 (qW c ticks l f h1)),hc0,trivial⟩ (by rw [h]; exact (tup_le ⟨Yl,⟨AvLe.of_eq rfl,trivial⟩⟩))
 · have h:=h.2 (bneF hc0)
   obtain ⟨h2,h⟩:=h
   exact p19_start_1 c ticks l f hE ⟨(u43 (qW c ticks l f h1)),hc0,(Xl Try.func44 (by kernel_rfl) f44b (Wi c f h2)),trivial⟩ (h 0)
theorem p19_0_0 (c:Cir) (ticks:Int) (l:(List Prs)) (f:(List Flt)) (v4:List Car) (v2:List Bool) (v5:List (List Spt)) (i:Nat) (v3_5:Int) (v3_6:Int) (v3_7:Bool) (v3_8:Int) (v3_9:Int) (g5:Nat) {E:Env} {rv:AV} (hE:Qn Try.prog 19 rv E) (ho:AllP [(decide ((i:Int)<ticks))=true,XT Try.prog (.clos 45 [] []) [.ptr 0 0 0,.rsl (Qs l) 0 l.length] [⟨true,0,1,false,[.rsl (Qc c.blocks) 0 c.blocks.length,.rsl (rowI c.cars) 0 c.cars.length,.rsl (Qi f) 0 f.length,.sl 1 c.cars.length 0 v4.length 4,.sl 2 0 0 v2.length 1,.int .i64 v3_5,.int .i64 v3_6,.bool v3_7,.int .i64 v3_8,.int .i64 v3_9],false⟩,⟨true,c.cars.length,4,true,(Qd v4),true⟩,⟨true,0,1,true,(rowB v2),true⟩] (.tup []) (z19_2 c f v4 v2 v3_5 v3_6 v3_7 v3_8 v3_9 l),Vz Try.prog (.clos 46 [] []) [.rptr [.rsl (Qc c.blocks) 0 c.blocks.length,.rsl (rowI c.cars) 0 c.cars.length,.rsl (Qi f) 0 f.length,.rsl (Qd (Yb c f v4 v2 v3_5 v3_6 v3_7 v3_8 v3_9 l).cars) 0 ((Yb c f v4 v2 v3_5 v3_6 v3_7 v3_8 v3_9 l).cars.length),.rsl (rowB (Yb c f v4 v2 v3_5 v3_6 v3_7 v3_8 v3_9 l).gos) 0 ((Yb c f v4 v2 v3_5 v3_6 v3_7 v3_8 v3_9 l).gos.length),.int .i64 ((Yb c f v4 v2 v3_5 v3_6 v3_7 v3_8 v3_9 l).tick),.int .i64 ((Yb c f v4 v2 v3_5 v3_6 v3_7 v3_8 v3_9 l).stopped),.bool ((Yb c f v4 v2 v3_5 v3_6 v3_7 v3_8 v3_9 l).wrecked),.int .i64 ((Yb c f v4 v2 v3_5 v3_6 v3_7 v3_8 v3_9 l).rounds),.int .i64 ((Yb c f v4 v2 v3_5 v3_6 v3_7 v3_8 v3_9 l).gone)] 0] (.rsl (Qg (z19_1 c f v4 v2 v3_5 v3_6 v3_7 v3_8 v3_9 l)) 0 ((z19_1 c f v4 v2 v3_5 v3_6 v3_7 v3_8 v3_9 l).length)),c.cars.length=c.cars.length,0=0,g5=g5,(0+(v5.length*1))=((Yh Qg) v5).length,(v5.length+1)≤2147483648,0=0,InR .i64 ((i:Int)+1)])
 (hg:G Try.prog E (f19K0 Try.prog) ⟨([J,J,.rsl (Qs l) 0 l.length]++jj 5 ([.sl 5 (g5+1) 0 (v5.length+1) 1,J,J,.ptr 3 0 0]++jj 11 ([.int .i64 ticks,.int .i64 ((i:Int)+1)]++Js 11))),[⟨true,0,1,true,(z19_3 c),false⟩,⟨true,0,1,true,(z19_3 c),false⟩,⟨true,0,1,true,(rowB (Yb c f v4 v2 v3_5 v3_6 v3_7 v3_8 v3_9 l).gos),true⟩,⟨true,0,1,false,[.rsl (Qc c.blocks) 0 c.blocks.length,.rsl (rowI c.cars) 0 c.cars.length,.rsl (Qi f) 0 f.length,.sl 4 c.cars.length 0 ((Yb c f v4 v2 v3_5 v3_6 v3_7 v3_8 v3_9 l).cars.length) 4,.sl 2 0 0 ((Yb c f v4 v2 v3_5 v3_6 v3_7 v3_8 v3_9 l).gos.length) 1,.int .i64 ((Yb c f v4 v2 v3_5 v3_6 v3_7 v3_8 v3_9 l).tick),.int .i64 ((Yb c f v4 v2 v3_5 v3_6 v3_7 v3_8 v3_9 l).stopped),.bool ((Yb c f v4 v2 v3_5 v3_6 v3_7 v3_8 v3_9 l).wrecked),.int .i64 ((Yb c f v4 v2 v3_5 v3_6 v3_7 v3_8 v3_9 l).rounds),.int .i64 ((Yb c f v4 v2 v3_5 v3_6 v3_7 v3_8 v3_9 l).gone)],false⟩,⟨true,c.cars.length,4,true,(Qd (Yb c f v4 v2 v3_5 v3_6 v3_7 v3_8 v3_9 l).cars),true⟩,⟨true,(g5+1),1,true,(((Yh Qg) v5)++[.rsl (Qg (z19_1 c f v4 v2 v3_5 v3_6 v3_7 v3_8 v3_9 l)) 0 ((z19_1 c f v4 v2 v3_5 v3_6 v3_7 v3_8 v3_9 l).length)]),true⟩]⟩):G Try.prog E (f19K0 Try.prog) (f19S0 c ticks l f v4 v2 v5 i v3_5 v3_6 v3_7 v3_8 v3_9 g5) :=
 Qa (n:=400) (ds:=[]) (cs:=[]) (live:=[2,8,11,23,24]) (m:=6) (evs:=[.b true,.lent [3,4,2] (.tup []) (z19_2 c f v4 v2 v3_5 v3_6 v3_7 v3_8 v3_9 l),.vn (.rsl (Qg (z19_1 c f v4 v2 v3_5 v3_6 v3_7 v3_8 v3_9 l)) 0 ((z19_1 c f v4 v2 v3_5 v3_6 v3_7 v3_8 v3_9 l).length)),.stop]) (obs:=_) hE.2.1 (hE.nogh _) Qm (by kernel_rfl) ho hg
theorem p19_0_1 (c:Cir) (ticks:Int) (l:(List Prs)) (f:(List Flt)) (v4:List Car) (v2:List Bool) (v5:List (List Spt)) (i:Nat) (v3_5:Int) (v3_6:Int) (v3_7:Bool) (v3_8:Int) (v3_9:Int) (g5:Nat) {E:Env} {res:AV} (hE:Qn Try.prog 19 res E) (ho:AllP [(decide ((i:Int)<ticks))=false,g5=g5])
 (hr:AvLe (.tup [.rsl ((Yh Qg) v5) 0 v5.length,.int .i64 0]) res):G Try.prog E (f19K0 Try.prog) (f19S0 c ticks l f v4 v2 v5 i v3_5 v3_6 v3_7 v3_8 v3_9 g5) :=
 Qk (n:=400) (evs:=[.b false]) (obs:=_) hE Try.func19 Qm (by kernel_rfl) ho hr
theorem f19W0 (c:Cir) (ticks:Int) (l:(List Prs)) (f:(List Flt)) (v4:List Car) (v2:List Bool) (v5:List (List Spt)) (i:Nat) (v3_5:Int) (v3_6:Int) (v3_7:Bool) (v3_8:Int) (v3_9:Int) {E:Env} {rv:((List (List Spt)) × Int)} (hE:Qn Try.prog 19 (.tup [.rsl ((Yh Qg) rv.1) 0 rv.1.length,.int .i64 rv.2]) E)
 (h:(((i:Int)<ticks→((qp (⟨c,f,v4,v2,v3_5,v3_6,v3_7,v3_8,v3_9⟩:Trk) l)∧(((⟨c,f,(Qu (⟨c,f,v4,v2,v3_5,v3_6,v3_7,v3_8,v3_9⟩:Trk) l).cars,(Qu (⟨c,f,v4,v2,v3_5,v3_6,v3_7,v3_8,v3_9⟩:Trk) l).gos,(Qu (⟨c,f,v4,v2,v3_5,v3_6,v3_7,v3_8,v3_9⟩:Trk) l).tick,(Qu (⟨c,f,v4,v2,v3_5,v3_6,v3_7,v3_8,v3_9⟩:Trk) l).stopped,(Qu (⟨c,f,v4,v2,v3_5,v3_6,v3_7,v3_8,v3_9⟩:Trk) l).wrecked,(Qu (⟨c,f,v4,v2,v3_5,v3_6,v3_7,v3_8,v3_9⟩:Trk) l).rounds,(Qu (⟨c,f,v4,v2,v3_5,v3_6,v3_7,v3_8,v3_9⟩:Trk) l).gone⟩:Trk).cars.length≤2147483648)∧((v5.length+1)≤2147483648∧((I6 ((i:Int)+1))∧f19G0 E c ticks l f ((Qu (⟨c,f,v4,v2,v3_5,v3_6,v3_7,v3_8,v3_9⟩:Trk) l).cars) ((Qu (⟨c,f,v4,v2,v3_5,v3_6,v3_7,v3_8,v3_9⟩:Trk) l).gos) (v5++[((⟨c,f,(Qu (⟨c,f,v4,v2,v3_5,v3_6,v3_7,v3_8,v3_9⟩:Trk) l).cars,(Qu (⟨c,f,v4,v2,v3_5,v3_6,v3_7,v3_8,v3_9⟩:Trk) l).gos,(Qu (⟨c,f,v4,v2,v3_5,v3_6,v3_7,v3_8,v3_9⟩:Trk) l).tick,(Qu (⟨c,f,v4,v2,v3_5,v3_6,v3_7,v3_8,v3_9⟩:Trk) l).stopped,(Qu (⟨c,f,v4,v2,v3_5,v3_6,v3_7,v3_8,v3_9⟩:Trk) l).wrecked,(Qu (⟨c,f,v4,v2,v3_5,v3_6,v3_7,v3_8,v3_9⟩:Trk) l).rounds,(Qu (⟨c,f,v4,v2,v3_5,v3_6,v3_7,v3_8,v3_9⟩:Trk) l).gone⟩:Trk).cars.map Car.spot)]) (i+1) ((Qu (⟨c,f,v4,v2,v3_5,v3_6,v3_7,v3_8,v3_9⟩:Trk) l).tick) ((Qu (⟨c,f,v4,v2,v3_5,v3_6,v3_7,v3_8,v3_9⟩:Trk) l).stopped) ((Qu (⟨c,f,v4,v2,v3_5,v3_6,v3_7,v3_8,v3_9⟩:Trk) l).wrecked) ((Qu (⟨c,f,v4,v2,v3_5,v3_6,v3_7,v3_8,v3_9⟩:Trk) l).rounds) ((Qu (⟨c,f,v4,v2,v3_5,v3_6,v3_7,v3_8,v3_9⟩:Trk) l).gone))))))∧(¬ ((i:Int)<ticks)→rv=(v5,0)))):f19G0 E c ticks l f v4 v2 v5 i v3_5 v3_6 v3_7 v3_8 v3_9:=by
 intro g5
 rcases bft (decide ((i:Int)<ticks)) with hc0 | hc0
 · have h:=h.1 (odt hc0)
   obtain ⟨h1,h⟩:=h
   obtain ⟨h2,h⟩:=h
   obtain ⟨h3,h⟩:=h
   obtain ⟨q9_1,h⟩:=h
   refine p19_0_0 c ticks l f v4 v2 v5 i v3_5 v3_6 v3_7 v3_8 v3_9 g5 hE ⟨hc0,(Xl Try.func45 (by kernel_rfl) f45b (Qbu l c f v4 v2 v3_5 v3_6 v3_7 v3_8 v3_9 c.cars.length 0 h1)),(by exact (QY Try.func46 (by kernel_rfl) f46b (yM (⟨c,f,(Qu (⟨c,f,v4,v2,v3_5,v3_6,v3_7,v3_8,v3_9⟩:Trk) l).cars,(Qu (⟨c,f,v4,v2,v3_5,v3_6,v3_7,v3_8,v3_9⟩:Trk) l).gos,(Qu (⟨c,f,v4,v2,v3_5,v3_6,v3_7,v3_8,v3_9⟩:Trk) l).tick,(Qu (⟨c,f,v4,v2,v3_5,v3_6,v3_7,v3_8,v3_9⟩:Trk) l).stopped,(Qu (⟨c,f,v4,v2,v3_5,v3_6,v3_7,v3_8,v3_9⟩:Trk) l).wrecked,(Qu (⟨c,f,v4,v2,v3_5,v3_6,v3_7,v3_8,v3_9⟩:Trk) l).rounds,(Qu (⟨c,f,v4,v2,v3_5,v3_6,v3_7,v3_8,v3_9⟩:Trk) l).gone⟩:Trk) h2))),rfl,rfl,rfl,(by have hx:=XO (cLs Qg) (s:=1) (fun _=>rfl) v5; simp only [Yh] at hx ⊢; rw [hx]; simp),h3,rfl,q9_1,trivial⟩ ?_
   rw [(show (Yh Qg) v5++[.rsl (Qg ((⟨c,f,(Qu (⟨c,f,v4,v2,v3_5,v3_6,v3_7,v3_8,v3_9⟩:Trk) l).cars,(Qu (⟨c,f,v4,v2,v3_5,v3_6,v3_7,v3_8,v3_9⟩:Trk) l).gos,(Qu (⟨c,f,v4,v2,v3_5,v3_6,v3_7,v3_8,v3_9⟩:Trk) l).tick,(Qu (⟨c,f,v4,v2,v3_5,v3_6,v3_7,v3_8,v3_9⟩:Trk) l).stopped,(Qu (⟨c,f,v4,v2,v3_5,v3_6,v3_7,v3_8,v3_9⟩:Trk) l).wrecked,(Qu (⟨c,f,v4,v2,v3_5,v3_6,v3_7,v3_8,v3_9⟩:Trk) l).rounds,(Qu (⟨c,f,v4,v2,v3_5,v3_6,v3_7,v3_8,v3_9⟩:Trk) l).gone⟩:Trk).cars.map Car.spot)) 0 (((⟨c,f,(Qu (⟨c,f,v4,v2,v3_5,v3_6,v3_7,v3_8,v3_9⟩:Trk) l).cars,(Qu (⟨c,f,v4,v2,v3_5,v3_6,v3_7,v3_8,v3_9⟩:Trk) l).gos,(Qu (⟨c,f,v4,v2,v3_5,v3_6,v3_7,v3_8,v3_9⟩:Trk) l).tick,(Qu (⟨c,f,v4,v2,v3_5,v3_6,v3_7,v3_8,v3_9⟩:Trk) l).stopped,(Qu (⟨c,f,v4,v2,v3_5,v3_6,v3_7,v3_8,v3_9⟩:Trk) l).wrecked,(Qu (⟨c,f,v4,v2,v3_5,v3_6,v3_7,v3_8,v3_9⟩:Trk) l).rounds,(Qu (⟨c,f,v4,v2,v3_5,v3_6,v3_7,v3_8,v3_9⟩:Trk) l).gone⟩:Trk).cars.map Car.spot).length)]=(Yh Qg) (v5++[((⟨c,f,(Qu (⟨c,f,v4,v2,v3_5,v3_6,v3_7,v3_8,v3_9⟩:Trk) l).cars,(Qu (⟨c,f,v4,v2,v3_5,v3_6,v3_7,v3_8,v3_9⟩:Trk) l).gos,(Qu (⟨c,f,v4,v2,v3_5,v3_6,v3_7,v3_8,v3_9⟩:Trk) l).tick,(Qu (⟨c,f,v4,v2,v3_5,v3_6,v3_7,v3_8,v3_9⟩:Trk) l).stopped,(Qu (⟨c,f,v4,v2,v3_5,v3_6,v3_7,v3_8,v3_9⟩:Trk) l).wrecked,(Qu (⟨c,f,v4,v2,v3_5,v3_6,v3_7,v3_8,v3_9⟩:Trk) l).rounds,(Qu (⟨c,f,v4,v2,v3_5,v3_6,v3_7,v3_8,v3_9⟩:Trk) l).gone⟩:Trk).cars.map Car.spot)]) from (YV (cLs Qg) v5 [((⟨c,f,(Qu (⟨c,f,v4,v2,v3_5,v3_6,v3_7,v3_8,v3_9⟩:Trk) l).cars,(Qu (⟨c,f,v4,v2,v3_5,v3_6,v3_7,v3_8,v3_9⟩:Trk) l).gos,(Qu (⟨c,f,v4,v2,v3_5,v3_6,v3_7,v3_8,v3_9⟩:Trk) l).tick,(Qu (⟨c,f,v4,v2,v3_5,v3_6,v3_7,v3_8,v3_9⟩:Trk) l).stopped,(Qu (⟨c,f,v4,v2,v3_5,v3_6,v3_7,v3_8,v3_9⟩:Trk) l).wrecked,(Qu (⟨c,f,v4,v2,v3_5,v3_6,v3_7,v3_8,v3_9⟩:Trk) l).rounds,(Qu (⟨c,f,v4,v2,v3_5,v3_6,v3_7,v3_8,v3_9⟩:Trk) l).gone⟩:Trk).cars.map Car.spot)]).symm)]; rw [(show (v5.length+1)=(v5++[((⟨c,f,(Qu (⟨c,f,v4,v2,v3_5,v3_6,v3_7,v3_8,v3_9⟩:Trk) l).cars,(Qu (⟨c,f,v4,v2,v3_5,v3_6,v3_7,v3_8,v3_9⟩:Trk) l).gos,(Qu (⟨c,f,v4,v2,v3_5,v3_6,v3_7,v3_8,v3_9⟩:Trk) l).tick,(Qu (⟨c,f,v4,v2,v3_5,v3_6,v3_7,v3_8,v3_9⟩:Trk) l).stopped,(Qu (⟨c,f,v4,v2,v3_5,v3_6,v3_7,v3_8,v3_9⟩:Trk) l).wrecked,(Qu (⟨c,f,v4,v2,v3_5,v3_6,v3_7,v3_8,v3_9⟩:Trk) l).rounds,(Qu (⟨c,f,v4,v2,v3_5,v3_6,v3_7,v3_8,v3_9⟩:Trk) l).gone⟩:Trk).cars.map Car.spot)]).length from by simp)]; exact (h (g5+1))
 · have h:=h.2 (odf hc0)
   exact p19_0_1 c ticks l f v4 v2 v5 i v3_5 v3_6 v3_7 v3_8 v3_9 g5 hE ⟨hc0,rfl,trivial⟩ (AvLe.of_eq (by rw [h]; try rfl))
theorem f23b:Try.f23.body=some (Qf Try.prog 23):=by kernel_rfl
theorem u23 {a c k:List AV} {r:AV} (h:Pure Try.prog 23 (a++c++k) r):Ql Try.prog (.clos 23 a k) c r:=QJ Try.func23 (by kernel_rfl) f23b h
def f23K0 (P:Program):List Item:=kAt 400 [.code (Qf P 23)] [.b false,.stop]
def f23S0 (c:Cir) (ticks:Int) (l:(List Prs)) (f:(List Flt)) (v4:List Car) (v2:List Bool) (i:Nat) (v3_5:Int) (v3_6:Int) (v3_7:Bool) (v3_8:Int) (v3_9:Int):St:=⟨([J,J,.rsl (Qs l) 0 l.length]++jj 8 ([.ptr 3 0 0]++jj 11 ([.int .i64 ticks,.int .i64 (i:Int)]++Js 9))),[⟨true,0,1,true,[.rsl (Qc c.blocks) 0 c.blocks.length,.rsl (rowI c.cars) 0 c.cars.length],false⟩,⟨true,0,1,true,[.rsl (Qc c.blocks) 0 c.blocks.length,.rsl (rowI c.cars) 0 c.cars.length],false⟩,⟨true,0,1,true,(rowB v2),true⟩,⟨true,0,1,false,[.rsl (Qc c.blocks) 0 c.blocks.length,.rsl (rowI c.cars) 0 c.cars.length,.rsl (Qi f) 0 f.length,.sl 4 c.cars.length 0 v4.length 4,.sl 2 0 0 v2.length 1,.int .i64 v3_5,.int .i64 v3_6,.bool v3_7,.int .i64 v3_8,.int .i64 v3_9],false⟩,⟨true,c.cars.length,4,true,(Qd v4),true⟩]⟩
def f23G0 (E:Env) (c:Cir) (ticks:Int) (l:(List Prs)) (f:(List Flt)) (v4:List Car) (v2:List Bool) (i:Nat) (v3_5:Int) (v3_6:Int) (v3_7:Bool) (v3_8:Int) (v3_9:Int):Prop:=G Try.prog E (f23K0 Try.prog) (f23S0 c ticks l f v4 v2 i v3_5 v3_6 v3_7 v3_8 v3_9 )
abbrev Wz (c:Cir) (f:(List Flt)) (v4:List Car) (v2:List Bool) (v3_5:Int) (v3_6:Int) (v3_7:Bool) (v3_8:Int) (v3_9:Int) (l:(List Prs)):=Qu (⟨c,f,v4,v2,v3_5,v3_6,v3_7,v3_8,v3_9⟩:Trk) l
abbrev z23_1 (c:Cir) (f:(List Flt)) (v4:List Car) (v2:List Bool) (v3_5:Int) (v3_6:Int) (v3_7:Bool) (v3_8:Int) (v3_9:Int) (l:(List Prs)):List Blk:=[⟨true,0,1,false,[.rsl (Qc c.blocks) 0 c.blocks.length,.rsl (rowI c.cars) 0 c.cars.length,.rsl (Qi f) 0 f.length,.sl 1 c.cars.length 0 ((Wz c f v4 v2 v3_5 v3_6 v3_7 v3_8 v3_9 l).cars.length) 4,.sl 2 0 0 ((Wz c f v4 v2 v3_5 v3_6 v3_7 v3_8 v3_9 l).gos.length) 1,.int .i64 ((Wz c f v4 v2 v3_5 v3_6 v3_7 v3_8 v3_9 l).tick),.int .i64 ((Wz c f v4 v2 v3_5 v3_6 v3_7 v3_8 v3_9 l).stopped),.bool ((Wz c f v4 v2 v3_5 v3_6 v3_7 v3_8 v3_9 l).wrecked),.int .i64 ((Wz c f v4 v2 v3_5 v3_6 v3_7 v3_8 v3_9 l).rounds),.int .i64 ((Wz c f v4 v2 v3_5 v3_6 v3_7 v3_8 v3_9 l).gone)],false⟩,⟨true,c.cars.length,4,true,(Qd (Wz c f v4 v2 v3_5 v3_6 v3_7 v3_8 v3_9 l).cars),true⟩,⟨true,0,1,true,(rowB (Wz c f v4 v2 v3_5 v3_6 v3_7 v3_8 v3_9 l).gos),true⟩]
abbrev z23_2 (c:Cir):List AV:=[.rsl (Qc c.blocks) 0 c.blocks.length,.rsl (rowI c.cars) 0 c.cars.length]
abbrev z23_3 (c:Cir) (f:(List Flt)):List Blk:=[⟨true,0,1,true,(z23_2 c),false⟩,⟨true,0,1,true,(rowB (newT c f).gos),true⟩,⟨true,0,1,false,[.rsl (Qc c.blocks) 0 c.blocks.length,.rsl (rowI c.cars) 0 c.cars.length,.rsl (Qi f) 0 f.length,.sl 3 c.cars.length 0 ((newT c f).cars.length) 4,.sl 1 0 0 ((newT c f).gos.length) 1,.int .i64 0,.int .i64 (-1),.bool false,.int .i64 0,.int .i64 0],false⟩,⟨true,c.cars.length,4,true,(Qd (newT c f).cars),true⟩]
abbrev z23_4 (c:Cir) (ticks:Int) (l:(List Prs)) (f:(List Flt)):List AV:=[.agg (z23_2 c),.int .i64 ticks,.rsl (Qs l) 0 l.length,.rsl (Qi f) 0 f.length]
theorem p23_start_0 (c:Cir) (ticks:Int) (l:(List Prs)) (f:(List Flt)) {E:Env} {res:AV} (hE:Qn Try.prog 23 res E) (ho:AllP [Ql Try.prog (.clos 43 [] []) (z23_4 c ticks l f) (.int .i64 (Xf c ticks l f)),((Xf c ticks l f) != 0)=true])
 (hr:AvLe (.tup [.int .i64 0,.int .i64 (Xf c ticks l f)]) res):G Try.prog E [.code (Qf Try.prog 23)] ⟨(z23_4 c ticks l f)++unds (Try.f23.ntmps - 4),[]⟩ :=
 Qk (n:=400) (evs:=[.v (.int .i64 (Xf c ticks l f)),.b true]) (obs:=_) hE Try.func23 Qm (by kernel_rfl) ho hr
theorem p23_start_1 (c:Cir) (ticks:Int) (l:(List Prs)) (f:(List Flt)) {E:Env} {rv:AV} (hE:Qn Try.prog 23 rv E) (ho:AllP [Ql Try.prog (.clos 43 [] []) (z23_4 c ticks l f) (.int .i64 (Xf c ticks l f)),((Xf c ticks l f) != 0)=false,XT Try.prog (.clos 44 [] []) [.agg (z23_2 c),.rsl (Qi f) 0 f.length] [] (.ptr 2 0 0) (z23_3 c f)])
 (hg:G Try.prog E (f23K0 Try.prog) ⟨([J,J,.rsl (Qs l) 0 l.length]++jj 8 ([.ptr 3 0 0]++jj 11 ([.int .i64 ticks,.int .i64 0]++Js 9))),[⟨true,0,1,true,(z23_2 c),false⟩,⟨true,0,1,true,(z23_2 c),false⟩,⟨true,0,1,true,(rowB (newT c f).gos),true⟩,⟨true,0,1,false,[.rsl (Qc c.blocks) 0 c.blocks.length,.rsl (rowI c.cars) 0 c.cars.length,.rsl (Qi f) 0 f.length,.sl 4 c.cars.length 0 ((newT c f).cars.length) 4,.sl 2 0 0 ((newT c f).gos.length) 1,.int .i64 0,.int .i64 (-1),.bool false,.int .i64 0,.int .i64 0],false⟩,⟨true,c.cars.length,4,true,(Qd (newT c f).cars),true⟩]⟩):G Try.prog E [.code (Qf Try.prog 23)] ⟨(z23_4 c ticks l f)++unds (Try.f23.ntmps - 4),[]⟩ :=
 Qa (n:=400) (ds:=[]) (cs:=[]) (live:=[2,11,23,24]) (m:=5) (evs:=[.v (.int .i64 (Xf c ticks l f)),.b false,.lent [] (.ptr 2 0 0) (z23_3 c f),.stop]) (obs:=_) hE.2.1 (hE.nogh _) Qm (by kernel_rfl) ho hg
theorem f23W (c:Cir) (ticks:Int) (l:(List Prs)) (f:(List Flt)) {E:Env} {rv:(Int × Int)} (hE:Qn Try.prog 23 (.tup [.int .i64 rv.1,.int .i64 rv.2]) E)
 (h:(((c.blocks.length≤9223372036854775807∧c.cars.length≤9223372036854775807)∧l.length≤9223372036854775807∧f.length≤9223372036854775807)∧((¬ ((Xf c ticks l f)=0)→rv=(0,(Xf c ticks l f)))∧((Xf c ticks l f)=0→((NewIn c)∧f23G0 E c ticks l f ((newT c f).cars) ((newT c f).gos) 0 0 (-1) false 0 0))))):G Try.prog E [.code (Qf Try.prog 23)] ⟨[.agg [.rsl (Qc c.blocks) 0 c.blocks.length,.rsl (rowI c.cars) 0 c.cars.length],.int .i64 ticks,.rsl (Qs l) 0 l.length,.rsl (Qi f) 0 f.length]++unds (Try.f23.ntmps - 4),[]⟩:=by
 obtain ⟨h1,h⟩:=h
 rcases bft ((Xf c ticks l f) != 0) with hc0 | hc0
 · have h:=h.1 (bneT hc0)
   exact p23_start_0 c ticks l f hE ⟨(u43 (qW c ticks l f h1)),hc0,trivial⟩ (AvLe.of_eq (by rw [h]; try rfl))
 · have h:=h.2 (bneF hc0)
   obtain ⟨h2,h⟩:=h
   exact p23_start_1 c ticks l f hE ⟨(u43 (qW c ticks l f h1)),hc0,(Xl Try.func44 (by kernel_rfl) f44b (Wi c f h2)),trivial⟩ h
theorem p23_0_0 (c:Cir) (ticks:Int) (l:(List Prs)) (f:(List Flt)) (v4:List Car) (v2:List Bool) (i:Nat) (v3_5:Int) (v3_6:Int) (v3_7:Bool) (v3_8:Int) (v3_9:Int) {E:Env} {rv:AV} (hE:Qn Try.prog 23 rv E) (ho:AllP [(decide ((i:Int)<ticks))=true,XT Try.prog (.clos 45 [] []) [.ptr 0 0 0,.rsl (Qs l) 0 l.length] [⟨true,0,1,false,[.rsl (Qc c.blocks) 0 c.blocks.length,.rsl (rowI c.cars) 0 c.cars.length,.rsl (Qi f) 0 f.length,.sl 1 c.cars.length 0 v4.length 4,.sl 2 0 0 v2.length 1,.int .i64 v3_5,.int .i64 v3_6,.bool v3_7,.int .i64 v3_8,.int .i64 v3_9],false⟩,⟨true,c.cars.length,4,true,(Qd v4),true⟩,⟨true,0,1,true,(rowB v2),true⟩] (.tup []) (z23_1 c f v4 v2 v3_5 v3_6 v3_7 v3_8 v3_9 l),InR .i64 ((i:Int)+1)])
 (hg:G Try.prog E (f23K0 Try.prog) ⟨([J,J,.rsl (Qs l) 0 l.length]++jj 8 ([.ptr 3 0 0]++jj 11 ([.int .i64 ticks,.int .i64 ((i:Int)+1)]++Js 9))),[⟨true,0,1,true,(z23_2 c),false⟩,⟨true,0,1,true,(z23_2 c),false⟩,⟨true,0,1,true,(rowB (Wz c f v4 v2 v3_5 v3_6 v3_7 v3_8 v3_9 l).gos),true⟩,⟨true,0,1,false,[.rsl (Qc c.blocks) 0 c.blocks.length,.rsl (rowI c.cars) 0 c.cars.length,.rsl (Qi f) 0 f.length,.sl 4 c.cars.length 0 ((Wz c f v4 v2 v3_5 v3_6 v3_7 v3_8 v3_9 l).cars.length) 4,.sl 2 0 0 ((Wz c f v4 v2 v3_5 v3_6 v3_7 v3_8 v3_9 l).gos.length) 1,.int .i64 ((Wz c f v4 v2 v3_5 v3_6 v3_7 v3_8 v3_9 l).tick),.int .i64 ((Wz c f v4 v2 v3_5 v3_6 v3_7 v3_8 v3_9 l).stopped),.bool ((Wz c f v4 v2 v3_5 v3_6 v3_7 v3_8 v3_9 l).wrecked),.int .i64 ((Wz c f v4 v2 v3_5 v3_6 v3_7 v3_8 v3_9 l).rounds),.int .i64 ((Wz c f v4 v2 v3_5 v3_6 v3_7 v3_8 v3_9 l).gone)],false⟩,⟨true,c.cars.length,4,true,(Qd (Wz c f v4 v2 v3_5 v3_6 v3_7 v3_8 v3_9 l).cars),true⟩]⟩):G Try.prog E (f23K0 Try.prog) (f23S0 c ticks l f v4 v2 i v3_5 v3_6 v3_7 v3_8 v3_9 ) :=
 Qa (n:=400) (ds:=[]) (cs:=[]) (live:=[2,11,23,24]) (m:=5) (evs:=[.b true,.lent [3,4,2] (.tup []) (z23_1 c f v4 v2 v3_5 v3_6 v3_7 v3_8 v3_9 l),.stop]) (obs:=_) hE.2.1 (hE.nogh _) Qm (by kernel_rfl) ho hg
theorem p23_0_1 (c:Cir) (ticks:Int) (l:(List Prs)) (f:(List Flt)) (v4:List Car) (v2:List Bool) (i:Nat) (v3_5:Int) (v3_6:Int) (v3_7:Bool) (v3_8:Int) (v3_9:Int) {E:Env} {res:AV} (hE:Qn Try.prog 23 res E) (ho:AllP [(decide ((i:Int)<ticks))=false])
 (hr:AvLe (.tup [.int .i64 v3_6,.int .i64 0]) res):G Try.prog E (f23K0 Try.prog) (f23S0 c ticks l f v4 v2 i v3_5 v3_6 v3_7 v3_8 v3_9 ) :=
 Qk (n:=400) (evs:=[.b false]) (obs:=_) hE Try.func23 Qm (by kernel_rfl) ho hr
theorem f23W0 (c:Cir) (ticks:Int) (l:(List Prs)) (f:(List Flt)) (v4:List Car) (v2:List Bool) (i:Nat) (v3_5:Int) (v3_6:Int) (v3_7:Bool) (v3_8:Int) (v3_9:Int) {E:Env} {rv:(Int × Int)} (hE:Qn Try.prog 23 (.tup [.int .i64 rv.1,.int .i64 rv.2]) E)
 (h:(((i:Int)<ticks→((qp (⟨c,f,v4,v2,v3_5,v3_6,v3_7,v3_8,v3_9⟩:Trk) l)∧((I6 ((i:Int)+1))∧f23G0 E c ticks l f ((Qu (⟨c,f,v4,v2,v3_5,v3_6,v3_7,v3_8,v3_9⟩:Trk) l).cars) ((Qu (⟨c,f,v4,v2,v3_5,v3_6,v3_7,v3_8,v3_9⟩:Trk) l).gos) (i+1) ((Qu (⟨c,f,v4,v2,v3_5,v3_6,v3_7,v3_8,v3_9⟩:Trk) l).tick) ((Qu (⟨c,f,v4,v2,v3_5,v3_6,v3_7,v3_8,v3_9⟩:Trk) l).stopped) ((Qu (⟨c,f,v4,v2,v3_5,v3_6,v3_7,v3_8,v3_9⟩:Trk) l).wrecked) ((Qu (⟨c,f,v4,v2,v3_5,v3_6,v3_7,v3_8,v3_9⟩:Trk) l).rounds) ((Qu (⟨c,f,v4,v2,v3_5,v3_6,v3_7,v3_8,v3_9⟩:Trk) l).gone))))∧(¬ ((i:Int)<ticks)→rv=(v3_6,0)))):f23G0 E c ticks l f v4 v2 i v3_5 v3_6 v3_7 v3_8 v3_9:=by
 rcases bft (decide ((i:Int)<ticks)) with hc0 | hc0
 · have h:=h.1 (odt hc0)
   obtain ⟨h1,h⟩:=h
   obtain ⟨q2_1,h⟩:=h
   exact p23_0_0 c ticks l f v4 v2 i v3_5 v3_6 v3_7 v3_8 v3_9 hE ⟨hc0,(Xl Try.func45 (by kernel_rfl) f45b (Qbu l c f v4 v2 v3_5 v3_6 v3_7 v3_8 v3_9 c.cars.length 0 h1)),q2_1,trivial⟩ h
 · have h:=h.2 (odf hc0)
   exact p23_0_1 c ticks l f v4 v2 i v3_5 v3_6 v3_7 v3_8 v3_9 hE ⟨hc0,trivial⟩ (AvLe.of_eq (by rw [h]; try rfl))
theorem KH {c:Cir} {ticks:Int} {l:List Prs} {f:List Flt} (h:PlayIn c ticks l f) {i:Nat} (hi:i≤500):qp (Xq c f l i) l:=⟨30+i,run_tok h.tok,by omega,by rw [Xq,run_c]; exact h.prs,by have:=h.nl; omega⟩
theorem yi (c:Cir) (ticks:Int) (l:List Prs) (f:List Flt) (h:(c.blocks.length≤9223372036854775807∧c.cars.length≤9223372036854775807)∧l.length≤9223372036854775807∧f.length≤9223372036854775807) :
 Pure Try.prog 19 [.agg [.rsl (Qc c.blocks) 0 c.blocks.length,.rsl (rowI c.cars) 0 c.cars.length],.int .i64 ticks,.rsl (Qs l) 0 l.length,.rsl (Qi f) 0 f.length] (.tup [.rsl (Yh Qg (XH c ticks l f).1) 0 (XH c ticks l f).1.length,.int .i64 (XH c ticks l f).2]):=QN Try.func19 f19b fun E hE=>by
 refine f19W c ticks l f (rv:=XH c ticks l f) hE ⟨h,fun h0=>by rw [XH,if_neg h0],fun h0=>?_⟩
 obtain ⟨hc,hp⟩:=play_in h0
 have ht:=hp.tk
 refine ⟨hp.chk.new,?_⟩
 have key:∀ (d i:Nat),i+d=Int.toNat ticks→f19G0 E c ticks l f (Xq c f l i).cars (Xq c f l i).gos ((XH c ticks l f).1.take i) i (Xq c f l i).tick (Xq c f l i).stopped (Xq c f l i).wrecked (Xq c f l i).rounds (Xq c f l i).gone:=by
  intro d
  induction d with
  | zero =>
   intro i hi
   refine f19W0 c ticks l f _ _ _ i _ _ _ _ _ (rv:=XH c ticks l f) hE ⟨fun h=>by omega,fun _=>?_⟩
   rw [List.take_of_length_le (by rw [XH,if_pos h0]; simp; omega)]
   rw [XH,if_pos h0]
  | succ d ih =>
   intro i hi
   have nx:=ih (i+1) (by omega)
   have e1:(⟨c,f,(Xq c f l i).cars,(Xq c f l i).gos,(Xq c f l i).tick,(Xq c f l i).stopped,(Xq c f l i).wrecked,(Xq c f l i).rounds,(Xq c f l i).gone⟩:Trk)=Xq c f l i:=Qbr run_c run_f
   have e2:(⟨c,f,(Xq c f l (i+1)).cars,(Xq c f l (i+1)).gos,(Xq c f l (i+1)).tick,(Xq c f l (i+1)).stopped,(Xq c f l (i+1)).wrecked,(Xq c f l (i+1)).rounds,(Xq c f l (i+1)).gone⟩:Trk)=Xq c f l (i+1):=Qbr run_c run_f
   have hrow:(XH c ticks l f).1[i]?=some ((Xq c f l (i+1)).cars.map Car.spot):=by
    rw [XH,if_pos h0]; simp only; rw [List.getElem?_map,List.getElem?_range (by omega)]; rfl
   rw [List.take_add_one,hrow] at nx
   refine f19W0 c ticks l f _ _ _ i _ _ _ _ _ (rv:=XH c ticks l f) hE ⟨fun _=>?_,fun h=>by omega⟩
   rw [e1]
   refine ⟨KH hp (by omega),?_⟩
   rw [show Qu (Xq c f l i) l=Xq c f l (i+1) from rfl,e2]
   have hl:=(run_tok (l:=fun _=>l) hp.tok (n:=i+1)).lc
   exact ⟨by show (Xq c f l (i+1)).cars.length≤_; have:=hl; unfold Xq; omega,by simp; omega,by omega,nx⟩
 exact key (Int.toNat ticks) 0 (by omega)
theorem WP (c:Cir) (ticks:Int) (l:List Prs) (f:List Flt) (h:(c.blocks.length≤9223372036854775807∧c.cars.length≤9223372036854775807)∧l.length≤9223372036854775807∧f.length≤9223372036854775807) :
 Pure Try.prog 23 [.agg [.rsl (Qc c.blocks) 0 c.blocks.length,.rsl (rowI c.cars) 0 c.cars.length],.int .i64 ticks,.rsl (Qs l) 0 l.length,.rsl (Qi f) 0 f.length] (.tup [.int .i64 (Vb c ticks l f).1,.int .i64 (Vb c ticks l f).2]):=QN Try.func23 f23b fun E hE=>by
 refine f23W c ticks l f (rv:=Vb c ticks l f) hE ⟨h,fun h0=>by rw [Vb,if_neg h0],fun h0=>?_⟩
 obtain ⟨hc,hp⟩:=play_in h0
 have ht:=hp.tk
 refine ⟨hp.chk.new,?_⟩
 have key:∀ (d i:Nat),i+d=Int.toNat ticks→f23G0 E c ticks l f (Xq c f l i).cars (Xq c f l i).gos i (Xq c f l i).tick (Xq c f l i).stopped (Xq c f l i).wrecked (Xq c f l i).rounds (Xq c f l i).gone:=by
  intro d
  induction d with
  | zero =>
   intro i hi
   refine f23W0 c ticks l f _ _ i _ _ _ _ _ (rv:=Vb c ticks l f) hE ⟨fun h=>by omega,fun _=>?_⟩
   rw [Vb,if_pos h0,show Int.toNat ticks=i by omega]
  | succ d ih =>
   intro i hi
   have nx:=ih (i+1) (by omega)
   have e1:(⟨c,f,(Xq c f l i).cars,(Xq c f l i).gos,(Xq c f l i).tick,(Xq c f l i).stopped,(Xq c f l i).wrecked,(Xq c f l i).rounds,(Xq c f l i).gone⟩:Trk)=Xq c f l i:=Qbr run_c run_f
   refine f23W0 c ticks l f _ _ i _ _ _ _ _ (rv:=Vb c ticks l f) hE ⟨fun _=>?_,fun h=>by omega⟩
   rw [e1]
   exact ⟨KH hp (by omega),by omega,nx⟩
 exact key (Int.toNat ticks) 0 (by omega)
end Go.Proofs.Ytgdfkjjgdkejfaa
namespace Go.Proofs.Ytgdfkjjgdkejfaa
open Go Ax
open Go.Proofs
structure Rn where
 c:Cir
 spots:List Spt
 stood:List Int
 go:List Bool
 stp:Bool
def RnIn (R:Rn):Prop:=R.spots.length≤1000000∧∀ x ∈ R.spots,InC R.c x.block
def Vg (c:Cir) (x:Spt):Bool:=x.ran == (bkAt c x.block).time
def carO (spots:List Spt) (b:Int):Option Nat:=XE (fun i=>(spots.getD i dS).block == b) spots.length
def carS (spots:List Spt) (b:Int):Int:=match carO spots b with
 | some i=>(i:Int)
 | none=>-1
def trueB (c:Cir) (spots:List Spt) (kind b:Int):Bool:=match carO spots b with
 | some i=>if kind=2 then Vg c (spots.getD i dS) else if kind=3 then !(spots.getD i dS).opn else true
 | none=>decide (kind=3)
def XN (c:Cir) (spots:List Spt) (kind b:Int):Int:=b2i (trueB c spots kind b)
def yc (kind chan b tick:Int) (n:Int) (x:Flt):Int:=if x.frm≤tick∧x.kind=kind∧x.chan=chan∧x.block=b then x.val else n
def Yt (fs:List Flt) (kind chan b tick n:Int):Int:=fs.foldl (yc kind chan b tick) n
def qm (c:Cir) (spots:List Spt) (i:Nat):Bool:=(spots.getD i dS).opn && !Vg c (spots.getD i dS)
def XU (c:Cir) (spots:List Spt):Bool:=(List.range spots.length).any fun i=>qm c spots i || (List.range i).any fun k=>(spots.getD k dS).block == (spots.getD i dS).block
theorem carS_some {spots:List Spt} {b:Int} {i:Nat} (h:i<spots.length) (hb:(spots.getD i dS).block=b) (hp:∀ j,j<i→(spots.getD j dS).block ≠ b):carO spots b=some i :=
 Yu h (by simpa using hb) fun j hj=>by simpa using hp j hj
theorem carS_none {spots:List Spt} {b:Int} (hp:∀ j,j<spots.length→(spots.getD j dS).block ≠ b):carO spots b=none:=XP fun j hj=>by simpa using hp j hj
theorem Wb {spots:List Spt} {b:Int} {i:Nat} (h:carO spots b=some i):i<spots.length∧(spots.getD i dS).block=b∧∀ j,j<i→(spots.getD j dS).block ≠ b:=by
 obtain ⟨h1,h2,h3⟩:=QS h
 exact ⟨h1,by simpa using h2,fun j hj=>by simpa using h3 j hj⟩
theorem carO_no {spots:List Spt} {b:Int} (h:carO spots b=none):∀ j,j<spots.length→(spots.getD j dS).block ≠ b:=fun j hj=>by simpa using VY h j hj
theorem XG {p:Nat→Bool} {n:Nat} (h:∀ j,j<n→p j=false):(List.range n).any p=false:=List.any_eq_false.2 fun x hx=>by simp [h x (List.mem_range.1 hx)]
theorem Yk {p:Nat→Bool} {n i:Nat} (hi:i<n) (h:p i=true):(List.range n).any p=true:=List.any_eq_true.2 ⟨i,List.mem_range.2 hi,h⟩
theorem f80b:Try.f80.body=some (Qf Try.prog 80):=by kernel_rfl
theorem u80 {a c k:List AV} {r:AV} (h:Pure Try.prog 80 (a++c++k) r):Ql Try.prog (.clos 80 a k) c r:=QJ Try.func80 (by kernel_rfl) f80b h
theorem p80_start_0 (car:Int) (R:Rn) (se:Spt) (be:Bk) {E:Env} {res:AV} (hE:Qn Try.prog 80 res E) (ho:AllP [0≤car∧car<(R.spots.length:Int),((Qg R.spots).drop ((0+(Int.toNat car)*3)+1)).take 1=[.int .i64 se.ran],0≤car∧car<(R.spots.length:Int),((Qg R.spots).drop ((0+(Int.toNat car)*3)+0)).take 1=[.int .i64 se.block],0≤se.block∧se.block<(R.c.blocks.length:Int),((Qc R.c.blocks).drop ((0+(Int.toNat se.block)*4)+0)).take 1=[.int .i64 be.time]])
 (hr:AvLe (.bool (se.ran == be.time)) res):G Try.prog E [.code (Qf Try.prog 80)] ⟨[.rptr [.rsl (Qc R.c.blocks) 0 R.c.blocks.length,.rsl (rowI R.c.cars) 0 R.c.cars.length,.rsl (Qg R.spots) 0 R.spots.length,.rsl (rowI R.stood) 0 R.stood.length,.rsl (rowB R.go) 0 R.go.length,.bool R.stp] 0,.int .i64 car]++unds (Try.f80.ntmps - 2),[]⟩ :=
 Qk (n:=400) (evs:=[.auto,.ld (.int .i64 se.ran),.auto,.auto,.ld (.int .i64 se.block),.ld (.int .i64 be.time)]) (obs:=_) hE Try.func80 Qm (by kernel_rfl) ho hr
theorem f80W (car:Int) (R:Rn) {E:Env} {rv:Bool} (hE:Qn Try.prog 80 (.bool rv) E)
 (h:(0≤car∧(∃ se:Spt,R.spots[Int.toNat car]?=some se∧(0≤se.block∧(∃ be:Bk,R.c.blocks[Int.toNat se.block]?=some be∧rv=(se.ran == be.time)))))):G Try.prog E [.code (Qf Try.prog 80)] ⟨[.rptr [.rsl (Qc R.c.blocks) 0 R.c.blocks.length,.rsl (rowI R.c.cars) 0 R.c.cars.length,.rsl (Qg R.spots) 0 R.spots.length,.rsl (rowI R.stood) 0 R.stood.length,.rsl (rowB R.go) 0 R.go.length,.bool R.stp] 0,.int .i64 car]++unds (Try.f80.ntmps - 2),[]⟩:=by
 obtain ⟨h2,h⟩:=h
 obtain ⟨se,h1,h⟩:=h
 obtain ⟨h4,h⟩:=h
 obtain ⟨be,h3,h⟩:=h
 exact p80_start_0 car R se be hE ⟨(Qq h2 h1),(rp cSpt 3 1 1 h1),(Qq h2 h1),(rp cSpt 3 0 1 h1),(Qq h4 h3),(rp cBk 4 0 1 h3),trivial⟩ (AvLe.of_eq (by rw [h]; try rfl))
theorem qd (R:Rn) (i:Int) (h:RnIn R∧0≤i∧Int.toNat i<R.spots.length):Pure Try.prog 80 [.rptr [.rsl (Qc R.c.blocks) 0 R.c.blocks.length,.rsl (rowI R.c.cars) 0 R.c.cars.length,.rsl (Qg R.spots) 0 R.spots.length,.rsl (rowI R.stood) 0 R.stood.length,.rsl (rowB R.go) 0 R.go.length,.bool R.stp] 0,.int .i64 i] (.bool (Vg R.c (R.spots.getD (Int.toNat i) dS))):=QN Try.func80 f80b fun E hE=>by
 have hx:R.spots[Int.toNat i]?=some (R.spots.getD (Int.toNat i) dS):=getD_some h.2.2
 have hin:=h.1.2 _ (List.mem_of_getElem? hx)
 exact f80W i R hE ⟨h.2.1,_,hx,hin.1,_,yC hin,rfl⟩
theorem f82b:Try.f82.body=some (Qf Try.prog 82):=by kernel_rfl
theorem u82 {a c k:List AV} {r:AV} (h:Pure Try.prog 82 (a++c++k) r):Ql Try.prog (.clos 82 a k) c r:=QJ Try.func82 (by kernel_rfl) f82b h
def f82K0 (P:Program):List Item:=kAt 400 [.code (Qf P 82)] [.stop]
def f82S0 (block:Int) (R:Rn) (i:Nat):St:=⟨([.rptr [.rsl (Qc R.c.blocks) 0 R.c.blocks.length,.rsl (rowI R.c.cars) 0 R.c.cars.length,.rsl (Qg R.spots) 0 R.spots.length,.rsl (rowI R.stood) 0 R.stood.length,.rsl (rowB R.go) 0 R.go.length,.bool R.stp] 0,.int .i64 block,J,J,J,.int .i64 (i:Int)]++Js 20),[]⟩
def f82G0 (E:Env) (block:Int) (R:Rn) (i:Nat):Prop:=G Try.prog E (f82K0 Try.prog) (f82S0 block R i )
abbrev z82_1 (R:Rn):List AV:=[.rsl (Qc R.c.blocks) 0 R.c.blocks.length,.rsl (rowI R.c.cars) 0 R.c.cars.length,.rsl (Qg R.spots) 0 R.spots.length,.rsl (rowI R.stood) 0 R.stood.length,.rsl (rowB R.go) 0 R.go.length,.bool R.stp]
theorem p82_start_0 (block:Int) (R:Rn) {E:Env} {rv:AV} (hE:Qn Try.prog 82 rv E) (ho:AllP [])
 (hg:G Try.prog E (f82K0 Try.prog) ⟨([.rptr (z82_1 R) 0,.int .i64 block,J,J,J,.int .i64 0]++Js 20),[]⟩):G Try.prog E [.code (Qf Try.prog 82)] ⟨[.rptr (z82_1 R) 0,.int .i64 block]++unds (Try.f82.ntmps - 2),[]⟩ :=
 Qa (n:=400) (ds:=[]) (cs:=[]) (live:=[0,1,5]) (m:=0) (evs:=[.stop]) (obs:=_) hE.2.1 (hE.nogh _) Qm (by kernel_rfl) ho hg
theorem f82W (block:Int) (R:Rn) {E:Env} {rv:Int} (hE:Qn Try.prog 82 (.int .i64 rv) E)
 (h:f82G0 E block R 0):G Try.prog E [.code (Qf Try.prog 82)] ⟨[.rptr [.rsl (Qc R.c.blocks) 0 R.c.blocks.length,.rsl (rowI R.c.cars) 0 R.c.cars.length,.rsl (Qg R.spots) 0 R.spots.length,.rsl (rowI R.stood) 0 R.stood.length,.rsl (rowB R.go) 0 R.go.length,.bool R.stp] 0,.int .i64 block]++unds (Try.f82.ntmps - 2),[]⟩:=by
 exact p82_start_0 block R hE trivial h
theorem p82_0_0 (block:Int) (R:Rn) (i:Nat) (se:Spt) {E:Env} {res:AV} (hE:Qn Try.prog 82 res E) (ho:AllP [(decide ((i:Int)<(R.spots.length:Int)))=true,0≤(i:Int)∧(i:Int)<(R.spots.length:Int),((Qg R.spots).drop ((0+(Int.toNat (i:Int))*3)+0)).take 1=[.int .i64 se.block],(se.block == block)=true])
 (hr:AvLe (.int .i64 (i:Int)) res):G Try.prog E (f82K0 Try.prog) (f82S0 block R i ) :=
 Qk (n:=400) (evs:=[.b true,.auto,.ld (.int .i64 se.block),.b true]) (obs:=_) hE Try.func82 Qm (by kernel_rfl) ho hr
theorem p82_0_1 (block:Int) (R:Rn) (i:Nat) (se:Spt) {E:Env} {rv:AV} (hE:Qn Try.prog 82 rv E) (ho:AllP [(decide ((i:Int)<(R.spots.length:Int)))=true,0≤(i:Int)∧(i:Int)<(R.spots.length:Int),((Qg R.spots).drop ((0+(Int.toNat (i:Int))*3)+0)).take 1=[.int .i64 se.block],(se.block == block)=false,InR .i64 ((i:Int)+1)])
 (hg:G Try.prog E (f82K0 Try.prog) ⟨([.rptr (z82_1 R) 0,.int .i64 block,J,J,J,.int .i64 ((i:Int)+1)]++Js 20),[]⟩):G Try.prog E (f82K0 Try.prog) (f82S0 block R i ) :=
 Qa (n:=400) (ds:=[]) (cs:=[]) (live:=[0,1,5]) (m:=0) (evs:=[.b true,.auto,.ld (.int .i64 se.block),.b false,.stop]) (obs:=_) hE.2.1 (hE.nogh _) Qm (by kernel_rfl) ho hg
theorem p82_0_2 (block:Int) (R:Rn) (i:Nat) {E:Env} {res:AV} (hE:Qn Try.prog 82 res E) (ho:AllP [(decide ((i:Int)<(R.spots.length:Int)))=false])
 (hr:AvLe (.int .i64 (-1)) res):G Try.prog E (f82K0 Try.prog) (f82S0 block R i ) :=
 Qk (n:=400) (evs:=[.b false]) (obs:=_) hE Try.func82 Qm (by kernel_rfl) ho hr
theorem f82W0 (block:Int) (R:Rn) (i:Nat) {E:Env} {rv:Int} (hE:Qn Try.prog 82 (.int .i64 rv) E)
 (h:(((i:Int)<(R.spots.length:Int)→(∃ se:Spt,R.spots[i]?=some se∧((se.block=block→rv=(i:Int))∧(¬ (se.block=block)→((I6 ((i:Int)+1))∧f82G0 E block R (i+1))))))∧(¬ ((i:Int)<(R.spots.length:Int))→rv=(-1)))):f82G0 E block R i:=by
 rcases bft (decide ((i:Int)<(R.spots.length:Int))) with hc0 | hc0
 · have h:=h.1 (odt hc0)
   obtain ⟨se,h1,h⟩:=h
   rcases bft (se.block == block) with hc1 | hc1
   · have h:=h.1 (eq_of_beq hc1)
     exact p82_0_0 block R i se hE ⟨hc0,(Qe h1),(rp cSpt 3 0 1 h1),hc1,trivial⟩ (AvLe.of_eq (by rw [h]; try rfl))
   · have h:=h.2 (ne_of_beq_false hc1)
     obtain ⟨q5_2,h⟩:=h
     exact p82_0_1 block R i se hE ⟨hc0,(Qe h1),(rp cSpt 3 0 1 h1),hc1,q5_2,trivial⟩ h
 · have h:=h.2 (odf hc0)
   exact p82_0_2 block R i hE ⟨hc0,trivial⟩ (AvLe.of_eq (by rw [h]; try rfl))
theorem XJ (R:Rn) (b:Int) (h:RnIn R):Pure Try.prog 82 [.rptr [.rsl (Qc R.c.blocks) 0 R.c.blocks.length,.rsl (rowI R.c.cars) 0 R.c.cars.length,.rsl (Qg R.spots) 0 R.spots.length,.rsl (rowI R.stood) 0 R.stood.length,.rsl (rowB R.go) 0 R.go.length,.bool R.stp] 0,.int .i64 b] (.int .i64 (carS R.spots b)):=QN Try.func82 f82b fun E hE=>by
 have hl:=h.1
 have key:∀ (d i:Nat),i+d=R.spots.length→(∀ j,j<i→(R.spots.getD j dS).block ≠ b)→f82G0 E b R i:=by
  intro d
  induction d with
  | zero=>intro i hi hp; exact f82W0 b R i (rv:=carS R.spots b) hE ⟨fun h=>by omega,fun _=>by rw [carS,carS_none (by rw [show R.spots.length=i by omega]; exact hp)]⟩
  | succ d ih =>
   intro i hi hp
   have hx:R.spots[i]?=some (R.spots.getD i dS):=getD_some (by omega)
   exact f82W0 b R i (rv:=carS R.spots b) hE ⟨fun _=>⟨_,hx,fun e=>by rw [carS,carS_some (by omega) e hp],fun e=>⟨by omega,ih (i+1) (by omega) fun j hj=>by
    rcases Nat.lt_or_ge j i with h1 | h1
    · exact hp j h1
    · rw [show j=i by omega]; exact e⟩⟩,fun h=>by omega⟩
 exact f82W b R (rv:=carS R.spots b) hE (key R.spots.length 0 (by omega) (fun j hj=>by omega))
theorem f94b:Try.f94.body=some (Qf Try.prog 94):=by kernel_rfl
theorem u94 {a c k:List AV} {r:AV} (h:Pure Try.prog 94 (a++c++k) r):Ql Try.prog (.clos 94 a k) c r:=QJ Try.func94 (by kernel_rfl) f94b h
abbrev Kw (R:Rn):List AV:=[.rsl (Qc R.c.blocks) 0 R.c.blocks.length,.rsl (rowI R.c.cars) 0 R.c.cars.length,.rsl (Qg R.spots) 0 R.spots.length,.rsl (rowI R.stood) 0 R.stood.length,.rsl (rowB R.go) 0 R.go.length,.bool R.stp]
abbrev z94_2 (R:Rn) (kind:Int) (block:Int):List AV:=[.rptr (Kw R) 0,.int .i64 kind,.int .i64 block]
abbrev z94_3 (R:Rn) (block:Int):AV:=.bool (Vg R.c (R.spots.getD (Int.toNat (carS R.spots block)) dS))
theorem p94_start_0 (kind:Int) (block:Int) (R:Rn) {E:Env} {res:AV} (hE:Qn Try.prog 94 res E) (ho:AllP [Ql Try.prog (.clos 82 [] []) [.rptr (Kw R) 0,.int .i64 block] (.int .i64 (carS R.spots block)),(kind == 2)=true,(decide ((carS R.spots block)≥0))=true,Ql Try.prog (.clos 80 [] []) [.rptr (Kw R) 0,.int .i64 (carS R.spots block)] (z94_3 R block),(Vg R.c (R.spots.getD (Int.toNat (carS R.spots block)) dS))=true])
 (hr:AvLe (.int .i64 1) res):G Try.prog E [.code (Qf Try.prog 94)] ⟨(z94_2 R kind block)++unds (Try.f94.ntmps - 3),[]⟩ :=
 Qk (n:=400) (evs:=[.v (.int .i64 (carS R.spots block)),.b true,.b true,.v (z94_3 R block),.b true]) (obs:=_) hE Try.func94 Qm (by kernel_rfl) ho hr
theorem p94_start_1 (kind:Int) (block:Int) (R:Rn) {E:Env} {res:AV} (hE:Qn Try.prog 94 res E) (ho:AllP [Ql Try.prog (.clos 82 [] []) [.rptr (Kw R) 0,.int .i64 block] (.int .i64 (carS R.spots block)),(kind == 2)=true,(decide ((carS R.spots block)≥0))=true,Ql Try.prog (.clos 80 [] []) [.rptr (Kw R) 0,.int .i64 (carS R.spots block)] (z94_3 R block),(Vg R.c (R.spots.getD (Int.toNat (carS R.spots block)) dS))=false])
 (hr:AvLe (.int .i64 0) res):G Try.prog E [.code (Qf Try.prog 94)] ⟨(z94_2 R kind block)++unds (Try.f94.ntmps - 3),[]⟩ :=
 Qk (n:=400) (evs:=[.v (.int .i64 (carS R.spots block)),.b true,.b true,.v (z94_3 R block),.b false]) (obs:=_) hE Try.func94 Qm (by kernel_rfl) ho hr
theorem p94_start_2 (kind:Int) (block:Int) (R:Rn) {E:Env} {res:AV} (hE:Qn Try.prog 94 res E) (ho:AllP [Ql Try.prog (.clos 82 [] []) [.rptr (Kw R) 0,.int .i64 block] (.int .i64 (carS R.spots block)),(kind == 2)=true,(decide ((carS R.spots block)≥0))=false,false=false])
 (hr:AvLe (.int .i64 0) res):G Try.prog E [.code (Qf Try.prog 94)] ⟨(z94_2 R kind block)++unds (Try.f94.ntmps - 3),[]⟩ :=
 Qk (n:=400) (evs:=[.v (.int .i64 (carS R.spots block)),.b true,.b false,.b false]) (obs:=_) hE Try.func94 Qm (by kernel_rfl) ho hr
theorem p94_start_3 (kind:Int) (block:Int) (R:Rn) {E:Env} {res:AV} (hE:Qn Try.prog 94 res E) (ho:AllP [Ql Try.prog (.clos 82 [] []) [.rptr (Kw R) 0,.int .i64 block] (.int .i64 (carS R.spots block)),(kind == 2)=false,(kind == 3)=true,(!(decide ((carS R.spots block)≥0)))=true,true=true])
 (hr:AvLe (.int .i64 1) res):G Try.prog E [.code (Qf Try.prog 94)] ⟨(z94_2 R kind block)++unds (Try.f94.ntmps - 3),[]⟩ :=
 Qk (n:=400) (evs:=[.v (.int .i64 (carS R.spots block)),.b false,.b true,.b true,.b true]) (obs:=_) hE Try.func94 Qm (by kernel_rfl) ho hr
theorem p94_start_4 (kind:Int) (block:Int) (R:Rn) (se:Spt) {E:Env} {res:AV} (hE:Qn Try.prog 94 res E) (ho:AllP [Ql Try.prog (.clos 82 [] []) [.rptr (Kw R) 0,.int .i64 block] (.int .i64 (carS R.spots block)),(kind == 2)=false,(kind == 3)=true,(!(decide ((carS R.spots block)≥0)))=false,0≤(carS R.spots block)∧(carS R.spots block)<(R.spots.length:Int),((Qg R.spots).drop ((0+(Int.toNat (carS R.spots block))*3)+2)).take 1=[.bool se.opn],(!se.opn)=true])
 (hr:AvLe (.int .i64 1) res):G Try.prog E [.code (Qf Try.prog 94)] ⟨(z94_2 R kind block)++unds (Try.f94.ntmps - 3),[]⟩ :=
 Qk (n:=400) (evs:=[.v (.int .i64 (carS R.spots block)),.b false,.b true,.b false,.auto,.ld (.bool se.opn),.b true]) (obs:=_) hE Try.func94 Qm (by kernel_rfl) ho hr
theorem p94_start_5 (kind:Int) (block:Int) (R:Rn) (se:Spt) {E:Env} {res:AV} (hE:Qn Try.prog 94 res E) (ho:AllP [Ql Try.prog (.clos 82 [] []) [.rptr (Kw R) 0,.int .i64 block] (.int .i64 (carS R.spots block)),(kind == 2)=false,(kind == 3)=true,(!(decide ((carS R.spots block)≥0)))=false,0≤(carS R.spots block)∧(carS R.spots block)<(R.spots.length:Int),((Qg R.spots).drop ((0+(Int.toNat (carS R.spots block))*3)+2)).take 1=[.bool se.opn],(!se.opn)=false])
 (hr:AvLe (.int .i64 0) res):G Try.prog E [.code (Qf Try.prog 94)] ⟨(z94_2 R kind block)++unds (Try.f94.ntmps - 3),[]⟩ :=
 Qk (n:=400) (evs:=[.v (.int .i64 (carS R.spots block)),.b false,.b true,.b false,.auto,.ld (.bool se.opn),.b false]) (obs:=_) hE Try.func94 Qm (by kernel_rfl) ho hr
theorem p94_start_6 (kind:Int) (block:Int) (R:Rn) {E:Env} {res:AV} (hE:Qn Try.prog 94 res E) (ho:AllP [Ql Try.prog (.clos 82 [] []) [.rptr (Kw R) 0,.int .i64 block] (.int .i64 (carS R.spots block)),(kind == 2)=false,(kind == 3)=false,(decide ((carS R.spots block)≥0))=true])
 (hr:AvLe (.int .i64 1) res):G Try.prog E [.code (Qf Try.prog 94)] ⟨(z94_2 R kind block)++unds (Try.f94.ntmps - 3),[]⟩ :=
 Qk (n:=400) (evs:=[.v (.int .i64 (carS R.spots block)),.b false,.b false,.b true]) (obs:=_) hE Try.func94 Qm (by kernel_rfl) ho hr
theorem p94_start_7 (kind:Int) (block:Int) (R:Rn) {E:Env} {res:AV} (hE:Qn Try.prog 94 res E) (ho:AllP [Ql Try.prog (.clos 82 [] []) [.rptr (Kw R) 0,.int .i64 block] (.int .i64 (carS R.spots block)),(kind == 2)=false,(kind == 3)=false,(decide ((carS R.spots block)≥0))=false])
 (hr:AvLe (.int .i64 0) res):G Try.prog E [.code (Qf Try.prog 94)] ⟨(z94_2 R kind block)++unds (Try.f94.ntmps - 3),[]⟩ :=
 Qk (n:=400) (evs:=[.v (.int .i64 (carS R.spots block)),.b false,.b false,.b false]) (obs:=_) hE Try.func94 Qm (by kernel_rfl) ho hr
theorem f94W (kind:Int) (block:Int) (R:Rn) {E:Env} {rv:Int} (hE:Qn Try.prog 94 (.int .i64 rv) E)
 (h:((RnIn R)∧((kind=2→(((carS R.spots block)≥0→((RnIn R∧0≤(carS R.spots block)∧Int.toNat (carS R.spots block)<R.spots.length)∧(((Vg R.c (R.spots.getD (Int.toNat (carS R.spots block)) dS))=true→rv=1)∧((Vg R.c (R.spots.getD (Int.toNat (carS R.spots block)) dS))=false→rv=0))))∧(¬ ((carS R.spots block)≥0)→rv=0)))∧(¬ (kind=2)→((kind=3→((¬ ((carS R.spots block)≥0)→rv=1)∧((carS R.spots block)≥0→(0≤(carS R.spots block)∧(∃ se:Spt,R.spots[Int.toNat (carS R.spots block)]?=some se∧((se.opn=false→rv=1)∧(se.opn=true→rv=0)))))))∧(¬ (kind=3)→(((carS R.spots block)≥0→rv=1)∧(¬ ((carS R.spots block)≥0)→rv=0)))))))):G Try.prog E [.code (Qf Try.prog 94)] ⟨[.rptr [.rsl (Qc R.c.blocks) 0 R.c.blocks.length,.rsl (rowI R.c.cars) 0 R.c.cars.length,.rsl (Qg R.spots) 0 R.spots.length,.rsl (rowI R.stood) 0 R.stood.length,.rsl (rowB R.go) 0 R.go.length,.bool R.stp] 0,.int .i64 kind,.int .i64 block]++unds (Try.f94.ntmps - 3),[]⟩:=by
 obtain ⟨h1,h⟩:=h
 rcases bft (kind == 2) with hc0 | hc0
 · have h:=h.1 (eq_of_beq hc0)
   rcases bft (decide ((carS R.spots block)≥0)) with hc1 | hc1
   · have h:=h.1 (odt hc1)
     obtain ⟨h2,h⟩:=h
     rcases bft (Vg R.c (R.spots.getD (Int.toNat (carS R.spots block)) dS)) with hc2 | hc2
     · have h:=h.1 hc2
       exact p94_start_0 kind block R hE ⟨(u82 (XJ R block h1)),hc0,hc1,(u80 (qd R (carS R.spots block) h2)),hc2,trivial⟩ (AvLe.of_eq (by rw [h]; try rfl))
     · have h:=h.2 hc2
       exact p94_start_1 kind block R hE ⟨(u82 (XJ R block h1)),hc0,hc1,(u80 (qd R (carS R.spots block) h2)),hc2,trivial⟩ (AvLe.of_eq (by rw [h]; try rfl))
   · have h:=h.2 (odf hc1)
     exact p94_start_2 kind block R hE ⟨(u82 (XJ R block h1)),hc0,hc1,rfl,trivial⟩ (AvLe.of_eq (by rw [h]; try rfl))
 · have h:=h.2 (ne_of_beq_false hc0)
   rcases bft (kind == 3) with hc1 | hc1
   · have h:=h.1 (eq_of_beq hc1)
     rcases bft (!(decide ((carS R.spots block)≥0))) with hc2 | hc2
     · have h:=h.1 (odf (bnT hc2))
       exact p94_start_3 kind block R hE ⟨(u82 (XJ R block h1)),hc0,hc1,hc2,rfl,trivial⟩ (AvLe.of_eq (by rw [h]; try rfl))
     · have h:=h.2 (odt (bnF hc2))
       obtain ⟨h3,h⟩:=h
       obtain ⟨se,h2,h⟩:=h
       rcases bft (!se.opn) with hc3 | hc3
       · have h:=h.1 (bnT hc3)
         exact p94_start_4 kind block R se hE ⟨(u82 (XJ R block h1)),hc0,hc1,hc2,(Qq h3 h2),(rp cSpt 3 2 1 h2),hc3,trivial⟩ (AvLe.of_eq (by rw [h]; try rfl))
       · have h:=h.2 (bnF hc3)
         exact p94_start_5 kind block R se hE ⟨(u82 (XJ R block h1)),hc0,hc1,hc2,(Qq h3 h2),(rp cSpt 3 2 1 h2),hc3,trivial⟩ (AvLe.of_eq (by rw [h]; try rfl))
   · have h:=h.2 (ne_of_beq_false hc1)
     rcases bft (decide ((carS R.spots block)≥0)) with hc2 | hc2
     · have h:=h.1 (odt hc2)
       exact p94_start_6 kind block R hE ⟨(u82 (XJ R block h1)),hc0,hc1,hc2,trivial⟩ (AvLe.of_eq (by rw [h]; try rfl))
     · have h:=h.2 (odf hc2)
       exact p94_start_7 kind block R hE ⟨(u82 (XJ R block h1)),hc0,hc1,hc2,trivial⟩ (AvLe.of_eq (by rw [h]; try rfl))
theorem true_ok (R:Rn) (kind b:Int) (h:RnIn R):Pure Try.prog 94 [.rptr [.rsl (Qc R.c.blocks) 0 R.c.blocks.length,.rsl (rowI R.c.cars) 0 R.c.cars.length,.rsl (Qg R.spots) 0 R.spots.length,.rsl (rowI R.stood) 0 R.stood.length,.rsl (rowB R.go) 0 R.go.length,.bool R.stp] 0,.int .i64 kind,.int .i64 b] (.int .i64 (XN R.c R.spots kind b)):=QN Try.func94 f94b fun E hE=>by
 refine f94W kind b R (rv:=XN R.c R.spots kind b) hE ⟨h,?_⟩
 cases hc:carO R.spots b with
 | none =>
  have e:carS R.spots b=-1:=by rw [carS,hc]
  rw [e,XN,trueB,hc]
  exact ⟨fun h2=>⟨fun h=>by omega,fun _=>by rw [decide_eq_false (by omega)]; rfl⟩,fun h2=>⟨fun h3=>⟨fun _=>by rw [decide_eq_true h3]; rfl,fun h=>by omega⟩,fun h3=>⟨fun h=>by omega,fun _=>by rw [decide_eq_false h3]; rfl⟩⟩⟩
 | some i =>
  have e:carS R.spots b=(i:Int):=by rw [carS,hc]
  obtain ⟨h1,h2,-⟩:=Wb hc
  have hx:R.spots[Int.toNat (i:Int)]?=some (R.spots.getD i dS):=getD_some h1
  rw [e,XN,trueB,hc]
  simp only
  refine ⟨fun k2=>⟨fun _=>⟨⟨h,by omega,by omega⟩,fun h3=>?_,fun h3=>?_⟩,fun h=>by omega⟩,fun k2=>⟨fun k3=>⟨fun h=>absurd (by omega) h,fun _=>⟨by omega,_,hx,fun h4=>?_,fun h4=>?_⟩⟩,fun k3=>⟨fun _=>?_,fun h=>absurd (by omega) h⟩⟩⟩
  · rw [if_pos k2]; rw [Int.toNat_natCast] at h3; rw [h3]; rfl
  · rw [if_pos k2]; rw [Int.toNat_natCast] at h3; rw [h3]; rfl
  · rw [if_neg k2,if_pos k3,h4]; rfl
  · rw [if_neg k2,if_pos k3,h4]; rfl
  · rw [if_neg k2,if_neg k3]; rfl
theorem f81b:Try.f81.body=some (Qf Try.prog 81):=by kernel_rfl
theorem u81 {a c k:List AV} {r:AV} (h:Pure Try.prog 81 (a++c++k) r):Ql Try.prog (.clos 81 a k) c r:=QJ Try.func81 (by kernel_rfl) f81b h
def yq (P:Program):List Item:=kAt 400 [.code (Qf P 81)] [.stop]
def f81S0 (tick:Int) (kind:Int) (chan:Int) (block:Int) (f:(List Flt)) (R:Rn) (n:Int) (i:Nat):St:=⟨([J,.int .i64 tick,.int .i64 kind,.int .i64 chan,.int .i64 block,.rsl (Qi f) 0 f.length]++jj 7 ([.int .i64 n,.int .i64 (i:Int)]++Js 50)),[]⟩
def f81G0 (E:Env) (tick:Int) (kind:Int) (chan:Int) (block:Int) (f:(List Flt)) (R:Rn) (n:Int) (i:Nat):Prop:=G Try.prog E (yq Try.prog) (f81S0 tick kind chan block f R n i )
abbrev z81_1 (tick:Int) (kind:Int) (chan:Int) (block:Int) (f:(List Flt)) (n:Int) (i:Nat):List AV:=[J,.int .i64 tick,.int .i64 kind,.int .i64 chan,.int .i64 block,.rsl (Qi f) 0 f.length]++jj 7 ([.int .i64 n,.int .i64 ((i:Int)+1)]++Js 50)
abbrev z81_2 (R:Rn):List AV:=[.rsl (Qc R.c.blocks) 0 R.c.blocks.length,.rsl (rowI R.c.cars) 0 R.c.cars.length,.rsl (Qg R.spots) 0 R.spots.length,.rsl (rowI R.stood) 0 R.stood.length,.rsl (rowB R.go) 0 R.go.length,.bool R.stp]
theorem p81_start_0 (tick:Int) (kind:Int) (chan:Int) (block:Int) (f:(List Flt)) (R:Rn) {E:Env} {rv:AV} (hE:Qn Try.prog 81 rv E) (ho:AllP [Ql Try.prog (.clos 94 [] []) [.rptr (z81_2 R) 0,.int .i64 kind,.int .i64 block] (.int .i64 (XN R.c R.spots kind block))])
 (hg:G Try.prog E (yq Try.prog) ⟨([J,.int .i64 tick,.int .i64 kind,.int .i64 chan,.int .i64 block,.rsl (Qi f) 0 f.length]++jj 7 ([.int .i64 (XN R.c R.spots kind block),.int .i64 0]++Js 50)),[]⟩):G Try.prog E [.code (Qf Try.prog 81)] ⟨[.rptr (z81_2 R) 0,.int .i64 tick,.int .i64 kind,.int .i64 chan,.int .i64 block,.rsl (Qi f) 0 f.length]++unds (Try.f81.ntmps - 6),[]⟩ :=
 Qa (n:=400) (ds:=[]) (cs:=[]) (live:=[1,2,3,4,5,13,14]) (m:=0) (evs:=[.v (.int .i64 (XN R.c R.spots kind block)),.stop]) (obs:=_) hE.2.1 (hE.nogh _) Qm (by kernel_rfl) ho hg
theorem f81W (tick:Int) (kind:Int) (chan:Int) (block:Int) (f:(List Flt)) (R:Rn) {E:Env} {rv:Int} (hE:Qn Try.prog 81 (.int .i64 rv) E)
 (h:((RnIn R)∧f81G0 E tick kind chan block f R (XN R.c R.spots kind block) 0)):G Try.prog E [.code (Qf Try.prog 81)] ⟨[.rptr [.rsl (Qc R.c.blocks) 0 R.c.blocks.length,.rsl (rowI R.c.cars) 0 R.c.cars.length,.rsl (Qg R.spots) 0 R.spots.length,.rsl (rowI R.stood) 0 R.stood.length,.rsl (rowB R.go) 0 R.go.length,.bool R.stp] 0,.int .i64 tick,.int .i64 kind,.int .i64 chan,.int .i64 block,.rsl (Qi f) 0 f.length]++unds (Try.f81.ntmps - 6),[]⟩:=by
 obtain ⟨h1,h⟩:=h
 exact p81_start_0 tick kind chan block f R hE ⟨(u94 (true_ok R kind block h1)),trivial⟩ h
theorem p81_0_0 (tick:Int) (kind:Int) (chan:Int) (block:Int) (f:(List Flt)) (R:Rn) (n:Int) (i:Nat) (fe:Flt) {E:Env} {rv:AV} (hE:Qn Try.prog 81 rv E) (ho:AllP [(decide ((i:Int)<(f.length:Int)))=true,0≤(i:Int)∧(i:Int)<(f.length:Int),((Qi f).drop ((0+(Int.toNat (i:Int))*5)+0)).take 1=[.int .i64 fe.frm],(decide (fe.frm≤tick))=true,0≤(i:Int)∧(i:Int)<(f.length:Int),((Qi f).drop ((0+(Int.toNat (i:Int))*5)+1)).take 1=[.int .i64 fe.kind],(fe.kind == kind)=true,0≤(i:Int)∧(i:Int)<(f.length:Int),((Qi f).drop ((0+(Int.toNat (i:Int))*5)+2)).take 1=[.int .i64 fe.chan],(fe.chan == chan)=true,0≤(i:Int)∧(i:Int)<(f.length:Int),((Qi f).drop ((0+(Int.toNat (i:Int))*5)+3)).take 1=[.int .i64 fe.block],(fe.block == block)=true,0≤(i:Int)∧(i:Int)<(f.length:Int),((Qi f).drop ((0+(Int.toNat (i:Int))*5)+4)).take 1=[.int .i64 fe.val],InR .i64 ((i:Int)+1)])
 (hg:G Try.prog E (yq Try.prog) ⟨([J,.int .i64 tick,.int .i64 kind,.int .i64 chan,.int .i64 block,.rsl (Qi f) 0 f.length]++jj 7 ([.int .i64 fe.val,.int .i64 ((i:Int)+1)]++Js 50)),[]⟩):G Try.prog E (yq Try.prog) (f81S0 tick kind chan block f R n i ) :=
 Qa (n:=400) (ds:=[]) (cs:=[]) (live:=[1,2,3,4,5,13,14]) (m:=0) (evs:=[.b true,.ld (.int .i64 fe.frm),.b true,.ld (.int .i64 fe.kind),.b true,.ld (.int .i64 fe.chan),.b true,.ld (.int .i64 fe.block),.b true,.ld (.int .i64 fe.val),.stop]) (obs:=_) hE.2.1 (hE.nogh _) Qm (by kernel_rfl) ho hg
theorem p81_0_1 (tick:Int) (kind:Int) (chan:Int) (block:Int) (f:(List Flt)) (R:Rn) (n:Int) (i:Nat) (fe:Flt) {E:Env} {rv:AV} (hE:Qn Try.prog 81 rv E) (ho:AllP [(decide ((i:Int)<(f.length:Int)))=true,0≤(i:Int)∧(i:Int)<(f.length:Int),((Qi f).drop ((0+(Int.toNat (i:Int))*5)+0)).take 1=[.int .i64 fe.frm],(decide (fe.frm≤tick))=true,0≤(i:Int)∧(i:Int)<(f.length:Int),((Qi f).drop ((0+(Int.toNat (i:Int))*5)+1)).take 1=[.int .i64 fe.kind],(fe.kind == kind)=true,0≤(i:Int)∧(i:Int)<(f.length:Int),((Qi f).drop ((0+(Int.toNat (i:Int))*5)+2)).take 1=[.int .i64 fe.chan],(fe.chan == chan)=true,0≤(i:Int)∧(i:Int)<(f.length:Int),((Qi f).drop ((0+(Int.toNat (i:Int))*5)+3)).take 1=[.int .i64 fe.block],(fe.block == block)=false,InR .i64 ((i:Int)+1)])
 (hg:G Try.prog E (yq Try.prog) ⟨(z81_1 tick kind chan block f n i),[]⟩):G Try.prog E (yq Try.prog) (f81S0 tick kind chan block f R n i ) :=
 Qa (n:=400) (ds:=[]) (cs:=[]) (live:=[1,2,3,4,5,13,14]) (m:=0) (evs:=[.b true,.ld (.int .i64 fe.frm),.b true,.ld (.int .i64 fe.kind),.b true,.ld (.int .i64 fe.chan),.b true,.ld (.int .i64 fe.block),.b false,.stop]) (obs:=_) hE.2.1 (hE.nogh _) Qm (by kernel_rfl) ho hg
theorem p81_0_2 (tick:Int) (kind:Int) (chan:Int) (block:Int) (f:(List Flt)) (R:Rn) (n:Int) (i:Nat) (fe:Flt) {E:Env} {rv:AV} (hE:Qn Try.prog 81 rv E) (ho:AllP [(decide ((i:Int)<(f.length:Int)))=true,0≤(i:Int)∧(i:Int)<(f.length:Int),((Qi f).drop ((0+(Int.toNat (i:Int))*5)+0)).take 1=[.int .i64 fe.frm],(decide (fe.frm≤tick))=true,0≤(i:Int)∧(i:Int)<(f.length:Int),((Qi f).drop ((0+(Int.toNat (i:Int))*5)+1)).take 1=[.int .i64 fe.kind],(fe.kind == kind)=true,0≤(i:Int)∧(i:Int)<(f.length:Int),((Qi f).drop ((0+(Int.toNat (i:Int))*5)+2)).take 1=[.int .i64 fe.chan],(fe.chan == chan)=false,false=false,InR .i64 ((i:Int)+1)])
 (hg:G Try.prog E (yq Try.prog) ⟨(z81_1 tick kind chan block f n i),[]⟩):G Try.prog E (yq Try.prog) (f81S0 tick kind chan block f R n i ) :=
 Qa (n:=400) (ds:=[]) (cs:=[]) (live:=[1,2,3,4,5,13,14]) (m:=0) (evs:=[.b true,.ld (.int .i64 fe.frm),.b true,.ld (.int .i64 fe.kind),.b true,.ld (.int .i64 fe.chan),.b false,.b false,.stop]) (obs:=_) hE.2.1 (hE.nogh _) Qm (by kernel_rfl) ho hg
theorem p81_0_3 (tick:Int) (kind:Int) (chan:Int) (block:Int) (f:(List Flt)) (R:Rn) (n:Int) (i:Nat) (fe:Flt) {E:Env} {rv:AV} (hE:Qn Try.prog 81 rv E) (ho:AllP [(decide ((i:Int)<(f.length:Int)))=true,0≤(i:Int)∧(i:Int)<(f.length:Int),((Qi f).drop ((0+(Int.toNat (i:Int))*5)+0)).take 1=[.int .i64 fe.frm],(decide (fe.frm≤tick))=true,0≤(i:Int)∧(i:Int)<(f.length:Int),((Qi f).drop ((0+(Int.toNat (i:Int))*5)+1)).take 1=[.int .i64 fe.kind],(fe.kind == kind)=false,false=false,false=false,InR .i64 ((i:Int)+1)])
 (hg:G Try.prog E (yq Try.prog) ⟨(z81_1 tick kind chan block f n i),[]⟩):G Try.prog E (yq Try.prog) (f81S0 tick kind chan block f R n i ) :=
 Qa (n:=400) (ds:=[]) (cs:=[]) (live:=[1,2,3,4,5,13,14]) (m:=0) (evs:=[.b true,.ld (.int .i64 fe.frm),.b true,.ld (.int .i64 fe.kind),.b false,.b false,.b false,.stop]) (obs:=_) hE.2.1 (hE.nogh _) Qm (by kernel_rfl) ho hg
theorem p81_0_4 (tick:Int) (kind:Int) (chan:Int) (block:Int) (f:(List Flt)) (R:Rn) (n:Int) (i:Nat) (fe:Flt) {E:Env} {rv:AV} (hE:Qn Try.prog 81 rv E) (ho:AllP [(decide ((i:Int)<(f.length:Int)))=true,0≤(i:Int)∧(i:Int)<(f.length:Int),((Qi f).drop ((0+(Int.toNat (i:Int))*5)+0)).take 1=[.int .i64 fe.frm],(decide (fe.frm≤tick))=false,false=false,false=false,false=false,InR .i64 ((i:Int)+1)])
 (hg:G Try.prog E (yq Try.prog) ⟨(z81_1 tick kind chan block f n i),[]⟩):G Try.prog E (yq Try.prog) (f81S0 tick kind chan block f R n i ) :=
 Qa (n:=400) (ds:=[]) (cs:=[]) (live:=[1,2,3,4,5,13,14]) (m:=0) (evs:=[.b true,.ld (.int .i64 fe.frm),.b false,.b false,.b false,.b false,.stop]) (obs:=_) hE.2.1 (hE.nogh _) Qm (by kernel_rfl) ho hg
theorem p81_0_5 (tick:Int) (kind:Int) (chan:Int) (block:Int) (f:(List Flt)) (R:Rn) (n:Int) (i:Nat) {E:Env} {res:AV} (hE:Qn Try.prog 81 res E) (ho:AllP [(decide ((i:Int)<(f.length:Int)))=false])
 (hr:AvLe (.int .i64 n) res):G Try.prog E (yq Try.prog) (f81S0 tick kind chan block f R n i ) :=
 Qk (n:=400) (evs:=[.b false]) (obs:=_) hE Try.func81 Qm (by kernel_rfl) ho hr
theorem f81W0 (tick:Int) (kind:Int) (chan:Int) (block:Int) (f:(List Flt)) (R:Rn) (n:Int) (i:Nat) {E:Env} {rv:Int} (hE:Qn Try.prog 81 (.int .i64 rv) E)
 (h:(((i:Int)<(f.length:Int)→(∃ fe:Flt,f[i]?=some fe∧((fe.frm≤tick→((fe.kind=kind→((fe.chan=chan→((fe.block=block→((I6 ((i:Int)+1))∧f81G0 E tick kind chan block f R fe.val (i+1)))∧(¬ (fe.block=block)→((I6 ((i:Int)+1))∧f81G0 E tick kind chan block f R n (i+1)))))∧(¬ (fe.chan=chan)→((I6 ((i:Int)+1))∧f81G0 E tick kind chan block f R n (i+1)))))∧(¬ (fe.kind=kind)→((I6 ((i:Int)+1))∧f81G0 E tick kind chan block f R n (i+1)))))∧(¬ (fe.frm≤tick)→((I6 ((i:Int)+1))∧f81G0 E tick kind chan block f R n (i+1))))))∧(¬ ((i:Int)<(f.length:Int))→rv=n))):f81G0 E tick kind chan block f R n i:=by
 rcases bft (decide ((i:Int)<(f.length:Int))) with hc0 | hc0
 · have h:=h.1 (odt hc0)
   obtain ⟨fe,h1,h⟩:=h
   rcases bft (decide (fe.frm≤tick)) with hc1 | hc1
   · have h:=h.1 (odt hc1)
     rcases bft (fe.kind == kind) with hc2 | hc2
     · have h:=h.1 (eq_of_beq hc2)
       rcases bft (fe.chan == chan) with hc3 | hc3
       · have h:=h.1 (eq_of_beq hc3)
         rcases bft (fe.block == block) with hc4 | hc4
         · have h:=h.1 (eq_of_beq hc4)
           obtain ⟨q16_5,h⟩:=h
           exact p81_0_0 tick kind chan block f R n i fe hE ⟨hc0,(Qe h1),(rp cFlt 5 0 1 h1),hc1,(Qe h1),(rp cFlt 5 1 1 h1),hc2,(Qe h1),(rp cFlt 5 2 1 h1),hc3,(Qe h1),(rp cFlt 5 3 1 h1),hc4,(Qe h1),(rp cFlt 5 4 1 h1),q16_5,trivial⟩ h
         · have h:=h.2 (ne_of_beq_false hc4)
           obtain ⟨q14_5,h⟩:=h
           exact p81_0_1 tick kind chan block f R n i fe hE ⟨hc0,(Qe h1),(rp cFlt 5 0 1 h1),hc1,(Qe h1),(rp cFlt 5 1 1 h1),hc2,(Qe h1),(rp cFlt 5 2 1 h1),hc3,(Qe h1),(rp cFlt 5 3 1 h1),hc4,q14_5,trivial⟩ h
       · have h:=h.2 (ne_of_beq_false hc3)
         obtain ⟨q12_4,h⟩:=h
         exact p81_0_2 tick kind chan block f R n i fe hE ⟨hc0,(Qe h1),(rp cFlt 5 0 1 h1),hc1,(Qe h1),(rp cFlt 5 1 1 h1),hc2,(Qe h1),(rp cFlt 5 2 1 h1),hc3,rfl,q12_4,trivial⟩ h
     · have h:=h.2 (ne_of_beq_false hc2)
       obtain ⟨q10_3,h⟩:=h
       exact p81_0_3 tick kind chan block f R n i fe hE ⟨hc0,(Qe h1),(rp cFlt 5 0 1 h1),hc1,(Qe h1),(rp cFlt 5 1 1 h1),hc2,rfl,rfl,q10_3,trivial⟩ h
   · have h:=h.2 (odf hc1)
     obtain ⟨q8_2,h⟩:=h
     exact p81_0_4 tick kind chan block f R n i fe hE ⟨hc0,(Qe h1),(rp cFlt 5 0 1 h1),hc1,rfl,rfl,rfl,q8_2,trivial⟩ h
 · have h:=h.2 (odf hc0)
   exact p81_0_5 tick kind chan block f R n i hE ⟨hc0,trivial⟩ (AvLe.of_eq (by rw [h]; try rfl))
theorem Qby (R:Rn) (tick kind chan b:Int) (f:List Flt) (h:RnIn R∧f.length≤9223372036854775807):Pure Try.prog 81 [.rptr [.rsl (Qc R.c.blocks) 0 R.c.blocks.length,.rsl (rowI R.c.cars) 0 R.c.cars.length,.rsl (Qg R.spots) 0 R.spots.length,.rsl (rowI R.stood) 0 R.stood.length,.rsl (rowB R.go) 0 R.go.length,.bool R.stp] 0,.int .i64 tick,.int .i64 kind,.int .i64 chan,.int .i64 b,.rsl (Qi f) 0 f.length] (.int .i64 (Yt f kind chan b tick (XN R.c R.spots kind b))):=QN Try.func81 f81b fun E hE=>by
 have hl:=h.2
 have key:∀ (d i:Nat) (n:Int),i+d=f.length→n=(f.take i).foldl (yc kind chan b tick) (XN R.c R.spots kind b)→f81G0 E tick kind chan b f R n i:=by
  intro d
  induction d with
  | zero =>
   intro i n hi hn
   rw [show i=f.length by omega,List.take_length] at hn
   exact f81W0 tick kind chan b f R n i (rv:=Yt f kind chan b tick (XN R.c R.spots kind b)) hE ⟨fun h=>by omega,fun _=>hn.symm⟩
  | succ d ih =>
   intro i n hi hn
   have hx:f[i]?=some f[i]:=List.getElem?_eq_getElem (by omega)
   generalize f[i]=x at hx
   have nx:=fun n' (e:n'=yc kind chan b tick n x)=>ih (i+1) n' (by omega) (by rw [Vh hx,← hn]; exact e)
   exact f81W0 tick kind chan b f R n i (rv:=Yt f kind chan b tick (XN R.c R.spots kind b)) hE ⟨fun _=>⟨x,hx,fun e1=>⟨fun e2=>⟨fun e3=>⟨fun e4=>⟨by omega,nx _ (by rw [yc,if_pos ⟨e1,e2,e3,e4⟩])⟩,fun e4=>⟨by omega,nx _ (by rw [yc,if_neg fun h=>e4 h.2.2.2])⟩⟩,fun e3=>⟨by omega,nx _ (by rw [yc,if_neg fun h=>e3 h.2.2.1])⟩⟩,fun e2=>⟨by omega,nx _ (by rw [yc,if_neg fun h=>e2 h.2.1])⟩⟩,fun e1=>⟨by omega,nx _ (by rw [yc,if_neg fun h=>e1 h.1])⟩⟩,fun h=>by omega⟩
 exact f81W tick kind chan b f R (rv:=Yt f kind chan b tick (XN R.c R.spots kind b)) hE ⟨h.1,key f.length 0 _ (by omega) rfl⟩
theorem f79b:Try.f79.body=some (Qf Try.prog 79):=by kernel_rfl
theorem u79 {a c k:List AV} {r:AV} (h:Pure Try.prog 79 (a++c++k) r):Ql Try.prog (.clos 79 a k) c r:=QJ Try.func79 (by kernel_rfl) f79b h
def f79K0 (P:Program):List Item:=kAt 400 [.code (Qf P 79)] [.stop]
def f79S0 (R:Rn) (i:Nat):St:=⟨([.rptr [.rsl (Qc R.c.blocks) 0 R.c.blocks.length,.rsl (rowI R.c.cars) 0 R.c.cars.length,.rsl (Qg R.spots) 0 R.spots.length,.rsl (rowI R.stood) 0 R.stood.length,.rsl (rowB R.go) 0 R.go.length,.bool R.stp] 0,J,J,.int .i64 (i:Int)]++Js 46),[]⟩
def f79G0 (E:Env) (R:Rn) (i:Nat):Prop:=G Try.prog E (f79K0 Try.prog) (f79S0 R i )
def f79K1 (P:Program):List Item:=kAt 400 [.code (Qf P 79)] [.b true,.b false,.stop]
def f79S1 (R:Rn) (i:Nat) (k:Nat):St:=⟨([.rptr [.rsl (Qc R.c.blocks) 0 R.c.blocks.length,.rsl (rowI R.c.cars) 0 R.c.cars.length,.rsl (Qg R.spots) 0 R.spots.length,.rsl (rowI R.stood) 0 R.stood.length,.rsl (rowB R.go) 0 R.go.length,.bool R.stp] 0,J,J,.int .i64 (i:Int),.int .i64 (k:Int)]++Js 45),[]⟩
def f79G1 (E:Env) (R:Rn) (i:Nat) (k:Nat):Prop:=G Try.prog E (f79K1 Try.prog) (f79S1 R i k )
abbrev z79_1 (R:Rn):List AV:=[.rsl (Qc R.c.blocks) 0 R.c.blocks.length,.rsl (rowI R.c.cars) 0 R.c.cars.length,.rsl (Qg R.spots) 0 R.spots.length,.rsl (rowI R.stood) 0 R.stood.length,.rsl (rowB R.go) 0 R.go.length,.bool R.stp]
abbrev z79_2 (R:Rn) (i:Nat):AV:=.bool (Vg R.c (R.spots.getD (Int.toNat (i:Int)) dS))
theorem p79_start_0 (R:Rn) {E:Env} {rv:AV} (hE:Qn Try.prog 79 rv E) (ho:AllP [])
 (hg:G Try.prog E (f79K0 Try.prog) ⟨([.rptr (z79_1 R) 0,J,J,.int .i64 0]++Js 46),[]⟩):G Try.prog E [.code (Qf Try.prog 79)] ⟨[.rptr (z79_1 R) 0]++unds (Try.f79.ntmps - 1),[]⟩ :=
 Qa (n:=400) (ds:=[]) (cs:=[]) (live:=[0,3]) (m:=0) (evs:=[.stop]) (obs:=_) hE.2.1 (hE.nogh _) Qm (by kernel_rfl) ho hg
theorem f79W (R:Rn) {E:Env} {rv:Bool} (hE:Qn Try.prog 79 (.bool rv) E)
 (h:f79G0 E R 0):G Try.prog E [.code (Qf Try.prog 79)] ⟨[.rptr [.rsl (Qc R.c.blocks) 0 R.c.blocks.length,.rsl (rowI R.c.cars) 0 R.c.cars.length,.rsl (Qg R.spots) 0 R.spots.length,.rsl (rowI R.stood) 0 R.stood.length,.rsl (rowB R.go) 0 R.go.length,.bool R.stp] 0]++unds (Try.f79.ntmps - 1),[]⟩:=by
 exact p79_start_0 R hE trivial h
theorem p79_0_0 (R:Rn) (i:Nat) (se:Spt) {E:Env} {res:AV} (hE:Qn Try.prog 79 res E) (ho:AllP [(decide ((i:Int)<(R.spots.length:Int)))=true,0≤(i:Int)∧(i:Int)<(R.spots.length:Int),((Qg R.spots).drop ((0+(Int.toNat (i:Int))*3)+2)).take 1=[.bool se.opn],se.opn=true,Ql Try.prog (.clos 80 [] []) [.rptr (z79_1 R) 0,.int .i64 (i:Int)] (z79_2 R i),(!(Vg R.c (R.spots.getD (Int.toNat (i:Int)) dS)))=true])
 (hr:AvLe (.bool true) res):G Try.prog E (f79K0 Try.prog) (f79S0 R i ) :=
 Qk (n:=400) (evs:=[.b true,.auto,.ld (.bool se.opn),.b true,.v (z79_2 R i),.b true]) (obs:=_) hE Try.func79 Qm (by kernel_rfl) ho hr
theorem p79_0_1 (R:Rn) (i:Nat) (se:Spt) {E:Env} {rv:AV} (hE:Qn Try.prog 79 rv E) (ho:AllP [(decide ((i:Int)<(R.spots.length:Int)))=true,0≤(i:Int)∧(i:Int)<(R.spots.length:Int),((Qg R.spots).drop ((0+(Int.toNat (i:Int))*3)+2)).take 1=[.bool se.opn],se.opn=true,Ql Try.prog (.clos 80 [] []) [.rptr (z79_1 R) 0,.int .i64 (i:Int)] (z79_2 R i),(!(Vg R.c (R.spots.getD (Int.toNat (i:Int)) dS)))=false])
 (hg:G Try.prog E (f79K1 Try.prog) ⟨([.rptr (z79_1 R) 0,J,J,.int .i64 (i:Int),.int .i64 0]++Js 45),[]⟩):G Try.prog E (f79K0 Try.prog) (f79S0 R i ) :=
 Qa (n:=400) (ds:=[]) (cs:=[]) (live:=[0,3,4]) (m:=0) (evs:=[.b true,.auto,.ld (.bool se.opn),.b true,.v (z79_2 R i),.b false,.stop]) (obs:=_) hE.2.1 (hE.nogh _) Qm (by kernel_rfl) ho hg
theorem p79_0_2 (R:Rn) (i:Nat) (se:Spt) {E:Env} {rv:AV} (hE:Qn Try.prog 79 rv E) (ho:AllP [(decide ((i:Int)<(R.spots.length:Int)))=true,0≤(i:Int)∧(i:Int)<(R.spots.length:Int),((Qg R.spots).drop ((0+(Int.toNat (i:Int))*3)+2)).take 1=[.bool se.opn],se.opn=false,false=false])
 (hg:G Try.prog E (f79K1 Try.prog) ⟨([.rptr (z79_1 R) 0,J,J,.int .i64 (i:Int),.int .i64 0]++Js 45),[]⟩):G Try.prog E (f79K0 Try.prog) (f79S0 R i ) :=
 Qa (n:=400) (ds:=[]) (cs:=[]) (live:=[0,3,4]) (m:=0) (evs:=[.b true,.auto,.ld (.bool se.opn),.b false,.b false,.stop]) (obs:=_) hE.2.1 (hE.nogh _) Qm (by kernel_rfl) ho hg
theorem p79_0_3 (R:Rn) (i:Nat) {E:Env} {res:AV} (hE:Qn Try.prog 79 res E) (ho:AllP [(decide ((i:Int)<(R.spots.length:Int)))=false])
 (hr:AvLe (.bool false) res):G Try.prog E (f79K0 Try.prog) (f79S0 R i ) :=
 Qk (n:=400) (evs:=[.b false]) (obs:=_) hE Try.func79 Qm (by kernel_rfl) ho hr
theorem f79W0 (R:Rn) (i:Nat) {E:Env} {rv:Bool} (hE:Qn Try.prog 79 (.bool rv) E)
 (h:(((i:Int)<(R.spots.length:Int)→(∃ se:Spt,R.spots[i]?=some se∧((se.opn=true→((RnIn R∧0≤(i:Int)∧Int.toNat (i:Int)<R.spots.length)∧(((Vg R.c (R.spots.getD (Int.toNat (i:Int)) dS))=false→rv=true)∧((Vg R.c (R.spots.getD (Int.toNat (i:Int)) dS))=true→f79G1 E R i 0))))∧(se.opn=false→f79G1 E R i 0))))∧(¬ ((i:Int)<(R.spots.length:Int))→rv=false))):f79G0 E R i:=by
 rcases bft (decide ((i:Int)<(R.spots.length:Int))) with hc0 | hc0
 · have h:=h.1 (odt hc0)
   obtain ⟨se,h1,h⟩:=h
   rcases bft se.opn with hc1 | hc1
   · have h:=h.1 hc1
     obtain ⟨h2,h⟩:=h
     rcases bft (!(Vg R.c (R.spots.getD (Int.toNat (i:Int)) dS))) with hc2 | hc2
     · have h:=h.1 (bnT hc2)
       exact p79_0_0 R i se hE ⟨hc0,(Qe h1),(rp cSpt 3 2 1 h1),hc1,(u80 (qd R (i:Int) h2)),hc2,trivial⟩ (AvLe.of_eq (by rw [h]; try rfl))
     · have h:=h.2 (bnF hc2)
       exact p79_0_1 R i se hE ⟨hc0,(Qe h1),(rp cSpt 3 2 1 h1),hc1,(u80 (qd R (i:Int) h2)),hc2,trivial⟩ h
   · have h:=h.2 hc1
     exact p79_0_2 R i se hE ⟨hc0,(Qe h1),(rp cSpt 3 2 1 h1),hc1,rfl,trivial⟩ h
 · have h:=h.2 (odf hc0)
   exact p79_0_3 R i hE ⟨hc0,trivial⟩ (AvLe.of_eq (by rw [h]; try rfl))
theorem p79_1_0 (R:Rn) (i:Nat) (k:Nat) (se:Spt) (se1:Spt) {E:Env} {res:AV} (hE:Qn Try.prog 79 res E) (ho:AllP [(decide ((k:Int)<(i:Int)))=true,0≤(k:Int)∧(k:Int)<(R.spots.length:Int),((Qg R.spots).drop ((0+(Int.toNat (k:Int))*3)+0)).take 1=[.int .i64 se.block],0≤(i:Int)∧(i:Int)<(R.spots.length:Int),((Qg R.spots).drop ((0+(Int.toNat (i:Int))*3)+0)).take 1=[.int .i64 se1.block],(se.block == se1.block)=true])
 (hr:AvLe (.bool true) res):G Try.prog E (f79K1 Try.prog) (f79S1 R i k ) :=
 Qk (n:=400) (evs:=[.b true,.auto,.ld (.int .i64 se.block),.auto,.ld (.int .i64 se1.block),.b true]) (obs:=_) hE Try.func79 Qm (by kernel_rfl) ho hr
theorem p79_1_1 (R:Rn) (i:Nat) (k:Nat) (se:Spt) (se1:Spt) {E:Env} {rv:AV} (hE:Qn Try.prog 79 rv E) (ho:AllP [(decide ((k:Int)<(i:Int)))=true,0≤(k:Int)∧(k:Int)<(R.spots.length:Int),((Qg R.spots).drop ((0+(Int.toNat (k:Int))*3)+0)).take 1=[.int .i64 se.block],0≤(i:Int)∧(i:Int)<(R.spots.length:Int),((Qg R.spots).drop ((0+(Int.toNat (i:Int))*3)+0)).take 1=[.int .i64 se1.block],(se.block == se1.block)=false,InR .i64 ((k:Int)+1)])
 (hg:G Try.prog E (f79K1 Try.prog) ⟨([.rptr (z79_1 R) 0,J,J,.int .i64 (i:Int),.int .i64 ((k:Int)+1)]++Js 45),[]⟩):G Try.prog E (f79K1 Try.prog) (f79S1 R i k ) :=
 Qa (n:=400) (ds:=[]) (cs:=[]) (live:=[0,3,4]) (m:=0) (evs:=[.b true,.auto,.ld (.int .i64 se.block),.auto,.ld (.int .i64 se1.block),.b false,.stop]) (obs:=_) hE.2.1 (hE.nogh _) Qm (by kernel_rfl) ho hg
theorem p79_1_2 (R:Rn) (i:Nat) (k:Nat) {E:Env} {rv:AV} (hE:Qn Try.prog 79 rv E) (ho:AllP [(decide ((k:Int)<(i:Int)))=false,InR .i64 ((i:Int)+1)])
 (hg:G Try.prog E (f79K0 Try.prog) ⟨([.rptr (z79_1 R) 0,J,J,.int .i64 ((i:Int)+1)]++Js 46),[]⟩):G Try.prog E (f79K1 Try.prog) (f79S1 R i k ) :=
 Qa (n:=400) (ds:=[]) (cs:=[]) (live:=[0,3]) (m:=0) (evs:=[.b false,.stop]) (obs:=_) hE.2.1 (hE.nogh _) Qm (by kernel_rfl) ho hg
theorem f79W1 (R:Rn) (i:Nat) (k:Nat) {E:Env} {rv:Bool} (hE:Qn Try.prog 79 (.bool rv) E)
 (h:(((k:Int)<(i:Int)→(∃ se:Spt,R.spots[k]?=some se∧(∃ se1:Spt,R.spots[i]?=some se1∧((se.block=se1.block→rv=true)∧(¬ (se.block=se1.block)→((I6 ((k:Int)+1))∧f79G1 E R i (k+1)))))))∧(¬ ((k:Int)<(i:Int))→((I6 ((i:Int)+1))∧f79G0 E R (i+1))))):f79G1 E R i k:=by
 rcases bft (decide ((k:Int)<(i:Int))) with hc0 | hc0
 · have h:=h.1 (odt hc0)
   obtain ⟨se,h1,h⟩:=h
   obtain ⟨se1,h2,h⟩:=h
   rcases bft (se.block == se1.block) with hc1 | hc1
   · have h:=h.1 (eq_of_beq hc1)
     exact p79_1_0 R i k se se1 hE ⟨hc0,(Qe h1),(rp cSpt 3 0 1 h1),(Qe h2),(rp cSpt 3 0 1 h2),hc1,trivial⟩ (AvLe.of_eq (by rw [h]; try rfl))
   · have h:=h.2 (ne_of_beq_false hc1)
     obtain ⟨q8_2,h⟩:=h
     exact p79_1_1 R i k se se1 hE ⟨hc0,(Qe h1),(rp cSpt 3 0 1 h1),(Qe h2),(rp cSpt 3 0 1 h2),hc1,q8_2,trivial⟩ h
 · have h:=h.2 (odf hc0)
   obtain ⟨q1_1,h⟩:=h
   exact p79_1_2 R i k hE ⟨hc0,q1_1,trivial⟩ h
theorem QaG (R:Rn) (h:RnIn R):Pure Try.prog 79 [.rptr [.rsl (Qc R.c.blocks) 0 R.c.blocks.length,.rsl (rowI R.c.cars) 0 R.c.cars.length,.rsl (Qg R.spots) 0 R.spots.length,.rsl (rowI R.stood) 0 R.stood.length,.rsl (rowB R.go) 0 R.go.length,.bool R.stp] 0] (.bool (XU R.c R.spots)):=QN Try.func79 f79b fun E hE=>by
 have hl:=h.1
 let p:Nat→Bool:=fun i=>qm R.c R.spots i || (List.range i).any fun k=>(R.spots.getD k dS).block == (R.spots.getD i dS).block
 have key:∀ (d i:Nat),i+d=R.spots.length→(∀ j,j<i→p j=false)→f79G0 E R i:=by
  intro d
  induction d with
  | zero=>intro i hi hp; exact f79W0 R i (rv:=XU R.c R.spots) hE ⟨fun h=>by omega,fun _=>XG (p:=p) (by rw [show R.spots.length=i by omega]; exact hp)⟩
  | succ d ih =>
   intro i hi hp
   have hx:R.spots[i]?=some (R.spots.getD i dS):=getD_some (by omega)
   have yes:p i=true→XU R.c R.spots=true:=fun h=>Yk (p:=p) (show i<R.spots.length by omega) h
   have no:p i=false→f79G0 E R (i+1):=fun h=>ih (i+1) (by omega) fun j hj=>by
    rcases Nat.lt_or_ge j i with h1 | h1
    · exact hp j h1
    · rw [show j=i by omega]; exact h
   have inner:qm R.c R.spots i=false→∀ (e k:Nat),k+e=i→(∀ j,j<k→((R.spots.getD j dS).block == (R.spots.getD i dS).block)=false)→f79G1 E R i k:=by
    intro hw e
    induction e with
    | zero =>
     intro k hk hpk
     exact f79W1 R i k (rv:=XU R.c R.spots) hE ⟨fun h=>by omega,fun _=>⟨by omega,no (by simp only [p,hw,Bool.false_or]; exact XG fun j hj=>hpk j (by omega))⟩⟩
    | succ e ihe =>
     intro k hk hpk
     have hy:R.spots[k]?=some (R.spots.getD k dS):=getD_some (by omega)
     refine f79W1 R i k (rv:=XU R.c R.spots) hE ⟨fun _=>⟨_,hy,_,hx,fun e1=>yes ?_,fun e1=>⟨by omega,ihe (k+1) (by omega) fun j hj=>?_⟩⟩,fun h=>by omega⟩
     · simp only [p,Bool.or_eq_true]
       exact .inr (Yk (show k<i by omega) (by simpa using e1))
     · rcases Nat.lt_or_ge j k with h1 | h1
       · exact hpk j h1
       · rw [show j=k by omega]; simpa using e1
   exact f79W0 R i (rv:=XU R.c R.spots) hE ⟨fun _=>⟨_,hx,fun ho=>⟨⟨h,by omega,by omega⟩,fun hr=>yes (by rw [Int.toNat_natCast] at hr; simp only [p,qm,ho,hr]; rfl),fun hr=>inner (by rw [Int.toNat_natCast] at hr; rw [qm,ho,hr]; rfl) i 0 (by omega) (fun j hj=>by omega)⟩,fun ho=>inner (by rw [qm,ho]; rfl) i 0 (by omega) (fun j hj=>by omega)⟩,fun h=>by omega⟩
 exact f79W R (rv:=XU R.c R.spots) hE (key R.spots.length 0 (by omega) (fun j hj=>by omega))
end Go.Proofs.Ytgdfkjjgdkejfaa
namespace Go.Proofs.Ytgdfkjjgdkejfaa
open Go Ax
open Go.Proofs
/-! ### The reference's looks against the program's -/
theorem WK {p q:Nat→Bool}:∀ {n:Nat},(∀ i,i<n→p i=q i)→XE p n=XE q n
 | 0,_=>rfl
 | n+1,h=>by simp only [XE,WK (n:=n) (fun i hi=>h i (by omega)),h n (by omega)]
theorem QO {cars:List Car} {i:Nat} (h:i<cars.length):(cars.map Car.spot).getD i dS=(cars.getD i dC).spot:=Xe h
theorem carO_map {cars:List Car} {b:Nat}:carO (cars.map Car.spot) (b:Int)=Vv cars b cars.length:=by
 rw [carO,Vv,List.length_map]
 exact WK fun i hi=>by rw [QO hi]
theorem Wu {cars:List Car} {p:Car→Bool}:cars.any p=true ↔ ∃ i,i<cars.length∧p (cars.getD i dC)=true:=by
 rw [List.any_eq_true]
 constructor
 · rintro ⟨x,hx,hp⟩
   obtain ⟨i,hi⟩:=List.getElem?_of_mem hx
   exact ⟨i,(List.getElem?_eq_some_iff.1 hi).1,by rw [getD_of hi]; exact hp⟩
 · rintro ⟨i,hi,hp⟩
   exact ⟨_,List.mem_of_getElem? (getD_some hi),hp⟩
theorem Kv {cars:List Car} {b:Int} (h:carO (cars.map Car.spot) b=none) (q:Car→Bool):cars.any (fun x=>x.spot.block == b && q x)=false:=by
 rw [Bool.eq_false_iff]
 intro hh
 obtain ⟨i,hi,hp⟩:=Wu.1 hh
 have:=carO_no h i (by simpa using hi)
 rw [QO hi] at this
 simp only [Bool.and_eq_true,beq_iff_eq] at hp
 exact this hp.1
theorem QP.uniq {cars:List Car} (h:QP cars) {i j:Nat} (hi:i<cars.length) (hj:j<cars.length) (e:(cars.getD i dC).spot.block=(cars.getD j dC).spot.block):i=j:=by
 rcases Nat.lt_trichotomy i j with h1 | h1 | h1
 · exact absurd e (h i j h1 hj)
 · exact h1
 · exact absurd e.symm (h j i h1 hi)
theorem QbP {cars:List Car} {b:Int} {i:Nat} (hn:QP cars) (h:carO (cars.map Car.spot) b=some i) (q:Car→Bool):cars.any (fun x=>x.spot.block == b && q x)=q (cars.getD i dC):=by
 obtain ⟨h1,h2,-⟩:=Wb h
 rw [List.length_map] at h1
 rw [QO h1] at h2
 rw [Bool.eq_iff_iff]
 constructor
 · intro hh
   obtain ⟨j,hj,hp⟩:=Wu.1 hh
   simp only [Bool.and_eq_true,beq_iff_eq] at hp
   have:=hn.uniq hj h1 (by rw [hp.1,h2])
   rw [← this]; exact hp.2
 · intro hq
   exact Wu.2 ⟨i,h1,by simp only [Bool.and_eq_true,beq_iff_eq]; exact ⟨h2,hq⟩⟩
theorem any_true {cars:List Car} {b:Int}:cars.any (fun x=>x.spot.block == b)=cars.any (fun x=>x.spot.block == b && true):=by simp
theorem true_is {c:Cir} {cars:List Car} {kind b:Int} (hn:QP cars) (hk:kind=1 ∨ kind=2 ∨ kind=3):trueB c (cars.map Car.spot) kind b=isI c cars kind b:=by
 unfold trueB isI
 cases hc:carO (cars.map Car.spot) b with
 | none =>
  simp only
  rcases hk with rfl | rfl | rfl
  · rw [if_pos rfl,any_true,Kv hc]; rfl
  · rw [if_neg (by omega),if_pos rfl,Kv hc]; rfl
  · rw [if_neg (by omega),if_neg (by omega),Kv hc]; rfl
 | some i =>
  have h1:=(Wb hc).1
  rw [List.length_map] at h1
  simp only
  rw [QO h1]
  rcases hk with rfl | rfl | rfl
  · rw [if_neg (by omega),if_neg (by omega),if_pos rfl,any_true,QbP hn hc]
  · rw [if_pos rfl,if_neg (by omega),if_pos rfl,QbP hn hc]; rfl
  · rw [if_neg (by omega),if_pos rfl,if_neg (by omega),if_neg (by omega),QbP hn hc]
theorem says_fst {kind b tick:Int}:∀ {fs:List Flt} {s:Int × Int},(∀ f ∈ fs,f.chan=0 ∨ f.chan=1)→(fs.foldl (Xa kind b tick) s).1=fs.foldl (yc kind 0 b tick) s.1∧(fs.foldl (Xa kind b tick) s).2=fs.foldl (yc kind 1 b tick) s.2
 | [],s,_=>⟨rfl,rfl⟩
 | f :: fs,s,h=>by
  simp only [List.foldl_cons]
  have e:(Xa kind b tick s f).1=yc kind 0 b tick s.1 f∧(Xa kind b tick s f).2=yc kind 1 b tick s.2 f:=by
   unfold Xa yc
   have hf:=h f (by simp)
   by_cases hc:f.kind=kind∧f.block=b∧tick≥f.frm
   · rw [if_pos hc]
     rcases hf with hf | hf
     · rw [if_pos hf,if_pos ⟨hc.2.2,hc.1,hf,hc.2.1⟩,if_neg (by omega)]; exact ⟨rfl,rfl⟩
     · rw [if_neg (by omega),if_neg (by omega),if_pos ⟨hc.2.2,hc.1,hf,hc.2.1⟩]; exact ⟨rfl,rfl⟩
   · rw [if_neg hc,if_neg (fun h=>hc ⟨h.2.1,h.2.2.2,h.1⟩),if_neg (fun h=>hc ⟨h.2.1,h.2.2.2,h.1⟩)]; exact ⟨rfl,rfl⟩
  have:=says_fst (kind:=kind) (b:=b) (tick:=tick) (fs:=fs) (s:=Xa kind b tick s f) fun x hx=>h x (by simp [hx])
  rw [this.1,this.2,e.1,e.2]; exact ⟨rfl,rfl⟩
theorem said_says {T:Trk} {kind:Int} {b:Int} (hf:∀ f ∈ T.faults,f.chan=0 ∨ f.chan=1) (hn:QP T.cars) (hk:kind=1 ∨ kind=2 ∨ kind=3) :
 (Xc T kind b).a=Yt T.faults kind 0 b T.tick (XN T.c (T.cars.map Car.spot) kind b)∧(Xc T kind b).b=Yt T.faults kind 1 b T.tick (XN T.c (T.cars.map Car.spot) kind b):=by
 have:=says_fst (kind:=kind) (b:=b) (tick:=T.tick) (s:=(b2i (isI T.c T.cars kind b),b2i (isI T.c T.cars kind b))) hf
 rw [Yt,Yt,XN,true_is hn hk]
 exact this
/-! ### Wrecked -/
def CarT (c:Cir) (cars:List Car):Prop:=∀ x ∈ cars,x.spot.ran≤(bkAt c x.spot.block).time
theorem Vt {c:Cir} {cars:List Car} (h:CarT c cars):YZ c cars=XU c (cars.map Car.spot):=by
 have opn:∀ i,i<cars.length→((cars.getD i dC).spot.opn && decide ((cars.getD i dC).spot.ran<(bkAt c (cars.getD i dC).spot.block).time))=qm c (cars.map Car.spot) i:=fun i hi=>by
  have:=h _ (List.mem_of_getElem? (getD_some (d:=dC) hi))
  rw [qm,QO hi,Vg]
  congr 1
  rw [Bool.eq_iff_iff]
  simp only [decide_eq_true_eq,Bool.not_eq_true',beq_eq_false_iff_ne]
  omega
 have hcr:YZ c cars=true ↔ ∃ i,i<cars.length∧badB c (cars.map Car.spot) i=true:=by
  unfold YZ QC crashO
  constructor
  · intro hh
    split at hh
    · rename_i i hi
      obtain ⟨a,b,-⟩:=QS hi
      exact ⟨i,by simpa using a,b⟩
    · simp at hh
  · rintro ⟨i,hi,hb⟩
    split
    · simp
    · rename_i hn
      have:=VY hn i (by simpa using hi)
      rw [this] at hb; cases hb
 rw [Bool.eq_iff_iff,hcr,XU,List.any_eq_true]
 constructor
 · rintro ⟨i,hi,hb⟩
   rw [badB,QO hi,Bool.or_eq_true] at hb
   rcases hb with hb | hb
   · obtain ⟨k,hk,hs⟩:=List.any_eq_true.1 hb
     rw [List.mem_range,List.length_map] at hk
     rw [WB,QO hk] at hs
     simp only [Bool.and_eq_true,Bool.not_eq_true',decide_eq_false_iff_not,beq_iff_eq] at hs
     rcases Nat.lt_or_ge k i with h1 | h1
     · refine ⟨i,List.mem_range.2 (by simpa using hi),?_⟩
       rw [Bool.or_eq_true]
       exact .inr (Yk h1 (by rw [QO hi,QO hk]; simpa using hs.2.symm))
     · refine ⟨k,List.mem_range.2 (by simpa using hk),?_⟩
       rw [Bool.or_eq_true]
       exact .inr (Yk (show i<k by omega) (by rw [QO hi,QO hk]; simpa using hs.2))
   · exact ⟨i,List.mem_range.2 (by simpa using hi),by rw [Bool.or_eq_true]; exact .inl (by rw [← opn i hi]; exact hb)⟩
 · rintro ⟨i,hi,hb⟩
   rw [List.mem_range,List.length_map] at hi
   rw [Bool.or_eq_true] at hb
   rcases hb with hb | hb
   · refine ⟨i,hi,?_⟩
     rw [badB,QO hi,Bool.or_eq_true]
     exact .inr (by rw [opn i hi]; exact hb)
   · obtain ⟨k,hk,hs⟩:=List.any_eq_true.1 hb
     rw [List.mem_range] at hk
     rw [QO hi,QO (by omega)] at hs
     refine ⟨i,hi,?_⟩
     rw [badB,QO hi,Bool.or_eq_true]
     refine .inl (Yk (i:=k) (by rw [List.length_map]; omega) ?_)
     rw [WB,QO (by omega),decide_eq_false (by omega)]
     simp only [beq_iff_eq] at hs
     rw [hs]; simp
structure TT (T:Trk):Prop where
 ct:CarT T.c T.cars
 tm:∀ b ∈ T.c.blocks,0≤b.time
 wr:T.wrecked=YZ T.c T.cars
theorem rollT_ct {T:Trk} (h:CarT T.c T.cars):CarT T.c (QM T):=by
 unfold QM
 split
 · intro x hx
   obtain ⟨y,hy,rfl⟩:=List.mem_map.1 hx
   have:=h y hy
   unfold Qo
   split
   · exact this
   · rename_i hr
     simp only [Xp,beq_iff_eq] at hr
     simp only; omega
 · exact h
theorem press_ct {c:Cir} {rd:Rd4} {p:Prs} {s:List Car × List Bool × List Bool} (h:CarT c s.1):CarT c (QT c rd p s).1:=by
 unfold QT
 split
 · exact h
 · intro x hx
   obtain ⟨y,hy,rfl⟩:=List.mem_map.1 hx
   have:=h y hy
   unfold XY
   split
   · exact this
   · exact this
theorem fold_ct {c:Cir} {rd:Rd4} {tick:Int}:∀ {l:List Prs} {s:List Car × List Bool × List Bool},CarT c s.1→CarT c (l.foldl (Xs c rd tick) s).1
 | [],s,h=>h
 | p :: l,s,h=>by
  simp only [List.foldl_cons]
  refine fold_ct ?_
  unfold Xs
  split
  · exact press_ct h
  · exact h
theorem brake_ct {c:Cir} {rd:Rd4} {ops:List Bool} {cars0:List Car} (hn:0<c.blocks.length) (ht:∀ b ∈ c.blocks,0≤b.time) {s:Brk}:∀ {b:Nat},CarT c s.cars→CarT c (Qw c rd ops cars0 b s).cars
 | 0,h=>h
 | b+1,h=>by
  have ih:=brake_ct hn ht (rd:=rd) (ops:=ops) (cars0:=cars0) (b:=b) h
  simp only [Qw]
  generalize Qw c rd ops cars0 b s=s' at ih
  unfold Xz
  split
  · split
    · exact ih
    · split
      · exact ih
      · intro x hx
        simp only [goB] at hx
        rcases List.mem_or_eq_of_mem_set hx with hx | rfl
        · exact ih x hx
        · exact ht _ (List.mem_of_getElem? (yC (b:=((Xg c b:Nat):Int)) ⟨Int.natCast_nonneg _,show Int.toNat ((Xg c b:Nat):Int)<c.blocks.length from Nat.mod_lt _ hn⟩))
  · exact ih
theorem step_tt {T:Trk} {B:Int} {l:List Prs} (h:TT T) (ht:TOk T B):TT (Qu T l):=by
 unfold Qu
 split
 · rename_i hw; exact ⟨h.ct,h.tm,h.wr⟩
 · refine ⟨?_,h.tm,rfl⟩
   show CarT T.c (actT T l).cars
   unfold actT
   split
   · exact brake_ct ht.nb.1 h.tm (fold_ct (rollT_ct h.ct))
   · exact rollT_ct h.ct
theorem new_tt {c:Cir} {f:List Flt} (h:ChkIn c) (ht:QP (newT c f).cars):TT (newT c f):=by
 have hct:CarT c (newT c f).cars:=fun x hx=>by
  obtain ⟨b,hb,rfl⟩:=List.mem_map.1 hx
  exact Int.le_refl _
 refine ⟨hct,fun b hb=>by have:=h.bk b hb; omega,?_⟩
 show false=YZ c (newT c f).cars
 rw [Vt hct,XU]
 symm
 refine XG fun i hi=>?_
 rw [List.length_map] at hi
 rw [Bool.or_eq_false_iff]
 refine ⟨?_,XG fun k hk=>?_⟩
 · rw [qm,QO hi]
   have:((newT c f).cars.getD i dC).spot.opn=false:=by
    simp only [newT,List.length_map] at hi ⊢
    rw [Xe (d:=0) hi]
   rw [this]; rfl
 · rw [QO hi,QO (by omega)]
   exact beq_eq_false_iff_ne.2 (ht k i hk hi)
end Go.Proofs.Ytgdfkjjgdkejfaa