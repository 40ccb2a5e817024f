/- A part of the proof: several texts, one behind the other. -/
import Derived.Test.YtgdfkjjgdkejfaaLRideEmptiedD
import Derived.ProofKit
import Derived.OpenShut
import Derived.WideShapes
import Derived.WideKeyArgs
import Derived.ChangeSame
set_option linter.unusedVariables false
set_option linter.unusedSimpArgs false
set_option maxRecDepth 100000
namespace Go.Proofs.Ytgdfkjjgdkejfaa
open Go Ax
open Go.Proofs
def XS (T:Trk):List Car:=if T.tick > 0 then T.cars.map (Qr T.c) else T.cars
def midT (T:Trk):Trk:=⟨T.c,T.faults,XS T,T.gos,T.tick,T.stopped,T.wrecked,T.rounds,T.gone⟩
def Xd (rd:Rd4):Bool:=[([]:List Said),rd.k1,rd.k2,rd.k3].any fun l=>l.any QJ
def Ve (T:Trk):Int:=if T.stopped<0 then (if Xd (Qm (midT T))=true then T.tick else T.stopped) else T.stopped
def YW (c:Cir) (rd:Rd4) (tick:Int) (s:List Car × List Bool × List Bool) (p:Prs):List Car × List Bool × List Bool:=if p.at_=tick then Xm c rd p s else s
def Xl (T:Trk) (l:List Prs):List Car × List Bool × List Bool:=l.foldl (YW T.c (Qm (midT T)) T.tick) (XS T,T.gos,List.replicate T.c.blocks.length false)
def yu (T:Trk) (l:List Prs):Brk:=QP T.c (Qm (midT T)) (Xl T l).2.2 (Xl T l).1 T.c.blocks.length ⟨(Xl T l).1,(Xl T l).2.1,T.rounds,T.gone⟩
def actT (T:Trk) (l:List Prs):Brk:=if Ve T<0 then yu T l else ⟨XS T,T.gos,T.rounds,T.gone⟩
def VP (c:Cir) (cars:List Car):Bool:=decide ((QH c (cars.map Car.spot)).2≥0)
/-- A tick. -/
def QI (T:Trk) (l:List Prs):Trk :=
 if T.wrecked=true then ⟨T.c,T.faults,T.cars,T.gos,T.tick+1,T.stopped,T.wrecked,T.rounds,T.gone⟩
 else ⟨T.c,T.faults,(actT T l).cars,(actT T l).gos,T.tick+1,Ve T,VP T.c (actT T l).cars,(actT T l).rounds,(actT T l).gone⟩
structure CarB (c:Cir) (B:Int) (x:Car):Prop where
 inC:InC c x.spot.block
 ran:0≤x.spot.ran∧x.spot.ran≤B
 stood:0≤x.stood∧x.stood≤B
theorem CarB.up {c:Cir} {B B':Int} {x:Car} (h:CarB c B x) (hb:B≤B'):CarB c B' x:=⟨h.inC,by have:=h.ran; omega,by have:=h.stood; omega⟩
theorem CarB.roll {c:Cir} {B:Int} {x:Car} (h:CarB c B x):CarB c (B+1) (Qr c x):=by
 unfold Qr
 split
 · exact ⟨h.inC,by have:=h.ran; simp only; omega,by have:=h.stood; simp only; omega⟩
 · exact ⟨h.inC,by have:=h.ran; simp only; omega,by have:=h.stood; simp only; omega⟩
theorem CarB.ok {c:Cir} {B:Int} {x:Car} (h:CarB c B x) (hb:B≤1000000):CarOk c x:=⟨h.inC,by have:=h.ran; omega,by have:=h.stood; omega⟩
structure TOk (T:Trk) (B:Int):Prop where
 nb:0<T.c.blocks.length∧T.c.blocks.length≤1000000
 lc:T.cars.length≤1000000
 lf:T.faults.length≤1000000
 flt:∀ f ∈ T.faults,f.chan=0 ∨ f.chan=1
 lg:T.gos.length=T.c.blocks.length
 car:∀ x ∈ T.cars,CarB T.c B x
 tk:0≤T.tick∧T.tick≤B
 rd:-1000000*B≤T.rounds∧T.rounds≤1000000*B
 gn:-1000000*B≤T.gone∧T.gone≤1000000*B
 ns:T.wrecked=false→Xx T.cars
def PrsIn (c:Cir) (l:List Prs):Prop:=∀ p ∈ l,InC c p.block∧(p.kind=1 ∨ p.kind=2 ∨ p.kind=3)
/-! ### What is so of the cars,through a tick -/
theorem Vf {α β:Type} {f:α→β} {l:List α} {i:Nat} {d:α} {e:β} (h:i<l.length):(l.map f).getD i e=f (l.getD i d):=by simp [List.getD,h]
theorem Xx.map {f:Car→Car} (hf:∀ x,(f x).spot.block=x.spot.block) {cars:List Car} (h:Xx cars):Xx (cars.map f):=fun i j hij hj=>by
 simp only [List.length_map] at hj
 rw [Vf (d:=dC) (by omega),Vf (d:=dC) hj,hf,hf]
 exact h i j hij hj
theorem roll_block {c:Cir} (x:Car):(Qr c x).spot.block=x.spot.block:=by unfold Qr; split <;> rfl
theorem press_block {op:Bool} {p:Prs} (x:Car):(Vp op p x).spot.block=x.spot.block:=by unfold Vp; split <;> rfl
structure PresOk (c:Cir) (B:Int) (n:Nat) (s:List Car × List Bool × List Bool):Prop where
 lc:s.1.length=n
 lg:s.2.1.length=c.blocks.length
 lo:s.2.2.length=c.blocks.length
 car:∀ x ∈ s.1,CarB c B x
 ns:Xx s.1
theorem PresOk.press {c:Cir} {B:Int} {n:Nat} {s:List Car × List Bool × List Bool} {rd:Rd4} {p:Prs} (h:PresOk c B n s):PresOk c B n (Xm c rd p s):=by
 unfold Xm
 split
 · exact ⟨h.lc,by simp [h.lg],h.lo,h.car,h.ns⟩
 · refine ⟨by simp [h.lc],h.lg,by simp [opsP,h.lo],fun x hx=>?_,h.ns.map press_block⟩
   obtain ⟨y,hy,rfl⟩:=List.mem_map.1 hx
   have:=h.car y hy
   unfold Vp
   split
   · exact ⟨this.inC,this.ran,this.stood⟩
   · exact this
theorem Qac {c:Cir} {rd:Rd4} {p:Prs} {s:List Car × List Bool × List Bool}:(Xm c rd p s).2.2.length=s.2.2.length:=by unfold Xm; split <;> simp [opsP]
theorem PresOk.fold {c:Cir} {B:Int} {n:Nat} {rd:Rd4} {tick:Int}:∀ {l:List Prs} {s:List Car × List Bool × List Bool},PresOk c B n s→PresOk c B n (l.foldl (YW c rd tick) s)
 | [],s,h=>h
 | p :: l,s,h=>by
  simp only [List.foldl_cons]
  refine PresOk.fold ?_
  unfold YW
  split
  · exact h.press
  · exact h
theorem qy {T:Trk}:RdOk T.c (Qm T):=⟨by simp [Qm,QR],by simp [Qm,QR],by simp [Qm,QR]⟩
theorem yd {c:Cir} {rd:Rd4} {ops:List Bool} {cars0:List Car} {B:Int} (hn:0<c.blocks.length) (hB:0≤B) {s:Brk}:∀ {b:Nat},(∀ x ∈ s.cars,CarB c B x)→∀ x ∈ (QP c rd ops cars0 b s).cars,CarB c B x
 | 0,h=>h
 | b+1,h=>by
  have ih:=yd hn hB (rd:=rd) (ops:=ops) (cars0:=cars0) (b:=b) h
  simp only [QP]
  generalize QP c rd ops cars0 b s=s' at ih
  unfold YT
  split
  · split
    · exact ih
    · split
      · exact ih
      · intro x hx
        simp only [goB] at hx
        rcases List.mem_or_eq_of_mem_set hx with hx | rfl
        · exact ih x hx
        · exact ⟨⟨show (0:Int)≤((YN c b:Nat):Int) from Int.natCast_nonneg _,show Int.toNat ((YN c b:Nat):Int)<c.blocks.length from Nat.mod_lt _ hn⟩,by simp only; omega,by simp only; omega⟩
  · exact ih
theorem Vn {T:Trk} {B:Int} (h:TOk T B):∀ x ∈ XS T,CarB T.c (B+1) x:=by
 unfold XS
 split
 · intro x hx
   obtain ⟨y,hy,rfl⟩:=List.mem_map.1 hx
   exact (h.car y hy).roll
 · exact fun x hx=>(h.car x hx).up (by omega)
theorem Vm {T:Trk}:(XS T).length=T.cars.length:=by unfold XS; split <;> simp
theorem qx {T:Trk} (h:Xx T.cars):Xx (XS T):=by
 unfold XS
 split
 · exact h.map roll_block
 · exact h
theorem pres_ok {T:Trk} {B:Int} {l:List Prs} (h:TOk T B) (hw:T.wrecked=false):PresOk T.c (B+1) T.cars.length (Xl T l) :=
 PresOk.fold ⟨Vm,h.lg,by simp,Vn h,qx (h.ns hw)⟩
theorem crash_ns {c:Cir} {cars:List Car} (h:VP c cars=false):Xx cars:=by
 intro i j hij hj
 have hno:∀ k,k<(cars.map Car.spot).length→badB c (cars.map Car.spot) k=false:=by
  unfold VP QH at h
  split at h
  · simp at h
  · rename_i hn; exact firstN_no hn
 have:=hno i (by simp; omega)
 rw [badB,Bool.or_eq_false_iff] at this
 have:=List.any_eq_false.1 this.1 j (List.mem_range.2 (by simpa using hj))
 rw [Wu,decide_eq_false (by omega)] at this
 rw [Vf (d:=dC) (by omega),Vf (d:=dC) hj] at this
 simpa using this
theorem step_tok {T:Trk} {B:Int} {l:List Prs} (h:TOk T B):TOk (QI T l) (B+1):=by
 have hB:=h.tk
 unfold QI
 split
 · rename_i hw
   exact ⟨h.nb,h.lc,h.lf,h.flt,h.lg,fun x hx=>(h.car x hx).up (by omega),by have:=h.tk; simp only; omega,by have:=h.rd; simp only; omega,by have:=h.gn; simp only; omega,fun hw'=>by simp only at hw'; rw [hw] at hw'; cases hw'⟩
 · rename_i hw
   have hw:T.wrecked=false:=by simpa using hw
   have hp:=pres_ok (l:=l) h hw
   have hin:BrkIn T.c (Xl T l).1 (1000000*B) ⟨(Xl T l).1,(Xl T l).2.1,T.rounds,T.gone⟩:=⟨rfl,hp.lg,by have:=h.rd; simp only; omega,by have:=h.gn; simp only; omega⟩
   have hall:=hin.all (rd:=Qm (midT T)) (ops:=(Xl T l).2.2) (b:=T.c.blocks.length)
   have hnb:=h.nb
   have act:(actT T l).cars.length≤1000000∧(actT T l).gos.length=T.c.blocks.length∧(∀ x ∈ (actT T l).cars,CarB T.c (B+1) x)∧(-1000000*(B+1)≤(actT T l).rounds∧(actT T l).rounds≤1000000*(B+1))∧(-1000000*(B+1)≤(actT T l).gone∧(actT T l).gone≤1000000*(B+1)):=by
    unfold actT
    split
    · refine ⟨?_,hall.lg,yd hnb.1 (by omega) hp.car,?_,?_⟩
      · have:=hall.lc; have:=hp.lc; have:=h.lc; unfold yu; omega
      · have:=hall.r; unfold yu; omega
      · have:=hall.g; unfold yu; omega
    · exact ⟨by rw [Vm]; exact h.lc,h.lg,Vn h,by have:=h.rd; simp only; omega,by have:=h.gn; simp only; omega⟩
   obtain ⟨a1,a2,a3,a4,a5⟩:=act
   exact ⟨h.nb,a1,h.lf,h.flt,a2,a3,by have:=h.tk; simp only; omega,a4,a5,fun hc=>crash_ns hc⟩
theorem f70b:Try.f70.body=some (Qh Try.prog 70):=by kernel_rfl
theorem p70_start_0 (c:Cir) (faults:List Flt) (cars:List Car) (gos:List Bool) (tick stopped:Int) (wrecked:Bool) (rounds gone:Int) (g1 g2:Nat) {E:Env} {res:AV} {bs2:List Blk} (hE:LentKE Try.prog 70 [.sl 3 g2 0 0 1] res bs2 E) (ho:AllP [InR .i64 (tick+1),6≤10])
 (hr:(.tup [])=res) (hb:[⟨true,0,1,false,[.ptr 1 0 0],false⟩,⟨true,0,1,false,[.rsl (Qk c.blocks) 0 c.blocks.length,.rsl (rowI c.cars) 0 c.cars.length,.rsl (Qo faults) 0 faults.length,.sl 2 g1 0 cars.length 4,.sl 3 g2 0 gos.length 1,.int .i64 (tick+1),.int .i64 stopped,.bool wrecked,.int .i64 rounds,.int .i64 gone],false⟩,⟨true,g1,4,true,(Qi cars),true⟩,⟨true,g2,1,true,(rowB gos),true⟩]=bs2):G Try.prog E [.code (Qh Try.prog 70)] ⟨[.ptr 0 0 0]++unds (Try.f70.ntmps - 1),[⟨true,0,1,false,[.ptr 1 0 0],false⟩,⟨true,0,1,false,[.rsl (Qk c.blocks) 0 c.blocks.length,.rsl (rowI c.cars) 0 c.cars.length,.rsl (Qo faults) 0 faults.length,.sl 2 g1 0 cars.length 4,.sl 3 g2 0 gos.length 1,.int .i64 tick,.int .i64 stopped,.bool wrecked,.int .i64 rounds,.int .i64 gone],false⟩,⟨true,g1,4,true,(Qi cars),true⟩,⟨true,g2,1,true,(rowB gos),true⟩]⟩ :=
 endK_step (n:=400) (live:=[]) (m:=4) (evs:=[]) (obs:=_) hE (hE.nogh (by kernel_rfl)) Try.func70 Ql (by kernel_rfl) ho hr hb
theorem f70W (c:Cir) (faults:List Flt) (cars:List Car) (gos:List Bool) (tick stopped:Int) (wrecked:Bool) (rounds gone:Int) (g1 g2:Nat) {E:Env} {rv:Unit} {tick2:Int} (hE:LentKE Try.prog 70 [.sl 3 g2 0 0 1] (.tup []) [⟨true,0,1,false,[.ptr 1 0 0],false⟩,⟨true,0,1,false,[.rsl (Qk c.blocks) 0 c.blocks.length,.rsl (rowI c.cars) 0 c.cars.length,.rsl (Qo faults) 0 faults.length,.sl 2 g1 0 cars.length 4,.sl 3 g2 0 gos.length 1,.int .i64 tick2,.int .i64 stopped,.bool wrecked,.int .i64 rounds,.int .i64 gone],false⟩,⟨true,g1,4,true,(Qi cars),true⟩,⟨true,g2,1,true,(rowB gos),true⟩] E)
 (h:((I6 (tick+1))∧tick2=(tick+1))):G Try.prog E [.code (Qh Try.prog 70)] ⟨[.ptr 0 0 0]++unds (Try.f70.ntmps - 1),[⟨true,0,1,false,[.ptr 1 0 0],false⟩,⟨true,0,1,false,[.rsl (Qk c.blocks) 0 c.blocks.length,.rsl (rowI c.cars) 0 c.cars.length,.rsl (Qo faults) 0 faults.length,.sl 2 g1 0 cars.length 4,.sl 3 g2 0 gos.length 1,.int .i64 tick,.int .i64 stopped,.bool wrecked,.int .i64 rounds,.int .i64 gone],false⟩,⟨true,g1,4,true,(Qi cars),true⟩,⟨true,g2,1,true,(rowB gos),true⟩]⟩:=by
 obtain ⟨q0_0,h⟩:=h
 have qe0:=h
 exact p70_start_0 c faults cars gos tick stopped wrecked rounds gone g1 g2 hE ⟨q0_0,(by decide),trivial⟩ (by try rfl) (by rw [qe0]; all_goals (first | rfl | (simp only [List.length_set]; done) | (simp only [List.length_set]; rfl)))
theorem VH (c:Cir) (faults:List Flt) (cars:List Car) (gos:List Bool) (tick stopped:Int) (wrecked:Bool) (rounds gone:Int) (g1 g2:Nat) (h:-1000000000000≤tick∧tick≤1000000000000) :
 WE Try.prog (.clos 70 [] [.ptr 0 0 0]) [⟨true,0,1,false,[.ptr 1 0 0],false⟩,⟨true,0,1,false,[.rsl (Qk c.blocks) 0 c.blocks.length,.rsl (rowI c.cars) 0 c.cars.length,.rsl (Qo faults) 0 faults.length,.sl 2 g1 0 cars.length 4,.sl 3 g2 0 gos.length 1,.int .i64 tick,.int .i64 stopped,.bool wrecked,.int .i64 rounds,.int .i64 gone],false⟩,⟨true,g1,4,true,(Qi cars),true⟩,⟨true,g2,1,true,(rowB gos),true⟩] (.tup []) [⟨true,0,1,false,[.ptr 1 0 0],false⟩,⟨true,0,1,false,[.rsl (Qk c.blocks) 0 c.blocks.length,.rsl (rowI c.cars) 0 c.cars.length,.rsl (Qo faults) 0 faults.length,.sl 2 g1 0 cars.length 4,.sl 3 g2 0 gos.length 1,.int .i64 (tick+1),.int .i64 stopped,.bool wrecked,.int .i64 rounds,.int .i64 gone],false⟩,⟨true,g1,4,true,(Qi cars),true⟩,⟨true,g2,1,true,(rowB gos),true⟩]:=lentDF_of _ Try.func70 (by kernel_rfl) f70b rfl rfl fun E hE =>
 f70W c faults cars gos tick stopped wrecked rounds gone g1 g2 (rv:=()) hE ⟨by omega,rfl⟩
theorem f45b:Try.f45.body=some (Qh Try.prog 45):=by kernel_rfl
def f45Kd (P:Program):List Item:=toOp 1 (kReg 400 [.code (Qh P 45)] [] 1)
def WV (P:Program):List Item:=toOp 2 (kReg 400 [.code (Qh P 45)] [] 1)
def yJ (P:Program):List Item:=kAt 400 (WV P) [.b false,.b true,.b true,.b true,.stop]
def Ky (l:(List Prs)) (c:Cir) (faults:List Flt) (cars:List Car) (gos:List Bool) (tick stopped:Int) (wrecked:Bool) (rounds gone:Int) (g1 g2:Nat) (v6:List Bool) (v0_6:Int) (v1:List Car) (v4_1:(List Said)) (v4_2:(List Said)) (v4_3:(List Said)) (i:Nat) (v2:List Bool) (g6:Nat):St:=⟨([J,J,.ptr 3 0 0,J,.ptr 4 0 0,J,.sl 6 g6 0 v6.length 1]++jj 47 ([.rsl (QV l) 0 l.length,.int .i64 (l.length:Int),.int .i64 (i:Int)]++Js 35)),[⟨true,0,1,false,[.rsl (Qk c.blocks) 0 c.blocks.length,.rsl (rowI c.cars) 0 c.cars.length,.rsl (Qo faults) 0 faults.length,.sl 1 g1 0 v1.length 4,.sl 2 g2 0 v2.length 1,.int .i64 tick,.int .i64 v0_6,.bool wrecked,.int .i64 rounds,.int .i64 gone],false⟩,⟨true,g1,4,true,(Qi v1),true⟩,⟨true,g2,1,true,(rowB v2),true⟩,⟨true,0,1,false,[.ptr 0 0 0],false⟩,⟨true,0,1,true,[.nilSl,.rsl (Qe v4_1) 0 v4_1.length,.rsl (Qe v4_2) 0 v4_2.length,.rsl (Qe v4_3) 0 v4_3.length],false⟩,⟨true,0,1,true,[.clos 73 [] []],false⟩,⟨true,g6,1,true,(rowB v6),true⟩]⟩
def YY (E:Env) (l:(List Prs)) (c:Cir) (faults:List Flt) (cars:List Car) (gos:List Bool) (tick stopped:Int) (wrecked:Bool) (rounds gone:Int) (g1 g2:Nat) (v6:List Bool) (v0_6:Int) (v1:List Car) (v4_1:(List Said)) (v4_2:(List Said)) (v4_3:(List Said)) (i:Nat) (v2:List Bool):Prop:=∀ g6:Nat,G Try.prog E (yJ Try.prog) (Ky l c faults cars gos tick stopped wrecked rounds gone g1 g2 v6 v0_6 v1 v4_1 v4_2 v4_3 i v2 g6)
abbrev qc (l:(List Prs)):List AV:=[.ptr 0 0 0,.rsl (QV l) 0 l.length,.ptr 3 0 0,.tup [],.tup [],.tup [],.tup [],.tup [],.tup [],.tup [],.tup [],.clos 70 [] [.ptr 3 0 0],.tup [],.tup [],.tup [],.tup [],.tup [],.tup [],.tup [],.tup [],.tup [],.tup [],.tup [],.tup [],.tup [],.tup [],.tup [],.tup [],.tup [],.tup [],.tup [],.tup [],.tup [],.tup [],.tup [],.tup [],.tup [],.tup [],.tup [],.tup [],.tup [],.tup [],.tup [],.tup [],.tup [],.tup [],.tup [],.tup [],.tup [],.tup [],.tup [],.tup [],.tup [],.tup [],.tup [],.tup [],.tup [],.tup [],.tup [],.tup [],.tup [],.tup [],.tup [],.tup [],.tup [],.tup [],.tup [],.tup [],.tup [],.tup [],.tup [],.tup [],.tup [],.tup [],.tup [],.tup [],.tup [],.tup [],.tup [],.tup [],.tup [],.tup [],.tup [],.tup [],.tup [],.tup [],.tup [],.tup [],.tup [],.tup [],.tup [],.tup []]
abbrev XL (c:Cir) (faults:List Flt) (cars:List Car) (gos:List Bool) (tick:Int) (stopped:Int) (wrecked:Bool) (rounds:Int) (gone:Int):=(⟨c,faults,(cars.map (Qr c)),gos,tick,stopped,wrecked,rounds,gone⟩:Trk)
abbrev Wa (c:Cir) (faults:List Flt) (cars:List Car) (gos:List Bool) (tick:Int) (stopped:Int) (wrecked:Bool) (rounds:Int) (gone:Int):List AV:=[.nilSl,.rsl (Qe ((Qm (XL c faults cars gos tick stopped wrecked rounds gone)).k1)) 0 (((Qm (XL c faults cars gos tick stopped wrecked rounds gone)).k1).length),.rsl (Qe ((Qm (XL c faults cars gos tick stopped wrecked rounds gone)).k2)) 0 (((Qm (XL c faults cars gos tick stopped wrecked rounds gone)).k2).length),.rsl (Qe ((Qm (XL c faults cars gos tick stopped wrecked rounds gone)).k3)) 0 (((Qm (XL c faults cars gos tick stopped wrecked rounds gone)).k3).length)]
abbrev Xg (c:Cir) (faults:List Flt) (cars:List Car) (gos:List Bool) (tick:Int) (stopped:Int) (wrecked:Bool) (rounds:Int) (gone:Int):=Qm (⟨c,faults,cars,gos,tick,stopped,wrecked,rounds,gone⟩:Trk)
abbrev VZ (c:Cir) (faults:List Flt) (cars:List Car) (gos:List Bool) (tick:Int) (stopped:Int) (wrecked:Bool) (rounds:Int) (gone:Int):List AV:=[.nilSl,.rsl (Qe ((Xg c faults cars gos tick stopped wrecked rounds gone).k1)) 0 (((Xg c faults cars gos tick stopped wrecked rounds gone).k1).length),.rsl (Qe ((Xg c faults cars gos tick stopped wrecked rounds gone).k2)) 0 (((Xg c faults cars gos tick stopped wrecked rounds gone).k2).length),.rsl (Qe ((Xg c faults cars gos tick stopped wrecked rounds gone).k3)) 0 (((Xg c faults cars gos tick stopped wrecked rounds gone).k3).length)]
abbrev Xk (c:Cir) (v4_1:(List Said)) (v4_2:(List Said)) (v4_3:(List Said)) (v6:List Bool) (v1:List Car) (v2:List Bool) (rounds:Int) (gone:Int):=QP c (⟨v4_1,v4_2,v4_3⟩:Rd4) v6 v1 c.blocks.length ⟨v1,v2,rounds,gone⟩
abbrev Wo (c:Cir) (faults:List Flt) (v4_1:(List Said)) (v4_2:(List Said)) (v4_3:(List Said)) (v6:List Bool) (v1:List Car) (v2:List Bool) (rounds:Int) (gone:Int) (tick:Int) (v0_6:Int) (wrecked:Bool):=(⟨c,faults,(Xk c v4_1 v4_2 v4_3 v6 v1 v2 rounds gone).cars,(Xk c v4_1 v4_2 v4_3 v6 v1 v2 rounds gone).gos,tick,v0_6,wrecked,(Xk c v4_1 v4_2 v4_3 v6 v1 v2 rounds gone).rounds,(Xk c v4_1 v4_2 v4_3 v6 v1 v2 rounds gone).gone⟩:Trk).cars.map Car.spot
abbrev z45_20 (c:Cir) (faults:List Flt) (g1:Nat) (cars:List Car) (g2:Nat) (gos:List Bool) (tick:Int) (stopped:Int) (wrecked:Bool) (rounds:Int) (gone:Int):List AV:=[.rsl (Qk c.blocks) 0 c.blocks.length,.rsl (rowI c.cars) 0 c.cars.length,.rsl (Qo faults) 0 faults.length,.sl 1 g1 0 cars.length 4,.sl 2 g2 0 gos.length 1,.int .i64 tick,.int .i64 stopped,.bool wrecked,.int .i64 rounds,.int .i64 gone]
abbrev WZ (c:Cir) (faults:List Flt) (g1:Nat) (cars:List Car) (g2:Nat) (gos:List Bool) (tick:Int) (stopped:Int) (wrecked:Bool) (rounds:Int) (gone:Int):List Blk:=[⟨true,0,1,false,(z45_20 c faults g1 cars g2 gos tick stopped wrecked rounds gone),false⟩,⟨true,g1,4,true,(Qi cars),true⟩,⟨true,g2,1,true,(rowB gos),true⟩,⟨true,0,1,false,[.ptr 0 0 0],false⟩]
abbrev z45_24 (c:Cir) (faults:List Flt) (g1:Nat) (cars:List Car) (g2:Nat) (gos:List Bool) (tick:Int) (stopped:Int) (wrecked:Bool) (rounds:Int) (gone:Int):List AV:=[.rsl (Qk c.blocks) 0 c.blocks.length,.rsl (rowI c.cars) 0 c.cars.length,.rsl (Qo faults) 0 faults.length,.sl 1 g1 0 ((cars.map (Qr c)).length) 4,.sl 2 g2 0 gos.length 1,.int .i64 tick,.int .i64 stopped,.bool wrecked,.int .i64 rounds,.int .i64 gone]
abbrev yB (c:Cir) (faults:List Flt) (g1:Nat) (cars:List Car) (g2:Nat) (gos:List Bool) (tick:Int) (stopped:Int) (wrecked:Bool) (rounds:Int) (gone:Int):List Blk:=[⟨true,0,1,false,(z45_24 c faults g1 cars g2 gos tick stopped wrecked rounds gone),false⟩,⟨true,g1,4,true,(Qi (cars.map (Qr c))),true⟩,⟨true,g2,1,true,(rowB gos),true⟩]
abbrev z45_8 (c:Cir) (faults:List Flt) (g1:Nat) (cars:List Car) (g2:Nat) (gos:List Bool) (tick:Int) (stopped:Int) (wrecked:Bool) (rounds:Int) (gone:Int):List Blk:=[⟨true,0,1,false,(z45_20 c faults g1 cars g2 gos tick stopped wrecked rounds gone),false⟩,⟨true,g1,4,true,(Qi cars),true⟩,⟨true,g2,1,true,(rowB gos),true⟩]
abbrev z45_9 (c:Cir) (faults:List Flt) (cars:List Car) (gos:List Bool) (tick:Int) (stopped:Int) (wrecked:Bool) (rounds:Int) (gone:Int):List AV:=[.rptr [.rsl (Qk c.blocks) 0 c.blocks.length,.rsl (rowI c.cars) 0 c.cars.length,.rsl (Qo faults) 0 faults.length,.rsl (Qi (cars.map (Qr c))) 0 ((cars.map (Qr c)).length),.rsl (rowB gos) 0 gos.length,.int .i64 tick,.int .i64 stopped,.bool wrecked,.int .i64 rounds,.int .i64 gone] 0]
abbrev yl (c:Cir) (faults:List Flt) (cars:List Car) (gos:List Bool) (tick:Int) (stopped:Int) (wrecked:Bool) (rounds:Int) (gone:Int):List AV:=[.rptr [.rsl (Qk c.blocks) 0 c.blocks.length,.rsl (rowI c.cars) 0 c.cars.length,.rsl (Qo faults) 0 faults.length,.rsl (Qi cars) 0 cars.length,.rsl (rowB gos) 0 gos.length,.int .i64 tick,.int .i64 stopped,.bool wrecked,.int .i64 rounds,.int .i64 gone] 0]
abbrev XZ (c:Cir) (faults:List Flt) (cars:List Car) (gos:List Bool) (tick:Int) (stopped:Int) (wrecked:Bool) (rounds:Int) (gone:Int):=(⟨c,faults,cars,gos,tick,stopped,wrecked,rounds,gone⟩:Trk).cars.map Car.spot
abbrev z45_12 (c:Cir) (faults:List Flt) (cars:List Car) (gos:List Bool) (tick:Int) (stopped:Int) (wrecked:Bool) (rounds:Int) (gone:Int):AV:=.tup [.agg [.int .i64 (((QH c (XZ c faults cars gos tick stopped wrecked rounds gone)).1).block),.int .i64 (((QH c (XZ c faults cars gos tick stopped wrecked rounds gone)).1).ran),.bool (((QH c (XZ c faults cars gos tick stopped wrecked rounds gone)).1).opn)],.int .i64 ((QH c (XZ c faults cars gos tick stopped wrecked rounds gone)).2)]
abbrev XY (c:Cir) (faults:List Flt) (cars:List Car) (gos:List Bool) (tick:Int) (stopped:Int) (wrecked:Bool) (rounds:Int) (gone:Int):=(XL c faults cars gos tick stopped wrecked rounds gone).cars.map Car.spot
abbrev z45_13 (c:Cir) (faults:List Flt) (cars:List Car) (gos:List Bool) (tick:Int) (stopped:Int) (wrecked:Bool) (rounds:Int) (gone:Int):AV:=.tup [.agg [.int .i64 (((QH c (XY c faults cars gos tick stopped wrecked rounds gone)).1).block),.int .i64 (((QH c (XY c faults cars gos tick stopped wrecked rounds gone)).1).ran),.bool (((QH c (XY c faults cars gos tick stopped wrecked rounds gone)).1).opn)],.int .i64 ((QH c (XY c faults cars gos tick stopped wrecked rounds gone)).2)]
abbrev KX (c:Cir) (l:(List Prs)):List AV:=[J,J,.ptr 3 0 0,J,.ptr 4 0 0,J,.sl 6 0 0 (Int.toNat (c.blocks.length:Int)) 1]++jj 47 ([.rsl (QV l) 0 l.length,.int .i64 (l.length:Int),.int .i64 0]++Js 35)
abbrev Vz (c:Cir) (faults:List Flt) (cars:List Car) (gos:List Bool) (tick:Int) (wrecked:Bool) (rounds:Int) (gone:Int):=(⟨c,faults,(cars.map (Qr c)),gos,tick,tick,wrecked,rounds,gone⟩:Trk).cars.map Car.spot
abbrev Vy (c:Cir) (faults:List Flt) (cars:List Car) (gos:List Bool) (tick:Int) (wrecked:Bool) (rounds:Int) (gone:Int):=(⟨c,faults,cars,gos,tick,tick,wrecked,rounds,gone⟩:Trk).cars.map Car.spot
abbrev yV (c:Cir):List AV:=[.rsl (Qk c.blocks) 0 c.blocks.length,.rsl (rowI c.cars) 0 c.cars.length]
abbrev z45_21 (c:Cir) (faults:List Flt) (g1:Nat) (v4_1:(List Said)) (v4_2:(List Said)) (v4_3:(List Said)) (v6:List Bool) (v1:List Car) (v2:List Bool) (rounds:Int) (gone:Int) (g2:Nat) (tick:Int) (v0_6:Int) (wrecked:Bool) (g6:Nat):List Blk:=[⟨true,0,1,false,[.rsl (Qk c.blocks) 0 c.blocks.length,.rsl (rowI c.cars) 0 c.cars.length,.rsl (Qo faults) 0 faults.length,.sl 1 g1 0 ((Xk c v4_1 v4_2 v4_3 v6 v1 v2 rounds gone).cars.length) 4,.sl 2 g2 0 ((Xk c v4_1 v4_2 v4_3 v6 v1 v2 rounds gone).gos.length) 1,.int .i64 tick,.int .i64 v0_6,.bool wrecked,.int .i64 ((Xk c v4_1 v4_2 v4_3 v6 v1 v2 rounds gone).rounds),.int .i64 ((Xk c v4_1 v4_2 v4_3 v6 v1 v2 rounds gone).gone)],false⟩,⟨true,g1,4,true,(Qi (Xk c v4_1 v4_2 v4_3 v6 v1 v2 rounds gone).cars),true⟩,⟨true,g2,1,true,(rowB (Xk c v4_1 v4_2 v4_3 v6 v1 v2 rounds gone).gos),true⟩,⟨true,g6,1,true,(rowB v6),true⟩]
abbrev z45_22 (c:Cir) (faults:List Flt) (g1:Nat) (v4_1:(List Said)) (v4_2:(List Said)) (v4_3:(List Said)) (pe:Prs) (v1:List Car) (v2:List Bool) (v6:List Bool) (g2:Nat) (tick:Int) (v0_6:Int) (wrecked:Bool) (rounds:Int) (gone:Int) (g6:Nat):List Blk:=[⟨true,0,1,false,[.rsl (Qk c.blocks) 0 c.blocks.length,.rsl (rowI c.cars) 0 c.cars.length,.rsl (Qo faults) 0 faults.length,.sl 1 g1 0 ((Xm c (⟨v4_1,v4_2,v4_3⟩:Rd4) pe (v1,v2,v6)).1.length) 4,.sl 2 g2 0 ((Xm c (⟨v4_1,v4_2,v4_3⟩:Rd4) pe (v1,v2,v6)).2.1.length) 1,.int .i64 tick,.int .i64 v0_6,.bool wrecked,.int .i64 rounds,.int .i64 gone],false⟩,⟨true,g1,4,true,(Qi (Xm c (⟨v4_1,v4_2,v4_3⟩:Rd4) pe (v1,v2,v6)).1),true⟩,⟨true,g2,1,true,(rowB (Xm c (⟨v4_1,v4_2,v4_3⟩:Rd4) pe (v1,v2,v6)).2.1),true⟩,⟨true,g6,1,true,(rowB (Xm c (⟨v4_1,v4_2,v4_3⟩:Rd4) pe (v1,v2,v6)).2.2),true⟩]
abbrev z45_25 (v4_1:(List Said)) (v4_2:(List Said)) (v4_3:(List Said)):List AV:=[.nilSl,.rsl (Qe v4_1) 0 v4_1.length,.rsl (Qe v4_2) 0 v4_2.length,.rsl (Qe v4_3) 0 v4_3.length]
abbrev z45_26 (c:Cir) (faults:List Flt) (g1:Nat) (v1:List Car) (g2:Nat) (v2:List Bool) (tick:Int) (v0_6:Int) (wrecked:Bool) (rounds:Int) (gone:Int):List AV:=[.rsl (Qk c.blocks) 0 c.blocks.length,.rsl (rowI c.cars) 0 c.cars.length,.rsl (Qo faults) 0 faults.length,.sl 1 g1 0 v1.length 4,.sl 2 g2 0 v2.length 1,.int .i64 tick,.int .i64 v0_6,.bool wrecked,.int .i64 rounds,.int .i64 gone]
abbrev z45_27 (pe:Prs):List AV:=[.int .i64 pe.at_,.int .i64 pe.kind,.int .i64 pe.block]
abbrev z45_28 (c:Cir) (faults:List Flt) (g1:Nat) (cars:List Car) (g2:Nat) (gos:List Bool) (tick:Int) (stopped:Int) (wrecked:Bool) (rounds:Int) (gone:Int):List Blk:=[⟨true,0,1,false,[.ptr 1 0 0],false⟩,⟨true,0,1,false,[.rsl (Qk c.blocks) 0 c.blocks.length,.rsl (rowI c.cars) 0 c.cars.length,.rsl (Qo faults) 0 faults.length,.sl 2 g1 0 cars.length 4,.sl 3 g2 0 gos.length 1,.int .i64 (tick+1),.int .i64 stopped,.bool wrecked,.int .i64 rounds,.int .i64 gone],false⟩,⟨true,g1,4,true,(Qi cars),true⟩,⟨true,g2,1,true,(rowB gos),true⟩]
abbrev z45_29 (c:Cir) (faults:List Flt) (cars:List Car) (gos:List Bool) (tick:Int) (wrecked:Bool) (rounds:Int) (gone:Int):AV:=.tup [.agg [.int .i64 (((QH c (Vz c faults cars gos tick wrecked rounds gone)).1).block),.int .i64 (((QH c (Vz c faults cars gos tick wrecked rounds gone)).1).ran),.bool (((QH c (Vz c faults cars gos tick wrecked rounds gone)).1).opn)],.int .i64 ((QH c (Vz c faults cars gos tick wrecked rounds gone)).2)]
abbrev z45_30 (c:Cir) (faults:List Flt) (cars:List Car) (gos:List Bool) (tick:Int) (wrecked:Bool) (rounds:Int) (gone:Int):AV:=.tup [.agg [.int .i64 (((QH c (Vy c faults cars gos tick wrecked rounds gone)).1).block),.int .i64 (((QH c (Vy c faults cars gos tick wrecked rounds gone)).1).ran),.bool (((QH c (Vy c faults cars gos tick wrecked rounds gone)).1).opn)],.int .i64 ((QH c (Vy c faults cars gos tick wrecked rounds gone)).2)]
theorem p45_df_0 (l:(List Prs)) (c:Cir) (faults:List Flt) (cars:List Car) (gos:List Bool) (tick stopped:Int) (wrecked:Bool) (rounds gone:Int) (g1 g2:Nat) {E:Env} {res:AV} {bs2:List Blk} (hE:LentDE Try.prog 45 [.sl 2 g2 0 0 1] (.clos 70 [] [.ptr 3 0 0]) res bs2 E) (ho:AllP [wrecked=true,WE Try.prog (.clos 70 [] [.ptr 0 0 0]) [⟨true,0,1,false,[.ptr 1 0 0],false⟩,⟨true,0,1,false,[.rsl (Qk c.blocks) 0 c.blocks.length,.rsl (rowI c.cars) 0 c.cars.length,.rsl (Qo faults) 0 faults.length,.sl 2 g1 0 cars.length 4,.sl 3 g2 0 gos.length 1,.int .i64 tick,.int .i64 stopped,.bool wrecked,.int .i64 rounds,.int .i64 gone],false⟩,⟨true,g1,4,true,(Qi cars),true⟩,⟨true,g2,1,true,(rowB gos),true⟩] (.tup []) (z45_28 c faults g1 cars g2 gos tick stopped wrecked rounds gone)])
 (hr:(.tup [])=res) (hb:[⟨true,0,1,false,[.rsl (Qk c.blocks) 0 c.blocks.length,.rsl (rowI c.cars) 0 c.cars.length,.rsl (Qo faults) 0 faults.length,.sl 1 g1 0 cars.length 4,.sl 2 g2 0 gos.length 1,.int .i64 (tick+1),.int .i64 stopped,.bool wrecked,.int .i64 rounds,.int .i64 gone],false⟩,⟨true,g1,4,true,(Qi cars),true⟩,⟨true,g2,1,true,(rowB gos),true⟩]=bs2):G Try.prog E (WV Try.prog) ⟨(qc l),(WZ c faults g1 cars g2 gos tick stopped wrecked rounds gone)⟩ :=
 YR (n:=400) (ρ:=[3,0,1,2]) (bsD:=(z45_28 c faults g1 cars g2 gos tick stopped wrecked rounds gone)) (live:=[]) (m:=3) (evs:=[.b true]) (obs:=_) hE (by kernel_rfl) Try.func45 Ql (by kernel_rfl) ho hr hb
theorem p45_df_1 (l:(List Prs)) (c:Cir) (faults:List Flt) (cars:List Car) (gos:List Bool) (tick stopped:Int) (wrecked:Bool) (rounds gone:Int) (g1 g2:Nat) {E:Env} {rv:AV} {bs2:List Blk} (hE:LentDE Try.prog 45 [.sl 2 g2 0 0 1] (.clos 70 [] [.ptr 3 0 0]) rv bs2 E) (ho:AllP [wrecked=false,(decide (tick > 0))=true,VQ Try.prog (.clos 71 [] []) [.ptr 0 0 0] (z45_8 c faults g1 cars g2 gos tick stopped wrecked rounds gone) (.tup []) (yB c faults g1 cars g2 gos tick stopped wrecked rounds gone),Vx Try.prog (.clos 72 [] []) (z45_9 c faults cars gos tick stopped wrecked rounds gone) (.agg (Wa c faults cars gos tick stopped wrecked rounds gone)),g1=g1,g2=g2,4≤4,1≤1,(decide (stopped<0))=true,0≤4,4≤4,4≤4,Qd Try.prog (.clos 74 [] []) [.rsl (Wa c faults cars gos tick stopped wrecked rounds gone) 0 4,.clos 75 [] [.rptr [.clos 73 [] []] 0]] (.bool (([([]:List Said),((Qm (XL c faults cars gos tick stopped wrecked rounds gone)).k1),((Qm (XL c faults cars gos tick stopped wrecked rounds gone)).k2),((Qm (XL c faults cars gos tick stopped wrecked rounds gone)).k3)]).any (fun l=>l.any QJ))),(([([]:List Said),((Qm (XL c faults cars gos tick stopped wrecked rounds gone)).k1),((Qm (XL c faults cars gos tick stopped wrecked rounds gone)).k2),((Qm (XL c faults cars gos tick stopped wrecked rounds gone)).k3)]).any (fun l=>l.any QJ))=true,7≤10,(decide (tick<0))=true,0≤(c.blocks.length:Int)∧(c.blocks.length:Int)≤(c.blocks.length:Int)∧(c.blocks.length:Int)≤2147483648])
 (hg:G Try.prog E (yJ Try.prog) ⟨(KX c l),[⟨true,0,1,false,[.rsl (Qk c.blocks) 0 c.blocks.length,.rsl (rowI c.cars) 0 c.cars.length,.rsl (Qo faults) 0 faults.length,.sl 1 g1 0 ((cars.map (Qr c)).length) 4,.sl 2 g2 0 gos.length 1,.int .i64 tick,.int .i64 tick,.bool wrecked,.int .i64 rounds,.int .i64 gone],false⟩,⟨true,g1,4,true,(Qi (cars.map (Qr c))),true⟩,⟨true,g2,1,true,(rowB gos),true⟩,⟨true,0,1,false,[.ptr 0 0 0],false⟩,⟨true,0,1,true,(Wa c faults cars gos tick stopped wrecked rounds gone),false⟩,⟨true,0,1,true,[.clos 73 [] []],false⟩,⟨true,0,1,true,((List.replicate (Int.toNat (c.blocks.length:Int)) ([.bool false]:List AV)).flatten),true⟩]⟩):G Try.prog E (WV Try.prog) ⟨(qc l),(WZ c faults g1 cars g2 gos tick stopped wrecked rounds gone)⟩ :=
 Qg (n:=400) (ds:=[]) (cs:=[]) (live:=[2,4,6,54,55,56]) (m:=7) (evs:=[.b false,.b true,.lent [0,1,2] (.tup []) (yB c faults g1 cars g2 gos tick stopped wrecked rounds gone),.vn (.agg (Wa c faults cars gos tick stopped wrecked rounds gone)),.b true,.v (.bool (([([]:List Said),((Qm (XL c faults cars gos tick stopped wrecked rounds gone)).k1),((Qm (XL c faults cars gos tick stopped wrecked rounds gone)).k2),((Qm (XL c faults cars gos tick stopped wrecked rounds gone)).k3)]).any (fun l=>l.any QJ))),.b true,.b true,.stop]) (obs:=_) hE.kind (hE.nogh (by kernel_rfl)) Ql (by kernel_rfl) ho hg
theorem p45_df_2 (l:(List Prs)) (c:Cir) (faults:List Flt) (cars:List Car) (gos:List Bool) (tick stopped:Int) (wrecked:Bool) (rounds gone:Int) (g1 g2:Nat) {E:Env} {res:AV} {bs2:List Blk} (hE:LentDE Try.prog 45 [.sl 2 g2 0 0 1] (.clos 70 [] [.ptr 3 0 0]) res bs2 E) (ho:AllP [wrecked=false,(decide (tick > 0))=true,VQ Try.prog (.clos 71 [] []) [.ptr 0 0 0] (z45_8 c faults g1 cars g2 gos tick stopped wrecked rounds gone) (.tup []) (yB c faults g1 cars g2 gos tick stopped wrecked rounds gone),Vx Try.prog (.clos 72 [] []) (z45_9 c faults cars gos tick stopped wrecked rounds gone) (.agg (Wa c faults cars gos tick stopped wrecked rounds gone)),g1=g1,g2=g2,4≤4,1≤1,(decide (stopped<0))=true,0≤4,4≤4,4≤4,Qd Try.prog (.clos 74 [] []) [.rsl (Wa c faults cars gos tick stopped wrecked rounds gone) 0 4,.clos 75 [] [.rptr [.clos 73 [] []] 0]] (.bool (([([]:List Said),((Qm (XL c faults cars gos tick stopped wrecked rounds gone)).k1),((Qm (XL c faults cars gos tick stopped wrecked rounds gone)).k2),((Qm (XL c faults cars gos tick stopped wrecked rounds gone)).k3)]).any (fun l=>l.any QJ))),(([([]:List Said),((Qm (XL c faults cars gos tick stopped wrecked rounds gone)).k1),((Qm (XL c faults cars gos tick stopped wrecked rounds gone)).k2),((Qm (XL c faults cars gos tick stopped wrecked rounds gone)).k3)]).any (fun l=>l.any QJ))=true,7≤10,(decide (tick<0))=false,Vx Try.prog (.clos 46 [] []) [.rptr [.rsl (Qk c.blocks) 0 c.blocks.length,.rsl (rowI c.cars) 0 c.cars.length,.rsl (Qo faults) 0 faults.length,.rsl (Qi (cars.map (Qr c))) 0 ((cars.map (Qr c)).length),.rsl (rowB gos) 0 gos.length,.int .i64 tick,.int .i64 tick,.bool wrecked,.int .i64 rounds,.int .i64 gone] 0] (.rsl (Qb (Vz c faults cars gos tick wrecked rounds gone)) 0 ((Vz c faults cars gos tick wrecked rounds gone).length)),g1=g1,g2=g2,Qd Try.prog (.clos 60 [] []) [.agg (yV c),.rsl (Qb (Vz c faults cars gos tick wrecked rounds gone)) 0 ((Vz c faults cars gos tick wrecked rounds gone).length)] (z45_29 c faults cars gos tick wrecked rounds gone),3≤3,8≤10,WE Try.prog (.clos 70 [] [.ptr 0 0 0]) [⟨true,0,1,false,[.ptr 1 0 0],false⟩,⟨true,0,1,false,[.rsl (Qk c.blocks) 0 c.blocks.length,.rsl (rowI c.cars) 0 c.cars.length,.rsl (Qo faults) 0 faults.length,.sl 2 g1 0 ((cars.map (Qr c)).length) 4,.sl 3 g2 0 gos.length 1,.int .i64 tick,.int .i64 tick,.bool (decide ((QH c (Vz c faults cars gos tick wrecked rounds gone)).2≥0)),.int .i64 rounds,.int .i64 gone],false⟩,⟨true,g1,4,true,(Qi (cars.map (Qr c))),true⟩,⟨true,g2,1,true,(rowB gos),true⟩] (.tup []) [⟨true,0,1,false,[.ptr 1 0 0],false⟩,⟨true,0,1,false,[.rsl (Qk c.blocks) 0 c.blocks.length,.rsl (rowI c.cars) 0 c.cars.length,.rsl (Qo faults) 0 faults.length,.sl 2 g1 0 ((cars.map (Qr c)).length) 4,.sl 3 g2 0 gos.length 1,.int .i64 (tick+1),.int .i64 tick,.bool (decide ((QH c (Vz c faults cars gos tick wrecked rounds gone)).2≥0)),.int .i64 rounds,.int .i64 gone],false⟩,⟨true,g1,4,true,(Qi (cars.map (Qr c))),true⟩,⟨true,g2,1,true,(rowB gos),true⟩]])
 (hr:(.tup [])=res) (hb:[⟨true,0,1,false,[.rsl (Qk c.blocks) 0 c.blocks.length,.rsl (rowI c.cars) 0 c.cars.length,.rsl (Qo faults) 0 faults.length,.sl 1 g1 0 ((cars.map (Qr c)).length) 4,.sl 2 g2 0 gos.length 1,.int .i64 (tick+1),.int .i64 tick,.bool (decide ((QH c (Vz c faults cars gos tick wrecked rounds gone)).2≥0)),.int .i64 rounds,.int .i64 gone],false⟩,⟨true,g1,4,true,(Qi (cars.map (Qr c))),true⟩,⟨true,g2,1,true,(rowB gos),true⟩]=bs2):G Try.prog E (WV Try.prog) ⟨(qc l),(WZ c faults g1 cars g2 gos tick stopped wrecked rounds gone)⟩ :=
 YR (n:=400) (ρ:=[3,0,1,2]) (bsD:=[⟨true,0,1,false,[.ptr 1 0 0],false⟩,⟨true,0,1,false,[.rsl (Qk c.blocks) 0 c.blocks.length,.rsl (rowI c.cars) 0 c.cars.length,.rsl (Qo faults) 0 faults.length,.sl 2 g1 0 ((cars.map (Qr c)).length) 4,.sl 3 g2 0 gos.length 1,.int .i64 (tick+1),.int .i64 tick,.bool (decide ((QH c (Vz c faults cars gos tick wrecked rounds gone)).2≥0)),.int .i64 rounds,.int .i64 gone],false⟩,⟨true,g1,4,true,(Qi (cars.map (Qr c))),true⟩,⟨true,g2,1,true,(rowB gos),true⟩]) (live:=[]) (m:=3) (evs:=[.b false,.b true,.lent [0,1,2] (.tup []) (yB c faults g1 cars g2 gos tick stopped wrecked rounds gone),.vn (.agg (Wa c faults cars gos tick stopped wrecked rounds gone)),.b true,.v (.bool (([([]:List Said),((Qm (XL c faults cars gos tick stopped wrecked rounds gone)).k1),((Qm (XL c faults cars gos tick stopped wrecked rounds gone)).k2),((Qm (XL c faults cars gos tick stopped wrecked rounds gone)).k3)]).any (fun l=>l.any QJ))),.b true,.b false,.vn (.rsl (Qb (Vz c faults cars gos tick wrecked rounds gone)) 0 ((Vz c faults cars gos tick wrecked rounds gone).length)),.v (z45_29 c faults cars gos tick wrecked rounds gone)]) (obs:=_) hE (by kernel_rfl) Try.func45 Ql (by kernel_rfl) ho hr hb
theorem p45_df_3 (l:(List Prs)) (c:Cir) (faults:List Flt) (cars:List Car) (gos:List Bool) (tick stopped:Int) (wrecked:Bool) (rounds gone:Int) (g1 g2:Nat) {E:Env} {rv:AV} {bs2:List Blk} (hE:LentDE Try.prog 45 [.sl 2 g2 0 0 1] (.clos 70 [] [.ptr 3 0 0]) rv bs2 E) (ho:AllP [wrecked=false,(decide (tick > 0))=true,VQ Try.prog (.clos 71 [] []) [.ptr 0 0 0] (z45_8 c faults g1 cars g2 gos tick stopped wrecked rounds gone) (.tup []) (yB c faults g1 cars g2 gos tick stopped wrecked rounds gone),Vx Try.prog (.clos 72 [] []) (z45_9 c faults cars gos tick stopped wrecked rounds gone) (.agg (Wa c faults cars gos tick stopped wrecked rounds gone)),g1=g1,g2=g2,4≤4,1≤1,(decide (stopped<0))=true,0≤4,4≤4,4≤4,Qd Try.prog (.clos 74 [] []) [.rsl (Wa c faults cars gos tick stopped wrecked rounds gone) 0 4,.clos 75 [] [.rptr [.clos 73 [] []] 0]] (.bool (([([]:List Said),((Qm (XL c faults cars gos tick stopped wrecked rounds gone)).k1),((Qm (XL c faults cars gos tick stopped wrecked rounds gone)).k2),((Qm (XL c faults cars gos tick stopped wrecked rounds gone)).k3)]).any (fun l=>l.any QJ))),(([([]:List Said),((Qm (XL c faults cars gos tick stopped wrecked rounds gone)).k1),((Qm (XL c faults cars gos tick stopped wrecked rounds gone)).k2),((Qm (XL c faults cars gos tick stopped wrecked rounds gone)).k3)]).any (fun l=>l.any QJ))=false,(decide (stopped<0))=true,0≤(c.blocks.length:Int)∧(c.blocks.length:Int)≤(c.blocks.length:Int)∧(c.blocks.length:Int)≤2147483648])
 (hg:G Try.prog E (yJ Try.prog) ⟨(KX c l),[⟨true,0,1,false,(z45_24 c faults g1 cars g2 gos tick stopped wrecked rounds gone),false⟩,⟨true,g1,4,true,(Qi (cars.map (Qr c))),true⟩,⟨true,g2,1,true,(rowB gos),true⟩,⟨true,0,1,false,[.ptr 0 0 0],false⟩,⟨true,0,1,true,(Wa c faults cars gos tick stopped wrecked rounds gone),false⟩,⟨true,0,1,true,[.clos 73 [] []],false⟩,⟨true,0,1,true,((List.replicate (Int.toNat (c.blocks.length:Int)) ([.bool false]:List AV)).flatten),true⟩]⟩):G Try.prog E (WV Try.prog) ⟨(qc l),(WZ c faults g1 cars g2 gos tick stopped wrecked rounds gone)⟩ :=
 Qg (n:=400) (ds:=[]) (cs:=[]) (live:=[2,4,6,54,55,56]) (m:=7) (evs:=[.b false,.b true,.lent [0,1,2] (.tup []) (yB c faults g1 cars g2 gos tick stopped wrecked rounds gone),.vn (.agg (Wa c faults cars gos tick stopped wrecked rounds gone)),.b true,.v (.bool (([([]:List Said),((Qm (XL c faults cars gos tick stopped wrecked rounds gone)).k1),((Qm (XL c faults cars gos tick stopped wrecked rounds gone)).k2),((Qm (XL c faults cars gos tick stopped wrecked rounds gone)).k3)]).any (fun l=>l.any QJ))),.b false,.b true,.stop]) (obs:=_) hE.kind (hE.nogh (by kernel_rfl)) Ql (by kernel_rfl) ho hg
theorem p45_df_4 (l:(List Prs)) (c:Cir) (faults:List Flt) (cars:List Car) (gos:List Bool) (tick stopped:Int) (wrecked:Bool) (rounds gone:Int) (g1 g2:Nat) {E:Env} {res:AV} {bs2:List Blk} (hE:LentDE Try.prog 45 [.sl 2 g2 0 0 1] (.clos 70 [] [.ptr 3 0 0]) res bs2 E) (ho:AllP [wrecked=false,(decide (tick > 0))=true,VQ Try.prog (.clos 71 [] []) [.ptr 0 0 0] (z45_8 c faults g1 cars g2 gos tick stopped wrecked rounds gone) (.tup []) (yB c faults g1 cars g2 gos tick stopped wrecked rounds gone),Vx Try.prog (.clos 72 [] []) (z45_9 c faults cars gos tick stopped wrecked rounds gone) (.agg (Wa c faults cars gos tick stopped wrecked rounds gone)),g1=g1,g2=g2,4≤4,1≤1,(decide (stopped<0))=true,0≤4,4≤4,4≤4,Qd Try.prog (.clos 74 [] []) [.rsl (Wa c faults cars gos tick stopped wrecked rounds gone) 0 4,.clos 75 [] [.rptr [.clos 73 [] []] 0]] (.bool (([([]:List Said),((Qm (XL c faults cars gos tick stopped wrecked rounds gone)).k1),((Qm (XL c faults cars gos tick stopped wrecked rounds gone)).k2),((Qm (XL c faults cars gos tick stopped wrecked rounds gone)).k3)]).any (fun l=>l.any QJ))),(([([]:List Said),((Qm (XL c faults cars gos tick stopped wrecked rounds gone)).k1),((Qm (XL c faults cars gos tick stopped wrecked rounds gone)).k2),((Qm (XL c faults cars gos tick stopped wrecked rounds gone)).k3)]).any (fun l=>l.any QJ))=false,(decide (stopped<0))=false,Vx Try.prog (.clos 46 [] []) (z45_9 c faults cars gos tick stopped wrecked rounds gone) (.rsl (Qb (XY c faults cars gos tick stopped wrecked rounds gone)) 0 ((XY c faults cars gos tick stopped wrecked rounds gone).length)),g1=g1,g2=g2,Qd Try.prog (.clos 60 [] []) [.agg (yV c),.rsl (Qb (XY c faults cars gos tick stopped wrecked rounds gone)) 0 ((XY c faults cars gos tick stopped wrecked rounds gone).length)] (z45_13 c faults cars gos tick stopped wrecked rounds gone),3≤3,8≤10,WE Try.prog (.clos 70 [] [.ptr 0 0 0]) [⟨true,0,1,false,[.ptr 1 0 0],false⟩,⟨true,0,1,false,[.rsl (Qk c.blocks) 0 c.blocks.length,.rsl (rowI c.cars) 0 c.cars.length,.rsl (Qo faults) 0 faults.length,.sl 2 g1 0 ((cars.map (Qr c)).length) 4,.sl 3 g2 0 gos.length 1,.int .i64 tick,.int .i64 stopped,.bool (decide ((QH c (XY c faults cars gos tick stopped wrecked rounds gone)).2≥0)),.int .i64 rounds,.int .i64 gone],false⟩,⟨true,g1,4,true,(Qi (cars.map (Qr c))),true⟩,⟨true,g2,1,true,(rowB gos),true⟩] (.tup []) [⟨true,0,1,false,[.ptr 1 0 0],false⟩,⟨true,0,1,false,[.rsl (Qk c.blocks) 0 c.blocks.length,.rsl (rowI c.cars) 0 c.cars.length,.rsl (Qo faults) 0 faults.length,.sl 2 g1 0 ((cars.map (Qr c)).length) 4,.sl 3 g2 0 gos.length 1,.int .i64 (tick+1),.int .i64 stopped,.bool (decide ((QH c (XY c faults cars gos tick stopped wrecked rounds gone)).2≥0)),.int .i64 rounds,.int .i64 gone],false⟩,⟨true,g1,4,true,(Qi (cars.map (Qr c))),true⟩,⟨true,g2,1,true,(rowB gos),true⟩]])
 (hr:(.tup [])=res) (hb:[⟨true,0,1,false,[.rsl (Qk c.blocks) 0 c.blocks.length,.rsl (rowI c.cars) 0 c.cars.length,.rsl (Qo faults) 0 faults.length,.sl 1 g1 0 ((cars.map (Qr c)).length) 4,.sl 2 g2 0 gos.length 1,.int .i64 (tick+1),.int .i64 stopped,.bool (decide ((QH c (XY c faults cars gos tick stopped wrecked rounds gone)).2≥0)),.int .i64 rounds,.int .i64 gone],false⟩,⟨true,g1,4,true,(Qi (cars.map (Qr c))),true⟩,⟨true,g2,1,true,(rowB gos),true⟩]=bs2):G Try.prog E (WV Try.prog) ⟨(qc l),(WZ c faults g1 cars g2 gos tick stopped wrecked rounds gone)⟩ :=
 YR (n:=400) (ρ:=[3,0,1,2]) (bsD:=[⟨true,0,1,false,[.ptr 1 0 0],false⟩,⟨true,0,1,false,[.rsl (Qk c.blocks) 0 c.blocks.length,.rsl (rowI c.cars) 0 c.cars.length,.rsl (Qo faults) 0 faults.length,.sl 2 g1 0 ((cars.map (Qr c)).length) 4,.sl 3 g2 0 gos.length 1,.int .i64 (tick+1),.int .i64 stopped,.bool (decide ((QH c (XY c faults cars gos tick stopped wrecked rounds gone)).2≥0)),.int .i64 rounds,.int .i64 gone],false⟩,⟨true,g1,4,true,(Qi (cars.map (Qr c))),true⟩,⟨true,g2,1,true,(rowB gos),true⟩]) (live:=[]) (m:=3) (evs:=[.b false,.b true,.lent [0,1,2] (.tup []) (yB c faults g1 cars g2 gos tick stopped wrecked rounds gone),.vn (.agg (Wa c faults cars gos tick stopped wrecked rounds gone)),.b true,.v (.bool (([([]:List Said),((Qm (XL c faults cars gos tick stopped wrecked rounds gone)).k1),((Qm (XL c faults cars gos tick stopped wrecked rounds gone)).k2),((Qm (XL c faults cars gos tick stopped wrecked rounds gone)).k3)]).any (fun l=>l.any QJ))),.b false,.b false,.vn (.rsl (Qb (XY c faults cars gos tick stopped wrecked rounds gone)) 0 ((XY c faults cars gos tick stopped wrecked rounds gone).length)),.v (z45_13 c faults cars gos tick stopped wrecked rounds gone)]) (obs:=_) hE (by kernel_rfl) Try.func45 Ql (by kernel_rfl) ho hr hb
theorem p45_df_5 (l:(List Prs)) (c:Cir) (faults:List Flt) (cars:List Car) (gos:List Bool) (tick stopped:Int) (wrecked:Bool) (rounds gone:Int) (g1 g2:Nat) {E:Env} {rv:AV} {bs2:List Blk} (hE:LentDE Try.prog 45 [.sl 2 g2 0 0 1] (.clos 70 [] [.ptr 3 0 0]) rv bs2 E) (ho:AllP [wrecked=false,(decide (tick > 0))=true,VQ Try.prog (.clos 71 [] []) [.ptr 0 0 0] (z45_8 c faults g1 cars g2 gos tick stopped wrecked rounds gone) (.tup []) (yB c faults g1 cars g2 gos tick stopped wrecked rounds gone),Vx Try.prog (.clos 72 [] []) (z45_9 c faults cars gos tick stopped wrecked rounds gone) (.agg (Wa c faults cars gos tick stopped wrecked rounds gone)),g1=g1,g2=g2,4≤4,1≤1,(decide (stopped<0))=false,false=false,(decide (stopped<0))=true,0≤(c.blocks.length:Int)∧(c.blocks.length:Int)≤(c.blocks.length:Int)∧(c.blocks.length:Int)≤2147483648])
 (hg:G Try.prog E (yJ Try.prog) ⟨(KX c l),[⟨true,0,1,false,(z45_24 c faults g1 cars g2 gos tick stopped wrecked rounds gone),false⟩,⟨true,g1,4,true,(Qi (cars.map (Qr c))),true⟩,⟨true,g2,1,true,(rowB gos),true⟩,⟨true,0,1,false,[.ptr 0 0 0],false⟩,⟨true,0,1,true,(Wa c faults cars gos tick stopped wrecked rounds gone),false⟩,⟨true,0,1,true,[.clos 73 [] []],false⟩,⟨true,0,1,true,((List.replicate (Int.toNat (c.blocks.length:Int)) ([.bool false]:List AV)).flatten),true⟩]⟩):G Try.prog E (WV Try.prog) ⟨(qc l),(WZ c faults g1 cars g2 gos tick stopped wrecked rounds gone)⟩ :=
 Qg (n:=400) (ds:=[]) (cs:=[]) (live:=[2,4,6,54,55,56]) (m:=7) (evs:=[.b false,.b true,.lent [0,1,2] (.tup []) (yB c faults g1 cars g2 gos tick stopped wrecked rounds gone),.vn (.agg (Wa c faults cars gos tick stopped wrecked rounds gone)),.b false,.b false,.b true,.stop]) (obs:=_) hE.kind (hE.nogh (by kernel_rfl)) Ql (by kernel_rfl) ho hg
theorem p45_df_6 (l:(List Prs)) (c:Cir) (faults:List Flt) (cars:List Car) (gos:List Bool) (tick stopped:Int) (wrecked:Bool) (rounds gone:Int) (g1 g2:Nat) {E:Env} {res:AV} {bs2:List Blk} (hE:LentDE Try.prog 45 [.sl 2 g2 0 0 1] (.clos 70 [] [.ptr 3 0 0]) res bs2 E) (ho:AllP [wrecked=false,(decide (tick > 0))=true,VQ Try.prog (.clos 71 [] []) [.ptr 0 0 0] (z45_8 c faults g1 cars g2 gos tick stopped wrecked rounds gone) (.tup []) (yB c faults g1 cars g2 gos tick stopped wrecked rounds gone),Vx Try.prog (.clos 72 [] []) (z45_9 c faults cars gos tick stopped wrecked rounds gone) (.agg (Wa c faults cars gos tick stopped wrecked rounds gone)),g1=g1,g2=g2,4≤4,1≤1,(decide (stopped<0))=false,false=false,(decide (stopped<0))=false,Vx Try.prog (.clos 46 [] []) (z45_9 c faults cars gos tick stopped wrecked rounds gone) (.rsl (Qb (XY c faults cars gos tick stopped wrecked rounds gone)) 0 ((XY c faults cars gos tick stopped wrecked rounds gone).length)),g1=g1,g2=g2,Qd Try.prog (.clos 60 [] []) [.agg (yV c),.rsl (Qb (XY c faults cars gos tick stopped wrecked rounds gone)) 0 ((XY c faults cars gos tick stopped wrecked rounds gone).length)] (z45_13 c faults cars gos tick stopped wrecked rounds gone),3≤3,8≤10,WE Try.prog (.clos 70 [] [.ptr 0 0 0]) [⟨true,0,1,false,[.ptr 1 0 0],false⟩,⟨true,0,1,false,[.rsl (Qk c.blocks) 0 c.blocks.length,.rsl (rowI c.cars) 0 c.cars.length,.rsl (Qo faults) 0 faults.length,.sl 2 g1 0 ((cars.map (Qr c)).length) 4,.sl 3 g2 0 gos.length 1,.int .i64 tick,.int .i64 stopped,.bool (decide ((QH c (XY c faults cars gos tick stopped wrecked rounds gone)).2≥0)),.int .i64 rounds,.int .i64 gone],false⟩,⟨true,g1,4,true,(Qi (cars.map (Qr c))),true⟩,⟨true,g2,1,true,(rowB gos),true⟩] (.tup []) [⟨true,0,1,false,[.ptr 1 0 0],false⟩,⟨true,0,1,false,[.rsl (Qk c.blocks) 0 c.blocks.length,.rsl (rowI c.cars) 0 c.cars.length,.rsl (Qo faults) 0 faults.length,.sl 2 g1 0 ((cars.map (Qr c)).length) 4,.sl 3 g2 0 gos.length 1,.int .i64 (tick+1),.int .i64 stopped,.bool (decide ((QH c (XY c faults cars gos tick stopped wrecked rounds gone)).2≥0)),.int .i64 rounds,.int .i64 gone],false⟩,⟨true,g1,4,true,(Qi (cars.map (Qr c))),true⟩,⟨true,g2,1,true,(rowB gos),true⟩]])
 (hr:(.tup [])=res) (hb:[⟨true,0,1,false,[.rsl (Qk c.blocks) 0 c.blocks.length,.rsl (rowI c.cars) 0 c.cars.length,.rsl (Qo faults) 0 faults.length,.sl 1 g1 0 ((cars.map (Qr c)).length) 4,.sl 2 g2 0 gos.length 1,.int .i64 (tick+1),.int .i64 stopped,.bool (decide ((QH c (XY c faults cars gos tick stopped wrecked rounds gone)).2≥0)),.int .i64 rounds,.int .i64 gone],false⟩,⟨true,g1,4,true,(Qi (cars.map (Qr c))),true⟩,⟨true,g2,1,true,(rowB gos),true⟩]=bs2):G Try.prog E (WV Try.prog) ⟨(qc l),(WZ c faults g1 cars g2 gos tick stopped wrecked rounds gone)⟩ :=
 YR (n:=400) (ρ:=[3,0,1,2]) (bsD:=[⟨true,0,1,false,[.ptr 1 0 0],false⟩,⟨true,0,1,false,[.rsl (Qk c.blocks) 0 c.blocks.length,.rsl (rowI c.cars) 0 c.cars.length,.rsl (Qo faults) 0 faults.length,.sl 2 g1 0 ((cars.map (Qr c)).length) 4,.sl 3 g2 0 gos.length 1,.int .i64 (tick+1),.int .i64 stopped,.bool (decide ((QH c (XY c faults cars gos tick stopped wrecked rounds gone)).2≥0)),.int .i64 rounds,.int .i64 gone],false⟩,⟨true,g1,4,true,(Qi (cars.map (Qr c))),true⟩,⟨true,g2,1,true,(rowB gos),true⟩]) (live:=[]) (m:=3) (evs:=[.b false,.b true,.lent [0,1,2] (.tup []) (yB c faults g1 cars g2 gos tick stopped wrecked rounds gone),.vn (.agg (Wa c faults cars gos tick stopped wrecked rounds gone)),.b false,.b false,.b false,.vn (.rsl (Qb (XY c faults cars gos tick stopped wrecked rounds gone)) 0 ((XY c faults cars gos tick stopped wrecked rounds gone).length)),.v (z45_13 c faults cars gos tick stopped wrecked rounds gone)]) (obs:=_) hE (by kernel_rfl) Try.func45 Ql (by kernel_rfl) ho hr hb
theorem p45_df_7 (l:(List Prs)) (c:Cir) (faults:List Flt) (cars:List Car) (gos:List Bool) (tick stopped:Int) (wrecked:Bool) (rounds gone:Int) (g1 g2:Nat) {E:Env} {rv:AV} {bs2:List Blk} (hE:LentDE Try.prog 45 [.sl 2 g2 0 0 1] (.clos 70 [] [.ptr 3 0 0]) rv bs2 E) (ho:AllP [wrecked=false,(decide (tick > 0))=false,Vx Try.prog (.clos 72 [] []) (yl c faults cars gos tick stopped wrecked rounds gone) (.agg (VZ c faults cars gos tick stopped wrecked rounds gone)),g1=g1,g2=g2,4≤4,1≤1,(decide (stopped<0))=true,0≤4,4≤4,4≤4,Qd Try.prog (.clos 74 [] []) [.rsl (VZ c faults cars gos tick stopped wrecked rounds gone) 0 4,.clos 75 [] [.rptr [.clos 73 [] []] 0]] (.bool (([([]:List Said),((Xg c faults cars gos tick stopped wrecked rounds gone).k1),((Xg c faults cars gos tick stopped wrecked rounds gone).k2),((Xg c faults cars gos tick stopped wrecked rounds gone).k3)]).any (fun l=>l.any QJ))),(([([]:List Said),((Xg c faults cars gos tick stopped wrecked rounds gone).k1),((Xg c faults cars gos tick stopped wrecked rounds gone).k2),((Xg c faults cars gos tick stopped wrecked rounds gone).k3)]).any (fun l=>l.any QJ))=true,7≤10,(decide (tick<0))=true,0≤(c.blocks.length:Int)∧(c.blocks.length:Int)≤(c.blocks.length:Int)∧(c.blocks.length:Int)≤2147483648])
 (hg:G Try.prog E (yJ Try.prog) ⟨(KX c l),[⟨true,0,1,false,[.rsl (Qk c.blocks) 0 c.blocks.length,.rsl (rowI c.cars) 0 c.cars.length,.rsl (Qo faults) 0 faults.length,.sl 1 g1 0 cars.length 4,.sl 2 g2 0 gos.length 1,.int .i64 tick,.int .i64 tick,.bool wrecked,.int .i64 rounds,.int .i64 gone],false⟩,⟨true,g1,4,true,(Qi cars),true⟩,⟨true,g2,1,true,(rowB gos),true⟩,⟨true,0,1,false,[.ptr 0 0 0],false⟩,⟨true,0,1,true,(VZ c faults cars gos tick stopped wrecked rounds gone),false⟩,⟨true,0,1,true,[.clos 73 [] []],false⟩,⟨true,0,1,true,((List.replicate (Int.toNat (c.blocks.length:Int)) ([.bool false]:List AV)).flatten),true⟩]⟩):G Try.prog E (WV Try.prog) ⟨(qc l),(WZ c faults g1 cars g2 gos tick stopped wrecked rounds gone)⟩ :=
 Qg (n:=400) (ds:=[]) (cs:=[]) (live:=[2,4,6,54,55,56]) (m:=7) (evs:=[.b false,.b false,.vn (.agg (VZ c faults cars gos tick stopped wrecked rounds gone)),.b true,.v (.bool (([([]:List Said),((Xg c faults cars gos tick stopped wrecked rounds gone).k1),((Xg c faults cars gos tick stopped wrecked rounds gone).k2),((Xg c faults cars gos tick stopped wrecked rounds gone).k3)]).any (fun l=>l.any QJ))),.b true,.b true,.stop]) (obs:=_) hE.kind (hE.nogh (by kernel_rfl)) Ql (by kernel_rfl) ho hg
theorem p45_df_8 (l:(List Prs)) (c:Cir) (faults:List Flt) (cars:List Car) (gos:List Bool) (tick stopped:Int) (wrecked:Bool) (rounds gone:Int) (g1 g2:Nat) {E:Env} {res:AV} {bs2:List Blk} (hE:LentDE Try.prog 45 [.sl 2 g2 0 0 1] (.clos 70 [] [.ptr 3 0 0]) res bs2 E) (ho:AllP [wrecked=false,(decide (tick > 0))=false,Vx Try.prog (.clos 72 [] []) (yl c faults cars gos tick stopped wrecked rounds gone) (.agg (VZ c faults cars gos tick stopped wrecked rounds gone)),g1=g1,g2=g2,4≤4,1≤1,(decide (stopped<0))=true,0≤4,4≤4,4≤4,Qd Try.prog (.clos 74 [] []) [.rsl (VZ c faults cars gos tick stopped wrecked rounds gone) 0 4,.clos 75 [] [.rptr [.clos 73 [] []] 0]] (.bool (([([]:List Said),((Xg c faults cars gos tick stopped wrecked rounds gone).k1),((Xg c faults cars gos tick stopped wrecked rounds gone).k2),((Xg c faults cars gos tick stopped wrecked rounds gone).k3)]).any (fun l=>l.any QJ))),(([([]:List Said),((Xg c faults cars gos tick stopped wrecked rounds gone).k1),((Xg c faults cars gos tick stopped wrecked rounds gone).k2),((Xg c faults cars gos tick stopped wrecked rounds gone).k3)]).any (fun l=>l.any QJ))=true,7≤10,(decide (tick<0))=false,Vx Try.prog (.clos 46 [] []) [.rptr [.rsl (Qk c.blocks) 0 c.blocks.length,.rsl (rowI c.cars) 0 c.cars.length,.rsl (Qo faults) 0 faults.length,.rsl (Qi cars) 0 cars.length,.rsl (rowB gos) 0 gos.length,.int .i64 tick,.int .i64 tick,.bool wrecked,.int .i64 rounds,.int .i64 gone] 0] (.rsl (Qb (Vy c faults cars gos tick wrecked rounds gone)) 0 ((Vy c faults cars gos tick wrecked rounds gone).length)),g1=g1,g2=g2,Qd Try.prog (.clos 60 [] []) [.agg (yV c),.rsl (Qb (Vy c faults cars gos tick wrecked rounds gone)) 0 ((Vy c faults cars gos tick wrecked rounds gone).length)] (z45_30 c faults cars gos tick wrecked rounds gone),3≤3,8≤10,WE Try.prog (.clos 70 [] [.ptr 0 0 0]) [⟨true,0,1,false,[.ptr 1 0 0],false⟩,⟨true,0,1,false,[.rsl (Qk c.blocks) 0 c.blocks.length,.rsl (rowI c.cars) 0 c.cars.length,.rsl (Qo faults) 0 faults.length,.sl 2 g1 0 cars.length 4,.sl 3 g2 0 gos.length 1,.int .i64 tick,.int .i64 tick,.bool (decide ((QH c (Vy c faults cars gos tick wrecked rounds gone)).2≥0)),.int .i64 rounds,.int .i64 gone],false⟩,⟨true,g1,4,true,(Qi cars),true⟩,⟨true,g2,1,true,(rowB gos),true⟩] (.tup []) [⟨true,0,1,false,[.ptr 1 0 0],false⟩,⟨true,0,1,false,[.rsl (Qk c.blocks) 0 c.blocks.length,.rsl (rowI c.cars) 0 c.cars.length,.rsl (Qo faults) 0 faults.length,.sl 2 g1 0 cars.length 4,.sl 3 g2 0 gos.length 1,.int .i64 (tick+1),.int .i64 tick,.bool (decide ((QH c (Vy c faults cars gos tick wrecked rounds gone)).2≥0)),.int .i64 rounds,.int .i64 gone],false⟩,⟨true,g1,4,true,(Qi cars),true⟩,⟨true,g2,1,true,(rowB gos),true⟩]])
 (hr:(.tup [])=res) (hb:[⟨true,0,1,false,[.rsl (Qk c.blocks) 0 c.blocks.length,.rsl (rowI c.cars) 0 c.cars.length,.rsl (Qo faults) 0 faults.length,.sl 1 g1 0 cars.length 4,.sl 2 g2 0 gos.length 1,.int .i64 (tick+1),.int .i64 tick,.bool (decide ((QH c (Vy c faults cars gos tick wrecked rounds gone)).2≥0)),.int .i64 rounds,.int .i64 gone],false⟩,⟨true,g1,4,true,(Qi cars),true⟩,⟨true,g2,1,true,(rowB gos),true⟩]=bs2):G Try.prog E (WV Try.prog) ⟨(qc l),(WZ c faults g1 cars g2 gos tick stopped wrecked rounds gone)⟩ :=
 YR (n:=400) (ρ:=[3,0,1,2]) (bsD:=[⟨true,0,1,false,[.ptr 1 0 0],false⟩,⟨true,0,1,false,[.rsl (Qk c.blocks) 0 c.blocks.length,.rsl (rowI c.cars) 0 c.cars.length,.rsl (Qo faults) 0 faults.length,.sl 2 g1 0 cars.length 4,.sl 3 g2 0 gos.length 1,.int .i64 (tick+1),.int .i64 tick,.bool (decide ((QH c (Vy c faults cars gos tick wrecked rounds gone)).2≥0)),.int .i64 rounds,.int .i64 gone],false⟩,⟨true,g1,4,true,(Qi cars),true⟩,⟨true,g2,1,true,(rowB gos),true⟩]) (live:=[]) (m:=3) (evs:=[.b false,.b false,.vn (.agg (VZ c faults cars gos tick stopped wrecked rounds gone)),.b true,.v (.bool (([([]:List Said),((Xg c faults cars gos tick stopped wrecked rounds gone).k1),((Xg c faults cars gos tick stopped wrecked rounds gone).k2),((Xg c faults cars gos tick stopped wrecked rounds gone).k3)]).any (fun l=>l.any QJ))),.b true,.b false,.vn (.rsl (Qb (Vy c faults cars gos tick wrecked rounds gone)) 0 ((Vy c faults cars gos tick wrecked rounds gone).length)),.v (z45_30 c faults cars gos tick wrecked rounds gone)]) (obs:=_) hE (by kernel_rfl) Try.func45 Ql (by kernel_rfl) ho hr hb
theorem p45_df_9 (l:(List Prs)) (c:Cir) (faults:List Flt) (cars:List Car) (gos:List Bool) (tick stopped:Int) (wrecked:Bool) (rounds gone:Int) (g1 g2:Nat) {E:Env} {rv:AV} {bs2:List Blk} (hE:LentDE Try.prog 45 [.sl 2 g2 0 0 1] (.clos 70 [] [.ptr 3 0 0]) rv bs2 E) (ho:AllP [wrecked=false,(decide (tick > 0))=false,Vx Try.prog (.clos 72 [] []) (yl c faults cars gos tick stopped wrecked rounds gone) (.agg (VZ c faults cars gos tick stopped wrecked rounds gone)),g1=g1,g2=g2,4≤4,1≤1,(decide (stopped<0))=true,0≤4,4≤4,4≤4,Qd Try.prog (.clos 74 [] []) [.rsl (VZ c faults cars gos tick stopped wrecked rounds gone) 0 4,.clos 75 [] [.rptr [.clos 73 [] []] 0]] (.bool (([([]:List Said),((Xg c faults cars gos tick stopped wrecked rounds gone).k1),((Xg c faults cars gos tick stopped wrecked rounds gone).k2),((Xg c faults cars gos tick stopped wrecked rounds gone).k3)]).any (fun l=>l.any QJ))),(([([]:List Said),((Xg c faults cars gos tick stopped wrecked rounds gone).k1),((Xg c faults cars gos tick stopped wrecked rounds gone).k2),((Xg c faults cars gos tick stopped wrecked rounds gone).k3)]).any (fun l=>l.any QJ))=false,(decide (stopped<0))=true,0≤(c.blocks.length:Int)∧(c.blocks.length:Int)≤(c.blocks.length:Int)∧(c.blocks.length:Int)≤2147483648])
 (hg:G Try.prog E (yJ Try.prog) ⟨(KX c l),[⟨true,0,1,false,(z45_20 c faults g1 cars g2 gos tick stopped wrecked rounds gone),false⟩,⟨true,g1,4,true,(Qi cars),true⟩,⟨true,g2,1,true,(rowB gos),true⟩,⟨true,0,1,false,[.ptr 0 0 0],false⟩,⟨true,0,1,true,(VZ c faults cars gos tick stopped wrecked rounds gone),false⟩,⟨true,0,1,true,[.clos 73 [] []],false⟩,⟨true,0,1,true,((List.replicate (Int.toNat (c.blocks.length:Int)) ([.bool false]:List AV)).flatten),true⟩]⟩):G Try.prog E (WV Try.prog) ⟨(qc l),(WZ c faults g1 cars g2 gos tick stopped wrecked rounds gone)⟩ :=
 Qg (n:=400) (ds:=[]) (cs:=[]) (live:=[2,4,6,54,55,56]) (m:=7) (evs:=[.b false,.b false,.vn (.agg (VZ c faults cars gos tick stopped wrecked rounds gone)),.b true,.v (.bool (([([]:List Said),((Xg c faults cars gos tick stopped wrecked rounds gone).k1),((Xg c faults cars gos tick stopped wrecked rounds gone).k2),((Xg c faults cars gos tick stopped wrecked rounds gone).k3)]).any (fun l=>l.any QJ))),.b false,.b true,.stop]) (obs:=_) hE.kind (hE.nogh (by kernel_rfl)) Ql (by kernel_rfl) ho hg
theorem p45_df_10 (l:(List Prs)) (c:Cir) (faults:List Flt) (cars:List Car) (gos:List Bool) (tick stopped:Int) (wrecked:Bool) (rounds gone:Int) (g1 g2:Nat) {E:Env} {res:AV} {bs2:List Blk} (hE:LentDE Try.prog 45 [.sl 2 g2 0 0 1] (.clos 70 [] [.ptr 3 0 0]) res bs2 E) (ho:AllP [wrecked=false,(decide (tick > 0))=false,Vx Try.prog (.clos 72 [] []) (yl c faults cars gos tick stopped wrecked rounds gone) (.agg (VZ c faults cars gos tick stopped wrecked rounds gone)),g1=g1,g2=g2,4≤4,1≤1,(decide (stopped<0))=true,0≤4,4≤4,4≤4,Qd Try.prog (.clos 74 [] []) [.rsl (VZ c faults cars gos tick stopped wrecked rounds gone) 0 4,.clos 75 [] [.rptr [.clos 73 [] []] 0]] (.bool (([([]:List Said),((Xg c faults cars gos tick stopped wrecked rounds gone).k1),((Xg c faults cars gos tick stopped wrecked rounds gone).k2),((Xg c faults cars gos tick stopped wrecked rounds gone).k3)]).any (fun l=>l.any QJ))),(([([]:List Said),((Xg c faults cars gos tick stopped wrecked rounds gone).k1),((Xg c faults cars gos tick stopped wrecked rounds gone).k2),((Xg c faults cars gos tick stopped wrecked rounds gone).k3)]).any (fun l=>l.any QJ))=false,(decide (stopped<0))=false,Vx Try.prog (.clos 46 [] []) (yl c faults cars gos tick stopped wrecked rounds gone) (.rsl (Qb (XZ c faults cars gos tick stopped wrecked rounds gone)) 0 ((XZ c faults cars gos tick stopped wrecked rounds gone).length)),g1=g1,g2=g2,Qd Try.prog (.clos 60 [] []) [.agg (yV c),.rsl (Qb (XZ c faults cars gos tick stopped wrecked rounds gone)) 0 ((XZ c faults cars gos tick stopped wrecked rounds gone).length)] (z45_12 c faults cars gos tick stopped wrecked rounds gone),3≤3,8≤10,WE Try.prog (.clos 70 [] [.ptr 0 0 0]) [⟨true,0,1,false,[.ptr 1 0 0],false⟩,⟨true,0,1,false,[.rsl (Qk c.blocks) 0 c.blocks.length,.rsl (rowI c.cars) 0 c.cars.length,.rsl (Qo faults) 0 faults.length,.sl 2 g1 0 cars.length 4,.sl 3 g2 0 gos.length 1,.int .i64 tick,.int .i64 stopped,.bool (decide ((QH c (XZ c faults cars gos tick stopped wrecked rounds gone)).2≥0)),.int .i64 rounds,.int .i64 gone],false⟩,⟨true,g1,4,true,(Qi cars),true⟩,⟨true,g2,1,true,(rowB gos),true⟩] (.tup []) [⟨true,0,1,false,[.ptr 1 0 0],false⟩,⟨true,0,1,false,[.rsl (Qk c.blocks) 0 c.blocks.length,.rsl (rowI c.cars) 0 c.cars.length,.rsl (Qo faults) 0 faults.length,.sl 2 g1 0 cars.length 4,.sl 3 g2 0 gos.length 1,.int .i64 (tick+1),.int .i64 stopped,.bool (decide ((QH c (XZ c faults cars gos tick stopped wrecked rounds gone)).2≥0)),.int .i64 rounds,.int .i64 gone],false⟩,⟨true,g1,4,true,(Qi cars),true⟩,⟨true,g2,1,true,(rowB gos),true⟩]])
 (hr:(.tup [])=res) (hb:[⟨true,0,1,false,[.rsl (Qk c.blocks) 0 c.blocks.length,.rsl (rowI c.cars) 0 c.cars.length,.rsl (Qo faults) 0 faults.length,.sl 1 g1 0 cars.length 4,.sl 2 g2 0 gos.length 1,.int .i64 (tick+1),.int .i64 stopped,.bool (decide ((QH c (XZ c faults cars gos tick stopped wrecked rounds gone)).2≥0)),.int .i64 rounds,.int .i64 gone],false⟩,⟨true,g1,4,true,(Qi cars),true⟩,⟨true,g2,1,true,(rowB gos),true⟩]=bs2):G Try.prog E (WV Try.prog) ⟨(qc l),(WZ c faults g1 cars g2 gos tick stopped wrecked rounds gone)⟩ :=
 YR (n:=400) (ρ:=[3,0,1,2]) (bsD:=[⟨true,0,1,false,[.ptr 1 0 0],false⟩,⟨true,0,1,false,[.rsl (Qk c.blocks) 0 c.blocks.length,.rsl (rowI c.cars) 0 c.cars.length,.rsl (Qo faults) 0 faults.length,.sl 2 g1 0 cars.length 4,.sl 3 g2 0 gos.length 1,.int .i64 (tick+1),.int .i64 stopped,.bool (decide ((QH c (XZ c faults cars gos tick stopped wrecked rounds gone)).2≥0)),.int .i64 rounds,.int .i64 gone],false⟩,⟨true,g1,4,true,(Qi cars),true⟩,⟨true,g2,1,true,(rowB gos),true⟩]) (live:=[]) (m:=3) (evs:=[.b false,.b false,.vn (.agg (VZ c faults cars gos tick stopped wrecked rounds gone)),.b true,.v (.bool (([([]:List Said),((Xg c faults cars gos tick stopped wrecked rounds gone).k1),((Xg c faults cars gos tick stopped wrecked rounds gone).k2),((Xg c faults cars gos tick stopped wrecked rounds gone).k3)]).any (fun l=>l.any QJ))),.b false,.b false,.vn (.rsl (Qb (XZ c faults cars gos tick stopped wrecked rounds gone)) 0 ((XZ c faults cars gos tick stopped wrecked rounds gone).length)),.v (z45_12 c faults cars gos tick stopped wrecked rounds gone)]) (obs:=_) hE (by kernel_rfl) Try.func45 Ql (by kernel_rfl) ho hr hb
theorem p45_df_11 (l:(List Prs)) (c:Cir) (faults:List Flt) (cars:List Car) (gos:List Bool) (tick stopped:Int) (wrecked:Bool) (rounds gone:Int) (g1 g2:Nat) {E:Env} {rv:AV} {bs2:List Blk} (hE:LentDE Try.prog 45 [.sl 2 g2 0 0 1] (.clos 70 [] [.ptr 3 0 0]) rv bs2 E) (ho:AllP [wrecked=false,(decide (tick > 0))=false,Vx Try.prog (.clos 72 [] []) (yl c faults cars gos tick stopped wrecked rounds gone) (.agg (VZ c faults cars gos tick stopped wrecked rounds gone)),g1=g1,g2=g2,4≤4,1≤1,(decide (stopped<0))=false,false=false,(decide (stopped<0))=true,0≤(c.blocks.length:Int)∧(c.blocks.length:Int)≤(c.blocks.length:Int)∧(c.blocks.length:Int)≤2147483648])
 (hg:G Try.prog E (yJ Try.prog) ⟨(KX c l),[⟨true,0,1,false,(z45_20 c faults g1 cars g2 gos tick stopped wrecked rounds gone),false⟩,⟨true,g1,4,true,(Qi cars),true⟩,⟨true,g2,1,true,(rowB gos),true⟩,⟨true,0,1,false,[.ptr 0 0 0],false⟩,⟨true,0,1,true,(VZ c faults cars gos tick stopped wrecked rounds gone),false⟩,⟨true,0,1,true,[.clos 73 [] []],false⟩,⟨true,0,1,true,((List.replicate (Int.toNat (c.blocks.length:Int)) ([.bool false]:List AV)).flatten),true⟩]⟩):G Try.prog E (WV Try.prog) ⟨(qc l),(WZ c faults g1 cars g2 gos tick stopped wrecked rounds gone)⟩ :=
 Qg (n:=400) (ds:=[]) (cs:=[]) (live:=[2,4,6,54,55,56]) (m:=7) (evs:=[.b false,.b false,.vn (.agg (VZ c faults cars gos tick stopped wrecked rounds gone)),.b false,.b false,.b true,.stop]) (obs:=_) hE.kind (hE.nogh (by kernel_rfl)) Ql (by kernel_rfl) ho hg
theorem p45_df_12 (l:(List Prs)) (c:Cir) (faults:List Flt) (cars:List Car) (gos:List Bool) (tick stopped:Int) (wrecked:Bool) (rounds gone:Int) (g1 g2:Nat) {E:Env} {res:AV} {bs2:List Blk} (hE:LentDE Try.prog 45 [.sl 2 g2 0 0 1] (.clos 70 [] [.ptr 3 0 0]) res bs2 E) (ho:AllP [wrecked=false,(decide (tick > 0))=false,Vx Try.prog (.clos 72 [] []) (yl c faults cars gos tick stopped wrecked rounds gone) (.agg (VZ c faults cars gos tick stopped wrecked rounds gone)),g1=g1,g2=g2,4≤4,1≤1,(decide (stopped<0))=false,false=false,(decide (stopped<0))=false,Vx Try.prog (.clos 46 [] []) (yl c faults cars gos tick stopped wrecked rounds gone) (.rsl (Qb (XZ c faults cars gos tick stopped wrecked rounds gone)) 0 ((XZ c faults cars gos tick stopped wrecked rounds gone).length)),g1=g1,g2=g2,Qd Try.prog (.clos 60 [] []) [.agg (yV c),.rsl (Qb (XZ c faults cars gos tick stopped wrecked rounds gone)) 0 ((XZ c faults cars gos tick stopped wrecked rounds gone).length)] (z45_12 c faults cars gos tick stopped wrecked rounds gone),3≤3,8≤10,WE Try.prog (.clos 70 [] [.ptr 0 0 0]) [⟨true,0,1,false,[.ptr 1 0 0],false⟩,⟨true,0,1,false,[.rsl (Qk c.blocks) 0 c.blocks.length,.rsl (rowI c.cars) 0 c.cars.length,.rsl (Qo faults) 0 faults.length,.sl 2 g1 0 cars.length 4,.sl 3 g2 0 gos.length 1,.int .i64 tick,.int .i64 stopped,.bool (decide ((QH c (XZ c faults cars gos tick stopped wrecked rounds gone)).2≥0)),.int .i64 rounds,.int .i64 gone],false⟩,⟨true,g1,4,true,(Qi cars),true⟩,⟨true,g2,1,true,(rowB gos),true⟩] (.tup []) [⟨true,0,1,false,[.ptr 1 0 0],false⟩,⟨true,0,1,false,[.rsl (Qk c.blocks) 0 c.blocks.length,.rsl (rowI c.cars) 0 c.cars.length,.rsl (Qo faults) 0 faults.length,.sl 2 g1 0 cars.length 4,.sl 3 g2 0 gos.length 1,.int .i64 (tick+1),.int .i64 stopped,.bool (decide ((QH c (XZ c faults cars gos tick stopped wrecked rounds gone)).2≥0)),.int .i64 rounds,.int .i64 gone],false⟩,⟨true,g1,4,true,(Qi cars),true⟩,⟨true,g2,1,true,(rowB gos),true⟩]])
 (hr:(.tup [])=res) (hb:[⟨true,0,1,false,[.rsl (Qk c.blocks) 0 c.blocks.length,.rsl (rowI c.cars) 0 c.cars.length,.rsl (Qo faults) 0 faults.length,.sl 1 g1 0 cars.length 4,.sl 2 g2 0 gos.length 1,.int .i64 (tick+1),.int .i64 stopped,.bool (decide ((QH c (XZ c faults cars gos tick stopped wrecked rounds gone)).2≥0)),.int .i64 rounds,.int .i64 gone],false⟩,⟨true,g1,4,true,(Qi cars),true⟩,⟨true,g2,1,true,(rowB gos),true⟩]=bs2):G Try.prog E (WV Try.prog) ⟨(qc l),(WZ c faults g1 cars g2 gos tick stopped wrecked rounds gone)⟩ :=
 YR (n:=400) (ρ:=[3,0,1,2]) (bsD:=[⟨true,0,1,false,[.ptr 1 0 0],false⟩,⟨true,0,1,false,[.rsl (Qk c.blocks) 0 c.blocks.length,.rsl (rowI c.cars) 0 c.cars.length,.rsl (Qo faults) 0 faults.length,.sl 2 g1 0 cars.length 4,.sl 3 g2 0 gos.length 1,.int .i64 (tick+1),.int .i64 stopped,.bool (decide ((QH c (XZ c faults cars gos tick stopped wrecked rounds gone)).2≥0)),.int .i64 rounds,.int .i64 gone],false⟩,⟨true,g1,4,true,(Qi cars),true⟩,⟨true,g2,1,true,(rowB gos),true⟩]) (live:=[]) (m:=3) (evs:=[.b false,.b false,.vn (.agg (VZ c faults cars gos tick stopped wrecked rounds gone)),.b false,.b false,.b false,.vn (.rsl (Qb (XZ c faults cars gos tick stopped wrecked rounds gone)) 0 ((XZ c faults cars gos tick stopped wrecked rounds gone).length)),.v (z45_12 c faults cars gos tick stopped wrecked rounds gone)]) (obs:=_) hE (by kernel_rfl) Try.func45 Ql (by kernel_rfl) ho hr hb
theorem f45Wdf (l:(List Prs)) (c:Cir) (faults:List Flt) (cars:List Car) (gos:List Bool) (tick stopped:Int) (wrecked:Bool) (rounds gone:Int) (g1 g2:Nat) {E:Env} {rv:Unit} {tick2:Int} {stopped2:Int} {wrecked2:Bool} {rounds2:Int} {gone2:Int} {cars2:List Car} {gos2:List Bool} (hE:LentDE Try.prog 45 [.sl 2 g2 0 0 1] (.clos 70 [] [.ptr 3 0 0]) (.tup []) [⟨true,0,1,false,[.rsl (Qk c.blocks) 0 c.blocks.length,.rsl (rowI c.cars) 0 c.cars.length,.rsl (Qo faults) 0 faults.length,.sl 1 g1 0 cars2.length 4,.sl 2 g2 0 gos2.length 1,.int .i64 tick2,.int .i64 stopped2,.bool wrecked2,.int .i64 rounds2,.int .i64 gone2],false⟩,⟨true,g1,4,true,(Qi cars2),true⟩,⟨true,g2,1,true,(rowB gos2),true⟩] E)
 (h:((wrecked=true→((-1000000000000≤tick∧tick≤1000000000000)∧tick2=(tick+1)∧stopped2=stopped∧wrecked2=wrecked∧rounds2=rounds∧gone2=gone∧cars2=cars∧gos2=gos))∧(wrecked=false→((tick > 0→(((∀ x ∈ cars,CarOk c x)∧cars.length≤2147483648)∧((TrkIn (⟨c,faults,(cars.map (Qr c)),gos,tick,stopped,wrecked,rounds,gone⟩:Trk))∧((stopped<0→((([([]:List Said),((Qm (⟨c,faults,(cars.map (Qr c)),gos,tick,stopped,wrecked,rounds,gone⟩:Trk)).k1),((Qm (⟨c,faults,(cars.map (Qr c)),gos,tick,stopped,wrecked,rounds,gone⟩:Trk)).k2),((Qm (⟨c,faults,(cars.map (Qr c)),gos,tick,stopped,wrecked,rounds,gone⟩:Trk)).k3)]).length≤9223372036854775807∧∀ x ∈ ([([]:List Said),((Qm (⟨c,faults,(cars.map (Qr c)),gos,tick,stopped,wrecked,rounds,gone⟩:Trk)).k1),((Qm (⟨c,faults,(cars.map (Qr c)),gos,tick,stopped,wrecked,rounds,gone⟩:Trk)).k2),((Qm (⟨c,faults,(cars.map (Qr c)),gos,tick,stopped,wrecked,rounds,gone⟩:Trk)).k3)]),x.length≤9223372036854775807)∧(((([([]:List Said),((Qm (⟨c,faults,(cars.map (Qr c)),gos,tick,stopped,wrecked,rounds,gone⟩:Trk)).k1),((Qm (⟨c,faults,(cars.map (Qr c)),gos,tick,stopped,wrecked,rounds,gone⟩:Trk)).k2),((Qm (⟨c,faults,(cars.map (Qr c)),gos,tick,stopped,wrecked,rounds,gone⟩:Trk)).k3)]).any (fun l=>l.any QJ))=true→((tick<0→(c.blocks.length≤2147483648∧YY E l c faults cars gos tick stopped wrecked rounds gone g1 g2 (List.replicate c.blocks.length (false:Bool)) tick (cars.map (Qr c)) ((Qm (⟨c,faults,(cars.map (Qr c)),gos,tick,stopped,wrecked,rounds,gone⟩:Trk)).k1) ((Qm (⟨c,faults,(cars.map (Qr c)),gos,tick,stopped,wrecked,rounds,gone⟩:Trk)).k2) ((Qm (⟨c,faults,(cars.map (Qr c)),gos,tick,stopped,wrecked,rounds,gone⟩:Trk)).k3) 0 gos))∧(¬ (tick<0)→(((⟨c,faults,(cars.map (Qr c)),gos,tick,tick,wrecked,rounds,gone⟩:Trk).cars.length≤2147483648)∧(((∀ x ∈ ((⟨c,faults,(cars.map (Qr c)),gos,tick,tick,wrecked,rounds,gone⟩:Trk).cars.map Car.spot),InC c x.block)∧((⟨c,faults,(cars.map (Qr c)),gos,tick,tick,wrecked,rounds,gone⟩:Trk).cars.map Car.spot).length≤2147483648)∧((-1000000000000≤tick∧tick≤1000000000000)∧tick2=(tick+1)∧stopped2=tick∧wrecked2=(decide ((QH c ((⟨c,faults,(cars.map (Qr c)),gos,tick,tick,wrecked,rounds,gone⟩:Trk).cars.map Car.spot)).2≥0))∧rounds2=rounds∧gone2=gone∧cars2=(cars.map (Qr c))∧gos2=gos))))))∧((([([]:List Said),((Qm (⟨c,faults,(cars.map (Qr c)),gos,tick,stopped,wrecked,rounds,gone⟩:Trk)).k1),((Qm (⟨c,faults,(cars.map (Qr c)),gos,tick,stopped,wrecked,rounds,gone⟩:Trk)).k2),((Qm (⟨c,faults,(cars.map (Qr c)),gos,tick,stopped,wrecked,rounds,gone⟩:Trk)).k3)]).any (fun l=>l.any QJ))=false→((stopped<0→(c.blocks.length≤2147483648∧YY E l c faults cars gos tick stopped wrecked rounds gone g1 g2 (List.replicate c.blocks.length (false:Bool)) stopped (cars.map (Qr c)) ((Qm (⟨c,faults,(cars.map (Qr c)),gos,tick,stopped,wrecked,rounds,gone⟩:Trk)).k1) ((Qm (⟨c,faults,(cars.map (Qr c)),gos,tick,stopped,wrecked,rounds,gone⟩:Trk)).k2) ((Qm (⟨c,faults,(cars.map (Qr c)),gos,tick,stopped,wrecked,rounds,gone⟩:Trk)).k3) 0 gos))∧(¬ (stopped<0)→(((⟨c,faults,(cars.map (Qr c)),gos,tick,stopped,wrecked,rounds,gone⟩:Trk).cars.length≤2147483648)∧(((∀ x ∈ ((⟨c,faults,(cars.map (Qr c)),gos,tick,stopped,wrecked,rounds,gone⟩:Trk).cars.map Car.spot),InC c x.block)∧((⟨c,faults,(cars.map (Qr c)),gos,tick,stopped,wrecked,rounds,gone⟩:Trk).cars.map Car.spot).length≤2147483648)∧((-1000000000000≤tick∧tick≤1000000000000)∧tick2=(tick+1)∧stopped2=stopped∧wrecked2=(decide ((QH c ((⟨c,faults,(cars.map (Qr c)),gos,tick,stopped,wrecked,rounds,gone⟩:Trk).cars.map Car.spot)).2≥0))∧rounds2=rounds∧gone2=gone∧cars2=(cars.map (Qr c))∧gos2=gos)))))))))∧(¬ (stopped<0)→((stopped<0→(c.blocks.length≤2147483648∧YY E l c faults cars gos tick stopped wrecked rounds gone g1 g2 (List.replicate c.blocks.length (false:Bool)) stopped (cars.map (Qr c)) ((Qm (⟨c,faults,(cars.map (Qr c)),gos,tick,stopped,wrecked,rounds,gone⟩:Trk)).k1) ((Qm (⟨c,faults,(cars.map (Qr c)),gos,tick,stopped,wrecked,rounds,gone⟩:Trk)).k2) ((Qm (⟨c,faults,(cars.map (Qr c)),gos,tick,stopped,wrecked,rounds,gone⟩:Trk)).k3) 0 gos))∧(¬ (stopped<0)→(((⟨c,faults,(cars.map (Qr c)),gos,tick,stopped,wrecked,rounds,gone⟩:Trk).cars.length≤2147483648)∧(((∀ x ∈ ((⟨c,faults,(cars.map (Qr c)),gos,tick,stopped,wrecked,rounds,gone⟩:Trk).cars.map Car.spot),InC c x.block)∧((⟨c,faults,(cars.map (Qr c)),gos,tick,stopped,wrecked,rounds,gone⟩:Trk).cars.map Car.spot).length≤2147483648)∧((-1000000000000≤tick∧tick≤1000000000000)∧tick2=(tick+1)∧stopped2=stopped∧wrecked2=(decide ((QH c ((⟨c,faults,(cars.map (Qr c)),gos,tick,stopped,wrecked,rounds,gone⟩:Trk).cars.map Car.spot)).2≥0))∧rounds2=rounds∧gone2=gone∧cars2=(cars.map (Qr c))∧gos2=gos))))))))))∧(¬ (tick > 0)→((TrkIn (⟨c,faults,cars,gos,tick,stopped,wrecked,rounds,gone⟩:Trk))∧((stopped<0→((([([]:List Said),((Qm (⟨c,faults,cars,gos,tick,stopped,wrecked,rounds,gone⟩:Trk)).k1),((Qm (⟨c,faults,cars,gos,tick,stopped,wrecked,rounds,gone⟩:Trk)).k2),((Qm (⟨c,faults,cars,gos,tick,stopped,wrecked,rounds,gone⟩:Trk)).k3)]).length≤9223372036854775807∧∀ x ∈ ([([]:List Said),((Qm (⟨c,faults,cars,gos,tick,stopped,wrecked,rounds,gone⟩:Trk)).k1),((Qm (⟨c,faults,cars,gos,tick,stopped,wrecked,rounds,gone⟩:Trk)).k2),((Qm (⟨c,faults,cars,gos,tick,stopped,wrecked,rounds,gone⟩:Trk)).k3)]),x.length≤9223372036854775807)∧(((([([]:List Said),((Qm (⟨c,faults,cars,gos,tick,stopped,wrecked,rounds,gone⟩:Trk)).k1),((Qm (⟨c,faults,cars,gos,tick,stopped,wrecked,rounds,gone⟩:Trk)).k2),((Qm (⟨c,faults,cars,gos,tick,stopped,wrecked,rounds,gone⟩:Trk)).k3)]).any (fun l=>l.any QJ))=true→((tick<0→(c.blocks.length≤2147483648∧YY E l c faults cars gos tick stopped wrecked rounds gone g1 g2 (List.replicate c.blocks.length (false:Bool)) tick cars ((Qm (⟨c,faults,cars,gos,tick,stopped,wrecked,rounds,gone⟩:Trk)).k1) ((Qm (⟨c,faults,cars,gos,tick,stopped,wrecked,rounds,gone⟩:Trk)).k2) ((Qm (⟨c,faults,cars,gos,tick,stopped,wrecked,rounds,gone⟩:Trk)).k3) 0 gos))∧(¬ (tick<0)→(((⟨c,faults,cars,gos,tick,tick,wrecked,rounds,gone⟩:Trk).cars.length≤2147483648)∧(((∀ x ∈ ((⟨c,faults,cars,gos,tick,tick,wrecked,rounds,gone⟩:Trk).cars.map Car.spot),InC c x.block)∧((⟨c,faults,cars,gos,tick,tick,wrecked,rounds,gone⟩:Trk).cars.map Car.spot).length≤2147483648)∧((-1000000000000≤tick∧tick≤1000000000000)∧tick2=(tick+1)∧stopped2=tick∧wrecked2=(decide ((QH c ((⟨c,faults,cars,gos,tick,tick,wrecked,rounds,gone⟩:Trk).cars.map Car.spot)).2≥0))∧rounds2=rounds∧gone2=gone∧cars2=cars∧gos2=gos))))))∧((([([]:List Said),((Qm (⟨c,faults,cars,gos,tick,stopped,wrecked,rounds,gone⟩:Trk)).k1),((Qm (⟨c,faults,cars,gos,tick,stopped,wrecked,rounds,gone⟩:Trk)).k2),((Qm (⟨c,faults,cars,gos,tick,stopped,wrecked,rounds,gone⟩:Trk)).k3)]).any (fun l=>l.any QJ))=false→((stopped<0→(c.blocks.length≤2147483648∧YY E l c faults cars gos tick stopped wrecked rounds gone g1 g2 (List.replicate c.blocks.length (false:Bool)) stopped cars ((Qm (⟨c,faults,cars,gos,tick,stopped,wrecked,rounds,gone⟩:Trk)).k1) ((Qm (⟨c,faults,cars,gos,tick,stopped,wrecked,rounds,gone⟩:Trk)).k2) ((Qm (⟨c,faults,cars,gos,tick,stopped,wrecked,rounds,gone⟩:Trk)).k3) 0 gos))∧(¬ (stopped<0)→(((⟨c,faults,cars,gos,tick,stopped,wrecked,rounds,gone⟩:Trk).cars.length≤2147483648)∧(((∀ x ∈ ((⟨c,faults,cars,gos,tick,stopped,wrecked,rounds,gone⟩:Trk).cars.map Car.spot),InC c x.block)∧((⟨c,faults,cars,gos,tick,stopped,wrecked,rounds,gone⟩:Trk).cars.map Car.spot).length≤2147483648)∧((-1000000000000≤tick∧tick≤1000000000000)∧tick2=(tick+1)∧stopped2=stopped∧wrecked2=(decide ((QH c ((⟨c,faults,cars,gos,tick,stopped,wrecked,rounds,gone⟩:Trk).cars.map Car.spot)).2≥0))∧rounds2=rounds∧gone2=gone∧cars2=cars∧gos2=gos)))))))))∧(¬ (stopped<0)→((stopped<0→(c.blocks.length≤2147483648∧YY E l c faults cars gos tick stopped wrecked rounds gone g1 g2 (List.replicate c.blocks.length (false:Bool)) stopped cars ((Qm (⟨c,faults,cars,gos,tick,stopped,wrecked,rounds,gone⟩:Trk)).k1) ((Qm (⟨c,faults,cars,gos,tick,stopped,wrecked,rounds,gone⟩:Trk)).k2) ((Qm (⟨c,faults,cars,gos,tick,stopped,wrecked,rounds,gone⟩:Trk)).k3) 0 gos))∧(¬ (stopped<0)→(((⟨c,faults,cars,gos,tick,stopped,wrecked,rounds,gone⟩:Trk).cars.length≤2147483648)∧(((∀ x ∈ ((⟨c,faults,cars,gos,tick,stopped,wrecked,rounds,gone⟩:Trk).cars.map Car.spot),InC c x.block)∧((⟨c,faults,cars,gos,tick,stopped,wrecked,rounds,gone⟩:Trk).cars.map Car.spot).length≤2147483648)∧((-1000000000000≤tick∧tick≤1000000000000)∧tick2=(tick+1)∧stopped2=stopped∧wrecked2=(decide ((QH c ((⟨c,faults,cars,gos,tick,stopped,wrecked,rounds,gone⟩:Trk).cars.map Car.spot)).2≥0))∧rounds2=rounds∧gone2=gone∧cars2=cars∧gos2=gos))))))))))))):G Try.prog E (WV Try.prog) ⟨[.ptr 0 0 0,.rsl (QV l) 0 l.length,.ptr 3 0 0,.tup [],.tup [],.tup [],.tup [],.tup [],.tup [],.tup [],.tup [],.clos 70 [] [.ptr 3 0 0],.tup [],.tup [],.tup [],.tup [],.tup [],.tup [],.tup [],.tup [],.tup [],.tup [],.tup [],.tup [],.tup [],.tup [],.tup [],.tup [],.tup [],.tup [],.tup [],.tup [],.tup [],.tup [],.tup [],.tup [],.tup [],.tup [],.tup [],.tup [],.tup [],.tup [],.tup [],.tup [],.tup [],.tup [],.tup [],.tup [],.tup [],.tup [],.tup [],.tup [],.tup [],.tup [],.tup [],.tup [],.tup [],.tup [],.tup [],.tup [],.tup [],.tup [],.tup [],.tup [],.tup [],.tup [],.tup [],.tup [],.tup [],.tup [],.tup [],.tup [],.tup [],.tup [],.tup [],.tup [],.tup [],.tup [],.tup [],.tup [],.tup [],.tup [],.tup [],.tup [],.tup [],.tup [],.tup [],.tup [],.tup [],.tup [],.tup [],.tup []],[⟨true,0,1,false,[.rsl (Qk c.blocks) 0 c.blocks.length,.rsl (rowI c.cars) 0 c.cars.length,.rsl (Qo faults) 0 faults.length,.sl 1 g1 0 cars.length 4,.sl 2 g2 0 gos.length 1,.int .i64 tick,.int .i64 stopped,.bool wrecked,.int .i64 rounds,.int .i64 gone],false⟩,⟨true,g1,4,true,(Qi cars),true⟩,⟨true,g2,1,true,(rowB gos),true⟩,⟨true,0,1,false,[.ptr 0 0 0],false⟩]⟩:=by
 rcases bft wrecked with hc0 | hc0
 · have h:=h.1 hc0
   obtain ⟨h1,h⟩:=h
   obtain ⟨qe0,qe1,qe2,qe3,qe4,qe5,qe6⟩:=h
   exact p45_df_0 l c faults cars gos tick stopped wrecked rounds gone g1 g2 hE ⟨hc0,(VH c faults cars gos tick stopped wrecked rounds gone g1 g2 h1),trivial⟩ (by try rfl) (by rw [qe0,qe1,qe2,qe3,qe4,qe5,qe6]; all_goals (first | rfl | (simp only [List.length_set]; done) | (simp only [List.length_set]; rfl)))
 · have h:=h.2 hc0
   rcases bft (decide (tick > 0)) with hc1 | hc1
   · have h:=h.1 (odt hc1)
     obtain ⟨h1,h⟩:=h
     obtain ⟨h2,h⟩:=h
     rcases bft (decide (stopped<0)) with hc2 | hc2
     · have h:=h.1 (odt hc2)
       obtain ⟨h3,h⟩:=h
       rcases bft (([([]:List Said),((Qm (⟨c,faults,(cars.map (Qr c)),gos,tick,stopped,wrecked,rounds,gone⟩:Trk)).k1),((Qm (⟨c,faults,(cars.map (Qr c)),gos,tick,stopped,wrecked,rounds,gone⟩:Trk)).k2),((Qm (⟨c,faults,(cars.map (Qr c)),gos,tick,stopped,wrecked,rounds,gone⟩:Trk)).k3)]).any (fun l=>l.any QJ)) with hc3 | hc3
       · have h:=h.1 hc3
         rcases bft (decide (tick<0)) with hc4 | hc4
         · have h:=h.1 (odt hc4)
           obtain ⟨h4,h⟩:=h
           refine p45_df_1 l c faults cars gos tick stopped wrecked rounds gone g1 g2 hE ⟨hc0,hc1,(Yj Try.func71 (by kernel_rfl) f71b (qR c faults cars gos tick stopped wrecked rounds gone g1 g2 h1)),(Xj Try.func72 (by kernel_rfl) f72b (YV (⟨c,faults,(cars.map (Qr c)),gos,tick,stopped,wrecked,rounds,gone⟩:Trk) h2)),rfl,rfl,(by decide),(by decide),hc2,(by decide),(by decide),(by decide),(Qd.le (args:=[.rsl ((Xc Qe) ([([]:List Said),((Qm (⟨c,faults,(cars.map (Qr c)),gos,tick,stopped,wrecked,rounds,gone⟩:Trk)).k1),((Qm (⟨c,faults,(cars.map (Qr c)),gos,tick,stopped,wrecked,rounds,gone⟩:Trk)).k2),((Qm (⟨c,faults,(cars.map (Qr c)),gos,tick,stopped,wrecked,rounds,gone⟩:Trk)).k3)])) 0 (([([]:List Said),((Qm (⟨c,faults,(cars.map (Qr c)),gos,tick,stopped,wrecked,rounds,gone⟩:Trk)).k1),((Qm (⟨c,faults,(cars.map (Qr c)),gos,tick,stopped,wrecked,rounds,gone⟩:Trk)).k2),((Qm (⟨c,faults,(cars.map (Qr c)),gos,tick,stopped,wrecked,rounds,gone⟩:Trk)).k3)]).length),.clos 75 [] [.rptr [.clos 73 [] []] 0]]) (u74 (VK ([([]:List Said),((Qm (⟨c,faults,(cars.map (Qr c)),gos,tick,stopped,wrecked,rounds,gone⟩:Trk)).k1),((Qm (⟨c,faults,(cars.map (Qr c)),gos,tick,stopped,wrecked,rounds,gone⟩:Trk)).k2),((Qm (⟨c,faults,(cars.map (Qr c)),gos,tick,stopped,wrecked,rounds,gone⟩:Trk)).k3)]) h3)) ⟨(Wx ⟨Xr,rfl,rfl,⟨AvLe.of_eq rfl,rfl,rfl,⟨AvLe.of_eq rfl,rfl,rfl,⟨AvLe.of_eq rfl,rfl,rfl,trivial⟩⟩⟩⟩),⟨AvLe.of_eq rfl,trivial⟩⟩),hc3,(by decide),hc4,⟨by omega,by omega,by have:=h4; omega⟩,trivial⟩ ?_
           have h:=(h 0)
           simp only [YY,Ky,List.length_set,List.length_replicate] at h
           rw [(show (List.replicate (Int.toNat (c.blocks.length:Int)) ([.bool false]:List AV)).flatten=rowB (List.replicate c.blocks.length (false:Bool)) from Wy cB _ _)]
           exact h
         · have h:=h.2 (odf hc4)
           obtain ⟨h4,h⟩:=h
           obtain ⟨h5,h⟩:=h
           obtain ⟨h6,h⟩:=h
           obtain ⟨qe0,qe1,qe2,qe3,qe4,qe5,qe6⟩:=h
           exact p45_df_2 l c faults cars gos tick stopped wrecked rounds gone g1 g2 hE ⟨hc0,hc1,(Yj Try.func71 (by kernel_rfl) f71b (qR c faults cars gos tick stopped wrecked rounds gone g1 g2 h1)),(Xj Try.func72 (by kernel_rfl) f72b (YV (⟨c,faults,(cars.map (Qr c)),gos,tick,stopped,wrecked,rounds,gone⟩:Trk) h2)),rfl,rfl,(by decide),(by decide),hc2,(by decide),(by decide),(by decide),(Qd.le (args:=[.rsl ((Xc Qe) ([([]:List Said),((Qm (⟨c,faults,(cars.map (Qr c)),gos,tick,stopped,wrecked,rounds,gone⟩:Trk)).k1),((Qm (⟨c,faults,(cars.map (Qr c)),gos,tick,stopped,wrecked,rounds,gone⟩:Trk)).k2),((Qm (⟨c,faults,(cars.map (Qr c)),gos,tick,stopped,wrecked,rounds,gone⟩:Trk)).k3)])) 0 (([([]:List Said),((Qm (⟨c,faults,(cars.map (Qr c)),gos,tick,stopped,wrecked,rounds,gone⟩:Trk)).k1),((Qm (⟨c,faults,(cars.map (Qr c)),gos,tick,stopped,wrecked,rounds,gone⟩:Trk)).k2),((Qm (⟨c,faults,(cars.map (Qr c)),gos,tick,stopped,wrecked,rounds,gone⟩:Trk)).k3)]).length),.clos 75 [] [.rptr [.clos 73 [] []] 0]]) (u74 (VK ([([]:List Said),((Qm (⟨c,faults,(cars.map (Qr c)),gos,tick,stopped,wrecked,rounds,gone⟩:Trk)).k1),((Qm (⟨c,faults,(cars.map (Qr c)),gos,tick,stopped,wrecked,rounds,gone⟩:Trk)).k2),((Qm (⟨c,faults,(cars.map (Qr c)),gos,tick,stopped,wrecked,rounds,gone⟩:Trk)).k3)]) h3)) ⟨(Wx ⟨Xr,rfl,rfl,⟨AvLe.of_eq rfl,rfl,rfl,⟨AvLe.of_eq rfl,rfl,rfl,⟨AvLe.of_eq rfl,rfl,rfl,trivial⟩⟩⟩⟩),⟨AvLe.of_eq rfl,trivial⟩⟩),hc3,(by decide),hc4,(Xj Try.func46 (by kernel_rfl) f46b (ym (⟨c,faults,(cars.map (Qr c)),gos,tick,tick,wrecked,rounds,gone⟩:Trk) h4)),rfl,rfl,(u60 (Wl c ((⟨c,faults,(cars.map (Qr c)),gos,tick,tick,wrecked,rounds,gone⟩:Trk).cars.map Car.spot) h5)),(by decide),(by decide),(VH c faults (cars.map (Qr c)) gos tick tick (decide ((QH c ((⟨c,faults,(cars.map (Qr c)),gos,tick,tick,wrecked,rounds,gone⟩:Trk).cars.map Car.spot)).2≥0)) rounds gone g1 g2 h6),trivial⟩ (by try rfl) (by rw [qe0,qe1,qe2,qe3,qe4,qe5,qe6]; all_goals (first | rfl | (simp only [List.length_set]; done) | (simp only [List.length_set]; rfl)))
       · have h:=h.2 hc3
         rcases bft (decide (stopped<0)) with hc4 | hc4
         · have h:=h.1 (odt hc4)
           obtain ⟨h4,h⟩:=h
           refine p45_df_3 l c faults cars gos tick stopped wrecked rounds gone g1 g2 hE ⟨hc0,hc1,(Yj Try.func71 (by kernel_rfl) f71b (qR c faults cars gos tick stopped wrecked rounds gone g1 g2 h1)),(Xj Try.func72 (by kernel_rfl) f72b (YV (⟨c,faults,(cars.map (Qr c)),gos,tick,stopped,wrecked,rounds,gone⟩:Trk) h2)),rfl,rfl,(by decide),(by decide),hc2,(by decide),(by decide),(by decide),(Qd.le (args:=[.rsl ((Xc Qe) ([([]:List Said),((Qm (⟨c,faults,(cars.map (Qr c)),gos,tick,stopped,wrecked,rounds,gone⟩:Trk)).k1),((Qm (⟨c,faults,(cars.map (Qr c)),gos,tick,stopped,wrecked,rounds,gone⟩:Trk)).k2),((Qm (⟨c,faults,(cars.map (Qr c)),gos,tick,stopped,wrecked,rounds,gone⟩:Trk)).k3)])) 0 (([([]:List Said),((Qm (⟨c,faults,(cars.map (Qr c)),gos,tick,stopped,wrecked,rounds,gone⟩:Trk)).k1),((Qm (⟨c,faults,(cars.map (Qr c)),gos,tick,stopped,wrecked,rounds,gone⟩:Trk)).k2),((Qm (⟨c,faults,(cars.map (Qr c)),gos,tick,stopped,wrecked,rounds,gone⟩:Trk)).k3)]).length),.clos 75 [] [.rptr [.clos 73 [] []] 0]]) (u74 (VK ([([]:List Said),((Qm (⟨c,faults,(cars.map (Qr c)),gos,tick,stopped,wrecked,rounds,gone⟩:Trk)).k1),((Qm (⟨c,faults,(cars.map (Qr c)),gos,tick,stopped,wrecked,rounds,gone⟩:Trk)).k2),((Qm (⟨c,faults,(cars.map (Qr c)),gos,tick,stopped,wrecked,rounds,gone⟩:Trk)).k3)]) h3)) ⟨(Wx ⟨Xr,rfl,rfl,⟨AvLe.of_eq rfl,rfl,rfl,⟨AvLe.of_eq rfl,rfl,rfl,⟨AvLe.of_eq rfl,rfl,rfl,trivial⟩⟩⟩⟩),⟨AvLe.of_eq rfl,trivial⟩⟩),hc3,hc4,⟨by omega,by omega,by have:=h4; omega⟩,trivial⟩ ?_
           have h:=(h 0)
           simp only [YY,Ky,List.length_set,List.length_replicate] at h
           rw [(show (List.replicate (Int.toNat (c.blocks.length:Int)) ([.bool false]:List AV)).flatten=rowB (List.replicate c.blocks.length (false:Bool)) from Wy cB _ _)]
           exact h
         · have h:=h.2 (odf hc4)
           obtain ⟨h4,h⟩:=h
           obtain ⟨h5,h⟩:=h
           obtain ⟨h6,h⟩:=h
           obtain ⟨qe0,qe1,qe2,qe3,qe4,qe5,qe6⟩:=h
           exact p45_df_4 l c faults cars gos tick stopped wrecked rounds gone g1 g2 hE ⟨hc0,hc1,(Yj Try.func71 (by kernel_rfl) f71b (qR c faults cars gos tick stopped wrecked rounds gone g1 g2 h1)),(Xj Try.func72 (by kernel_rfl) f72b (YV (⟨c,faults,(cars.map (Qr c)),gos,tick,stopped,wrecked,rounds,gone⟩:Trk) h2)),rfl,rfl,(by decide),(by decide),hc2,(by decide),(by decide),(by decide),(Qd.le (args:=[.rsl ((Xc Qe) ([([]:List Said),((Qm (⟨c,faults,(cars.map (Qr c)),gos,tick,stopped,wrecked,rounds,gone⟩:Trk)).k1),((Qm (⟨c,faults,(cars.map (Qr c)),gos,tick,stopped,wrecked,rounds,gone⟩:Trk)).k2),((Qm (⟨c,faults,(cars.map (Qr c)),gos,tick,stopped,wrecked,rounds,gone⟩:Trk)).k3)])) 0 (([([]:List Said),((Qm (⟨c,faults,(cars.map (Qr c)),gos,tick,stopped,wrecked,rounds,gone⟩:Trk)).k1),((Qm (⟨c,faults,(cars.map (Qr c)),gos,tick,stopped,wrecked,rounds,gone⟩:Trk)).k2),((Qm (⟨c,faults,(cars.map (Qr c)),gos,tick,stopped,wrecked,rounds,gone⟩:Trk)).k3)]).length),.clos 75 [] [.rptr [.clos 73 [] []] 0]]) (u74 (VK ([([]:List Said),((Qm (⟨c,faults,(cars.map (Qr c)),gos,tick,stopped,wrecked,rounds,gone⟩:Trk)).k1),((Qm (⟨c,faults,(cars.map (Qr c)),gos,tick,stopped,wrecked,rounds,gone⟩:Trk)).k2),((Qm (⟨c,faults,(cars.map (Qr c)),gos,tick,stopped,wrecked,rounds,gone⟩:Trk)).k3)]) h3)) ⟨(Wx ⟨Xr,rfl,rfl,⟨AvLe.of_eq rfl,rfl,rfl,⟨AvLe.of_eq rfl,rfl,rfl,⟨AvLe.of_eq rfl,rfl,rfl,trivial⟩⟩⟩⟩),⟨AvLe.of_eq rfl,trivial⟩⟩),hc3,hc4,(Xj Try.func46 (by kernel_rfl) f46b (ym (⟨c,faults,(cars.map (Qr c)),gos,tick,stopped,wrecked,rounds,gone⟩:Trk) h4)),rfl,rfl,(u60 (Wl c ((⟨c,faults,(cars.map (Qr c)),gos,tick,stopped,wrecked,rounds,gone⟩:Trk).cars.map Car.spot) h5)),(by decide),(by decide),(VH c faults (cars.map (Qr c)) gos tick stopped (decide ((QH c ((⟨c,faults,(cars.map (Qr c)),gos,tick,stopped,wrecked,rounds,gone⟩:Trk).cars.map Car.spot)).2≥0)) rounds gone g1 g2 h6),trivial⟩ (by try rfl) (by rw [qe0,qe1,qe2,qe3,qe4,qe5,qe6]; all_goals (first | rfl | (simp only [List.length_set]; done) | (simp only [List.length_set]; rfl)))
     · have h:=h.2 (odf hc2)
       rcases bft (decide (stopped<0)) with hc3 | hc3
       · have h:=h.1 (odt hc3)
         obtain ⟨h3,h⟩:=h
         refine p45_df_5 l c faults cars gos tick stopped wrecked rounds gone g1 g2 hE ⟨hc0,hc1,(Yj Try.func71 (by kernel_rfl) f71b (qR c faults cars gos tick stopped wrecked rounds gone g1 g2 h1)),(Xj Try.func72 (by kernel_rfl) f72b (YV (⟨c,faults,(cars.map (Qr c)),gos,tick,stopped,wrecked,rounds,gone⟩:Trk) h2)),rfl,rfl,(by decide),(by decide),hc2,rfl,hc3,⟨by omega,by omega,by have:=h3; omega⟩,trivial⟩ ?_
         have h:=(h 0)
         simp only [YY,Ky,List.length_set,List.length_replicate] at h
         rw [(show (List.replicate (Int.toNat (c.blocks.length:Int)) ([.bool false]:List AV)).flatten=rowB (List.replicate c.blocks.length (false:Bool)) from Wy cB _ _)]
         exact h
       · have h:=h.2 (odf hc3)
         obtain ⟨h3,h⟩:=h
         obtain ⟨h4,h⟩:=h
         obtain ⟨h5,h⟩:=h
         obtain ⟨qe0,qe1,qe2,qe3,qe4,qe5,qe6⟩:=h
         exact p45_df_6 l c faults cars gos tick stopped wrecked rounds gone g1 g2 hE ⟨hc0,hc1,(Yj Try.func71 (by kernel_rfl) f71b (qR c faults cars gos tick stopped wrecked rounds gone g1 g2 h1)),(Xj Try.func72 (by kernel_rfl) f72b (YV (⟨c,faults,(cars.map (Qr c)),gos,tick,stopped,wrecked,rounds,gone⟩:Trk) h2)),rfl,rfl,(by decide),(by decide),hc2,rfl,hc3,(Xj Try.func46 (by kernel_rfl) f46b (ym (⟨c,faults,(cars.map (Qr c)),gos,tick,stopped,wrecked,rounds,gone⟩:Trk) h3)),rfl,rfl,(u60 (Wl c ((⟨c,faults,(cars.map (Qr c)),gos,tick,stopped,wrecked,rounds,gone⟩:Trk).cars.map Car.spot) h4)),(by decide),(by decide),(VH c faults (cars.map (Qr c)) gos tick stopped (decide ((QH c ((⟨c,faults,(cars.map (Qr c)),gos,tick,stopped,wrecked,rounds,gone⟩:Trk).cars.map Car.spot)).2≥0)) rounds gone g1 g2 h5),trivial⟩ (by try rfl) (by rw [qe0,qe1,qe2,qe3,qe4,qe5,qe6]; all_goals (first | rfl | (simp only [List.length_set]; done) | (simp only [List.length_set]; rfl)))
   · have h:=h.2 (odf hc1)
     obtain ⟨h1,h⟩:=h
     rcases bft (decide (stopped<0)) with hc2 | hc2
     · have h:=h.1 (odt hc2)
       obtain ⟨h2,h⟩:=h
       rcases bft (([([]:List Said),((Qm (⟨c,faults,cars,gos,tick,stopped,wrecked,rounds,gone⟩:Trk)).k1),((Qm (⟨c,faults,cars,gos,tick,stopped,wrecked,rounds,gone⟩:Trk)).k2),((Qm (⟨c,faults,cars,gos,tick,stopped,wrecked,rounds,gone⟩:Trk)).k3)]).any (fun l=>l.any QJ)) with hc3 | hc3
       · have h:=h.1 hc3
         rcases bft (decide (tick<0)) with hc4 | hc4
         · have h:=h.1 (odt hc4)
           obtain ⟨h3,h⟩:=h
           refine p45_df_7 l c faults cars gos tick stopped wrecked rounds gone g1 g2 hE ⟨hc0,hc1,(Xj Try.func72 (by kernel_rfl) f72b (YV (⟨c,faults,cars,gos,tick,stopped,wrecked,rounds,gone⟩:Trk) h1)),rfl,rfl,(by decide),(by decide),hc2,(by decide),(by decide),(by decide),(Qd.le (args:=[.rsl ((Xc Qe) ([([]:List Said),((Qm (⟨c,faults,cars,gos,tick,stopped,wrecked,rounds,gone⟩:Trk)).k1),((Qm (⟨c,faults,cars,gos,tick,stopped,wrecked,rounds,gone⟩:Trk)).k2),((Qm (⟨c,faults,cars,gos,tick,stopped,wrecked,rounds,gone⟩:Trk)).k3)])) 0 (([([]:List Said),((Qm (⟨c,faults,cars,gos,tick,stopped,wrecked,rounds,gone⟩:Trk)).k1),((Qm (⟨c,faults,cars,gos,tick,stopped,wrecked,rounds,gone⟩:Trk)).k2),((Qm (⟨c,faults,cars,gos,tick,stopped,wrecked,rounds,gone⟩:Trk)).k3)]).length),.clos 75 [] [.rptr [.clos 73 [] []] 0]]) (u74 (VK ([([]:List Said),((Qm (⟨c,faults,cars,gos,tick,stopped,wrecked,rounds,gone⟩:Trk)).k1),((Qm (⟨c,faults,cars,gos,tick,stopped,wrecked,rounds,gone⟩:Trk)).k2),((Qm (⟨c,faults,cars,gos,tick,stopped,wrecked,rounds,gone⟩:Trk)).k3)]) h2)) ⟨(Wx ⟨Xr,rfl,rfl,⟨AvLe.of_eq rfl,rfl,rfl,⟨AvLe.of_eq rfl,rfl,rfl,⟨AvLe.of_eq rfl,rfl,rfl,trivial⟩⟩⟩⟩),⟨AvLe.of_eq rfl,trivial⟩⟩),hc3,(by decide),hc4,⟨by omega,by omega,by have:=h3; omega⟩,trivial⟩ ?_
           have h:=(h 0)
           simp only [YY,Ky,List.length_set,List.length_replicate] at h
           rw [(show (List.replicate (Int.toNat (c.blocks.length:Int)) ([.bool false]:List AV)).flatten=rowB (List.replicate c.blocks.length (false:Bool)) from Wy cB _ _)]
           exact h
         · have h:=h.2 (odf hc4)
           obtain ⟨h3,h⟩:=h
           obtain ⟨h4,h⟩:=h
           obtain ⟨h5,h⟩:=h
           obtain ⟨qe0,qe1,qe2,qe3,qe4,qe5,qe6⟩:=h
           exact p45_df_8 l c faults cars gos tick stopped wrecked rounds gone g1 g2 hE ⟨hc0,hc1,(Xj Try.func72 (by kernel_rfl) f72b (YV (⟨c,faults,cars,gos,tick,stopped,wrecked,rounds,gone⟩:Trk) h1)),rfl,rfl,(by decide),(by decide),hc2,(by decide),(by decide),(by decide),(Qd.le (args:=[.rsl ((Xc Qe) ([([]:List Said),((Qm (⟨c,faults,cars,gos,tick,stopped,wrecked,rounds,gone⟩:Trk)).k1),((Qm (⟨c,faults,cars,gos,tick,stopped,wrecked,rounds,gone⟩:Trk)).k2),((Qm (⟨c,faults,cars,gos,tick,stopped,wrecked,rounds,gone⟩:Trk)).k3)])) 0 (([([]:List Said),((Qm (⟨c,faults,cars,gos,tick,stopped,wrecked,rounds,gone⟩:Trk)).k1),((Qm (⟨c,faults,cars,gos,tick,stopped,wrecked,rounds,gone⟩:Trk)).k2),((Qm (⟨c,faults,cars,gos,tick,stopped,wrecked,rounds,gone⟩:Trk)).k3)]).length),.clos 75 [] [.rptr [.clos 73 [] []] 0]]) (u74 (VK ([([]:List Said),((Qm (⟨c,faults,cars,gos,tick,stopped,wrecked,rounds,gone⟩:Trk)).k1),((Qm (⟨c,faults,cars,gos,tick,stopped,wrecked,rounds,gone⟩:Trk)).k2),((Qm (⟨c,faults,cars,gos,tick,stopped,wrecked,rounds,gone⟩:Trk)).k3)]) h2)) ⟨(Wx ⟨Xr,rfl,rfl,⟨AvLe.of_eq rfl,rfl,rfl,⟨AvLe.of_eq rfl,rfl,rfl,⟨AvLe.of_eq rfl,rfl,rfl,trivial⟩⟩⟩⟩),⟨AvLe.of_eq rfl,trivial⟩⟩),hc3,(by decide),hc4,(Xj Try.func46 (by kernel_rfl) f46b (ym (⟨c,faults,cars,gos,tick,tick,wrecked,rounds,gone⟩:Trk) h3)),rfl,rfl,(u60 (Wl c ((⟨c,faults,cars,gos,tick,tick,wrecked,rounds,gone⟩:Trk).cars.map Car.spot) h4)),(by decide),(by decide),(VH c faults cars gos tick tick (decide ((QH c ((⟨c,faults,cars,gos,tick,tick,wrecked,rounds,gone⟩:Trk).cars.map Car.spot)).2≥0)) rounds gone g1 g2 h5),trivial⟩ (by try rfl) (by rw [qe0,qe1,qe2,qe3,qe4,qe5,qe6]; all_goals (first | rfl | (simp only [List.length_set]; done) | (simp only [List.length_set]; rfl)))
       · have h:=h.2 hc3
         rcases bft (decide (stopped<0)) with hc4 | hc4
         · have h:=h.1 (odt hc4)
           obtain ⟨h3,h⟩:=h
           refine p45_df_9 l c faults cars gos tick stopped wrecked rounds gone g1 g2 hE ⟨hc0,hc1,(Xj Try.func72 (by kernel_rfl) f72b (YV (⟨c,faults,cars,gos,tick,stopped,wrecked,rounds,gone⟩:Trk) h1)),rfl,rfl,(by decide),(by decide),hc2,(by decide),(by decide),(by decide),(Qd.le (args:=[.rsl ((Xc Qe) ([([]:List Said),((Qm (⟨c,faults,cars,gos,tick,stopped,wrecked,rounds,gone⟩:Trk)).k1),((Qm (⟨c,faults,cars,gos,tick,stopped,wrecked,rounds,gone⟩:Trk)).k2),((Qm (⟨c,faults,cars,gos,tick,stopped,wrecked,rounds,gone⟩:Trk)).k3)])) 0 (([([]:List Said),((Qm (⟨c,faults,cars,gos,tick,stopped,wrecked,rounds,gone⟩:Trk)).k1),((Qm (⟨c,faults,cars,gos,tick,stopped,wrecked,rounds,gone⟩:Trk)).k2),((Qm (⟨c,faults,cars,gos,tick,stopped,wrecked,rounds,gone⟩:Trk)).k3)]).length),.clos 75 [] [.rptr [.clos 73 [] []] 0]]) (u74 (VK ([([]:List Said),((Qm (⟨c,faults,cars,gos,tick,stopped,wrecked,rounds,gone⟩:Trk)).k1),((Qm (⟨c,faults,cars,gos,tick,stopped,wrecked,rounds,gone⟩:Trk)).k2),((Qm (⟨c,faults,cars,gos,tick,stopped,wrecked,rounds,gone⟩:Trk)).k3)]) h2)) ⟨(Wx ⟨Xr,rfl,rfl,⟨AvLe.of_eq rfl,rfl,rfl,⟨AvLe.of_eq rfl,rfl,rfl,⟨AvLe.of_eq rfl,rfl,rfl,trivial⟩⟩⟩⟩),⟨AvLe.of_eq rfl,trivial⟩⟩),hc3,hc4,⟨by omega,by omega,by have:=h3; omega⟩,trivial⟩ ?_
           have h:=(h 0)
           simp only [YY,Ky,List.length_set,List.length_replicate] at h
           rw [(show (List.replicate (Int.toNat (c.blocks.length:Int)) ([.bool false]:List AV)).flatten=rowB (List.replicate c.blocks.length (false:Bool)) from Wy cB _ _)]
           exact h
         · have h:=h.2 (odf hc4)
           obtain ⟨h3,h⟩:=h
           obtain ⟨h4,h⟩:=h
           obtain ⟨h5,h⟩:=h
           obtain ⟨qe0,qe1,qe2,qe3,qe4,qe5,qe6⟩:=h
           exact p45_df_10 l c faults cars gos tick stopped wrecked rounds gone g1 g2 hE ⟨hc0,hc1,(Xj Try.func72 (by kernel_rfl) f72b (YV (⟨c,faults,cars,gos,tick,stopped,wrecked,rounds,gone⟩:Trk) h1)),rfl,rfl,(by decide),(by decide),hc2,(by decide),(by decide),(by decide),(Qd.le (args:=[.rsl ((Xc Qe) ([([]:List Said),((Qm (⟨c,faults,cars,gos,tick,stopped,wrecked,rounds,gone⟩:Trk)).k1),((Qm (⟨c,faults,cars,gos,tick,stopped,wrecked,rounds,gone⟩:Trk)).k2),((Qm (⟨c,faults,cars,gos,tick,stopped,wrecked,rounds,gone⟩:Trk)).k3)])) 0 (([([]:List Said),((Qm (⟨c,faults,cars,gos,tick,stopped,wrecked,rounds,gone⟩:Trk)).k1),((Qm (⟨c,faults,cars,gos,tick,stopped,wrecked,rounds,gone⟩:Trk)).k2),((Qm (⟨c,faults,cars,gos,tick,stopped,wrecked,rounds,gone⟩:Trk)).k3)]).length),.clos 75 [] [.rptr [.clos 73 [] []] 0]]) (u74 (VK ([([]:List Said),((Qm (⟨c,faults,cars,gos,tick,stopped,wrecked,rounds,gone⟩:Trk)).k1),((Qm (⟨c,faults,cars,gos,tick,stopped,wrecked,rounds,gone⟩:Trk)).k2),((Qm (⟨c,faults,cars,gos,tick,stopped,wrecked,rounds,gone⟩:Trk)).k3)]) h2)) ⟨(Wx ⟨Xr,rfl,rfl,⟨AvLe.of_eq rfl,rfl,rfl,⟨AvLe.of_eq rfl,rfl,rfl,⟨AvLe.of_eq rfl,rfl,rfl,trivial⟩⟩⟩⟩),⟨AvLe.of_eq rfl,trivial⟩⟩),hc3,hc4,(Xj Try.func46 (by kernel_rfl) f46b (ym (⟨c,faults,cars,gos,tick,stopped,wrecked,rounds,gone⟩:Trk) h3)),rfl,rfl,(u60 (Wl c ((⟨c,faults,cars,gos,tick,stopped,wrecked,rounds,gone⟩:Trk).cars.map Car.spot) h4)),(by decide),(by decide),(VH c faults cars gos tick stopped (decide ((QH c ((⟨c,faults,cars,gos,tick,stopped,wrecked,rounds,gone⟩:Trk).cars.map Car.spot)).2≥0)) rounds gone g1 g2 h5),trivial⟩ (by try rfl) (by rw [qe0,qe1,qe2,qe3,qe4,qe5,qe6]; all_goals (first | rfl | (simp only [List.length_set]; done) | (simp only [List.length_set]; rfl)))
     · have h:=h.2 (odf hc2)
       rcases bft (decide (stopped<0)) with hc3 | hc3
       · have h:=h.1 (odt hc3)
         obtain ⟨h2,h⟩:=h
         refine p45_df_11 l c faults cars gos tick stopped wrecked rounds gone g1 g2 hE ⟨hc0,hc1,(Xj Try.func72 (by kernel_rfl) f72b (YV (⟨c,faults,cars,gos,tick,stopped,wrecked,rounds,gone⟩:Trk) h1)),rfl,rfl,(by decide),(by decide),hc2,rfl,hc3,⟨by omega,by omega,by have:=h2; omega⟩,trivial⟩ ?_
         have h:=(h 0)
         simp only [YY,Ky,List.length_set,List.length_replicate] at h
         rw [(show (List.replicate (Int.toNat (c.blocks.length:Int)) ([.bool false]:List AV)).flatten=rowB (List.replicate c.blocks.length (false:Bool)) from Wy cB _ _)]
         exact h
       · have h:=h.2 (odf hc3)
         obtain ⟨h2,h⟩:=h
         obtain ⟨h3,h⟩:=h
         obtain ⟨h4,h⟩:=h
         obtain ⟨qe0,qe1,qe2,qe3,qe4,qe5,qe6⟩:=h
         exact p45_df_12 l c faults cars gos tick stopped wrecked rounds gone g1 g2 hE ⟨hc0,hc1,(Xj Try.func72 (by kernel_rfl) f72b (YV (⟨c,faults,cars,gos,tick,stopped,wrecked,rounds,gone⟩:Trk) h1)),rfl,rfl,(by decide),(by decide),hc2,rfl,hc3,(Xj Try.func46 (by kernel_rfl) f46b (ym (⟨c,faults,cars,gos,tick,stopped,wrecked,rounds,gone⟩:Trk) h2)),rfl,rfl,(u60 (Wl c ((⟨c,faults,cars,gos,tick,stopped,wrecked,rounds,gone⟩:Trk).cars.map Car.spot) h3)),(by decide),(by decide),(VH c faults cars gos tick stopped (decide ((QH c ((⟨c,faults,cars,gos,tick,stopped,wrecked,rounds,gone⟩:Trk).cars.map Car.spot)).2≥0)) rounds gone g1 g2 h4),trivial⟩ (by try rfl) (by rw [qe0,qe1,qe2,qe3,qe4,qe5,qe6]; all_goals (first | rfl | (simp only [List.length_set]; done) | (simp only [List.length_set]; rfl)))
theorem p45_start_0 (l:(List Prs)) (c:Cir) (faults:List Flt) (cars:List Car) (gos:List Bool) (tick stopped:Int) (wrecked:Bool) (rounds gone:Int) (g1 g2:Nat) {E:Env} {rv:AV} {bs2:List Blk} (hE:LentE Try.prog 45 [.sl 2 g2 0 0 1] rv bs2 E) (ho:AllP [])
 (hg:∀ E2,LentDE Try.prog 45 [.sl 2 g2 0 0 1] (.clos 70 [] [.ptr 3 0 0]) rv bs2 E2→G Try.prog E2 (WV Try.prog) ⟨(qc l),(WZ c faults g1 cars g2 gos tick stopped wrecked rounds gone)⟩):G Try.prog E [.code (Qh Try.prog 45)] ⟨[.ptr 0 0 0,.rsl (QV l) 0 l.length]++unds (Try.f45.ntmps - 2),(z45_8 c faults g1 cars g2 gos tick stopped wrecked rounds gone)⟩:=by
 refine Qg (K':=f45Kd Try.prog) (st':=⟨(qc l),(WZ c faults g1 cars g2 gos tick stopped wrecked rounds gone)⟩) (n:=400) (ds:=[]) (cs:=[]) (live:=[0,1,2,3,4,5,6,7,8,9,10,11,12,13,14,15,16,17,18,19,20,21,22,23,24,25,26,27,28,29,30,31,32,33,34,35,36,37,38,39,40,41,42,43,44,45,46,47,48,49,50,51,52,53,54,55,56,57,58,59,60,61,62,63,64,65,66,67,68,69,70,71,72,73,74,75,76,77,78,79,80,81,82,83,84,85,86,87,88,89,90,91]) (m:=4) (evs:=[.hold 2]) (obs:=_) hE.kind (hE.nogh (by kernel_rfl)) Ql (by kernel_rfl) ho ?_
 exact defer_at hE (by kernel_rfl) hg
theorem f45W (l:(List Prs)) (c:Cir) (faults:List Flt) (cars:List Car) (gos:List Bool) (tick stopped:Int) (wrecked:Bool) (rounds gone:Int) (g1 g2:Nat) {E:Env} {rv:Unit} {tick2:Int} {stopped2:Int} {wrecked2:Bool} {rounds2:Int} {gone2:Int} {cars2:List Car} {gos2:List Bool} (hE:LentE Try.prog 45 [.sl 2 g2 0 0 1] (.tup []) [⟨true,0,1,false,[.rsl (Qk c.blocks) 0 c.blocks.length,.rsl (rowI c.cars) 0 c.cars.length,.rsl (Qo faults) 0 faults.length,.sl 1 g1 0 cars2.length 4,.sl 2 g2 0 gos2.length 1,.int .i64 tick2,.int .i64 stopped2,.bool wrecked2,.int .i64 rounds2,.int .i64 gone2],false⟩,⟨true,g1,4,true,(Qi cars2),true⟩,⟨true,g2,1,true,(rowB gos2),true⟩] E)
 (h:(∀ E2,LentDE Try.prog 45 [.sl 2 g2 0 0 1] (.clos 70 [] [.ptr 3 0 0]) (.tup []) [⟨true,0,1,false,[.rsl (Qk c.blocks) 0 c.blocks.length,.rsl (rowI c.cars) 0 c.cars.length,.rsl (Qo faults) 0 faults.length,.sl 1 g1 0 cars2.length 4,.sl 2 g2 0 gos2.length 1,.int .i64 tick2,.int .i64 stopped2,.bool wrecked2,.int .i64 rounds2,.int .i64 gone2],false⟩,⟨true,g1,4,true,(Qi cars2),true⟩,⟨true,g2,1,true,(rowB gos2),true⟩] E2→((wrecked=true→((-1000000000000≤tick∧tick≤1000000000000)∧tick2=(tick+1)∧stopped2=stopped∧wrecked2=wrecked∧rounds2=rounds∧gone2=gone∧cars2=cars∧gos2=gos))∧(wrecked=false→((tick > 0→(((∀ x ∈ cars,CarOk c x)∧cars.length≤2147483648)∧((TrkIn (⟨c,faults,(cars.map (Qr c)),gos,tick,stopped,wrecked,rounds,gone⟩:Trk))∧((stopped<0→((([([]:List Said),((Qm (⟨c,faults,(cars.map (Qr c)),gos,tick,stopped,wrecked,rounds,gone⟩:Trk)).k1),((Qm (⟨c,faults,(cars.map (Qr c)),gos,tick,stopped,wrecked,rounds,gone⟩:Trk)).k2),((Qm (⟨c,faults,(cars.map (Qr c)),gos,tick,stopped,wrecked,rounds,gone⟩:Trk)).k3)]).length≤9223372036854775807∧∀ x ∈ ([([]:List Said),((Qm (⟨c,faults,(cars.map (Qr c)),gos,tick,stopped,wrecked,rounds,gone⟩:Trk)).k1),((Qm (⟨c,faults,(cars.map (Qr c)),gos,tick,stopped,wrecked,rounds,gone⟩:Trk)).k2),((Qm (⟨c,faults,(cars.map (Qr c)),gos,tick,stopped,wrecked,rounds,gone⟩:Trk)).k3)]),x.length≤9223372036854775807)∧(((([([]:List Said),((Qm (⟨c,faults,(cars.map (Qr c)),gos,tick,stopped,wrecked,rounds,gone⟩:Trk)).k1),((Qm (⟨c,faults,(cars.map (Qr c)),gos,tick,stopped,wrecked,rounds,gone⟩:Trk)).k2),((Qm (⟨c,faults,(cars.map (Qr c)),gos,tick,stopped,wrecked,rounds,gone⟩:Trk)).k3)]).any (fun l=>l.any QJ))=true→((tick<0→(c.blocks.length≤2147483648∧YY E2 l c faults cars gos tick stopped wrecked rounds gone g1 g2 (List.replicate c.blocks.length (false:Bool)) tick (cars.map (Qr c)) ((Qm (⟨c,faults,(cars.map (Qr c)),gos,tick,stopped,wrecked,rounds,gone⟩:Trk)).k1) ((Qm (⟨c,faults,(cars.map (Qr c)),gos,tick,stopped,wrecked,rounds,gone⟩:Trk)).k2) ((Qm (⟨c,faults,(cars.map (Qr c)),gos,tick,stopped,wrecked,rounds,gone⟩:Trk)).k3) 0 gos))∧(¬ (tick<0)→(((⟨c,faults,(cars.map (Qr c)),gos,tick,tick,wrecked,rounds,gone⟩:Trk).cars.length≤2147483648)∧(((∀ x ∈ ((⟨c,faults,(cars.map (Qr c)),gos,tick,tick,wrecked,rounds,gone⟩:Trk).cars.map Car.spot),InC c x.block)∧((⟨c,faults,(cars.map (Qr c)),gos,tick,tick,wrecked,rounds,gone⟩:Trk).cars.map Car.spot).length≤2147483648)∧((-1000000000000≤tick∧tick≤1000000000000)∧tick2=(tick+1)∧stopped2=tick∧wrecked2=(decide ((QH c ((⟨c,faults,(cars.map (Qr c)),gos,tick,tick,wrecked,rounds,gone⟩:Trk).cars.map Car.spot)).2≥0))∧rounds2=rounds∧gone2=gone∧cars2=(cars.map (Qr c))∧gos2=gos))))))∧((([([]:List Said),((Qm (⟨c,faults,(cars.map (Qr c)),gos,tick,stopped,wrecked,rounds,gone⟩:Trk)).k1),((Qm (⟨c,faults,(cars.map (Qr c)),gos,tick,stopped,wrecked,rounds,gone⟩:Trk)).k2),((Qm (⟨c,faults,(cars.map (Qr c)),gos,tick,stopped,wrecked,rounds,gone⟩:Trk)).k3)]).any (fun l=>l.any QJ))=false→((stopped<0→(c.blocks.length≤2147483648∧YY E2 l c faults cars gos tick stopped wrecked rounds gone g1 g2 (List.replicate c.blocks.length (false:Bool)) stopped (cars.map (Qr c)) ((Qm (⟨c,faults,(cars.map (Qr c)),gos,tick,stopped,wrecked,rounds,gone⟩:Trk)).k1) ((Qm (⟨c,faults,(cars.map (Qr c)),gos,tick,stopped,wrecked,rounds,gone⟩:Trk)).k2) ((Qm (⟨c,faults,(cars.map (Qr c)),gos,tick,stopped,wrecked,rounds,gone⟩:Trk)).k3) 0 gos))∧(¬ (stopped<0)→(((⟨c,faults,(cars.map (Qr c)),gos,tick,stopped,wrecked,rounds,gone⟩:Trk).cars.length≤2147483648)∧(((∀ x ∈ ((⟨c,faults,(cars.map (Qr c)),gos,tick,stopped,wrecked,rounds,gone⟩:Trk).cars.map Car.spot),InC c x.block)∧((⟨c,faults,(cars.map (Qr c)),gos,tick,stopped,wrecked,rounds,gone⟩:Trk).cars.map Car.spot).length≤2147483648)∧((-1000000000000≤tick∧tick≤1000000000000)∧tick2=(tick+1)∧stopped2=stopped∧wrecked2=(decide ((QH c ((⟨c,faults,(cars.map (Qr c)),gos,tick,stopped,wrecked,rounds,gone⟩:Trk).cars.map Car.spot)).2≥0))∧rounds2=rounds∧gone2=gone∧cars2=(cars.map (Qr c))∧gos2=gos)))))))))∧(¬ (stopped<0)→((stopped<0→(c.blocks.length≤2147483648∧YY E2 l c faults cars gos tick stopped wrecked rounds gone g1 g2 (List.replicate c.blocks.length (false:Bool)) stopped (cars.map (Qr c)) ((Qm (⟨c,faults,(cars.map (Qr c)),gos,tick,stopped,wrecked,rounds,gone⟩:Trk)).k1) ((Qm (⟨c,faults,(cars.map (Qr c)),gos,tick,stopped,wrecked,rounds,gone⟩:Trk)).k2) ((Qm (⟨c,faults,(cars.map (Qr c)),gos,tick,stopped,wrecked,rounds,gone⟩:Trk)).k3) 0 gos))∧(¬ (stopped<0)→(((⟨c,faults,(cars.map (Qr c)),gos,tick,stopped,wrecked,rounds,gone⟩:Trk).cars.length≤2147483648)∧(((∀ x ∈ ((⟨c,faults,(cars.map (Qr c)),gos,tick,stopped,wrecked,rounds,gone⟩:Trk).cars.map Car.spot),InC c x.block)∧((⟨c,faults,(cars.map (Qr c)),gos,tick,stopped,wrecked,rounds,gone⟩:Trk).cars.map Car.spot).length≤2147483648)∧((-1000000000000≤tick∧tick≤1000000000000)∧tick2=(tick+1)∧stopped2=stopped∧wrecked2=(decide ((QH c ((⟨c,faults,(cars.map (Qr c)),gos,tick,stopped,wrecked,rounds,gone⟩:Trk).cars.map Car.spot)).2≥0))∧rounds2=rounds∧gone2=gone∧cars2=(cars.map (Qr c))∧gos2=gos))))))))))∧(¬ (tick > 0)→((TrkIn (⟨c,faults,cars,gos,tick,stopped,wrecked,rounds,gone⟩:Trk))∧((stopped<0→((([([]:List Said),((Qm (⟨c,faults,cars,gos,tick,stopped,wrecked,rounds,gone⟩:Trk)).k1),((Qm (⟨c,faults,cars,gos,tick,stopped,wrecked,rounds,gone⟩:Trk)).k2),((Qm (⟨c,faults,cars,gos,tick,stopped,wrecked,rounds,gone⟩:Trk)).k3)]).length≤9223372036854775807∧∀ x ∈ ([([]:List Said),((Qm (⟨c,faults,cars,gos,tick,stopped,wrecked,rounds,gone⟩:Trk)).k1),((Qm (⟨c,faults,cars,gos,tick,stopped,wrecked,rounds,gone⟩:Trk)).k2),((Qm (⟨c,faults,cars,gos,tick,stopped,wrecked,rounds,gone⟩:Trk)).k3)]),x.length≤9223372036854775807)∧(((([([]:List Said),((Qm (⟨c,faults,cars,gos,tick,stopped,wrecked,rounds,gone⟩:Trk)).k1),((Qm (⟨c,faults,cars,gos,tick,stopped,wrecked,rounds,gone⟩:Trk)).k2),((Qm (⟨c,faults,cars,gos,tick,stopped,wrecked,rounds,gone⟩:Trk)).k3)]).any (fun l=>l.any QJ))=true→((tick<0→(c.blocks.length≤2147483648∧YY E2 l c faults cars gos tick stopped wrecked rounds gone g1 g2 (List.replicate c.blocks.length (false:Bool)) tick cars ((Qm (⟨c,faults,cars,gos,tick,stopped,wrecked,rounds,gone⟩:Trk)).k1) ((Qm (⟨c,faults,cars,gos,tick,stopped,wrecked,rounds,gone⟩:Trk)).k2) ((Qm (⟨c,faults,cars,gos,tick,stopped,wrecked,rounds,gone⟩:Trk)).k3) 0 gos))∧(¬ (tick<0)→(((⟨c,faults,cars,gos,tick,tick,wrecked,rounds,gone⟩:Trk).cars.length≤2147483648)∧(((∀ x ∈ ((⟨c,faults,cars,gos,tick,tick,wrecked,rounds,gone⟩:Trk).cars.map Car.spot),InC c x.block)∧((⟨c,faults,cars,gos,tick,tick,wrecked,rounds,gone⟩:Trk).cars.map Car.spot).length≤2147483648)∧((-1000000000000≤tick∧tick≤1000000000000)∧tick2=(tick+1)∧stopped2=tick∧wrecked2=(decide ((QH c ((⟨c,faults,cars,gos,tick,tick,wrecked,rounds,gone⟩:Trk).cars.map Car.spot)).2≥0))∧rounds2=rounds∧gone2=gone∧cars2=cars∧gos2=gos))))))∧((([([]:List Said),((Qm (⟨c,faults,cars,gos,tick,stopped,wrecked,rounds,gone⟩:Trk)).k1),((Qm (⟨c,faults,cars,gos,tick,stopped,wrecked,rounds,gone⟩:Trk)).k2),((Qm (⟨c,faults,cars,gos,tick,stopped,wrecked,rounds,gone⟩:Trk)).k3)]).any (fun l=>l.any QJ))=false→((stopped<0→(c.blocks.length≤2147483648∧YY E2 l c faults cars gos tick stopped wrecked rounds gone g1 g2 (List.replicate c.blocks.length (false:Bool)) stopped cars ((Qm (⟨c,faults,cars,gos,tick,stopped,wrecked,rounds,gone⟩:Trk)).k1) ((Qm (⟨c,faults,cars,gos,tick,stopped,wrecked,rounds,gone⟩:Trk)).k2) ((Qm (⟨c,faults,cars,gos,tick,stopped,wrecked,rounds,gone⟩:Trk)).k3) 0 gos))∧(¬ (stopped<0)→(((⟨c,faults,cars,gos,tick,stopped,wrecked,rounds,gone⟩:Trk).cars.length≤2147483648)∧(((∀ x ∈ ((⟨c,faults,cars,gos,tick,stopped,wrecked,rounds,gone⟩:Trk).cars.map Car.spot),InC c x.block)∧((⟨c,faults,cars,gos,tick,stopped,wrecked,rounds,gone⟩:Trk).cars.map Car.spot).length≤2147483648)∧((-1000000000000≤tick∧tick≤1000000000000)∧tick2=(tick+1)∧stopped2=stopped∧wrecked2=(decide ((QH c ((⟨c,faults,cars,gos,tick,stopped,wrecked,rounds,gone⟩:Trk).cars.map Car.spot)).2≥0))∧rounds2=rounds∧gone2=gone∧cars2=cars∧gos2=gos)))))))))∧(¬ (stopped<0)→((stopped<0→(c.blocks.length≤2147483648∧YY E2 l c faults cars gos tick stopped wrecked rounds gone g1 g2 (List.replicate c.blocks.length (false:Bool)) stopped cars ((Qm (⟨c,faults,cars,gos,tick,stopped,wrecked,rounds,gone⟩:Trk)).k1) ((Qm (⟨c,faults,cars,gos,tick,stopped,wrecked,rounds,gone⟩:Trk)).k2) ((Qm (⟨c,faults,cars,gos,tick,stopped,wrecked,rounds,gone⟩:Trk)).k3) 0 gos))∧(¬ (stopped<0)→(((⟨c,faults,cars,gos,tick,stopped,wrecked,rounds,gone⟩:Trk).cars.length≤2147483648)∧(((∀ x ∈ ((⟨c,faults,cars,gos,tick,stopped,wrecked,rounds,gone⟩:Trk).cars.map Car.spot),InC c x.block)∧((⟨c,faults,cars,gos,tick,stopped,wrecked,rounds,gone⟩:Trk).cars.map Car.spot).length≤2147483648)∧((-1000000000000≤tick∧tick≤1000000000000)∧tick2=(tick+1)∧stopped2=stopped∧wrecked2=(decide ((QH c ((⟨c,faults,cars,gos,tick,stopped,wrecked,rounds,gone⟩:Trk).cars.map Car.spot)).2≥0))∧rounds2=rounds∧gone2=gone∧cars2=cars∧gos2=gos)))))))))))))):G Try.prog E [.code (Qh Try.prog 45)] ⟨[.ptr 0 0 0,.rsl (QV l) 0 l.length]++unds (Try.f45.ntmps - 2),[⟨true,0,1,false,[.rsl (Qk c.blocks) 0 c.blocks.length,.rsl (rowI c.cars) 0 c.cars.length,.rsl (Qo faults) 0 faults.length,.sl 1 g1 0 cars.length 4,.sl 2 g2 0 gos.length 1,.int .i64 tick,.int .i64 stopped,.bool wrecked,.int .i64 rounds,.int .i64 gone],false⟩,⟨true,g1,4,true,(Qi cars),true⟩,⟨true,g2,1,true,(rowB gos),true⟩]⟩:=by
 exact p45_start_0 l c faults cars gos tick stopped wrecked rounds gone g1 g2 hE trivial (fun E2 hE2=>f45Wdf l c faults cars gos tick stopped wrecked rounds gone g1 g2 (rv:=rv) hE2 (h E2 hE2))
theorem p45_0_0 (l:(List Prs)) (c:Cir) (faults:List Flt) (cars:List Car) (gos:List Bool) (tick stopped:Int) (wrecked:Bool) (rounds gone:Int) (g1 g2:Nat) (v6:List Bool) (v0_6:Int) (v1:List Car) (v4_1:(List Said)) (v4_2:(List Said)) (v4_3:(List Said)) (i:Nat) (v2:List Bool) (g6:Nat) (pe:Prs) {E:Env} {rv:AV} {bs2:List Blk} (hE:LentDE Try.prog 45 [.sl 2 g2 0 0 1] (.clos 70 [] [.ptr 3 0 0]) rv bs2 E) (ho:AllP [(decide ((i:Int)<(l.length:Int)))=true,0≤(i:Int)∧(i:Int)<(l.length:Int),((QV l).drop (0+(Int.toNat (i:Int))*3)).take 3=(z45_27 pe),3≤3,(pe.at_ == tick)=true,VQ Try.prog (.clos 77 [] []) [.ptr 0 0 0,.agg (z45_27 pe),.agg (z45_25 v4_1 v4_2 v4_3),.sl 3 g6 0 v6.length 1] [⟨true,0,1,false,(z45_26 c faults g1 v1 g2 v2 tick v0_6 wrecked rounds gone),false⟩,⟨true,g1,4,true,(Qi v1),true⟩,⟨true,g2,1,true,(rowB v2),true⟩,⟨true,g6,1,true,(rowB v6),true⟩] (.tup []) (z45_22 c faults g1 v4_1 v4_2 v4_3 pe v1 v2 v6 g2 tick v0_6 wrecked rounds gone g6),InR .i64 ((i:Int)+1)])
 (hg:G Try.prog E (yJ Try.prog) ⟨([J,J,.ptr 3 0 0,J,.ptr 4 0 0,J,.sl 6 g6 0 v6.length 1]++jj 47 ([.rsl (QV l) 0 l.length,.int .i64 (l.length:Int),.int .i64 ((i:Int)+1)]++Js 35)),[⟨true,0,1,false,[.rsl (Qk c.blocks) 0 c.blocks.length,.rsl (rowI c.cars) 0 c.cars.length,.rsl (Qo faults) 0 faults.length,.sl 1 g1 0 ((Xm c (⟨v4_1,v4_2,v4_3⟩:Rd4) pe (v1,v2,v6)).1.length) 4,.sl 2 g2 0 ((Xm c (⟨v4_1,v4_2,v4_3⟩:Rd4) pe (v1,v2,v6)).2.1.length) 1,.int .i64 tick,.int .i64 v0_6,.bool wrecked,.int .i64 rounds,.int .i64 gone],false⟩,⟨true,g1,4,true,(Qi (Xm c (⟨v4_1,v4_2,v4_3⟩:Rd4) pe (v1,v2,v6)).1),true⟩,⟨true,g2,1,true,(rowB (Xm c (⟨v4_1,v4_2,v4_3⟩:Rd4) pe (v1,v2,v6)).2.1),true⟩,⟨true,0,1,false,[.ptr 0 0 0],false⟩,⟨true,0,1,true,(z45_25 v4_1 v4_2 v4_3),false⟩,⟨true,0,1,true,[.clos 73 [] []],false⟩,⟨true,g6,1,true,(rowB (Xm c (⟨v4_1,v4_2,v4_3⟩:Rd4) pe (v1,v2,v6)).2.2),true⟩]⟩):G Try.prog E (yJ Try.prog) (Ky l c faults cars gos tick stopped wrecked rounds gone g1 g2 v6 v0_6 v1 v4_1 v4_2 v4_3 i v2 g6) :=
 Qg (n:=400) (ds:=[]) (cs:=[]) (live:=[2,4,6,54,55,56]) (m:=7) (evs:=[.b true,.ld (.agg (z45_27 pe)),.b true,.lent [0,1,2,6] (.tup []) (z45_22 c faults g1 v4_1 v4_2 v4_3 pe v1 v2 v6 g2 tick v0_6 wrecked rounds gone g6),.stop]) (obs:=_) hE.kind (hE.nogh (by kernel_rfl)) Ql (by kernel_rfl) ho hg
theorem p45_0_1 (l:(List Prs)) (c:Cir) (faults:List Flt) (cars:List Car) (gos:List Bool) (tick stopped:Int) (wrecked:Bool) (rounds gone:Int) (g1 g2:Nat) (v6:List Bool) (v0_6:Int) (v1:List Car) (v4_1:(List Said)) (v4_2:(List Said)) (v4_3:(List Said)) (i:Nat) (v2:List Bool) (g6:Nat) (pe:Prs) {E:Env} {rv:AV} {bs2:List Blk} (hE:LentDE Try.prog 45 [.sl 2 g2 0 0 1] (.clos 70 [] [.ptr 3 0 0]) rv bs2 E) (ho:AllP [(decide ((i:Int)<(l.length:Int)))=true,0≤(i:Int)∧(i:Int)<(l.length:Int),((QV l).drop (0+(Int.toNat (i:Int))*3)).take 3=(z45_27 pe),3≤3,(pe.at_ == tick)=false,InR .i64 ((i:Int)+1)])
 (hg:G Try.prog E (yJ Try.prog) ⟨([J,J,.ptr 3 0 0,J,.ptr 4 0 0,J,.sl 6 g6 0 v6.length 1]++jj 47 ([.rsl (QV l) 0 l.length,.int .i64 (l.length:Int),.int .i64 ((i:Int)+1)]++Js 35)),[⟨true,0,1,false,(z45_26 c faults g1 v1 g2 v2 tick v0_6 wrecked rounds gone),false⟩,⟨true,g1,4,true,(Qi v1),true⟩,⟨true,g2,1,true,(rowB v2),true⟩,⟨true,0,1,false,[.ptr 0 0 0],false⟩,⟨true,0,1,true,(z45_25 v4_1 v4_2 v4_3),false⟩,⟨true,0,1,true,[.clos 73 [] []],false⟩,⟨true,g6,1,true,(rowB v6),true⟩]⟩):G Try.prog E (yJ Try.prog) (Ky l c faults cars gos tick stopped wrecked rounds gone g1 g2 v6 v0_6 v1 v4_1 v4_2 v4_3 i v2 g6) :=
 Qg (n:=400) (ds:=[]) (cs:=[]) (live:=[2,4,6,54,55,56]) (m:=7) (evs:=[.b true,.ld (.agg (z45_27 pe)),.b false,.stop]) (obs:=_) hE.kind (hE.nogh (by kernel_rfl)) Ql (by kernel_rfl) ho hg
theorem p45_0_2 (l:(List Prs)) (c:Cir) (faults:List Flt) (cars:List Car) (gos:List Bool) (tick stopped:Int) (wrecked:Bool) (rounds gone:Int) (g1 g2:Nat) (v6:List Bool) (v0_6:Int) (v1:List Car) (v4_1:(List Said)) (v4_2:(List Said)) (v4_3:(List Said)) (i:Nat) (v2:List Bool) (g6:Nat) {E:Env} {res:AV} {bs2:List Blk} (hE:LentDE Try.prog 45 [.sl 2 g2 0 0 1] (.clos 70 [] [.ptr 3 0 0]) res bs2 E) (ho:AllP [(decide ((i:Int)<(l.length:Int)))=false,VQ Try.prog (.clos 78 [] []) [.ptr 0 0 0,.agg (z45_25 v4_1 v4_2 v4_3),.sl 3 g6 0 v6.length 1] [⟨true,0,1,false,(z45_26 c faults g1 v1 g2 v2 tick v0_6 wrecked rounds gone),false⟩,⟨true,g1,4,true,(Qi v1),true⟩,⟨true,g2,1,true,(rowB v2),true⟩,⟨true,g6,1,true,(rowB v6),true⟩] (.tup []) (z45_21 c faults g1 v4_1 v4_2 v4_3 v6 v1 v2 rounds gone g2 tick v0_6 wrecked g6),Vx Try.prog (.clos 46 [] []) [.rptr [.rsl (Qk c.blocks) 0 c.blocks.length,.rsl (rowI c.cars) 0 c.cars.length,.rsl (Qo faults) 0 faults.length,.rsl (Qi (Xk c v4_1 v4_2 v4_3 v6 v1 v2 rounds gone).cars) 0 ((Xk c v4_1 v4_2 v4_3 v6 v1 v2 rounds gone).cars.length),.rsl (rowB (Xk c v4_1 v4_2 v4_3 v6 v1 v2 rounds gone).gos) 0 ((Xk c v4_1 v4_2 v4_3 v6 v1 v2 rounds gone).gos.length),.int .i64 tick,.int .i64 v0_6,.bool wrecked,.int .i64 ((Xk c v4_1 v4_2 v4_3 v6 v1 v2 rounds gone).rounds),.int .i64 ((Xk c v4_1 v4_2 v4_3 v6 v1 v2 rounds gone).gone)] 0] (.rsl (Qb (Wo c faults v4_1 v4_2 v4_3 v6 v1 v2 rounds gone tick v0_6 wrecked)) 0 ((Wo c faults v4_1 v4_2 v4_3 v6 v1 v2 rounds gone tick v0_6 wrecked).length)),g1=g1,g2=g2,Qd Try.prog (.clos 60 [] []) [.agg (yV c),.rsl (Qb (Wo c faults v4_1 v4_2 v4_3 v6 v1 v2 rounds gone tick v0_6 wrecked)) 0 ((Wo c faults v4_1 v4_2 v4_3 v6 v1 v2 rounds gone tick v0_6 wrecked).length)] (.tup [.agg [.int .i64 (((QH c (Wo c faults v4_1 v4_2 v4_3 v6 v1 v2 rounds gone tick v0_6 wrecked)).1).block),.int .i64 (((QH c (Wo c faults v4_1 v4_2 v4_3 v6 v1 v2 rounds gone tick v0_6 wrecked)).1).ran),.bool (((QH c (Wo c faults v4_1 v4_2 v4_3 v6 v1 v2 rounds gone tick v0_6 wrecked)).1).opn)],.int .i64 ((QH c (Wo c faults v4_1 v4_2 v4_3 v6 v1 v2 rounds gone tick v0_6 wrecked)).2)]),3≤3,8≤10,WE Try.prog (.clos 70 [] [.ptr 0 0 0]) [⟨true,0,1,false,[.ptr 1 0 0],false⟩,⟨true,0,1,false,[.rsl (Qk c.blocks) 0 c.blocks.length,.rsl (rowI c.cars) 0 c.cars.length,.rsl (Qo faults) 0 faults.length,.sl 2 g1 0 ((Xk c v4_1 v4_2 v4_3 v6 v1 v2 rounds gone).cars.length) 4,.sl 3 g2 0 ((Xk c v4_1 v4_2 v4_3 v6 v1 v2 rounds gone).gos.length) 1,.int .i64 tick,.int .i64 v0_6,.bool (decide ((QH c (Wo c faults v4_1 v4_2 v4_3 v6 v1 v2 rounds gone tick v0_6 wrecked)).2≥0)),.int .i64 ((Xk c v4_1 v4_2 v4_3 v6 v1 v2 rounds gone).rounds),.int .i64 ((Xk c v4_1 v4_2 v4_3 v6 v1 v2 rounds gone).gone)],false⟩,⟨true,g1,4,true,(Qi (Xk c v4_1 v4_2 v4_3 v6 v1 v2 rounds gone).cars),true⟩,⟨true,g2,1,true,(rowB (Xk c v4_1 v4_2 v4_3 v6 v1 v2 rounds gone).gos),true⟩] (.tup []) [⟨true,0,1,false,[.ptr 1 0 0],false⟩,⟨true,0,1,false,[.rsl (Qk c.blocks) 0 c.blocks.length,.rsl (rowI c.cars) 0 c.cars.length,.rsl (Qo faults) 0 faults.length,.sl 2 g1 0 ((Xk c v4_1 v4_2 v4_3 v6 v1 v2 rounds gone).cars.length) 4,.sl 3 g2 0 ((Xk c v4_1 v4_2 v4_3 v6 v1 v2 rounds gone).gos.length) 1,.int .i64 (tick+1),.int .i64 v0_6,.bool (decide ((QH c (Wo c faults v4_1 v4_2 v4_3 v6 v1 v2 rounds gone tick v0_6 wrecked)).2≥0)),.int .i64 ((Xk c v4_1 v4_2 v4_3 v6 v1 v2 rounds gone).rounds),.int .i64 ((Xk c v4_1 v4_2 v4_3 v6 v1 v2 rounds gone).gone)],false⟩,⟨true,g1,4,true,(Qi (Xk c v4_1 v4_2 v4_3 v6 v1 v2 rounds gone).cars),true⟩,⟨true,g2,1,true,(rowB (Xk c v4_1 v4_2 v4_3 v6 v1 v2 rounds gone).gos),true⟩]])
 (hr:(.tup [])=res) (hb:[⟨true,0,1,false,[.rsl (Qk c.blocks) 0 c.blocks.length,.rsl (rowI c.cars) 0 c.cars.length,.rsl (Qo faults) 0 faults.length,.sl 1 g1 0 ((Xk c v4_1 v4_2 v4_3 v6 v1 v2 rounds gone).cars.length) 4,.sl 2 g2 0 ((Xk c v4_1 v4_2 v4_3 v6 v1 v2 rounds gone).gos.length) 1,.int .i64 (tick+1),.int .i64 v0_6,.bool (decide ((QH c (Wo c faults v4_1 v4_2 v4_3 v6 v1 v2 rounds gone tick v0_6 wrecked)).2≥0)),.int .i64 ((Xk c v4_1 v4_2 v4_3 v6 v1 v2 rounds gone).rounds),.int .i64 ((Xk c v4_1 v4_2 v4_3 v6 v1 v2 rounds gone).gone)],false⟩,⟨true,g1,4,true,(Qi (Xk c v4_1 v4_2 v4_3 v6 v1 v2 rounds gone).cars),true⟩,⟨true,g2,1,true,(rowB (Xk c v4_1 v4_2 v4_3 v6 v1 v2 rounds gone).gos),true⟩]=bs2):G Try.prog E (yJ Try.prog) (Ky l c faults cars gos tick stopped wrecked rounds gone g1 g2 v6 v0_6 v1 v4_1 v4_2 v4_3 i v2 g6) :=
 YR (n:=400) (ρ:=[3,0,1,2]) (bsD:=[⟨true,0,1,false,[.ptr 1 0 0],false⟩,⟨true,0,1,false,[.rsl (Qk c.blocks) 0 c.blocks.length,.rsl (rowI c.cars) 0 c.cars.length,.rsl (Qo faults) 0 faults.length,.sl 2 g1 0 ((Xk c v4_1 v4_2 v4_3 v6 v1 v2 rounds gone).cars.length) 4,.sl 3 g2 0 ((Xk c v4_1 v4_2 v4_3 v6 v1 v2 rounds gone).gos.length) 1,.int .i64 (tick+1),.int .i64 v0_6,.bool (decide ((QH c (Wo c faults v4_1 v4_2 v4_3 v6 v1 v2 rounds gone tick v0_6 wrecked)).2≥0)),.int .i64 ((Xk c v4_1 v4_2 v4_3 v6 v1 v2 rounds gone).rounds),.int .i64 ((Xk c v4_1 v4_2 v4_3 v6 v1 v2 rounds gone).gone)],false⟩,⟨true,g1,4,true,(Qi (Xk c v4_1 v4_2 v4_3 v6 v1 v2 rounds gone).cars),true⟩,⟨true,g2,1,true,(rowB (Xk c v4_1 v4_2 v4_3 v6 v1 v2 rounds gone).gos),true⟩]) (live:=[]) (m:=3) (evs:=[.b false,.lent [0,1,2,6] (.tup []) (z45_21 c faults g1 v4_1 v4_2 v4_3 v6 v1 v2 rounds gone g2 tick v0_6 wrecked g6),.vn (.rsl (Qb (Wo c faults v4_1 v4_2 v4_3 v6 v1 v2 rounds gone tick v0_6 wrecked)) 0 ((Wo c faults v4_1 v4_2 v4_3 v6 v1 v2 rounds gone tick v0_6 wrecked).length)),.v (.tup [.agg [.int .i64 (((QH c (Wo c faults v4_1 v4_2 v4_3 v6 v1 v2 rounds gone tick v0_6 wrecked)).1).block),.int .i64 (((QH c (Wo c faults v4_1 v4_2 v4_3 v6 v1 v2 rounds gone tick v0_6 wrecked)).1).ran),.bool (((QH c (Wo c faults v4_1 v4_2 v4_3 v6 v1 v2 rounds gone tick v0_6 wrecked)).1).opn)],.int .i64 ((QH c (Wo c faults v4_1 v4_2 v4_3 v6 v1 v2 rounds gone tick v0_6 wrecked)).2)])]) (obs:=_) hE (by kernel_rfl) Try.func45 Ql (by kernel_rfl) ho hr hb
theorem f45W0 (l:(List Prs)) (c:Cir) (faults:List Flt) (cars:List Car) (gos:List Bool) (tick stopped:Int) (wrecked:Bool) (rounds gone:Int) (g1 g2:Nat) (v6:List Bool) (v0_6:Int) (v1:List Car) (v4_1:(List Said)) (v4_2:(List Said)) (v4_3:(List Said)) (i:Nat) (v2:List Bool) {E:Env} {rv:Unit} {tick2:Int} {stopped2:Int} {wrecked2:Bool} {rounds2:Int} {gone2:Int} {cars2:List Car} {gos2:List Bool} (hE:LentDE Try.prog 45 [.sl 2 g2 0 0 1] (.clos 70 [] [.ptr 3 0 0]) (.tup []) [⟨true,0,1,false,[.rsl (Qk c.blocks) 0 c.blocks.length,.rsl (rowI c.cars) 0 c.cars.length,.rsl (Qo faults) 0 faults.length,.sl 1 g1 0 cars2.length 4,.sl 2 g2 0 gos2.length 1,.int .i64 tick2,.int .i64 stopped2,.bool wrecked2,.int .i64 rounds2,.int .i64 gone2],false⟩,⟨true,g1,4,true,(Qi cars2),true⟩,⟨true,g2,1,true,(rowB gos2),true⟩] E)
 (h:(((i:Int)<(l.length:Int)→(∃ pe:Prs,l[i]?=some pe∧((pe.at_=tick→(((InC c pe.block∧(pe.kind=1 ∨ pe.kind=2 ∨ pe.kind=3))∧RdOk c (⟨v4_1,v4_2,v4_3⟩:Rd4)∧(v1.length≤2147483648∧v2.length=c.blocks.length∧v6.length=c.blocks.length))∧((I6 ((i:Int)+1))∧YY E l c faults cars gos tick stopped wrecked rounds gone g1 g2 ((Xm c (⟨v4_1,v4_2,v4_3⟩:Rd4) pe (v1,v2,v6)).2.2) v0_6 ((Xm c (⟨v4_1,v4_2,v4_3⟩:Rd4) pe (v1,v2,v6)).1) v4_1 v4_2 v4_3 (i+1) ((Xm c (⟨v4_1,v4_2,v4_3⟩:Rd4) pe (v1,v2,v6)).2.1))))∧(¬ (pe.at_=tick)→((I6 ((i:Int)+1))∧YY E l c faults cars gos tick stopped wrecked rounds gone g1 g2 v6 v0_6 v1 v4_1 v4_2 v4_3 (i+1) v2)))))∧(¬ ((i:Int)<(l.length:Int))→(((Xx v1∧(∀ x ∈ v1,CarOk c x))∧RdOk c (⟨v4_1,v4_2,v4_3⟩:Rd4)∧(v1.length≤1000000∧v2.length=c.blocks.length∧v6.length=c.blocks.length)∧(0<c.blocks.length∧c.blocks.length≤1000000)∧(-1000000000000≤rounds∧rounds≤1000000000000)∧(-1000000000000≤gone∧gone≤1000000000000))∧(((⟨c,faults,(QP c (⟨v4_1,v4_2,v4_3⟩:Rd4) v6 v1 c.blocks.length ⟨v1,v2,rounds,gone⟩).cars,(QP c (⟨v4_1,v4_2,v4_3⟩:Rd4) v6 v1 c.blocks.length ⟨v1,v2,rounds,gone⟩).gos,tick,v0_6,wrecked,(QP c (⟨v4_1,v4_2,v4_3⟩:Rd4) v6 v1 c.blocks.length ⟨v1,v2,rounds,gone⟩).rounds,(QP c (⟨v4_1,v4_2,v4_3⟩:Rd4) v6 v1 c.blocks.length ⟨v1,v2,rounds,gone⟩).gone⟩:Trk).cars.length≤2147483648)∧(((∀ x ∈ ((⟨c,faults,(QP c (⟨v4_1,v4_2,v4_3⟩:Rd4) v6 v1 c.blocks.length ⟨v1,v2,rounds,gone⟩).cars,(QP c (⟨v4_1,v4_2,v4_3⟩:Rd4) v6 v1 c.blocks.length ⟨v1,v2,rounds,gone⟩).gos,tick,v0_6,wrecked,(QP c (⟨v4_1,v4_2,v4_3⟩:Rd4) v6 v1 c.blocks.length ⟨v1,v2,rounds,gone⟩).rounds,(QP c (⟨v4_1,v4_2,v4_3⟩:Rd4) v6 v1 c.blocks.length ⟨v1,v2,rounds,gone⟩).gone⟩:Trk).cars.map Car.spot),InC c x.block)∧((⟨c,faults,(QP c (⟨v4_1,v4_2,v4_3⟩:Rd4) v6 v1 c.blocks.length ⟨v1,v2,rounds,gone⟩).cars,(QP c (⟨v4_1,v4_2,v4_3⟩:Rd4) v6 v1 c.blocks.length ⟨v1,v2,rounds,gone⟩).gos,tick,v0_6,wrecked,(QP c (⟨v4_1,v4_2,v4_3⟩:Rd4) v6 v1 c.blocks.length ⟨v1,v2,rounds,gone⟩).rounds,(QP c (⟨v4_1,v4_2,v4_3⟩:Rd4) v6 v1 c.blocks.length ⟨v1,v2,rounds,gone⟩).gone⟩:Trk).cars.map Car.spot).length≤2147483648)∧((-1000000000000≤tick∧tick≤1000000000000)∧tick2=(tick+1)∧stopped2=v0_6∧wrecked2=(decide ((QH c ((⟨c,faults,(QP c (⟨v4_1,v4_2,v4_3⟩:Rd4) v6 v1 c.blocks.length ⟨v1,v2,rounds,gone⟩).cars,(QP c (⟨v4_1,v4_2,v4_3⟩:Rd4) v6 v1 c.blocks.length ⟨v1,v2,rounds,gone⟩).gos,tick,v0_6,wrecked,(QP c (⟨v4_1,v4_2,v4_3⟩:Rd4) v6 v1 c.blocks.length ⟨v1,v2,rounds,gone⟩).rounds,(QP c (⟨v4_1,v4_2,v4_3⟩:Rd4) v6 v1 c.blocks.length ⟨v1,v2,rounds,gone⟩).gone⟩:Trk).cars.map Car.spot)).2≥0))∧rounds2=(QP c (⟨v4_1,v4_2,v4_3⟩:Rd4) v6 v1 c.blocks.length ⟨v1,v2,rounds,gone⟩).rounds∧gone2=(QP c (⟨v4_1,v4_2,v4_3⟩:Rd4) v6 v1 c.blocks.length ⟨v1,v2,rounds,gone⟩).gone∧cars2=(QP c (⟨v4_1,v4_2,v4_3⟩:Rd4) v6 v1 c.blocks.length ⟨v1,v2,rounds,gone⟩).cars∧gos2=(QP c (⟨v4_1,v4_2,v4_3⟩:Rd4) v6 v1 c.blocks.length ⟨v1,v2,rounds,gone⟩).gos))))))):YY E l c faults cars gos tick stopped wrecked rounds gone g1 g2 v6 v0_6 v1 v4_1 v4_2 v4_3 i v2:=by
 intro g6
 rcases bft (decide ((i:Int)<(l.length:Int))) with hc0 | hc0
 · have h:=h.1 (odt hc0)
   obtain ⟨pe,h1,h⟩:=h
   rcases bft (pe.at_ == tick) with hc1 | hc1
   · have h:=h.1 (eq_of_beq hc1)
     obtain ⟨h2,h⟩:=h
     obtain ⟨q7_2,h⟩:=h
     refine p45_0_0 l c faults cars gos tick stopped wrecked rounds gone g1 g2 v6 v0_6 v1 v4_1 v4_2 v4_3 i v2 g6 pe hE ⟨hc0,(Qp h1),(rp cPrs 3 0 3 h1),(by decide),hc1,(Yj Try.func77 (by kernel_rfl) f77b (press_ok pe c faults v1 v2 tick v0_6 wrecked rounds gone g1 g2 (⟨v4_1,v4_2,v4_3⟩:Rd4) v6 g6 h2)),q7_2,trivial⟩ ?_
     have h:=(h g6)
     simp only [YY,Ky,List.length_set,Qac] at h
     skip
     exact h
   · have h:=h.2 (ne_of_beq_false hc1)
     obtain ⟨q6_2,h⟩:=h
     exact p45_0_1 l c faults cars gos tick stopped wrecked rounds gone g1 g2 v6 v0_6 v1 v4_1 v4_2 v4_3 i v2 g6 pe hE ⟨hc0,(Qp h1),(rp cPrs 3 0 3 h1),(by decide),hc1,q6_2,trivial⟩ (h g6)
 · have h:=h.2 (odf hc0)
   obtain ⟨h1,h⟩:=h
   obtain ⟨h2,h⟩:=h
   obtain ⟨h3,h⟩:=h
   obtain ⟨h4,h⟩:=h
   obtain ⟨qe0,qe1,qe2,qe3,qe4,qe5,qe6⟩:=h
   exact p45_0_2 l c faults cars gos tick stopped wrecked rounds gone g1 g2 v6 v0_6 v1 v4_1 v4_2 v4_3 i v2 g6 hE ⟨hc0,(Yj Try.func78 (by kernel_rfl) f78b (brake_ok c faults v1 v2 tick v0_6 wrecked rounds gone g1 g2 (⟨v4_1,v4_2,v4_3⟩:Rd4) v6 g6 h1)),(by exact (Xj Try.func46 (by kernel_rfl) f46b (ym (⟨c,faults,(QP c (⟨v4_1,v4_2,v4_3⟩:Rd4) v6 v1 c.blocks.length ⟨v1,v2,rounds,gone⟩).cars,(QP c (⟨v4_1,v4_2,v4_3⟩:Rd4) v6 v1 c.blocks.length ⟨v1,v2,rounds,gone⟩).gos,tick,v0_6,wrecked,(QP c (⟨v4_1,v4_2,v4_3⟩:Rd4) v6 v1 c.blocks.length ⟨v1,v2,rounds,gone⟩).rounds,(QP c (⟨v4_1,v4_2,v4_3⟩:Rd4) v6 v1 c.blocks.length ⟨v1,v2,rounds,gone⟩).gone⟩:Trk) h2))),rfl,rfl,(u60 (Wl c ((⟨c,faults,(QP c (⟨v4_1,v4_2,v4_3⟩:Rd4) v6 v1 c.blocks.length ⟨v1,v2,rounds,gone⟩).cars,(QP c (⟨v4_1,v4_2,v4_3⟩:Rd4) v6 v1 c.blocks.length ⟨v1,v2,rounds,gone⟩).gos,tick,v0_6,wrecked,(QP c (⟨v4_1,v4_2,v4_3⟩:Rd4) v6 v1 c.blocks.length ⟨v1,v2,rounds,gone⟩).rounds,(QP c (⟨v4_1,v4_2,v4_3⟩:Rd4) v6 v1 c.blocks.length ⟨v1,v2,rounds,gone⟩).gone⟩:Trk).cars.map Car.spot) h3)),(by decide),(by decide),(VH c faults ((QP c (⟨v4_1,v4_2,v4_3⟩:Rd4) v6 v1 c.blocks.length ⟨v1,v2,rounds,gone⟩).cars) ((QP c (⟨v4_1,v4_2,v4_3⟩:Rd4) v6 v1 c.blocks.length ⟨v1,v2,rounds,gone⟩).gos) tick v0_6 (decide ((QH c ((⟨c,faults,(QP c (⟨v4_1,v4_2,v4_3⟩:Rd4) v6 v1 c.blocks.length ⟨v1,v2,rounds,gone⟩).cars,(QP c (⟨v4_1,v4_2,v4_3⟩:Rd4) v6 v1 c.blocks.length ⟨v1,v2,rounds,gone⟩).gos,tick,v0_6,wrecked,(QP c (⟨v4_1,v4_2,v4_3⟩:Rd4) v6 v1 c.blocks.length ⟨v1,v2,rounds,gone⟩).rounds,(QP c (⟨v4_1,v4_2,v4_3⟩:Rd4) v6 v1 c.blocks.length ⟨v1,v2,rounds,gone⟩).gone⟩:Trk).cars.map Car.spot)).2≥0)) ((QP c (⟨v4_1,v4_2,v4_3⟩:Rd4) v6 v1 c.blocks.length ⟨v1,v2,rounds,gone⟩).rounds) ((QP c (⟨v4_1,v4_2,v4_3⟩:Rd4) v6 v1 c.blocks.length ⟨v1,v2,rounds,gone⟩).gone) g1 g2 h4),trivial⟩ (by try rfl) (by rw [qe0,qe1,qe2,qe3,qe4,qe5,qe6]; all_goals (first | rfl | (simp only [List.length_set]; done) | (simp only [List.length_set]; rfl)))
theorem step_ok (l:List Prs) (c:Cir) (faults:List Flt) (cars:List Car) (gos:List Bool) (tick stopped:Int) (wrecked:Bool) (rounds gone:Int) (g1 g2:Nat) (B:Int)
 (hh:TOk (⟨c,faults,cars,gos,tick,stopped,wrecked,rounds,gone⟩:Trk) B∧B≤100000∧PrsIn c l∧l.length≤2147483648) :
 Lent Try.prog 45 [.ptr 0 0 0,.rsl (QV l) 0 l.length] [⟨true,0,1,false,[.rsl (Qk c.blocks) 0 c.blocks.length,.rsl (rowI c.cars) 0 c.cars.length,.rsl (Qo faults) 0 faults.length,.sl 1 g1 0 cars.length 4,.sl 2 g2 0 gos.length 1,.int .i64 tick,.int .i64 stopped,.bool wrecked,.int .i64 rounds,.int .i64 gone],false⟩,⟨true,g1,4,true,(Qi cars),true⟩,⟨true,g2,1,true,(rowB gos),true⟩] (.tup []) [⟨true,0,1,false,[.rsl (Qk c.blocks) 0 c.blocks.length,.rsl (rowI c.cars) 0 c.cars.length,.rsl (Qo faults) 0 faults.length,.sl 1 g1 0 (QI (⟨c,faults,cars,gos,tick,stopped,wrecked,rounds,gone⟩:Trk) l).cars.length 4,.sl 2 g2 0 (QI (⟨c,faults,cars,gos,tick,stopped,wrecked,rounds,gone⟩:Trk) l).gos.length 1,.int .i64 (QI (⟨c,faults,cars,gos,tick,stopped,wrecked,rounds,gone⟩:Trk) l).tick,.int .i64 (QI (⟨c,faults,cars,gos,tick,stopped,wrecked,rounds,gone⟩:Trk) l).stopped,.bool (QI (⟨c,faults,cars,gos,tick,stopped,wrecked,rounds,gone⟩:Trk) l).wrecked,.int .i64 (QI (⟨c,faults,cars,gos,tick,stopped,wrecked,rounds,gone⟩:Trk) l).rounds,.int .i64 (QI (⟨c,faults,cars,gos,tick,stopped,wrecked,rounds,gone⟩:Trk) l).gone],false⟩,⟨true,g1,4,true,(Qi (QI (⟨c,faults,cars,gos,tick,stopped,wrecked,rounds,gone⟩:Trk) l).cars),true⟩,⟨true,g2,1,true,(rowB (QI (⟨c,faults,cars,gos,tick,stopped,wrecked,rounds,gone⟩:Trk) l).gos),true⟩]:=QaL _ Try.func45 f45b rfl rfl fun E hE=>by
 obtain ⟨h,hB,hprs,hl⟩:=hh
 have hnb:=h.nb
 have hlc:=h.lc
 have htk:=h.tk
 have hlg:=h.lg
 simp only at hnb hlc htk hlg
 refine f45W l c faults cars gos tick stopped wrecked rounds gone g1 g2 (rv:=()) hE fun E2 hE2=>?_
 refine ⟨fun hw=>⟨⟨by omega,by omega⟩,?_⟩,fun hw=>?_⟩
 · rw [QI,if_pos (show ((⟨c,faults,cars,gos,tick,stopped,wrecked,rounds,gone⟩:Trk)).wrecked=true from hw)]
   exact ⟨rfl,rfl,rfl,rfl,rfl,rfl,rfl⟩
 -- the presses
 have loop:∀ st,Ve (⟨c,faults,cars,gos,tick,stopped,wrecked,rounds,gone⟩:Trk)=st→st<0→∀ (d i:Nat) (s:List Car × List Bool × List Bool),i+d=l.length→s=(l.take i).foldl (YW c (Qm (midT (⟨c,faults,cars,gos,tick,stopped,wrecked,rounds,gone⟩:Trk))) tick) (XS (⟨c,faults,cars,gos,tick,stopped,wrecked,rounds,gone⟩:Trk),gos,List.replicate c.blocks.length false) →
  YY E2 l c faults cars gos tick stopped wrecked rounds gone g1 g2 s.2.2 st s.1 (Qm (midT (⟨c,faults,cars,gos,tick,stopped,wrecked,rounds,gone⟩:Trk))).k1 (Qm (midT (⟨c,faults,cars,gos,tick,stopped,wrecked,rounds,gone⟩:Trk))).k2 (Qm (midT (⟨c,faults,cars,gos,tick,stopped,wrecked,rounds,gone⟩:Trk))).k3 i s.2.1:=by
  intro st hst hlt d
  induction d with
  | zero =>
   intro i s hi hs
   rw [show i=l.length by omega,List.take_length] at hs
   have hs':s=Xl (⟨c,faults,cars,gos,tick,stopped,wrecked,rounds,gone⟩:Trk) l:=hs
   have hp:=pres_ok (l:=l) h hw
   rw [← hs'] at hp
   have ha:actT (⟨c,faults,cars,gos,tick,stopped,wrecked,rounds,gone⟩:Trk) l=QP c (Qm (midT (⟨c,faults,cars,gos,tick,stopped,wrecked,rounds,gone⟩:Trk))) s.2.2 s.1 c.blocks.length ⟨s.1,s.2.1,rounds,gone⟩:=by
    rw [actT,if_pos (by rw [hst]; exact hlt),yu,← hs']
   have hin:BrkIn c s.1 (1000000*B) ⟨s.1,s.2.1,rounds,gone⟩:=⟨rfl,hp.lg,by have:=h.rd; simp only at this ⊢; omega,by have:=h.gn; simp only at this ⊢; omega⟩
   have hall:=hin.all (rd:=Qm (midT (⟨c,faults,cars,gos,tick,stopped,wrecked,rounds,gone⟩:Trk))) (ops:=s.2.2) (b:=c.blocks.length)
   have hcb:=yd (rd:=Qm (midT (⟨c,faults,cars,gos,tick,stopped,wrecked,rounds,gone⟩:Trk))) (ops:=s.2.2) (cars0:=s.1) (b:=c.blocks.length) (s:=⟨s.1,s.2.1,rounds,gone⟩) hnb.1 (show 0≤B+1 by omega) hp.car
   have hr:=h.rd; have hg:=h.gn
   simp only at hr hg
   have hlcar:=hp.lc
   have hla:=hall.lc
   simp only at hlcar
   refine f45W0 l c faults cars gos tick stopped wrecked rounds gone g1 g2 _ _ _ _ _ _ i _ (rv:=()) hE2 ⟨fun h=>by omega,fun _=>⟨⟨⟨hp.ns,fun x hx=>(hp.car x hx).ok (by omega)⟩,qy (T:=midT (⟨c,faults,cars,gos,tick,stopped,wrecked,rounds,gone⟩:Trk)),⟨by omega,hp.lg,hp.lo⟩,hnb,by omega,by omega⟩,Nat.le_trans (Nat.le_of_eq hall.lc) (by omega),⟨fun x hx=>?_,by rw [List.length_map]; exact Nat.le_trans (Nat.le_of_eq hall.lc) (by omega)⟩,⟨by omega,by omega⟩,?_⟩⟩
   · obtain ⟨y,hy,rfl⟩:=List.mem_map.1 hx
     exact (hcb y hy).inC
   · rw [QI,if_neg (show ¬ ((⟨c,faults,cars,gos,tick,stopped,wrecked,rounds,gone⟩:Trk)).wrecked=true by simp only [hw]; simp),ha,hst]
     exact ⟨rfl,rfl,rfl,rfl,rfl,rfl,rfl⟩
  | succ d ih =>
   intro i s hi hs
   have hx:l[i]?=some l[i]:=List.getElem?_eq_getElem (by omega)
   have hpi:=hprs _ (List.getElem_mem (show i<l.length by omega))
   generalize l[i]=p at hx hpi
   have hp:PresOk c (B+1) cars.length s:=by
    rw [hs]
    exact PresOk.fold ⟨Vm,hlg,by simp,Vn h,qx (h.ns hw)⟩
   have nx:=fun s' (e:s'=YW c (Qm (midT (⟨c,faults,cars,gos,tick,stopped,wrecked,rounds,gone⟩:Trk))) tick s p)=>ih (i+1) s' (by omega) (by rw [Vh hx,← hs]; exact e)
   have hlcar:=hp.lc
   refine f45W0 l c faults cars gos tick stopped wrecked rounds gone g1 g2 _ _ _ _ _ _ i _ (rv:=()) hE2 ⟨fun _=>⟨p,hx,fun e=>⟨⟨hpi,qy (T:=midT (⟨c,faults,cars,gos,tick,stopped,wrecked,rounds,gone⟩:Trk)),by omega,hp.lg,hp.lo⟩,by omega,nx _ ?_⟩,fun e=>⟨by omega,nx s ?_⟩⟩,fun h=>by omega⟩
   · rw [YW,if_pos e]
   · rw [YW,if_neg e]
 refine ⟨fun ht=>?_,fun ht=>?_⟩
 · have hroll:XS (⟨c,faults,cars,gos,tick,stopped,wrecked,rounds,gone⟩:Trk)=(cars.map (Qr c)):=by rw [XS,if_pos (show ((⟨c,faults,cars,gos,tick,stopped,wrecked,rounds,gone⟩:Trk)).tick > 0 from ht)]
   have hmid:(⟨c,faults,(cars.map (Qr c)),gos,tick,stopped,wrecked,rounds,gone⟩:Trk)=midT (⟨c,faults,cars,gos,tick,stopped,wrecked,rounds,gone⟩:Trk):=by rw [midT,hroll]
   have hlen:((cars.map (Qr c))).length=cars.length:=by first | rfl | (have:=Vm (T:=(⟨c,faults,cars,gos,tick,stopped,wrecked,rounds,gone⟩:Trk)); rw [hroll] at this; exact this)
   have hcar:∀ x ∈ (cars.map (Qr c)),CarB c (B+1) x:=by have:=Vn h; rw [hroll] at this; exact this
   have htin:TrkIn (⟨c,faults,(cars.map (Qr c)),gos,tick,stopped,wrecked,rounds,gone⟩:Trk):=⟨⟨by simp only [hlen]; omega,fun x hx=>(hcar x hx).inC⟩,h.flt,by have:=h.lf; simpa using this,by simp only; omega⟩
   have hst:∀ y,(if stopped<0 then (if Xd (Qm (midT (⟨c,faults,cars,gos,tick,stopped,wrecked,rounds,gone⟩:Trk)))=true then tick else stopped) else stopped)=y→Ve (⟨c,faults,cars,gos,tick,stopped,wrecked,rounds,gone⟩:Trk)=y:=fun y h=>h
   have fin:∀ st,Ve (⟨c,faults,cars,gos,tick,stopped,wrecked,rounds,gone⟩:Trk)=st→¬ st<0→(((⟨c,faults,(cars.map (Qr c)),gos,tick,st,wrecked,rounds,gone⟩:Trk).cars.length≤2147483648)∧(((∀ x ∈ ((⟨c,faults,(cars.map (Qr c)),gos,tick,st,wrecked,rounds,gone⟩:Trk).cars.map Car.spot),InC c x.block)∧((⟨c,faults,(cars.map (Qr c)),gos,tick,st,wrecked,rounds,gone⟩:Trk).cars.map Car.spot).length≤2147483648)∧((-1000000000000≤tick∧tick≤1000000000000)∧(QI (⟨c,faults,cars,gos,tick,stopped,wrecked,rounds,gone⟩:Trk) l).tick=(tick+1)∧(QI (⟨c,faults,cars,gos,tick,stopped,wrecked,rounds,gone⟩:Trk) l).stopped=st∧(QI (⟨c,faults,cars,gos,tick,stopped,wrecked,rounds,gone⟩:Trk) l).wrecked=(decide ((QH c ((⟨c,faults,(cars.map (Qr c)),gos,tick,st,wrecked,rounds,gone⟩:Trk).cars.map Car.spot)).2≥0))∧(QI (⟨c,faults,cars,gos,tick,stopped,wrecked,rounds,gone⟩:Trk) l).rounds=rounds∧(QI (⟨c,faults,cars,gos,tick,stopped,wrecked,rounds,gone⟩:Trk) l).gone=gone∧(QI (⟨c,faults,cars,gos,tick,stopped,wrecked,rounds,gone⟩:Trk) l).cars=(cars.map (Qr c))∧(QI (⟨c,faults,cars,gos,tick,stopped,wrecked,rounds,gone⟩:Trk) l).gos=gos))):=fun st e1 e2=>by
    have ha:actT (⟨c,faults,cars,gos,tick,stopped,wrecked,rounds,gone⟩:Trk) l=⟨(cars.map (Qr c)),gos,rounds,gone⟩:=by rw [actT,if_neg (by rw [e1]; exact e2),hroll]
    refine ⟨by simp only [hlen]; omega,⟨fun x hx=>?_,by simp only [List.length_map,hlen]; omega⟩,⟨by omega,by omega⟩,?_⟩
    · obtain ⟨y,hy,rfl⟩:=List.mem_map.1 hx
      exact (hcar y hy).inC
    · rw [QI,if_neg (show ¬ ((⟨c,faults,cars,gos,tick,stopped,wrecked,rounds,gone⟩:Trk)).wrecked=true by simp only [hw]; simp),ha,e1]
      exact ⟨rfl,rfl,rfl,rfl,rfl,rfl,rfl⟩
   have loop0:∀ st,Ve (⟨c,faults,cars,gos,tick,stopped,wrecked,rounds,gone⟩:Trk)=st→st<0→YY E2 l c faults cars gos tick stopped wrecked rounds gone g1 g2 (List.replicate c.blocks.length false) st ((cars.map (Qr c))) (Qm (⟨c,faults,(cars.map (Qr c)),gos,tick,stopped,wrecked,rounds,gone⟩:Trk)).k1 (Qm (⟨c,faults,(cars.map (Qr c)),gos,tick,stopped,wrecked,rounds,gone⟩:Trk)).k2 (Qm (⟨c,faults,(cars.map (Qr c)),gos,tick,stopped,wrecked,rounds,gone⟩:Trk)).k3 0 gos:=fun st e1 e2=>by
    have:=loop st e1 e2 l.length 0 _ (by omega) rfl
    simp only [List.take_zero,List.foldl_nil] at this
    rw [hroll] at this
    rw [hmid]; exact this
   have hlk:∀ x ∈ [([]:List Said),(Qm (⟨c,faults,(cars.map (Qr c)),gos,tick,stopped,wrecked,rounds,gone⟩:Trk)).k1,(Qm (⟨c,faults,(cars.map (Qr c)),gos,tick,stopped,wrecked,rounds,gone⟩:Trk)).k2,(Qm (⟨c,faults,(cars.map (Qr c)),gos,tick,stopped,wrecked,rounds,gone⟩:Trk)).k3],x.length≤9223372036854775807:=by
    have hl:=qy (T:=(⟨c,faults,(cars.map (Qr c)),gos,tick,stopped,wrecked,rounds,gone⟩:Trk))
    have h1:=hl.l1; have h2:=hl.l2; have h3:=hl.l3
    simp only at h1 h2 h3
    intro x hx
    simp only [List.mem_cons,List.not_mem_nil,or_false] at hx
    rcases hx with rfl | rfl | rfl | rfl
    · simp
    · omega
    · omega
    · omega
   refine ⟨⟨fun x hx=>(h.car x hx).ok (by omega),by omega⟩,htin,fun hs=>⟨⟨by simp,hlk⟩,fun hsp=>⟨fun ht=>⟨by omega,loop0 tick (hst _ ?_) ht⟩,fun ht=>fin tick (hst _ ?_) ht⟩,fun hsp=>⟨fun ht=>⟨by omega,loop0 stopped (hst _ ?_) ht⟩,fun ht=>fin stopped (hst _ ?_) ht⟩⟩,fun hs=>⟨fun ht=>absurd ht hs,fun ht=>fin stopped (hst _ ?_) ht⟩⟩
   · have hsp':Xd (Qm (⟨c,faults,(cars.map (Qr c)),gos,tick,stopped,wrecked,rounds,gone⟩:Trk))=true:=hsp
     rw [if_pos hs,← hmid,if_pos hsp']
   · have hsp':Xd (Qm (⟨c,faults,(cars.map (Qr c)),gos,tick,stopped,wrecked,rounds,gone⟩:Trk))=true:=hsp
     rw [if_pos hs,← hmid,if_pos hsp']
   · have hsp':Xd (Qm (⟨c,faults,(cars.map (Qr c)),gos,tick,stopped,wrecked,rounds,gone⟩:Trk))=false:=hsp
     rw [if_pos hs,← hmid,if_neg (by rw [hsp']; simp)]
   · have hsp':Xd (Qm (⟨c,faults,(cars.map (Qr c)),gos,tick,stopped,wrecked,rounds,gone⟩:Trk))=false:=hsp
     rw [if_pos hs,← hmid,if_neg (by rw [hsp']; simp)]
   · rw [if_neg hs]
 · have hroll:XS (⟨c,faults,cars,gos,tick,stopped,wrecked,rounds,gone⟩:Trk)=cars:=by rw [XS,if_neg (show ¬ ((⟨c,faults,cars,gos,tick,stopped,wrecked,rounds,gone⟩:Trk)).tick > 0 from ht)]
   have hmid:(⟨c,faults,cars,gos,tick,stopped,wrecked,rounds,gone⟩:Trk)=midT (⟨c,faults,cars,gos,tick,stopped,wrecked,rounds,gone⟩:Trk):=by rw [midT,hroll]
   have hlen:(cars).length=cars.length:=by first | rfl | (have:=Vm (T:=(⟨c,faults,cars,gos,tick,stopped,wrecked,rounds,gone⟩:Trk)); rw [hroll] at this; exact this)
   have hcar:∀ x ∈ cars,CarB c (B+1) x:=by have:=Vn h; rw [hroll] at this; exact this
   have htin:TrkIn (⟨c,faults,cars,gos,tick,stopped,wrecked,rounds,gone⟩:Trk):=⟨⟨by simp only [hlen]; omega,fun x hx=>(hcar x hx).inC⟩,h.flt,by have:=h.lf; simpa using this,by simp only; omega⟩
   have hst:∀ y,(if stopped<0 then (if Xd (Qm (midT (⟨c,faults,cars,gos,tick,stopped,wrecked,rounds,gone⟩:Trk)))=true then tick else stopped) else stopped)=y→Ve (⟨c,faults,cars,gos,tick,stopped,wrecked,rounds,gone⟩:Trk)=y:=fun y h=>h
   have fin:∀ st,Ve (⟨c,faults,cars,gos,tick,stopped,wrecked,rounds,gone⟩:Trk)=st→¬ st<0→(((⟨c,faults,cars,gos,tick,st,wrecked,rounds,gone⟩:Trk).cars.length≤2147483648)∧(((∀ x ∈ ((⟨c,faults,cars,gos,tick,st,wrecked,rounds,gone⟩:Trk).cars.map Car.spot),InC c x.block)∧((⟨c,faults,cars,gos,tick,st,wrecked,rounds,gone⟩:Trk).cars.map Car.spot).length≤2147483648)∧((-1000000000000≤tick∧tick≤1000000000000)∧(QI (⟨c,faults,cars,gos,tick,stopped,wrecked,rounds,gone⟩:Trk) l).tick=(tick+1)∧(QI (⟨c,faults,cars,gos,tick,stopped,wrecked,rounds,gone⟩:Trk) l).stopped=st∧(QI (⟨c,faults,cars,gos,tick,stopped,wrecked,rounds,gone⟩:Trk) l).wrecked=(decide ((QH c ((⟨c,faults,cars,gos,tick,st,wrecked,rounds,gone⟩:Trk).cars.map Car.spot)).2≥0))∧(QI (⟨c,faults,cars,gos,tick,stopped,wrecked,rounds,gone⟩:Trk) l).rounds=rounds∧(QI (⟨c,faults,cars,gos,tick,stopped,wrecked,rounds,gone⟩:Trk) l).gone=gone∧(QI (⟨c,faults,cars,gos,tick,stopped,wrecked,rounds,gone⟩:Trk) l).cars=cars∧(QI (⟨c,faults,cars,gos,tick,stopped,wrecked,rounds,gone⟩:Trk) l).gos=gos))):=fun st e1 e2=>by
    have ha:actT (⟨c,faults,cars,gos,tick,stopped,wrecked,rounds,gone⟩:Trk) l=⟨cars,gos,rounds,gone⟩:=by rw [actT,if_neg (by rw [e1]; exact e2),hroll]
    refine ⟨by simp only [hlen]; omega,⟨fun x hx=>?_,by simp only [List.length_map,hlen]; omega⟩,⟨by omega,by omega⟩,?_⟩
    · obtain ⟨y,hy,rfl⟩:=List.mem_map.1 hx
      exact (hcar y hy).inC
    · rw [QI,if_neg (show ¬ ((⟨c,faults,cars,gos,tick,stopped,wrecked,rounds,gone⟩:Trk)).wrecked=true by simp only [hw]; simp),ha,e1]
      exact ⟨rfl,rfl,rfl,rfl,rfl,rfl,rfl⟩
   have loop0:∀ st,Ve (⟨c,faults,cars,gos,tick,stopped,wrecked,rounds,gone⟩:Trk)=st→st<0→YY E2 l c faults cars gos tick stopped wrecked rounds gone g1 g2 (List.replicate c.blocks.length false) st (cars) (Qm (⟨c,faults,cars,gos,tick,stopped,wrecked,rounds,gone⟩:Trk)).k1 (Qm (⟨c,faults,cars,gos,tick,stopped,wrecked,rounds,gone⟩:Trk)).k2 (Qm (⟨c,faults,cars,gos,tick,stopped,wrecked,rounds,gone⟩:Trk)).k3 0 gos:=fun st e1 e2=>by
    have:=loop st e1 e2 l.length 0 _ (by omega) rfl
    simp only [List.take_zero,List.foldl_nil] at this
    rw [hroll] at this
    rw [hmid]; exact this
   have hlk:∀ x ∈ [([]:List Said),(Qm (⟨c,faults,cars,gos,tick,stopped,wrecked,rounds,gone⟩:Trk)).k1,(Qm (⟨c,faults,cars,gos,tick,stopped,wrecked,rounds,gone⟩:Trk)).k2,(Qm (⟨c,faults,cars,gos,tick,stopped,wrecked,rounds,gone⟩:Trk)).k3],x.length≤9223372036854775807:=by
    have hl:=qy (T:=(⟨c,faults,cars,gos,tick,stopped,wrecked,rounds,gone⟩:Trk))
    have h1:=hl.l1; have h2:=hl.l2; have h3:=hl.l3
    simp only at h1 h2 h3
    intro x hx
    simp only [List.mem_cons,List.not_mem_nil,or_false] at hx
    rcases hx with rfl | rfl | rfl | rfl
    · simp
    · omega
    · omega
    · omega
   refine ⟨ htin,fun hs=>⟨⟨by simp,hlk⟩,fun hsp=>⟨fun ht=>⟨by omega,loop0 tick (hst _ ?_) ht⟩,fun ht=>fin tick (hst _ ?_) ht⟩,fun hsp=>⟨fun ht=>⟨by omega,loop0 stopped (hst _ ?_) ht⟩,fun ht=>fin stopped (hst _ ?_) ht⟩⟩,fun hs=>⟨fun ht=>absurd ht hs,fun ht=>fin stopped (hst _ ?_) ht⟩⟩
   · have hsp':Xd (Qm (⟨c,faults,cars,gos,tick,stopped,wrecked,rounds,gone⟩:Trk))=true:=hsp
     rw [if_pos hs,← hmid,if_pos hsp']
   · have hsp':Xd (Qm (⟨c,faults,cars,gos,tick,stopped,wrecked,rounds,gone⟩:Trk))=true:=hsp
     rw [if_pos hs,← hmid,if_pos hsp']
   · have hsp':Xd (Qm (⟨c,faults,cars,gos,tick,stopped,wrecked,rounds,gone⟩:Trk))=false:=hsp
     rw [if_pos hs,← hmid,if_neg (by rw [hsp']; simp)]
   · have hsp':Xd (Qm (⟨c,faults,cars,gos,tick,stopped,wrecked,rounds,gone⟩:Trk))=false:=hsp
     rw [if_pos hs,← hmid,if_neg (by rw [hsp']; simp)]
   · rw [if_neg hs]
end Go.Proofs.Ytgdfkjjgdkejfaa
namespace Go.Proofs.Ytgdfkjjgdkejfaa
open Go Ax
open Go.Proofs
theorem qq {nb:Nat} {l:List Int}:∀ {n:Nat},n≤l.length→YD nb l n=true→(∀ i,i<n→0≤l.getD i 0∧l.getD i 0<nb)∧∀ i j,i<j→j<n→l.getD i 0 ≠ l.getD j 0
 | 0,_,_=>⟨fun i h=>by omega,fun i j h h'=>by omega⟩
 | n+1,hn,h=>by
  simp only [YD,Bool.and_eq_true,Bool.not_eq_true'] at h
  obtain ⟨⟨h1,h2⟩,h3⟩:=h
  obtain ⟨a,b⟩:=qq (by omega) h1
  have hw:=Xi.1 h2
  refine ⟨fun i hi=>?_,fun i j hij hj=>?_⟩
  · rcases Nat.lt_or_ge i n with h4 | h4
    · exact a i h4
    · rw [show i=n by omega]; omega
  · rcases Nat.lt_or_ge j n with h4 | h4
    · exact b i j hij h4
    · have e:j=n:=by omega
      subst e
      have:=List.any_eq_false.1 h3 (l.getD i 0) (List.mem_of_getElem? (i:=i) (by rw [List.getElem?_take,if_pos hij]; exact getD_some (by omega)))
      simp only [beq_iff_eq] at this
      exact fun h=>this h.symm
structure ChkIn (c:Cir):Prop where
 nb:2≤c.blocks.length∧c.blocks.length≤12
 nc:c.cars.length≤10
 bk:∀ b ∈ c.blocks,(1≤b.time∧b.time≤30)∧(0≤b.hold∧b.hold≤30)∧(b.station=false→b.hold=0)
 cin:∀ i,i<c.cars.length→0≤c.cars.getD i 0∧c.cars.getD i 0<c.blocks.length
 ne:∀ i j,i<j→j<c.cars.length→c.cars.getD i 0 ≠ c.cars.getD j 0
theorem chk_in {c:Cir} (h:QK c=0):ChkIn c:=by
 have h:=checkC_eq.1 h
 simp only [VJ,Bool.and_eq_true,decide_eq_true_eq] at h
 obtain ⟨⟨⟨h1,h2⟩,h3⟩,h4⟩:=h
 have h1:=Xi.1 h1
 obtain ⟨a,b⟩:=qq (Nat.le_refl _) h4
 refine ⟨by omega,h2,fun x hx=>?_,a,b⟩
 have:=List.all_eq_true.1 h3 x hx
 simp only [bkOk,Bool.and_eq_true] at this
 obtain ⟨⟨q1,q2⟩,q3⟩:=this
 refine ⟨by have:=Xi.1 q1; omega,by have:=Xi.1 q2; omega,fun h=>?_⟩
 rw [h] at q3; simpa using q3
structure PlayIn (c:Cir) (ticks:Int) (l:List Prs) (f:List Flt):Prop where
 chk:ChkIn c
 tk:0≤ticks∧ticks≤500
 nl:l.length≤200
 pr:∀ p ∈ l,(0≤p.at_∧p.at_≤ticks - 1)∧(1≤p.kind∧p.kind≤3)∧(0≤p.block∧p.block≤(c.blocks.length:Int) - 1)
 nf:f.length≤5
 fl:∀ x ∈ f,(0≤x.frm∧x.frm≤500)∧(1≤x.kind∧x.kind≤3)∧(0≤x.chan∧x.chan≤1)∧(0≤x.block∧x.block≤(c.blocks.length:Int) - 1)∧(0≤x.val∧x.val≤1)
theorem play_in {c:Cir} {ticks:Int} {l:List Prs} {f:List Flt} (h:Xp c ticks l f=0):QK c=0∧PlayIn c ticks l f:=by
 unfold Xp at h
 split at h
 · rename_i h0
   split at h
   · rename_i h1
     split at h
     · cases h
     · rename_i h2
       split at h
       · cases h
       · rename_i h3
         split at h
         · cases h
         · rename_i h4
           split at h
           · cases h
           · rename_i h5
             have h1:=Xi.1 h1
             refine ⟨h0,chk_in h0,by omega,by omega,fun p hp=>?_,by omega,fun x hx=>?_⟩
             · have:=List.any_eq_false.1 (Bool.eq_false_iff.2 h3) p hp
               simp only [Bool.not_eq_true',Bool.not_eq_false,XW,Bool.and_eq_true] at this
               obtain ⟨⟨q1,q2⟩,q3⟩:=this
               have q1:=Xi.1 q1; have q2:=Xi.1 q2; have q3:=Xi.1 q3
               omega
             · have:=List.any_eq_false.1 (Bool.eq_false_iff.2 h5) x hx
               simp only [Bool.not_eq_true',Bool.not_eq_false,Yk,Bool.and_eq_true] at this
               obtain ⟨⟨⟨⟨q1,q2⟩,q3⟩,q4⟩,q5⟩:=this
               have q1:=Xi.1 q1; have q2:=Xi.1 q2; have q3:=Xi.1 q3; have q4:=Xi.1 q4; have q5:=Xi.1 q5
               omega
   · cases h
 · exact absurd h ‹_›
/-- A track before the first tick. -/
def newT (c:Cir) (f:List Flt):Trk:=⟨c,f,c.cars.map fun b=>⟨⟨b,(bkAt c b).time,false⟩,0⟩,List.replicate c.blocks.length false,0,-1,false,0,0⟩
def NewIn (c:Cir):Prop:=c.blocks.length≤1000000∧c.cars.length≤1000000∧∀ b ∈ c.cars,InC c b
theorem ChkIn.new {c:Cir} (h:ChkIn c):NewIn c:=⟨by have:=h.nb; omega,by have:=h.nc; omega,fun b hb=>by
 obtain ⟨i,hi⟩:=List.getElem?_of_mem hb
 have:=h.cin i (List.getElem?_eq_some_iff.1 hi).1
 rw [Wd hi] at this
 exact ⟨this.1,by omega⟩⟩
def StepIn (T:Trk) (l:List Prs):Prop:=∃ B,TOk T B∧B≤100000∧PrsIn T.c l∧l.length≤2147483648
def runT (T:Trk) (l:Nat→List Prs):Nat→Trk
 | 0=>T
 | n+1=>QI (runT T l n) (l n)
theorem step_c {T:Trk} {l:List Prs}:(QI T l).c=T.c:=by unfold QI; split <;> rfl
theorem step_f {T:Trk} {l:List Prs}:(QI T l).faults=T.faults:=by unfold QI; split <;> rfl
theorem run_c {T:Trk} {l:Nat→List Prs}:∀ {n:Nat},(runT T l n).c=T.c
 | 0=>rfl
 | n+1=>by rw [runT,step_c,run_c]
theorem run_f {T:Trk} {l:Nat→List Prs}:∀ {n:Nat},(runT T l n).faults=T.faults
 | 0=>rfl
 | n+1=>by rw [runT,step_f,run_f]
theorem new_tok {c:Cir} {f:List Flt} (h:ChkIn c) (hf:f.length≤5) (hc:∀ x ∈ f,x.chan=0 ∨ x.chan=1):TOk (newT c f) 30:=by
 have hn:=h.new
 refine ⟨by have:=h.nb; simp only [newT]; omega,by have:=h.nc; simp only [newT,List.length_map]; omega,by simp only [newT]; omega,hc,by simp [newT],fun x hx=>?_,by simp [newT],by simp [newT],by simp [newT],fun _ i j hij hj=>?_⟩
 · obtain ⟨b,hb,rfl⟩:=List.mem_map.1 hx
   have hin:=hn.2.2 b hb
   have:=h.bk _ (List.mem_of_getElem? (QaW hin))
   exact ⟨hin,by simp only; omega,by simp only; omega⟩
 · simp only [newT,List.length_map] at hj ⊢
   rw [Vf (d:=0) (by omega),Vf (d:=0) hj]
   exact h.ne i j hij hj
theorem run_tok {T:Trk} {B:Int} {l:Nat→List Prs} (h:TOk T B):∀ {n:Nat},TOk (runT T l n) (B+n)
 | 0=>by rw [show B+((0:Nat):Int)=B by omega]; exact h
 | n+1=>by
  rw [show B+((n+1:Nat):Int)=B+n+1 by omega]
  exact step_tok (run_tok h)
theorem PlayIn.tok {c:Cir} {ticks:Int} {l:List Prs} {f:List Flt} (h:PlayIn c ticks l f):TOk (newT c f) 30:=new_tok h.chk h.nf fun x hx=>by have:=(h.fl x hx).2.2.1; omega
theorem PlayIn.prs {c:Cir} {ticks:Int} {l:List Prs} {f:List Flt} (h:PlayIn c ticks l f):PrsIn c l:=fun p hp=>by
 have:=h.pr p hp
 exact ⟨⟨this.2.2.1,by omega⟩,by omega⟩
/-- What is played: the track before each tick. -/
def XB (c:Cir) (f:List Flt) (l:List Prs) (n:Nat):Trk:=runT (newT c f) (fun _=>l) n
def XO (c:Cir) (ticks:Int) (l:List Prs) (f:List Flt):List (List Spt) × Int :=
 if Xp c ticks l f=0 then ((List.range (Int.toNat ticks)).map fun i=>(XB c f l (i+1)).cars.map Car.spot,0) else ([],Xp c ticks l f)
def Va (c:Cir) (ticks:Int) (l:List Prs) (f:List Flt):Int × Int :=
 if Xp c ticks l f=0 then ((XB c f l (Int.toNat ticks)).stopped,0) else (0,Xp c ticks l f)
theorem trk_eta {T:Trk} {c:Cir} {f:List Flt} (hc:T.c=c) (hf:T.faults=f):(⟨c,f,T.cars,T.gos,T.tick,T.stopped,T.wrecked,T.rounds,T.gone⟩:Trk)=T:=by subst hc; subst hf; rfl
theorem step2_ok (l:List Prs) (c:Cir) (faults:List Flt) (cars:List Car) (gos:List Bool) (tick stopped:Int) (wrecked:Bool) (rounds gone:Int) (g1 g2:Nat) (hh:StepIn (⟨c,faults,cars,gos,tick,stopped,wrecked,rounds,gone⟩:Trk) l) :
 Lent Try.prog 45 [.ptr 0 0 0,.rsl (QV l) 0 l.length] [⟨true,0,1,false,[.rsl (Qk c.blocks) 0 c.blocks.length,.rsl (rowI c.cars) 0 c.cars.length,.rsl (Qo faults) 0 faults.length,.sl 1 g1 0 cars.length 4,.sl 2 g2 0 gos.length 1,.int .i64 tick,.int .i64 stopped,.bool wrecked,.int .i64 rounds,.int .i64 gone],false⟩,⟨true,g1,4,true,(Qi cars),true⟩,⟨true,g2,1,true,(rowB gos),true⟩] (.tup []) [⟨true,0,1,false,[.rsl (Qk c.blocks) 0 c.blocks.length,.rsl (rowI c.cars) 0 c.cars.length,.rsl (Qo faults) 0 faults.length,.sl 1 g1 0 (QI (⟨c,faults,cars,gos,tick,stopped,wrecked,rounds,gone⟩:Trk) l).cars.length 4,.sl 2 g2 0 (QI (⟨c,faults,cars,gos,tick,stopped,wrecked,rounds,gone⟩:Trk) l).gos.length 1,.int .i64 (QI (⟨c,faults,cars,gos,tick,stopped,wrecked,rounds,gone⟩:Trk) l).tick,.int .i64 (QI (⟨c,faults,cars,gos,tick,stopped,wrecked,rounds,gone⟩:Trk) l).stopped,.bool (QI (⟨c,faults,cars,gos,tick,stopped,wrecked,rounds,gone⟩:Trk) l).wrecked,.int .i64 (QI (⟨c,faults,cars,gos,tick,stopped,wrecked,rounds,gone⟩:Trk) l).rounds,.int .i64 (QI (⟨c,faults,cars,gos,tick,stopped,wrecked,rounds,gone⟩:Trk) l).gone],false⟩,⟨true,g1,4,true,(Qi (QI (⟨c,faults,cars,gos,tick,stopped,wrecked,rounds,gone⟩:Trk) l).cars),true⟩,⟨true,g2,1,true,(rowB (QI (⟨c,faults,cars,gos,tick,stopped,wrecked,rounds,gone⟩:Trk) l).gos),true⟩]:=by
 obtain ⟨B,h⟩:=hh
 exact step_ok l c faults cars gos tick stopped wrecked rounds gone g1 g2 B h
theorem f44b:Try.f44.body=some (Qh Try.prog 44):=by kernel_rfl
def f44K0 (P:Program):List Item:=kAt 400 [.code (Qh P 44)] [.stop]
def f44S0 (c:Cir) (f:(List Flt)) (v1:List Bool) (i:Nat) (v3:List Car):St:=⟨([J,J,.ptr 0 0 0,J,J,.ptr 2 0 0]++jj 11 ([.rsl (rowI c.cars) 0 c.cars.length,.int .i64 (c.cars.length:Int),.int .i64 (i:Int)]++Js 23)),[⟨true,0,1,true,[.rsl (Qk c.blocks) 0 c.blocks.length,.rsl (rowI c.cars) 0 c.cars.length],false⟩,⟨true,0,1,true,(rowB v1),true⟩,⟨true,0,1,false,[.rsl (Qk c.blocks) 0 c.blocks.length,.rsl (rowI c.cars) 0 c.cars.length,.rsl (Qo f) 0 f.length,.sl 3 i 0 v3.length 4,.sl 1 0 0 v1.length 1,.int .i64 0,.int .i64 (-1),.bool false,.int .i64 0,.int .i64 0],false⟩,⟨true,i,4,true,(Qi v3),true⟩]⟩
def f44G0 (E:Env) (c:Cir) (f:(List Flt)) (v1:List Bool) (i:Nat) (v3:List Car):Prop:=G Try.prog E (f44K0 Try.prog) (f44S0 c f v1 i v3 )
abbrev z44_1 (c:Cir):List AV:=[.rsl (Qk c.blocks) 0 c.blocks.length,.rsl (rowI c.cars) 0 c.cars.length]
theorem p44_start_0 (c:Cir) (f:(List Flt)) {E:Env} {rv:AV} {bs2:List Blk} (hE:LentE Try.prog 44 [] rv bs2 E) (ho:AllP [0≤(c.blocks.length:Int)∧(c.blocks.length:Int)≤(c.blocks.length:Int)∧(c.blocks.length:Int)≤2147483648])
 (hg:G Try.prog E (f44K0 Try.prog) ⟨([J,J,.ptr 0 0 0,J,J,.ptr 2 0 0]++jj 11 ([.rsl (rowI c.cars) 0 c.cars.length,.int .i64 (c.cars.length:Int),.int .i64 0]++Js 23)),[⟨true,0,1,true,(z44_1 c),false⟩,⟨true,0,1,true,((List.replicate (Int.toNat (c.blocks.length:Int)) ([.bool false]:List AV)).flatten),true⟩,⟨true,0,1,false,[.rsl (Qk c.blocks) 0 c.blocks.length,.rsl (rowI c.cars) 0 c.cars.length,.rsl (Qo f) 0 f.length,.sl 3 0 0 0 4,.sl 1 0 0 (Int.toNat (c.blocks.length:Int)) 1,.int .i64 0,.int .i64 (-1),.bool false,.int .i64 0,.int .i64 0],false⟩,⟨true,0,4,true,[],true⟩]⟩):G Try.prog E [.code (Qh Try.prog 44)] ⟨[.agg (z44_1 c),.rsl (Qo f) 0 f.length]++unds (Try.f44.ntmps - 2),[]⟩ :=
 Qg (n:=400) (ds:=[]) (cs:=[(2,3,4)]) (live:=[2,5,17,18,19]) (m:=4) (evs:=[.stop]) (obs:=_) hE.kind (hE.nogh0 _) Ql (by kernel_rfl) ho hg
theorem f44W (c:Cir) (f:(List Flt)) {E:Env} {rv:Unit} {gos2:List Bool} {cars2:List Car} {gc:Nat} (hE:LentE Try.prog 44 [] (.ptr 2 0 0) [⟨true,0,1,true,[.rsl (Qk c.blocks) 0 c.blocks.length,.rsl (rowI c.cars) 0 c.cars.length],false⟩,⟨true,0,1,true,(rowB gos2),true⟩,⟨true,0,1,false,[.rsl (Qk c.blocks) 0 c.blocks.length,.rsl (rowI c.cars) 0 c.cars.length,.rsl (Qo f) 0 f.length,.sl 3 gc 0 cars2.length 4,.sl 1 0 0 gos2.length 1,.int .i64 0,.int .i64 (-1),.bool false,.int .i64 0,.int .i64 0],false⟩,⟨true,gc,4,true,(Qi cars2),true⟩] E)
 (h:(c.blocks.length≤2147483648∧f44G0 E c f (List.replicate c.blocks.length (false:Bool)) 0 ([]))):G Try.prog E [.code (Qh Try.prog 44)] ⟨[.agg [.rsl (Qk c.blocks) 0 c.blocks.length,.rsl (rowI c.cars) 0 c.cars.length],.rsl (Qo f) 0 f.length]++unds (Try.f44.ntmps - 2),[]⟩:=by
 obtain ⟨h1,h⟩:=h
 refine p44_start_0 c f hE ⟨⟨by omega,by omega,by have:=h1; omega⟩,trivial⟩ ?_
 have h:=h
 simp only [f44G0,f44S0,List.length_set,List.length_replicate] at h
 rw [(show (List.replicate (Int.toNat (c.blocks.length:Int)) ([.bool false]:List AV)).flatten=rowB (List.replicate c.blocks.length (false:Bool)) from Wy cB _ _)]
 exact h
theorem p44_0_0 (c:Cir) (f:(List Flt)) (v1:List Bool) (i:Nat) (v3:List Car) (e:Int) (be:Bk) {E:Env} {rv:AV} {bs2:List Blk} (hE:LentE Try.prog 44 [] rv bs2 E) (ho:AllP [(decide ((i:Int)<(c.cars.length:Int)))=true,0≤(i:Int)∧(i:Int)<(c.cars.length:Int),((rowI c.cars).drop (0+(Int.toNat (i:Int))*1)).take 1=[.int .i64 e],0≤e∧e<(c.blocks.length:Int),((Qk c.blocks).drop ((0+(Int.toNat e)*4)+0)).take 1=[.int .i64 be.time],i=i,(0+(v3.length*4))=(Qi v3).length,(v3.length+1)≤2147483648,0=0,4≤10,InR .i64 ((i:Int)+1)])
 (hg:G Try.prog E (f44K0 Try.prog) ⟨([J,J,.ptr 0 0 0,J,J,.ptr 2 0 0]++jj 11 ([.rsl (rowI c.cars) 0 c.cars.length,.int .i64 (c.cars.length:Int),.int .i64 ((i:Int)+1)]++Js 23)),[⟨true,0,1,true,(z44_1 c),false⟩,⟨true,0,1,true,(rowB v1),true⟩,⟨true,0,1,false,[.rsl (Qk c.blocks) 0 c.blocks.length,.rsl (rowI c.cars) 0 c.cars.length,.rsl (Qo f) 0 f.length,.sl 3 (i+1) 0 (v3.length+1) 4,.sl 1 0 0 v1.length 1,.int .i64 0,.int .i64 (-1),.bool false,.int .i64 0,.int .i64 0],false⟩,⟨true,(i+1),4,true,((Qi v3)++[.int .i64 e,.int .i64 be.time,.bool false,.int .i64 0]),true⟩]⟩):G Try.prog E (f44K0 Try.prog) (f44S0 c f v1 i v3 ) :=
 Qg (n:=400) (ds:=[]) (cs:=[]) (live:=[2,5,17,18,19]) (m:=4) (evs:=[.b true,.ld (.int .i64 e),.auto,.auto,.ld (.int .i64 be.time),.stop]) (obs:=_) hE.kind (hE.nogh0 _) Ql (by kernel_rfl) ho hg
theorem p44_0_1 (c:Cir) (f:(List Flt)) (v1:List Bool) (i:Nat) (v3:List Car) {E:Env} {res:AV} {bs2:List Blk} (hE:LentE Try.prog 44 [] res bs2 E) (ho:AllP [(decide ((i:Int)<(c.cars.length:Int)))=false])
 (hr:(.ptr 2 0 0)=res) (hb:[⟨true,0,1,true,(z44_1 c),false⟩,⟨true,0,1,true,(rowB v1),true⟩,⟨true,0,1,false,[.rsl (Qk c.blocks) 0 c.blocks.length,.rsl (rowI c.cars) 0 c.cars.length,.rsl (Qo f) 0 f.length,.sl 3 i 0 v3.length 4,.sl 1 0 0 v1.length 1,.int .i64 0,.int .i64 (-1),.bool false,.int .i64 0,.int .i64 0],false⟩,⟨true,i,4,true,(Qi v3),true⟩]=bs2):G Try.prog E (f44K0 Try.prog) (f44S0 c f v1 i v3 ) :=
 XK (n:=400) (live:=[4]) (m:=4) (evs:=[.b false]) (obs:=_) hE (hE.nogh0 _) Try.func44 Ql (by kernel_rfl) ho hr hb
theorem f44W0 (c:Cir) (f:(List Flt)) (v1:List Bool) (i:Nat) (v3:List Car) {E:Env} {rv:Unit} {gos2:List Bool} {cars2:List Car} {gc:Nat} (hE:LentE Try.prog 44 [] (.ptr 2 0 0) [⟨true,0,1,true,[.rsl (Qk c.blocks) 0 c.blocks.length,.rsl (rowI c.cars) 0 c.cars.length],false⟩,⟨true,0,1,true,(rowB gos2),true⟩,⟨true,0,1,false,[.rsl (Qk c.blocks) 0 c.blocks.length,.rsl (rowI c.cars) 0 c.cars.length,.rsl (Qo f) 0 f.length,.sl 3 gc 0 cars2.length 4,.sl 1 0 0 gos2.length 1,.int .i64 0,.int .i64 (-1),.bool false,.int .i64 0,.int .i64 0],false⟩,⟨true,gc,4,true,(Qi cars2),true⟩] E)
 (h:(((i:Int)<(c.cars.length:Int)→(∃ e:Int,c.cars[i]?=some e∧(0≤e∧(∃ be:Bk,c.blocks[Int.toNat e]?=some be∧((v3.length+1)≤2147483648∧((I6 ((i:Int)+1))∧f44G0 E c f v1 (i+1) (v3++[(⟨(⟨e,be.time,false⟩:Spt),0⟩:Car)])))))))∧(¬ ((i:Int)<(c.cars.length:Int))→gos2=v1∧cars2=v3∧gc=i))):f44G0 E c f v1 i v3:=by
 rcases bft (decide ((i:Int)<(c.cars.length:Int))) with hc0 | hc0
 · have h:=h.1 (odt hc0)
   obtain ⟨e,h1,h⟩:=h
   obtain ⟨h3,h⟩:=h
   obtain ⟨be,h2,h⟩:=h
   obtain ⟨h4,h⟩:=h
   obtain ⟨q12_1,h⟩:=h
   refine p44_0_0 c f v1 i v3 e be hE ⟨hc0,(Qp h1),(rp cI 1 0 1 h1),(QG h3 h2),(rp cBk 4 0 1 h2),rfl,(by have hx:=Qv cCar (s:=4) (fun _=>rfl) v3; simp only [Qi] at hx ⊢; rw [hx]; simp),h4,rfl,(by decide),q12_1,trivial⟩ ?_
   rw [(show Qi v3++[.int .i64 e,.int .i64 be.time,.bool false,.int .i64 0]=Qi (v3++[(⟨(⟨e,be.time,false⟩:Spt),0⟩:Car)]) from (Xw cCar v3 [(⟨(⟨e,be.time,false⟩:Spt),0⟩:Car)]).symm)]; rw [(show (v3.length+1)=(v3++[(⟨(⟨e,be.time,false⟩:Spt),0⟩:Car)]).length from by simp)]; exact h
 · have h:=h.2 (odf hc0)
   obtain ⟨qe0,qe1,qe2⟩:=h
   exact p44_0_1 c f v1 i v3 hE ⟨hc0,trivial⟩ (by try rfl) (by rw [qe0,qe1,qe2]; all_goals (first | rfl | (simp only [List.length_set]; done) | (simp only [List.length_set]; rfl)))
theorem Kn (c:Cir) (f:List Flt) (h:NewIn c):Lent Try.prog 44 [.agg [.rsl (Qk c.blocks) 0 c.blocks.length,.rsl (rowI c.cars) 0 c.cars.length],.rsl (Qo f) 0 f.length] [] (.ptr 2 0 0)
 [⟨true,0,1,true,[.rsl (Qk c.blocks) 0 c.blocks.length,.rsl (rowI c.cars) 0 c.cars.length],false⟩,⟨true,0,1,true,(rowB (newT c f).gos),true⟩,⟨true,0,1,false,[.rsl (Qk c.blocks) 0 c.blocks.length,.rsl (rowI c.cars) 0 c.cars.length,.rsl (Qo f) 0 f.length,.sl 3 c.cars.length 0 (newT c f).cars.length 4,.sl 1 0 0 (newT c f).gos.length 1,.int .i64 0,.int .i64 (-1),.bool false,.int .i64 0,.int .i64 0],false⟩,⟨true,c.cars.length,4,true,(Qi (newT c f).cars),true⟩]:=lent_of0 Try.func44 f44b fun E hE=>by
 obtain ⟨h1,h2,h3⟩:=h
 have key:∀ (d i:Nat),i+d=c.cars.length→f44G0 E c f (newT c f).gos i ((newT c f).cars.take i):=by
  intro d
  induction d with
  | zero =>
   intro i hi
   refine f44W0 c f _ i _ (rv:=()) hE ⟨fun h=>by omega,fun _=>⟨rfl,?_,by omega⟩⟩
   rw [List.take_of_length_le (by simp [newT]; omega)]
  | succ d ih =>
   intro i hi
   have hx:c.cars[i]?=some (c.cars.getD i 0):=getD_some (by omega)
   have hin:=h3 _ (List.mem_of_getElem? hx)
   have nx:=ih (i+1) (by omega)
   have hy:(newT c f).cars[i]?=some ⟨⟨c.cars.getD i 0,(bkAt c (c.cars.getD i 0)).time,false⟩,0⟩:=by rw [newT,List.getElem?_map,hx]; rfl
   rw [List.take_add_one,hy] at nx
   exact f44W0 c f _ i _ (rv:=()) hE ⟨fun _=>⟨_,hx,hin.1,_,QaW hin,by simp [newT]; omega,by omega,nx⟩,fun h=>by omega⟩
 exact f44W c f (rv:=()) hE ⟨by omega,key c.cars.length 0 (by omega)⟩
theorem f19b:Try.f19.body=some (Qh Try.prog 19):=by kernel_rfl
theorem u19 {a c k:List AV} {r:AV} (h:Pure Try.prog 19 (a++c++k) r):Qd Try.prog (.clos 19 a k) c r:=QQ Try.func19 (by kernel_rfl) f19b h
def f19K0 (P:Program):List Item:=kAt 400 [.code (Qh P 19)] [.b false,.stop]
def f19S0 (c:Cir) (ticks:Int) (l:(List Prs)) (f:(List Flt)) (v4:List Car) (v2:List Bool) (v5:List (List Spt)) (i:Nat) (v3_5:Int) (v3_6:Int) (v3_7:Bool) (v3_8:Int) (v3_9:Int) (g5:Nat):St:=⟨([J,J,.rsl (QV l) 0 l.length]++jj 5 ([.sl 5 g5 0 v5.length 1,J,J,.ptr 3 0 0]++jj 11 ([.int .i64 ticks,.int .i64 (i:Int)]++Js 11))),[⟨true,0,1,true,[.rsl (Qk c.blocks) 0 c.blocks.length,.rsl (rowI c.cars) 0 c.cars.length],false⟩,⟨true,0,1,true,[.rsl (Qk c.blocks) 0 c.blocks.length,.rsl (rowI c.cars) 0 c.cars.length],false⟩,⟨true,0,1,true,(rowB v2),true⟩,⟨true,0,1,false,[.rsl (Qk c.blocks) 0 c.blocks.length,.rsl (rowI c.cars) 0 c.cars.length,.rsl (Qo f) 0 f.length,.sl 4 c.cars.length 0 v4.length 4,.sl 2 0 0 v2.length 1,.int .i64 v3_5,.int .i64 v3_6,.bool v3_7,.int .i64 v3_8,.int .i64 v3_9],false⟩,⟨true,c.cars.length,4,true,(Qi v4),true⟩,⟨true,g5,1,true,((Xc Qb) v5),true⟩]⟩
def f19G0 (E:Env) (c:Cir) (ticks:Int) (l:(List Prs)) (f:(List Flt)) (v4:List Car) (v2:List Bool) (v5:List (List Spt)) (i:Nat) (v3_5:Int) (v3_6:Int) (v3_7:Bool) (v3_8:Int) (v3_9:Int):Prop:=∀ g5:Nat,G Try.prog E (f19K0 Try.prog) (f19S0 c ticks l f v4 v2 v5 i v3_5 v3_6 v3_7 v3_8 v3_9 g5)
abbrev Yh (c:Cir) (f:(List Flt)) (v4:List Car) (v2:List Bool) (v3_5:Int) (v3_6:Int) (v3_7:Bool) (v3_8:Int) (v3_9:Int) (l:(List Prs)):=QI (⟨c,f,v4,v2,v3_5,v3_6,v3_7,v3_8,v3_9⟩:Trk) l
abbrev z19_1 (c:Cir) (f:(List Flt)) (v4:List Car) (v2:List Bool) (v3_5:Int) (v3_6:Int) (v3_7:Bool) (v3_8:Int) (v3_9:Int) (l:(List Prs)):=(⟨c,f,(Yh c f v4 v2 v3_5 v3_6 v3_7 v3_8 v3_9 l).cars,(Yh c f v4 v2 v3_5 v3_6 v3_7 v3_8 v3_9 l).gos,(Yh c f v4 v2 v3_5 v3_6 v3_7 v3_8 v3_9 l).tick,(Yh c f v4 v2 v3_5 v3_6 v3_7 v3_8 v3_9 l).stopped,(Yh c f v4 v2 v3_5 v3_6 v3_7 v3_8 v3_9 l).wrecked,(Yh c f v4 v2 v3_5 v3_6 v3_7 v3_8 v3_9 l).rounds,(Yh c f v4 v2 v3_5 v3_6 v3_7 v3_8 v3_9 l).gone⟩:Trk).cars.map Car.spot
abbrev z19_2 (c:Cir) (f:(List Flt)) (v4:List Car) (v2:List Bool) (v3_5:Int) (v3_6:Int) (v3_7:Bool) (v3_8:Int) (v3_9:Int) (l:(List Prs)):List Blk:=[⟨true,0,1,false,[.rsl (Qk c.blocks) 0 c.blocks.length,.rsl (rowI c.cars) 0 c.cars.length,.rsl (Qo f) 0 f.length,.sl 1 c.cars.length 0 ((Yh c f v4 v2 v3_5 v3_6 v3_7 v3_8 v3_9 l).cars.length) 4,.sl 2 0 0 ((Yh c f v4 v2 v3_5 v3_6 v3_7 v3_8 v3_9 l).gos.length) 1,.int .i64 ((Yh c f v4 v2 v3_5 v3_6 v3_7 v3_8 v3_9 l).tick),.int .i64 ((Yh c f v4 v2 v3_5 v3_6 v3_7 v3_8 v3_9 l).stopped),.bool ((Yh c f v4 v2 v3_5 v3_6 v3_7 v3_8 v3_9 l).wrecked),.int .i64 ((Yh c f v4 v2 v3_5 v3_6 v3_7 v3_8 v3_9 l).rounds),.int .i64 ((Yh c f v4 v2 v3_5 v3_6 v3_7 v3_8 v3_9 l).gone)],false⟩,⟨true,c.cars.length,4,true,(Qi (Yh c f v4 v2 v3_5 v3_6 v3_7 v3_8 v3_9 l).cars),true⟩,⟨true,0,1,true,(rowB (Yh c f v4 v2 v3_5 v3_6 v3_7 v3_8 v3_9 l).gos),true⟩]
abbrev z19_3 (c:Cir):List AV:=[.rsl (Qk c.blocks) 0 c.blocks.length,.rsl (rowI c.cars) 0 c.cars.length]
abbrev z19_4 (c:Cir) (f:(List Flt)):List Blk:=[⟨true,0,1,true,(z19_3 c),false⟩,⟨true,0,1,true,(rowB (newT c f).gos),true⟩,⟨true,0,1,false,[.rsl (Qk c.blocks) 0 c.blocks.length,.rsl (rowI c.cars) 0 c.cars.length,.rsl (Qo f) 0 f.length,.sl 3 c.cars.length 0 ((newT c f).cars.length) 4,.sl 1 0 0 ((newT c f).gos.length) 1,.int .i64 0,.int .i64 (-1),.bool false,.int .i64 0,.int .i64 0],false⟩,⟨true,c.cars.length,4,true,(Qi (newT c f).cars),true⟩]
abbrev z19_6 (c:Cir) (ticks:Int) (l:(List Prs)) (f:(List Flt)):List AV:=[.agg (z19_3 c),.int .i64 ticks,.rsl (QV l) 0 l.length,.rsl (Qo f) 0 f.length]
theorem p19_start_0 (c:Cir) (ticks:Int) (l:(List Prs)) (f:(List Flt)) {E:Env} {res:AV} (hE:Qn Try.prog 19 res E) (ho:AllP [Qd Try.prog (.clos 43 [] []) (z19_6 c ticks l f) (.int .i64 (Xp c ticks l f)),((Xp c ticks l f) != 0)=true])
 (hr:AvLe (.tup [.nilSl,.int .i64 (Xp c ticks l f)]) res):G Try.prog E [.code (Qh Try.prog 19)] ⟨(z19_6 c ticks l f)++unds (Try.f19.ntmps - 4),[]⟩ :=
 Qf (n:=400) (evs:=[.v (.int .i64 (Xp c ticks l f)),.b true]) (obs:=_) hE Try.func19 Ql (by kernel_rfl) ho hr
theorem p19_start_1 (c:Cir) (ticks:Int) (l:(List Prs)) (f:(List Flt)) {E:Env} {rv:AV} (hE:Qn Try.prog 19 rv E) (ho:AllP [Qd Try.prog (.clos 43 [] []) (z19_6 c ticks l f) (.int .i64 (Xp c ticks l f)),((Xp c ticks l f) != 0)=false,VQ Try.prog (.clos 44 [] []) [.agg (z19_3 c),.rsl (Qo f) 0 f.length] [] (.ptr 2 0 0) (z19_4 c f)])
 (hg:G Try.prog E (f19K0 Try.prog) ⟨([J,J,.rsl (QV l) 0 l.length]++jj 5 ([.sl 5 0 0 0 1,J,J,.ptr 3 0 0]++jj 11 ([.int .i64 ticks,.int .i64 0]++Js 11))),[⟨true,0,1,true,(z19_3 c),false⟩,⟨true,0,1,true,(z19_3 c),false⟩,⟨true,0,1,true,(rowB (newT c f).gos),true⟩,⟨true,0,1,false,[.rsl (Qk c.blocks) 0 c.blocks.length,.rsl (rowI c.cars) 0 c.cars.length,.rsl (Qo f) 0 f.length,.sl 4 c.cars.length 0 ((newT c f).cars.length) 4,.sl 2 0 0 ((newT c f).gos.length) 1,.int .i64 0,.int .i64 (-1),.bool false,.int .i64 0,.int .i64 0],false⟩,⟨true,c.cars.length,4,true,(Qi (newT c f).cars),true⟩,⟨true,0,1,true,[],true⟩]⟩):G Try.prog E [.code (Qh Try.prog 19)] ⟨(z19_6 c ticks l f)++unds (Try.f19.ntmps - 4),[]⟩ :=
 Qg (n:=400) (ds:=[(8,1)]) (cs:=[]) (live:=[2,8,11,23,24]) (m:=6) (evs:=[.v (.int .i64 (Xp c ticks l f)),.b false,.lent [] (.ptr 2 0 0) (z19_4 c f),.stop]) (obs:=_) hE.2.1 (hE.nogh _) Ql (by kernel_rfl) ho hg
theorem f19W (c:Cir) (ticks:Int) (l:(List Prs)) (f:(List Flt)) {E:Env} {rv:((List (List Spt)) × Int)} (hE:Qn Try.prog 19 (.tup [.rsl ((Xc Qb) rv.1) 0 rv.1.length,.int .i64 rv.2]) E)
 (h:(((c.blocks.length≤9223372036854775807∧c.cars.length≤9223372036854775807)∧l.length≤9223372036854775807∧f.length≤9223372036854775807)∧((¬ ((Xp c ticks l f)=0)→rv=(([]:List (List Spt)),(Xp c ticks l f)))∧((Xp c ticks l f)=0→((NewIn c)∧f19G0 E c ticks l f ((newT c f).cars) ((newT c f).gos) ([]) 0 0 (-1) false 0 0))))):G Try.prog E [.code (Qh Try.prog 19)] ⟨[.agg [.rsl (Qk c.blocks) 0 c.blocks.length,.rsl (rowI c.cars) 0 c.cars.length],.int .i64 ticks,.rsl (QV l) 0 l.length,.rsl (Qo f) 0 f.length]++unds (Try.f19.ntmps - 4),[]⟩:=by
 obtain ⟨h1,h⟩:=h
 rcases bft ((Xp c ticks l f) != 0) with hc0 | hc0
 · have h:=h.1 (bneT hc0)
   exact p19_start_0 c ticks l f hE ⟨(u43 (qH c ticks l f h1)),hc0,trivial⟩ (by rw [h]; exact (Vk ⟨Xr,⟨AvLe.of_eq rfl,trivial⟩⟩))
 · have h:=h.2 (bneF hc0)
   obtain ⟨h2,h⟩:=h
   exact p19_start_1 c ticks l f hE ⟨(u43 (qH c ticks l f h1)),hc0,(Yj Try.func44 (by kernel_rfl) f44b (Kn c f h2)),trivial⟩ (h 0)
theorem p19_0_0 (c:Cir) (ticks:Int) (l:(List Prs)) (f:(List Flt)) (v4:List Car) (v2:List Bool) (v5:List (List Spt)) (i:Nat) (v3_5:Int) (v3_6:Int) (v3_7:Bool) (v3_8:Int) (v3_9:Int) (g5:Nat) {E:Env} {rv:AV} (hE:Qn Try.prog 19 rv E) (ho:AllP [(decide ((i:Int)<ticks))=true,VQ Try.prog (.clos 45 [] []) [.ptr 0 0 0,.rsl (QV l) 0 l.length] [⟨true,0,1,false,[.rsl (Qk c.blocks) 0 c.blocks.length,.rsl (rowI c.cars) 0 c.cars.length,.rsl (Qo f) 0 f.length,.sl 1 c.cars.length 0 v4.length 4,.sl 2 0 0 v2.length 1,.int .i64 v3_5,.int .i64 v3_6,.bool v3_7,.int .i64 v3_8,.int .i64 v3_9],false⟩,⟨true,c.cars.length,4,true,(Qi v4),true⟩,⟨true,0,1,true,(rowB v2),true⟩] (.tup []) (z19_2 c f v4 v2 v3_5 v3_6 v3_7 v3_8 v3_9 l),Vx Try.prog (.clos 46 [] []) [.rptr [.rsl (Qk c.blocks) 0 c.blocks.length,.rsl (rowI c.cars) 0 c.cars.length,.rsl (Qo f) 0 f.length,.rsl (Qi (Yh c f v4 v2 v3_5 v3_6 v3_7 v3_8 v3_9 l).cars) 0 ((Yh c f v4 v2 v3_5 v3_6 v3_7 v3_8 v3_9 l).cars.length),.rsl (rowB (Yh c f v4 v2 v3_5 v3_6 v3_7 v3_8 v3_9 l).gos) 0 ((Yh c f v4 v2 v3_5 v3_6 v3_7 v3_8 v3_9 l).gos.length),.int .i64 ((Yh c f v4 v2 v3_5 v3_6 v3_7 v3_8 v3_9 l).tick),.int .i64 ((Yh c f v4 v2 v3_5 v3_6 v3_7 v3_8 v3_9 l).stopped),.bool ((Yh c f v4 v2 v3_5 v3_6 v3_7 v3_8 v3_9 l).wrecked),.int .i64 ((Yh c f v4 v2 v3_5 v3_6 v3_7 v3_8 v3_9 l).rounds),.int .i64 ((Yh c f v4 v2 v3_5 v3_6 v3_7 v3_8 v3_9 l).gone)] 0] (.rsl (Qb (z19_1 c f v4 v2 v3_5 v3_6 v3_7 v3_8 v3_9 l)) 0 ((z19_1 c f v4 v2 v3_5 v3_6 v3_7 v3_8 v3_9 l).length)),c.cars.length=c.cars.length,0=0,g5=g5,(0+(v5.length*1))=((Xc Qb) v5).length,(v5.length+1)≤2147483648,0=0,InR .i64 ((i:Int)+1)])
 (hg:G Try.prog E (f19K0 Try.prog) ⟨([J,J,.rsl (QV l) 0 l.length]++jj 5 ([.sl 5 (g5+1) 0 (v5.length+1) 1,J,J,.ptr 3 0 0]++jj 11 ([.int .i64 ticks,.int .i64 ((i:Int)+1)]++Js 11))),[⟨true,0,1,true,(z19_3 c),false⟩,⟨true,0,1,true,(z19_3 c),false⟩,⟨true,0,1,true,(rowB (Yh c f v4 v2 v3_5 v3_6 v3_7 v3_8 v3_9 l).gos),true⟩,⟨true,0,1,false,[.rsl (Qk c.blocks) 0 c.blocks.length,.rsl (rowI c.cars) 0 c.cars.length,.rsl (Qo f) 0 f.length,.sl 4 c.cars.length 0 ((Yh c f v4 v2 v3_5 v3_6 v3_7 v3_8 v3_9 l).cars.length) 4,.sl 2 0 0 ((Yh c f v4 v2 v3_5 v3_6 v3_7 v3_8 v3_9 l).gos.length) 1,.int .i64 ((Yh c f v4 v2 v3_5 v3_6 v3_7 v3_8 v3_9 l).tick),.int .i64 ((Yh c f v4 v2 v3_5 v3_6 v3_7 v3_8 v3_9 l).stopped),.bool ((Yh c f v4 v2 v3_5 v3_6 v3_7 v3_8 v3_9 l).wrecked),.int .i64 ((Yh c f v4 v2 v3_5 v3_6 v3_7 v3_8 v3_9 l).rounds),.int .i64 ((Yh c f v4 v2 v3_5 v3_6 v3_7 v3_8 v3_9 l).gone)],false⟩,⟨true,c.cars.length,4,true,(Qi (Yh c f v4 v2 v3_5 v3_6 v3_7 v3_8 v3_9 l).cars),true⟩,⟨true,(g5+1),1,true,(((Xc Qb) v5)++[.rsl (Qb (z19_1 c f v4 v2 v3_5 v3_6 v3_7 v3_8 v3_9 l)) 0 ((z19_1 c f v4 v2 v3_5 v3_6 v3_7 v3_8 v3_9 l).length)]),true⟩]⟩):G Try.prog E (f19K0 Try.prog) (f19S0 c ticks l f v4 v2 v5 i v3_5 v3_6 v3_7 v3_8 v3_9 g5) :=
 Qg (n:=400) (ds:=[]) (cs:=[]) (live:=[2,8,11,23,24]) (m:=6) (evs:=[.b true,.lent [3,4,2] (.tup []) (z19_2 c f v4 v2 v3_5 v3_6 v3_7 v3_8 v3_9 l),.vn (.rsl (Qb (z19_1 c f v4 v2 v3_5 v3_6 v3_7 v3_8 v3_9 l)) 0 ((z19_1 c f v4 v2 v3_5 v3_6 v3_7 v3_8 v3_9 l).length)),.stop]) (obs:=_) hE.2.1 (hE.nogh _) Ql (by kernel_rfl) ho hg
theorem p19_0_1 (c:Cir) (ticks:Int) (l:(List Prs)) (f:(List Flt)) (v4:List Car) (v2:List Bool) (v5:List (List Spt)) (i:Nat) (v3_5:Int) (v3_6:Int) (v3_7:Bool) (v3_8:Int) (v3_9:Int) (g5:Nat) {E:Env} {res:AV} (hE:Qn Try.prog 19 res E) (ho:AllP [(decide ((i:Int)<ticks))=false,g5=g5])
 (hr:AvLe (.tup [.rsl ((Xc Qb) v5) 0 v5.length,.int .i64 0]) res):G Try.prog E (f19K0 Try.prog) (f19S0 c ticks l f v4 v2 v5 i v3_5 v3_6 v3_7 v3_8 v3_9 g5) :=
 Qf (n:=400) (evs:=[.b false]) (obs:=_) hE Try.func19 Ql (by kernel_rfl) ho hr
theorem f19W0 (c:Cir) (ticks:Int) (l:(List Prs)) (f:(List Flt)) (v4:List Car) (v2:List Bool) (v5:List (List Spt)) (i:Nat) (v3_5:Int) (v3_6:Int) (v3_7:Bool) (v3_8:Int) (v3_9:Int) {E:Env} {rv:((List (List Spt)) × Int)} (hE:Qn Try.prog 19 (.tup [.rsl ((Xc Qb) rv.1) 0 rv.1.length,.int .i64 rv.2]) E)
 (h:(((i:Int)<ticks→((StepIn (⟨c,f,v4,v2,v3_5,v3_6,v3_7,v3_8,v3_9⟩:Trk) l)∧(((⟨c,f,(QI (⟨c,f,v4,v2,v3_5,v3_6,v3_7,v3_8,v3_9⟩:Trk) l).cars,(QI (⟨c,f,v4,v2,v3_5,v3_6,v3_7,v3_8,v3_9⟩:Trk) l).gos,(QI (⟨c,f,v4,v2,v3_5,v3_6,v3_7,v3_8,v3_9⟩:Trk) l).tick,(QI (⟨c,f,v4,v2,v3_5,v3_6,v3_7,v3_8,v3_9⟩:Trk) l).stopped,(QI (⟨c,f,v4,v2,v3_5,v3_6,v3_7,v3_8,v3_9⟩:Trk) l).wrecked,(QI (⟨c,f,v4,v2,v3_5,v3_6,v3_7,v3_8,v3_9⟩:Trk) l).rounds,(QI (⟨c,f,v4,v2,v3_5,v3_6,v3_7,v3_8,v3_9⟩:Trk) l).gone⟩:Trk).cars.length≤2147483648)∧((v5.length+1)≤2147483648∧((I6 ((i:Int)+1))∧f19G0 E c ticks l f ((QI (⟨c,f,v4,v2,v3_5,v3_6,v3_7,v3_8,v3_9⟩:Trk) l).cars) ((QI (⟨c,f,v4,v2,v3_5,v3_6,v3_7,v3_8,v3_9⟩:Trk) l).gos) (v5++[((⟨c,f,(QI (⟨c,f,v4,v2,v3_5,v3_6,v3_7,v3_8,v3_9⟩:Trk) l).cars,(QI (⟨c,f,v4,v2,v3_5,v3_6,v3_7,v3_8,v3_9⟩:Trk) l).gos,(QI (⟨c,f,v4,v2,v3_5,v3_6,v3_7,v3_8,v3_9⟩:Trk) l).tick,(QI (⟨c,f,v4,v2,v3_5,v3_6,v3_7,v3_8,v3_9⟩:Trk) l).stopped,(QI (⟨c,f,v4,v2,v3_5,v3_6,v3_7,v3_8,v3_9⟩:Trk) l).wrecked,(QI (⟨c,f,v4,v2,v3_5,v3_6,v3_7,v3_8,v3_9⟩:Trk) l).rounds,(QI (⟨c,f,v4,v2,v3_5,v3_6,v3_7,v3_8,v3_9⟩:Trk) l).gone⟩:Trk).cars.map Car.spot)]) (i+1) ((QI (⟨c,f,v4,v2,v3_5,v3_6,v3_7,v3_8,v3_9⟩:Trk) l).tick) ((QI (⟨c,f,v4,v2,v3_5,v3_6,v3_7,v3_8,v3_9⟩:Trk) l).stopped) ((QI (⟨c,f,v4,v2,v3_5,v3_6,v3_7,v3_8,v3_9⟩:Trk) l).wrecked) ((QI (⟨c,f,v4,v2,v3_5,v3_6,v3_7,v3_8,v3_9⟩:Trk) l).rounds) ((QI (⟨c,f,v4,v2,v3_5,v3_6,v3_7,v3_8,v3_9⟩:Trk) l).gone))))))∧(¬ ((i:Int)<ticks)→rv=(v5,0)))):f19G0 E c ticks l f v4 v2 v5 i v3_5 v3_6 v3_7 v3_8 v3_9:=by
 intro g5
 rcases bft (decide ((i:Int)<ticks)) with hc0 | hc0
 · have h:=h.1 (odt hc0)
   obtain ⟨h1,h⟩:=h
   obtain ⟨h2,h⟩:=h
   obtain ⟨h3,h⟩:=h
   obtain ⟨q9_1,h⟩:=h
   refine p19_0_0 c ticks l f v4 v2 v5 i v3_5 v3_6 v3_7 v3_8 v3_9 g5 hE ⟨hc0,(Yj Try.func45 (by kernel_rfl) f45b (step2_ok l c f v4 v2 v3_5 v3_6 v3_7 v3_8 v3_9 c.cars.length 0 h1)),(by exact (Xj Try.func46 (by kernel_rfl) f46b (ym (⟨c,f,(QI (⟨c,f,v4,v2,v3_5,v3_6,v3_7,v3_8,v3_9⟩:Trk) l).cars,(QI (⟨c,f,v4,v2,v3_5,v3_6,v3_7,v3_8,v3_9⟩:Trk) l).gos,(QI (⟨c,f,v4,v2,v3_5,v3_6,v3_7,v3_8,v3_9⟩:Trk) l).tick,(QI (⟨c,f,v4,v2,v3_5,v3_6,v3_7,v3_8,v3_9⟩:Trk) l).stopped,(QI (⟨c,f,v4,v2,v3_5,v3_6,v3_7,v3_8,v3_9⟩:Trk) l).wrecked,(QI (⟨c,f,v4,v2,v3_5,v3_6,v3_7,v3_8,v3_9⟩:Trk) l).rounds,(QI (⟨c,f,v4,v2,v3_5,v3_6,v3_7,v3_8,v3_9⟩:Trk) l).gone⟩:Trk) h2))),rfl,rfl,rfl,(by have hx:=Qv (cLs Qb) (s:=1) (fun _=>rfl) v5; simp only [Xc] at hx ⊢; rw [hx]; simp),h3,rfl,q9_1,trivial⟩ ?_
   rw [(show (Xc Qb) v5++[.rsl (Qb ((⟨c,f,(QI (⟨c,f,v4,v2,v3_5,v3_6,v3_7,v3_8,v3_9⟩:Trk) l).cars,(QI (⟨c,f,v4,v2,v3_5,v3_6,v3_7,v3_8,v3_9⟩:Trk) l).gos,(QI (⟨c,f,v4,v2,v3_5,v3_6,v3_7,v3_8,v3_9⟩:Trk) l).tick,(QI (⟨c,f,v4,v2,v3_5,v3_6,v3_7,v3_8,v3_9⟩:Trk) l).stopped,(QI (⟨c,f,v4,v2,v3_5,v3_6,v3_7,v3_8,v3_9⟩:Trk) l).wrecked,(QI (⟨c,f,v4,v2,v3_5,v3_6,v3_7,v3_8,v3_9⟩:Trk) l).rounds,(QI (⟨c,f,v4,v2,v3_5,v3_6,v3_7,v3_8,v3_9⟩:Trk) l).gone⟩:Trk).cars.map Car.spot)) 0 (((⟨c,f,(QI (⟨c,f,v4,v2,v3_5,v3_6,v3_7,v3_8,v3_9⟩:Trk) l).cars,(QI (⟨c,f,v4,v2,v3_5,v3_6,v3_7,v3_8,v3_9⟩:Trk) l).gos,(QI (⟨c,f,v4,v2,v3_5,v3_6,v3_7,v3_8,v3_9⟩:Trk) l).tick,(QI (⟨c,f,v4,v2,v3_5,v3_6,v3_7,v3_8,v3_9⟩:Trk) l).stopped,(QI (⟨c,f,v4,v2,v3_5,v3_6,v3_7,v3_8,v3_9⟩:Trk) l).wrecked,(QI (⟨c,f,v4,v2,v3_5,v3_6,v3_7,v3_8,v3_9⟩:Trk) l).rounds,(QI (⟨c,f,v4,v2,v3_5,v3_6,v3_7,v3_8,v3_9⟩:Trk) l).gone⟩:Trk).cars.map Car.spot).length)]=(Xc Qb) (v5++[((⟨c,f,(QI (⟨c,f,v4,v2,v3_5,v3_6,v3_7,v3_8,v3_9⟩:Trk) l).cars,(QI (⟨c,f,v4,v2,v3_5,v3_6,v3_7,v3_8,v3_9⟩:Trk) l).gos,(QI (⟨c,f,v4,v2,v3_5,v3_6,v3_7,v3_8,v3_9⟩:Trk) l).tick,(QI (⟨c,f,v4,v2,v3_5,v3_6,v3_7,v3_8,v3_9⟩:Trk) l).stopped,(QI (⟨c,f,v4,v2,v3_5,v3_6,v3_7,v3_8,v3_9⟩:Trk) l).wrecked,(QI (⟨c,f,v4,v2,v3_5,v3_6,v3_7,v3_8,v3_9⟩:Trk) l).rounds,(QI (⟨c,f,v4,v2,v3_5,v3_6,v3_7,v3_8,v3_9⟩:Trk) l).gone⟩:Trk).cars.map Car.spot)]) from (Xw (cLs Qb) v5 [((⟨c,f,(QI (⟨c,f,v4,v2,v3_5,v3_6,v3_7,v3_8,v3_9⟩:Trk) l).cars,(QI (⟨c,f,v4,v2,v3_5,v3_6,v3_7,v3_8,v3_9⟩:Trk) l).gos,(QI (⟨c,f,v4,v2,v3_5,v3_6,v3_7,v3_8,v3_9⟩:Trk) l).tick,(QI (⟨c,f,v4,v2,v3_5,v3_6,v3_7,v3_8,v3_9⟩:Trk) l).stopped,(QI (⟨c,f,v4,v2,v3_5,v3_6,v3_7,v3_8,v3_9⟩:Trk) l).wrecked,(QI (⟨c,f,v4,v2,v3_5,v3_6,v3_7,v3_8,v3_9⟩:Trk) l).rounds,(QI (⟨c,f,v4,v2,v3_5,v3_6,v3_7,v3_8,v3_9⟩:Trk) l).gone⟩:Trk).cars.map Car.spot)]).symm)]; rw [(show (v5.length+1)=(v5++[((⟨c,f,(QI (⟨c,f,v4,v2,v3_5,v3_6,v3_7,v3_8,v3_9⟩:Trk) l).cars,(QI (⟨c,f,v4,v2,v3_5,v3_6,v3_7,v3_8,v3_9⟩:Trk) l).gos,(QI (⟨c,f,v4,v2,v3_5,v3_6,v3_7,v3_8,v3_9⟩:Trk) l).tick,(QI (⟨c,f,v4,v2,v3_5,v3_6,v3_7,v3_8,v3_9⟩:Trk) l).stopped,(QI (⟨c,f,v4,v2,v3_5,v3_6,v3_7,v3_8,v3_9⟩:Trk) l).wrecked,(QI (⟨c,f,v4,v2,v3_5,v3_6,v3_7,v3_8,v3_9⟩:Trk) l).rounds,(QI (⟨c,f,v4,v2,v3_5,v3_6,v3_7,v3_8,v3_9⟩:Trk) l).gone⟩:Trk).cars.map Car.spot)]).length from by simp)]; exact (h (g5+1))
 · have h:=h.2 (odf hc0)
   exact p19_0_1 c ticks l f v4 v2 v5 i v3_5 v3_6 v3_7 v3_8 v3_9 g5 hE ⟨hc0,rfl,trivial⟩ (AvLe.of_eq (by rw [h]; try rfl))
theorem f23b:Try.f23.body=some (Qh Try.prog 23):=by kernel_rfl
theorem u23 {a c k:List AV} {r:AV} (h:Pure Try.prog 23 (a++c++k) r):Qd Try.prog (.clos 23 a k) c r:=QQ Try.func23 (by kernel_rfl) f23b h
def f23K0 (P:Program):List Item:=kAt 400 [.code (Qh P 23)] [.b false,.stop]
def f23S0 (c:Cir) (ticks:Int) (l:(List Prs)) (f:(List Flt)) (v4:List Car) (v2:List Bool) (i:Nat) (v3_5:Int) (v3_6:Int) (v3_7:Bool) (v3_8:Int) (v3_9:Int):St:=⟨([J,J,.rsl (QV l) 0 l.length]++jj 8 ([.ptr 3 0 0]++jj 11 ([.int .i64 ticks,.int .i64 (i:Int)]++Js 9))),[⟨true,0,1,true,[.rsl (Qk c.blocks) 0 c.blocks.length,.rsl (rowI c.cars) 0 c.cars.length],false⟩,⟨true,0,1,true,[.rsl (Qk c.blocks) 0 c.blocks.length,.rsl (rowI c.cars) 0 c.cars.length],false⟩,⟨true,0,1,true,(rowB v2),true⟩,⟨true,0,1,false,[.rsl (Qk c.blocks) 0 c.blocks.length,.rsl (rowI c.cars) 0 c.cars.length,.rsl (Qo f) 0 f.length,.sl 4 c.cars.length 0 v4.length 4,.sl 2 0 0 v2.length 1,.int .i64 v3_5,.int .i64 v3_6,.bool v3_7,.int .i64 v3_8,.int .i64 v3_9],false⟩,⟨true,c.cars.length,4,true,(Qi v4),true⟩]⟩
def f23G0 (E:Env) (c:Cir) (ticks:Int) (l:(List Prs)) (f:(List Flt)) (v4:List Car) (v2:List Bool) (i:Nat) (v3_5:Int) (v3_6:Int) (v3_7:Bool) (v3_8:Int) (v3_9:Int):Prop:=G Try.prog E (f23K0 Try.prog) (f23S0 c ticks l f v4 v2 i v3_5 v3_6 v3_7 v3_8 v3_9 )
abbrev Wq (c:Cir) (f:(List Flt)) (v4:List Car) (v2:List Bool) (v3_5:Int) (v3_6:Int) (v3_7:Bool) (v3_8:Int) (v3_9:Int) (l:(List Prs)):=QI (⟨c,f,v4,v2,v3_5,v3_6,v3_7,v3_8,v3_9⟩:Trk) l
abbrev z23_1 (c:Cir) (f:(List Flt)) (v4:List Car) (v2:List Bool) (v3_5:Int) (v3_6:Int) (v3_7:Bool) (v3_8:Int) (v3_9:Int) (l:(List Prs)):List Blk:=[⟨true,0,1,false,[.rsl (Qk c.blocks) 0 c.blocks.length,.rsl (rowI c.cars) 0 c.cars.length,.rsl (Qo f) 0 f.length,.sl 1 c.cars.length 0 ((Wq c f v4 v2 v3_5 v3_6 v3_7 v3_8 v3_9 l).cars.length) 4,.sl 2 0 0 ((Wq c f v4 v2 v3_5 v3_6 v3_7 v3_8 v3_9 l).gos.length) 1,.int .i64 ((Wq c f v4 v2 v3_5 v3_6 v3_7 v3_8 v3_9 l).tick),.int .i64 ((Wq c f v4 v2 v3_5 v3_6 v3_7 v3_8 v3_9 l).stopped),.bool ((Wq c f v4 v2 v3_5 v3_6 v3_7 v3_8 v3_9 l).wrecked),.int .i64 ((Wq c f v4 v2 v3_5 v3_6 v3_7 v3_8 v3_9 l).rounds),.int .i64 ((Wq c f v4 v2 v3_5 v3_6 v3_7 v3_8 v3_9 l).gone)],false⟩,⟨true,c.cars.length,4,true,(Qi (Wq c f v4 v2 v3_5 v3_6 v3_7 v3_8 v3_9 l).cars),true⟩,⟨true,0,1,true,(rowB (Wq c f v4 v2 v3_5 v3_6 v3_7 v3_8 v3_9 l).gos),true⟩]
abbrev z23_2 (c:Cir):List AV:=[.rsl (Qk c.blocks) 0 c.blocks.length,.rsl (rowI c.cars) 0 c.cars.length]
abbrev z23_3 (c:Cir) (f:(List Flt)):List Blk:=[⟨true,0,1,true,(z23_2 c),false⟩,⟨true,0,1,true,(rowB (newT c f).gos),true⟩,⟨true,0,1,false,[.rsl (Qk c.blocks) 0 c.blocks.length,.rsl (rowI c.cars) 0 c.cars.length,.rsl (Qo f) 0 f.length,.sl 3 c.cars.length 0 ((newT c f).cars.length) 4,.sl 1 0 0 ((newT c f).gos.length) 1,.int .i64 0,.int .i64 (-1),.bool false,.int .i64 0,.int .i64 0],false⟩,⟨true,c.cars.length,4,true,(Qi (newT c f).cars),true⟩]
abbrev z23_4 (c:Cir) (ticks:Int) (l:(List Prs)) (f:(List Flt)):List AV:=[.agg (z23_2 c),.int .i64 ticks,.rsl (QV l) 0 l.length,.rsl (Qo f) 0 f.length]
theorem p23_start_0 (c:Cir) (ticks:Int) (l:(List Prs)) (f:(List Flt)) {E:Env} {res:AV} (hE:Qn Try.prog 23 res E) (ho:AllP [Qd Try.prog (.clos 43 [] []) (z23_4 c ticks l f) (.int .i64 (Xp c ticks l f)),((Xp c ticks l f) != 0)=true])
 (hr:AvLe (.tup [.int .i64 0,.int .i64 (Xp c ticks l f)]) res):G Try.prog E [.code (Qh Try.prog 23)] ⟨(z23_4 c ticks l f)++unds (Try.f23.ntmps - 4),[]⟩ :=
 Qf (n:=400) (evs:=[.v (.int .i64 (Xp c ticks l f)),.b true]) (obs:=_) hE Try.func23 Ql (by kernel_rfl) ho hr
theorem p23_start_1 (c:Cir) (ticks:Int) (l:(List Prs)) (f:(List Flt)) {E:Env} {rv:AV} (hE:Qn Try.prog 23 rv E) (ho:AllP [Qd Try.prog (.clos 43 [] []) (z23_4 c ticks l f) (.int .i64 (Xp c ticks l f)),((Xp c ticks l f) != 0)=false,VQ Try.prog (.clos 44 [] []) [.agg (z23_2 c),.rsl (Qo f) 0 f.length] [] (.ptr 2 0 0) (z23_3 c f)])
 (hg:G Try.prog E (f23K0 Try.prog) ⟨([J,J,.rsl (QV l) 0 l.length]++jj 8 ([.ptr 3 0 0]++jj 11 ([.int .i64 ticks,.int .i64 0]++Js 9))),[⟨true,0,1,true,(z23_2 c),false⟩,⟨true,0,1,true,(z23_2 c),false⟩,⟨true,0,1,true,(rowB (newT c f).gos),true⟩,⟨true,0,1,false,[.rsl (Qk c.blocks) 0 c.blocks.length,.rsl (rowI c.cars) 0 c.cars.length,.rsl (Qo f) 0 f.length,.sl 4 c.cars.length 0 ((newT c f).cars.length) 4,.sl 2 0 0 ((newT c f).gos.length) 1,.int .i64 0,.int .i64 (-1),.bool false,.int .i64 0,.int .i64 0],false⟩,⟨true,c.cars.length,4,true,(Qi (newT c f).cars),true⟩]⟩):G Try.prog E [.code (Qh Try.prog 23)] ⟨(z23_4 c ticks l f)++unds (Try.f23.ntmps - 4),[]⟩ :=
 Qg (n:=400) (ds:=[]) (cs:=[]) (live:=[2,11,23,24]) (m:=5) (evs:=[.v (.int .i64 (Xp c ticks l f)),.b false,.lent [] (.ptr 2 0 0) (z23_3 c f),.stop]) (obs:=_) hE.2.1 (hE.nogh _) Ql (by kernel_rfl) ho hg
theorem f23W (c:Cir) (ticks:Int) (l:(List Prs)) (f:(List Flt)) {E:Env} {rv:(Int × Int)} (hE:Qn Try.prog 23 (.tup [.int .i64 rv.1,.int .i64 rv.2]) E)
 (h:(((c.blocks.length≤9223372036854775807∧c.cars.length≤9223372036854775807)∧l.length≤9223372036854775807∧f.length≤9223372036854775807)∧((¬ ((Xp c ticks l f)=0)→rv=(0,(Xp c ticks l f)))∧((Xp c ticks l f)=0→((NewIn c)∧f23G0 E c ticks l f ((newT c f).cars) ((newT c f).gos) 0 0 (-1) false 0 0))))):G Try.prog E [.code (Qh Try.prog 23)] ⟨[.agg [.rsl (Qk c.blocks) 0 c.blocks.length,.rsl (rowI c.cars) 0 c.cars.length],.int .i64 ticks,.rsl (QV l) 0 l.length,.rsl (Qo f) 0 f.length]++unds (Try.f23.ntmps - 4),[]⟩:=by
 obtain ⟨h1,h⟩:=h
 rcases bft ((Xp c ticks l f) != 0) with hc0 | hc0
 · have h:=h.1 (bneT hc0)
   exact p23_start_0 c ticks l f hE ⟨(u43 (qH c ticks l f h1)),hc0,trivial⟩ (AvLe.of_eq (by rw [h]; try rfl))
 · have h:=h.2 (bneF hc0)
   obtain ⟨h2,h⟩:=h
   exact p23_start_1 c ticks l f hE ⟨(u43 (qH c ticks l f h1)),hc0,(Yj Try.func44 (by kernel_rfl) f44b (Kn c f h2)),trivial⟩ h
theorem p23_0_0 (c:Cir) (ticks:Int) (l:(List Prs)) (f:(List Flt)) (v4:List Car) (v2:List Bool) (i:Nat) (v3_5:Int) (v3_6:Int) (v3_7:Bool) (v3_8:Int) (v3_9:Int) {E:Env} {rv:AV} (hE:Qn Try.prog 23 rv E) (ho:AllP [(decide ((i:Int)<ticks))=true,VQ Try.prog (.clos 45 [] []) [.ptr 0 0 0,.rsl (QV l) 0 l.length] [⟨true,0,1,false,[.rsl (Qk c.blocks) 0 c.blocks.length,.rsl (rowI c.cars) 0 c.cars.length,.rsl (Qo f) 0 f.length,.sl 1 c.cars.length 0 v4.length 4,.sl 2 0 0 v2.length 1,.int .i64 v3_5,.int .i64 v3_6,.bool v3_7,.int .i64 v3_8,.int .i64 v3_9],false⟩,⟨true,c.cars.length,4,true,(Qi v4),true⟩,⟨true,0,1,true,(rowB v2),true⟩] (.tup []) (z23_1 c f v4 v2 v3_5 v3_6 v3_7 v3_8 v3_9 l),InR .i64 ((i:Int)+1)])
 (hg:G Try.prog E (f23K0 Try.prog) ⟨([J,J,.rsl (QV l) 0 l.length]++jj 8 ([.ptr 3 0 0]++jj 11 ([.int .i64 ticks,.int .i64 ((i:Int)+1)]++Js 9))),[⟨true,0,1,true,(z23_2 c),false⟩,⟨true,0,1,true,(z23_2 c),false⟩,⟨true,0,1,true,(rowB (Wq c f v4 v2 v3_5 v3_6 v3_7 v3_8 v3_9 l).gos),true⟩,⟨true,0,1,false,[.rsl (Qk c.blocks) 0 c.blocks.length,.rsl (rowI c.cars) 0 c.cars.length,.rsl (Qo f) 0 f.length,.sl 4 c.cars.length 0 ((Wq c f v4 v2 v3_5 v3_6 v3_7 v3_8 v3_9 l).cars.length) 4,.sl 2 0 0 ((Wq c f v4 v2 v3_5 v3_6 v3_7 v3_8 v3_9 l).gos.length) 1,.int .i64 ((Wq c f v4 v2 v3_5 v3_6 v3_7 v3_8 v3_9 l).tick),.int .i64 ((Wq c f v4 v2 v3_5 v3_6 v3_7 v3_8 v3_9 l).stopped),.bool ((Wq c f v4 v2 v3_5 v3_6 v3_7 v3_8 v3_9 l).wrecked),.int .i64 ((Wq c f v4 v2 v3_5 v3_6 v3_7 v3_8 v3_9 l).rounds),.int .i64 ((Wq c f v4 v2 v3_5 v3_6 v3_7 v3_8 v3_9 l).gone)],false⟩,⟨true,c.cars.length,4,true,(Qi (Wq c f v4 v2 v3_5 v3_6 v3_7 v3_8 v3_9 l).cars),true⟩]⟩):G Try.prog E (f23K0 Try.prog) (f23S0 c ticks l f v4 v2 i v3_5 v3_6 v3_7 v3_8 v3_9 ) :=
 Qg (n:=400) (ds:=[]) (cs:=[]) (live:=[2,11,23,24]) (m:=5) (evs:=[.b true,.lent [3,4,2] (.tup []) (z23_1 c f v4 v2 v3_5 v3_6 v3_7 v3_8 v3_9 l),.stop]) (obs:=_) hE.2.1 (hE.nogh _) Ql (by kernel_rfl) ho hg
theorem p23_0_1 (c:Cir) (ticks:Int) (l:(List Prs)) (f:(List Flt)) (v4:List Car) (v2:List Bool) (i:Nat) (v3_5:Int) (v3_6:Int) (v3_7:Bool) (v3_8:Int) (v3_9:Int) {E:Env} {res:AV} (hE:Qn Try.prog 23 res E) (ho:AllP [(decide ((i:Int)<ticks))=false])
 (hr:AvLe (.tup [.int .i64 v3_6,.int .i64 0]) res):G Try.prog E (f23K0 Try.prog) (f23S0 c ticks l f v4 v2 i v3_5 v3_6 v3_7 v3_8 v3_9 ) :=
 Qf (n:=400) (evs:=[.b false]) (obs:=_) hE Try.func23 Ql (by kernel_rfl) ho hr
theorem f23W0 (c:Cir) (ticks:Int) (l:(List Prs)) (f:(List Flt)) (v4:List Car) (v2:List Bool) (i:Nat) (v3_5:Int) (v3_6:Int) (v3_7:Bool) (v3_8:Int) (v3_9:Int) {E:Env} {rv:(Int × Int)} (hE:Qn Try.prog 23 (.tup [.int .i64 rv.1,.int .i64 rv.2]) E)
 (h:(((i:Int)<ticks→((StepIn (⟨c,f,v4,v2,v3_5,v3_6,v3_7,v3_8,v3_9⟩:Trk) l)∧((I6 ((i:Int)+1))∧f23G0 E c ticks l f ((QI (⟨c,f,v4,v2,v3_5,v3_6,v3_7,v3_8,v3_9⟩:Trk) l).cars) ((QI (⟨c,f,v4,v2,v3_5,v3_6,v3_7,v3_8,v3_9⟩:Trk) l).gos) (i+1) ((QI (⟨c,f,v4,v2,v3_5,v3_6,v3_7,v3_8,v3_9⟩:Trk) l).tick) ((QI (⟨c,f,v4,v2,v3_5,v3_6,v3_7,v3_8,v3_9⟩:Trk) l).stopped) ((QI (⟨c,f,v4,v2,v3_5,v3_6,v3_7,v3_8,v3_9⟩:Trk) l).wrecked) ((QI (⟨c,f,v4,v2,v3_5,v3_6,v3_7,v3_8,v3_9⟩:Trk) l).rounds) ((QI (⟨c,f,v4,v2,v3_5,v3_6,v3_7,v3_8,v3_9⟩:Trk) l).gone))))∧(¬ ((i:Int)<ticks)→rv=(v3_6,0)))):f23G0 E c ticks l f v4 v2 i v3_5 v3_6 v3_7 v3_8 v3_9:=by
 rcases bft (decide ((i:Int)<ticks)) with hc0 | hc0
 · have h:=h.1 (odt hc0)
   obtain ⟨h1,h⟩:=h
   obtain ⟨q2_1,h⟩:=h
   exact p23_0_0 c ticks l f v4 v2 i v3_5 v3_6 v3_7 v3_8 v3_9 hE ⟨hc0,(Yj Try.func45 (by kernel_rfl) f45b (step2_ok l c f v4 v2 v3_5 v3_6 v3_7 v3_8 v3_9 c.cars.length 0 h1)),q2_1,trivial⟩ h
 · have h:=h.2 (odf hc0)
   exact p23_0_1 c ticks l f v4 v2 i v3_5 v3_6 v3_7 v3_8 v3_9 hE ⟨hc0,trivial⟩ (AvLe.of_eq (by rw [h]; try rfl))
theorem Kc {c:Cir} {ticks:Int} {l:List Prs} {f:List Flt} (h:PlayIn c ticks l f) {i:Nat} (hi:i≤500):StepIn (XB c f l i) l:=⟨30+i,run_tok h.tok,by omega,by rw [XB,run_c]; exact h.prs,by have:=h.nl; omega⟩
theorem qS (c:Cir) (ticks:Int) (l:List Prs) (f:List Flt) (h:(c.blocks.length≤9223372036854775807∧c.cars.length≤9223372036854775807)∧l.length≤9223372036854775807∧f.length≤9223372036854775807) :
 Pure Try.prog 19 [.agg [.rsl (Qk c.blocks) 0 c.blocks.length,.rsl (rowI c.cars) 0 c.cars.length],.int .i64 ticks,.rsl (QV l) 0 l.length,.rsl (Qo f) 0 f.length] (.tup [.rsl (Xc Qb (XO c ticks l f).1) 0 (XO c ticks l f).1.length,.int .i64 (XO c ticks l f).2]):=QT Try.func19 f19b fun E hE=>by
 refine f19W c ticks l f (rv:=XO c ticks l f) hE ⟨h,fun h0=>by rw [XO,if_neg h0],fun h0=>?_⟩
 obtain ⟨hc,hp⟩:=play_in h0
 have ht:=hp.tk
 refine ⟨hp.chk.new,?_⟩
 have key:∀ (d i:Nat),i+d=Int.toNat ticks→f19G0 E c ticks l f (XB c f l i).cars (XB c f l i).gos ((XO c ticks l f).1.take i) i (XB c f l i).tick (XB c f l i).stopped (XB c f l i).wrecked (XB c f l i).rounds (XB c f l i).gone:=by
  intro d
  induction d with
  | zero =>
   intro i hi
   refine f19W0 c ticks l f _ _ _ i _ _ _ _ _ (rv:=XO c ticks l f) hE ⟨fun h=>by omega,fun _=>?_⟩
   rw [List.take_of_length_le (by rw [XO,if_pos h0]; simp; omega)]
   rw [XO,if_pos h0]
  | succ d ih =>
   intro i hi
   have nx:=ih (i+1) (by omega)
   have e1:(⟨c,f,(XB c f l i).cars,(XB c f l i).gos,(XB c f l i).tick,(XB c f l i).stopped,(XB c f l i).wrecked,(XB c f l i).rounds,(XB c f l i).gone⟩:Trk)=XB c f l i:=trk_eta run_c run_f
   have e2:(⟨c,f,(XB c f l (i+1)).cars,(XB c f l (i+1)).gos,(XB c f l (i+1)).tick,(XB c f l (i+1)).stopped,(XB c f l (i+1)).wrecked,(XB c f l (i+1)).rounds,(XB c f l (i+1)).gone⟩:Trk)=XB c f l (i+1):=trk_eta run_c run_f
   have hrow:(XO c ticks l f).1[i]?=some ((XB c f l (i+1)).cars.map Car.spot):=by
    rw [XO,if_pos h0]; simp only; rw [List.getElem?_map,List.getElem?_range (by omega)]; rfl
   rw [List.take_add_one,hrow] at nx
   refine f19W0 c ticks l f _ _ _ i _ _ _ _ _ (rv:=XO c ticks l f) hE ⟨fun _=>?_,fun h=>by omega⟩
   rw [e1]
   refine ⟨Kc hp (by omega),?_⟩
   rw [show QI (XB c f l i) l=XB c f l (i+1) from rfl,e2]
   have hl:=(run_tok (l:=fun _=>l) hp.tok (n:=i+1)).lc
   exact ⟨by show (XB c f l (i+1)).cars.length≤_; have:=hl; unfold XB; omega,by simp; omega,by omega,nx⟩
 exact key (Int.toNat ticks) 0 (by omega)
theorem WG (c:Cir) (ticks:Int) (l:List Prs) (f:List Flt) (h:(c.blocks.length≤9223372036854775807∧c.cars.length≤9223372036854775807)∧l.length≤9223372036854775807∧f.length≤9223372036854775807) :
 Pure Try.prog 23 [.agg [.rsl (Qk c.blocks) 0 c.blocks.length,.rsl (rowI c.cars) 0 c.cars.length],.int .i64 ticks,.rsl (QV l) 0 l.length,.rsl (Qo f) 0 f.length] (.tup [.int .i64 (Va c ticks l f).1,.int .i64 (Va c ticks l f).2]):=QT Try.func23 f23b fun E hE=>by
 refine f23W c ticks l f (rv:=Va c ticks l f) hE ⟨h,fun h0=>by rw [Va,if_neg h0],fun h0=>?_⟩
 obtain ⟨hc,hp⟩:=play_in h0
 have ht:=hp.tk
 refine ⟨hp.chk.new,?_⟩
 have key:∀ (d i:Nat),i+d=Int.toNat ticks→f23G0 E c ticks l f (XB c f l i).cars (XB c f l i).gos i (XB c f l i).tick (XB c f l i).stopped (XB c f l i).wrecked (XB c f l i).rounds (XB c f l i).gone:=by
  intro d
  induction d with
  | zero =>
   intro i hi
   refine f23W0 c ticks l f _ _ i _ _ _ _ _ (rv:=Va c ticks l f) hE ⟨fun h=>by omega,fun _=>?_⟩
   rw [Va,if_pos h0,show Int.toNat ticks=i by omega]
  | succ d ih =>
   intro i hi
   have nx:=ih (i+1) (by omega)
   have e1:(⟨c,f,(XB c f l i).cars,(XB c f l i).gos,(XB c f l i).tick,(XB c f l i).stopped,(XB c f l i).wrecked,(XB c f l i).rounds,(XB c f l i).gone⟩:Trk)=XB c f l i:=trk_eta run_c run_f
   refine f23W0 c ticks l f _ _ i _ _ _ _ _ (rv:=Va c ticks l f) hE ⟨fun _=>?_,fun h=>by omega⟩
   rw [e1]
   exact ⟨Kc hp (by omega),by omega,nx⟩
 exact key (Int.toNat ticks) 0 (by omega)
end Go.Proofs.Ytgdfkjjgdkejfaa
namespace Go.Proofs.Ytgdfkjjgdkejfaa
open Go Ax
open Go.Proofs
structure Rn where
 c:Cir
 spots:List Spt
 stood:List Int
 go:List Bool
 stp:Bool
def restS (c:Cir) (x:Spt):Bool:=x.ran == (bkAt c x.block).time
def wreckA (c:Cir) (spots:List Spt) (i:Nat):Bool:=(spots.getD i dS).opn && !restS c (spots.getD i dS)
def wreckS (c:Cir) (spots:List Spt):Bool:=(List.range spots.length).any fun i=>wreckA c spots i || (List.range i).any fun k=>(spots.getD k dS).block == (spots.getD i dS).block
theorem Wz {p:Nat→Bool} {n:Nat} (h:∀ j,j<n→p j=false):(List.range n).any p=false:=List.any_eq_false.2 fun x hx=>by simp [h x (List.mem_range.1 hx)]
theorem VO {p:Nat→Bool} {n i:Nat} (hi:i<n) (h:p i=true):(List.range n).any p=true:=List.any_eq_true.2 ⟨i,List.mem_range.2 hi,h⟩
end Go.Proofs.Ytgdfkjjgdkejfaa
namespace Go.Proofs.Ytgdfkjjgdkejfaa
open Go Ax
open Go.Proofs
/-! ### The reference's looks against the program's -/
theorem Xz {cars:List Car} {i:Nat} (h:i<cars.length):(cars.map Car.spot).getD i dS=(cars.getD i dC).spot:=Vf h
theorem QaY {cars:List Car} {p:Car→Bool}:cars.any p=true ↔ ∃ i,i<cars.length∧p (cars.getD i dC)=true:=by
 rw [List.any_eq_true]
 constructor
 · rintro ⟨x,hx,hp⟩
   obtain ⟨i,hi⟩:=List.getElem?_of_mem hx
   exact ⟨i,(List.getElem?_eq_some_iff.1 hi).1,by rw [Wd hi]; exact hp⟩
 · rintro ⟨i,hi,hp⟩
   exact ⟨_,List.mem_of_getElem? (getD_some hi),hp⟩
theorem Xx.uniq {cars:List Car} (h:Xx cars) {i j:Nat} (hi:i<cars.length) (hj:j<cars.length) (e:(cars.getD i dC).spot.block=(cars.getD j dC).spot.block):i=j:=by
 rcases Nat.lt_trichotomy i j with h1 | h1 | h1
 · exact absurd e (h i j h1 hj)
 · exact h1
 · exact absurd e.symm (h j i h1 hi)
/-! ### Wrecked -/
def CarT (c:Cir) (cars:List Car):Prop:=∀ x ∈ cars,x.spot.ran≤(bkAt c x.spot.block).time
theorem crash_wreck {c:Cir} {cars:List Car} (h:CarT c cars):VP c cars=wreckS c (cars.map Car.spot):=by
 have opn:∀ i,i<cars.length→((cars.getD i dC).spot.opn && decide ((cars.getD i dC).spot.ran<(bkAt c (cars.getD i dC).spot.block).time))=wreckA c (cars.map Car.spot) i:=fun i hi=>by
  have:=h _ (List.mem_of_getElem? (getD_some (d:=dC) hi))
  rw [wreckA,Xz hi,restS]
  congr 1
  rw [Bool.eq_iff_iff]
  simp only [decide_eq_true_eq,Bool.not_eq_true',beq_eq_false_iff_ne]
  omega
 have hcr:VP c cars=true ↔ ∃ i,i<cars.length∧badB c (cars.map Car.spot) i=true:=by
  unfold VP QH crashO
  constructor
  · intro hh
    split at hh
    · rename_i i hi
      obtain ⟨a,b,-⟩:=We hi
      exact ⟨i,by simpa using a,b⟩
    · simp at hh
  · rintro ⟨i,hi,hb⟩
    split
    · simp
    · rename_i hn
      have:=firstN_no hn i (by simpa using hi)
      rw [this] at hb; cases hb
 rw [Bool.eq_iff_iff,hcr,wreckS,List.any_eq_true]
 constructor
 · rintro ⟨i,hi,hb⟩
   rw [badB,Xz hi,Bool.or_eq_true] at hb
   rcases hb with hb | hb
   · obtain ⟨k,hk,hs⟩:=List.any_eq_true.1 hb
     rw [List.mem_range,List.length_map] at hk
     rw [Wu,Xz hk] at hs
     simp only [Bool.and_eq_true,Bool.not_eq_true',decide_eq_false_iff_not,beq_iff_eq] at hs
     rcases Nat.lt_or_ge k i with h1 | h1
     · refine ⟨i,List.mem_range.2 (by simpa using hi),?_⟩
       rw [Bool.or_eq_true]
       exact .inr (VO h1 (by rw [Xz hi,Xz hk]; simpa using hs.2.symm))
     · refine ⟨k,List.mem_range.2 (by simpa using hk),?_⟩
       rw [Bool.or_eq_true]
       exact .inr (VO (show i<k by omega) (by rw [Xz hi,Xz hk]; simpa using hs.2))
   · exact ⟨i,List.mem_range.2 (by simpa using hi),by rw [Bool.or_eq_true]; exact .inl (by rw [← opn i hi]; exact hb)⟩
 · rintro ⟨i,hi,hb⟩
   rw [List.mem_range,List.length_map] at hi
   rw [Bool.or_eq_true] at hb
   rcases hb with hb | hb
   · refine ⟨i,hi,?_⟩
     rw [badB,Xz hi,Bool.or_eq_true]
     exact .inr (by rw [opn i hi]; exact hb)
   · obtain ⟨k,hk,hs⟩:=List.any_eq_true.1 hb
     rw [List.mem_range] at hk
     rw [Xz hi,Xz (by omega)] at hs
     refine ⟨i,hi,?_⟩
     rw [badB,Xz hi,Bool.or_eq_true]
     refine .inl (VO (i:=k) (by rw [List.length_map]; omega) ?_)
     rw [Wu,Xz (by omega),decide_eq_false (by omega)]
     simp only [beq_iff_eq] at hs
     rw [hs]; simp
structure TT (T:Trk):Prop where
 ct:CarT T.c T.cars
 tm:∀ b ∈ T.c.blocks,0≤b.time
 wr:T.wrecked=VP T.c T.cars
theorem rollT_ct {T:Trk} (h:CarT T.c T.cars):CarT T.c (XS T):=by
 unfold XS
 split
 · intro x hx
   obtain ⟨y,hy,rfl⟩:=List.mem_map.1 hx
   have:=h y hy
   unfold Qr
   split
   · exact this
   · rename_i hr
     simp only [XV,beq_iff_eq] at hr
     simp only; omega
 · exact h
theorem press_ct {c:Cir} {rd:Rd4} {p:Prs} {s:List Car × List Bool × List Bool} (h:CarT c s.1):CarT c (Xm c rd p s).1:=by
 unfold Xm
 split
 · exact h
 · intro x hx
   obtain ⟨y,hy,rfl⟩:=List.mem_map.1 hx
   have:=h y hy
   unfold Vp
   split
   · exact this
   · exact this
theorem fold_ct {c:Cir} {rd:Rd4} {tick:Int}:∀ {l:List Prs} {s:List Car × List Bool × List Bool},CarT c s.1→CarT c (l.foldl (YW c rd tick) s).1
 | [],s,h=>h
 | p :: l,s,h=>by
  simp only [List.foldl_cons]
  refine fold_ct ?_
  unfold YW
  split
  · exact press_ct h
  · exact h
theorem brake_ct {c:Cir} {rd:Rd4} {ops:List Bool} {cars0:List Car} (hn:0<c.blocks.length) (ht:∀ b ∈ c.blocks,0≤b.time) {s:Brk}:∀ {b:Nat},CarT c s.cars→CarT c (QP c rd ops cars0 b s).cars
 | 0,h=>h
 | b+1,h=>by
  have ih:=brake_ct hn ht (rd:=rd) (ops:=ops) (cars0:=cars0) (b:=b) h
  simp only [QP]
  generalize QP c rd ops cars0 b s=s' at ih
  unfold YT
  split
  · split
    · exact ih
    · split
      · exact ih
      · intro x hx
        simp only [goB] at hx
        rcases List.mem_or_eq_of_mem_set hx with hx | rfl
        · exact ih x hx
        · exact ht _ (List.mem_of_getElem? (QaW (b:=((YN c b:Nat):Int)) ⟨Int.natCast_nonneg _,show Int.toNat ((YN c b:Nat):Int)<c.blocks.length from Nat.mod_lt _ hn⟩))
  · exact ih
theorem step_tt {T:Trk} {B:Int} {l:List Prs} (h:TT T) (ht:TOk T B):TT (QI T l):=by
 unfold QI
 split
 · rename_i hw; exact ⟨h.ct,h.tm,h.wr⟩
 · refine ⟨?_,h.tm,rfl⟩
   show CarT T.c (actT T l).cars
   unfold actT
   split
   · exact brake_ct ht.nb.1 h.tm (fold_ct (rollT_ct h.ct))
   · exact rollT_ct h.ct
end Go.Proofs.Ytgdfkjjgdkejfaa
namespace Go.Proofs.Ytgdfkjjgdkejfaa
open Go Ax
open Go.Proofs
/-- What the switches say,one behind the other. -/
def saidM (T:Trk) (m:Nat):Said:=XF T (((m / T.c.blocks.length+1:Nat)):Int) ((m % T.c.blocks.length:Nat):Int)
def splM (T:Trk) (stp:Bool) (m:Nat):Bool:=stp || (List.range m).any fun j=>QJ (saidM T j)
theorem QaD {T:Trk} {k b:Nat} (h:b<T.c.blocks.length):saidM T (k*T.c.blocks.length+b)=XF T ((k+1:Nat):Int) (b:Int):=by
 have e1:(k*T.c.blocks.length+b) / T.c.blocks.length=k:=by
  rw [Nat.mul_comm,Nat.mul_add_div (by omega),Nat.div_eq_of_lt h]; omega
 have e2:(k*T.c.blocks.length+b) % T.c.blocks.length=b:=by rw [Nat.mul_comm,Nat.mul_add_mod,Nat.mod_eq_of_lt h]
 rw [saidM,e1,e2]
theorem qJ {p:Nat→Bool} {a b:Nat}:(List.range (a+b)).any p=((List.range a).any p || (List.range b).any fun j=>p (a+j)):=by
 rw [List.range_add,List.any_append,List.any_map]; rfl
theorem Ke {T:Trk} {k:Nat}:(QR T ((k+1:Nat):Int)).any QJ=(List.range T.c.blocks.length).any fun j=>QJ (saidM T (k*T.c.blocks.length+j)):=by
 rw [QR,List.any_map,Bool.eq_iff_iff,List.any_eq_true,List.any_eq_true]
 constructor
 · rintro ⟨j,hj,h⟩
   exact ⟨j,hj,by rw [QaD (List.mem_range.1 hj)]; exact h⟩
 · rintro ⟨j,hj,h⟩
   exact ⟨j,hj,by rw [QaD (List.mem_range.1 hj)] at h; exact h⟩
theorem spl_all {T:Trk} {stp:Bool}:splM T stp (3*T.c.blocks.length)=(stp || Xd (Qm T)):=by
 have h1:=Ke (T:=T) (k:=0)
 have h2:=Ke (T:=T) (k:=1)
 have h3:=Ke (T:=T) (k:=2)
 rw [splM,show 3*T.c.blocks.length=T.c.blocks.length+T.c.blocks.length+T.c.blocks.length by omega,qJ,qJ]
 simp only [Xd,Qm,List.any_cons,List.any_nil,Bool.or_false,Bool.false_or]
 have e1:(List.range T.c.blocks.length).any (fun j=>QJ (saidM T j))=(QR T 1).any QJ:=by rw [show (1:Int)=((0+1:Nat):Int) from rfl,h1]; simp
 have e2:(List.range T.c.blocks.length).any (fun j=>QJ (saidM T (T.c.blocks.length+j)))=(QR T 2).any QJ:=by rw [show (2:Int)=((1+1:Nat):Int) from rfl,h2]; simp
 have e3:(List.range T.c.blocks.length).any (fun j=>QJ (saidM T (T.c.blocks.length+T.c.blocks.length+j)))=(QR T 3).any QJ:=by
  rw [show (3:Int)=((2+1:Nat):Int) from rfl,h3]; simp [Nat.two_mul]
 rw [e1,e2,e3,Bool.or_assoc]
/-- Nothing is split: both channels say the same. -/
theorem yO {T:Trk} (h:Xd (Qm T)=false) {k b:Nat} (hk:k<3) (hb:b<T.c.blocks.length):(XF T ((k+1:Nat):Int) (b:Int)).b=(XF T ((k+1:Nat):Int) (b:Int)).a:=by
 have:=spl_all (T:=T) (stp:=false)
 rw [h,splM] at this
 have:=List.any_eq_false.1 (by simpa using this) (k*T.c.blocks.length+b) (List.mem_range.2 (by
  have:k*T.c.blocks.length+T.c.blocks.length≤3*T.c.blocks.length:=by rw [← Nat.succ_mul]; exact Nat.mul_le_mul_right _ hk
  omega))
 rw [QaD hb] at this
 have this:(XF T ((k+1:Nat):Int) (b:Int)).a=(XF T ((k+1:Nat):Int) (b:Int)).b:=by simpa [QJ] using this
 exact this.symm
theorem k_at {T:Trk} {b:Nat} (h:b<T.c.blocks.length):(Qm T).k1.getD b dD=XF T 1 b∧(Qm T).k2.getD b dD=XF T 2 b∧(Qm T).k3.getD b dD=XF T 3 b:=by
 simp [Qm,QR,List.getD,List.getElem?_range h]
theorem both_a {T:Trk} (h:Xd (Qm T)=false) {b:Nat} (hb:b<T.c.blocks.length) (n:Int) :
 Qu ((Qm T).k1.getD b dD) n=((XF T 1 b).a == n)∧Qu ((Qm T).k2.getD b dD) n=((XF T 2 b).a == n)∧Qu ((Qm T).k3.getD b dD) n=((XF T 3 b).a == n):=by
 obtain ⟨e1,e2,e3⟩:=k_at hb
 have n1:=yO h (k:=0) (by omega) hb
 have n2:=yO h (k:=1) (by omega) hb
 have n3:=yO h (k:=2) (by omega) hb
 rw [e1,e2,e3,Qu,Qu,Qu]
 have n1:(XF T 1 b).b=(XF T 1 b).a:=n1
 have n2:(XF T 2 b).b=(XF T 2 b).a:=n2
 have n3:(XF T 3 b).b=(XF T 3 b).a:=n3
 rw [n1,n2,n3]; simp
end Go.Proofs.Ytgdfkjjgdkejfaa
namespace Go.Proofs.Ytgdfkjjgdkejfaa
open Go Ax
open Go.Proofs
theorem free_a {T:Trk} (hsp:Xd (Qm T)=false) (hn:0<T.c.blocks.length) {ops:List Bool} {b:Nat} (hb:b<T.c.blocks.length) :
 qj T.c (Qm T) ops b=((XF T 2 b).a == 1 && (XF T 3 b).a == 1 && !(ops.getD b false) && (XF T 1 (YN T.c b:Nat)).a == 0):=by
 have h1:=both_a hsp hb 1
 have h2:=both_a hsp (b:=YN T.c b) (Nat.mod_lt _ hn) 0
 rw [qj,h1.2.1,h1.2.2,h2.1]
theorem open_a {T:Trk} (hsp:Xd (Qm T)=false) {p:Prs} (hp:InC T.c p.block) :
 qU T.c (Qm T) p=((bkAt T.c p.block).station && (XF T 2 p.block).a == 1 && (XF T 1 p.block).a == 1):=by
 have h1:=both_a hsp hp.2 1
 have e:((Int.toNat p.block:Nat):Int)=p.block:=by have:=hp.1; omega
 rw [e] at h1
 rw [qU,h1.2.1,h1.1]
end Go.Proofs.Ytgdfkjjgdkejfaa
namespace Go.Proofs.Ytgdfkjjgdkejfaa
open Go Ax
open Go.Proofs
def stpT (T:Trk):Bool:=decide (0≤T.stopped)
end Go.Proofs.Ytgdfkjjgdkejfaa
namespace Go.Proofs.Ytgdfkjjgdkejfaa
open Go Ax
open Go.Proofs
def runOf (T:Trk):Rn:=⟨T.c,T.cars.map Car.spot,T.cars.map Car.stood,T.gos,stpT T⟩
/-! ### What the ride shows does not depend on the counters -/
structure Like (T T':Trk):Prop where
 c:T.c=T'.c
 f:T.faults=T'.faults
 cars:T.cars=T'.cars
 gos:T.gos=T'.gos
 tick:T.tick=T'.tick
 st:stpT T=stpT T'
 wr:T.wrecked=T'.wrecked
theorem Like.run {T T':Trk} (h:Like T T'):runOf T=runOf T':=by simp only [runOf,h.c,h.cars,h.gos,h.st]
theorem yc {c:Cir} {rd:Rd4} {ops:List Bool} {cars0:List Car} {s s':Brk} (h:s.cars=s'.cars) (hg:s.gos=s'.gos):∀ {b:Nat},(QP c rd ops cars0 b s).cars=(QP c rd ops cars0 b s').cars∧(QP c rd ops cars0 b s).gos=(QP c rd ops cars0 b s').gos
 | 0=>⟨h,hg⟩
 | b+1=>by
  have ih:=yc h hg (c:=c) (rd:=rd) (ops:=ops) (cars0:=cars0) (b:=b)
  simp only [QP]
  generalize QP c rd ops cars0 b s=t at ih
  generalize QP c rd ops cars0 b s'=t' at ih
  unfold YT
  split
  · split
    · exact ih
    · have hw:∀ i,qt c t b i=qt c t' b i:=fun i=>by simp only [qt,ih.1,ih.2]
      rename_i i _
      rw [hw i]
      split
      · exact ih
      · simp only [goB,ih.1,ih.2]; exact ⟨trivial,trivial⟩
  · exact ih
theorem saidV_eq {T T':Trk} (hc:T.c=T'.c) (hf:T.faults=T'.faults) (hx:T.cars=T'.cars) (ht:T.tick=T'.tick) {k b:Int}:XF T k b=XF T' k b:=by simp only [XF,hc,hf,hx,ht]
theorem readI_eq {T T':Trk} (hc:T.c=T'.c) (hf:T.faults=T'.faults) (hx:T.cars=T'.cars) (ht:T.tick=T'.tick):Qm T=Qm T':=by
 simp only [Qm,QR,hc,saidV_eq hc hf hx ht]
theorem Like.step {T T':Trk} {l:List Prs} (h:Like T T') (ht:0≤T.tick):Like (QI T l) (QI T' l):=by
 have ht':0≤T'.tick:=by rw [← h.tick]; exact ht
 have hr:XS T=XS T':=by simp only [XS,h.c,h.cars,h.tick]
 have hrd:Qm (midT T)=Qm (midT T'):=readI_eq h.c h.f hr h.tick
 have hst:(Ve T<0) ↔ (Ve T'<0):=by
  have h1:=h.st
  have h2:=h.tick
  unfold Ve
  rw [hrd]
  unfold stpT at h1
  have h1:(0≤T.stopped) ↔ (0≤T'.stopped):=by simpa using h1
  by_cases h0:T.stopped<0
  · rw [if_pos h0,if_pos (show T'.stopped<0 by omega)]
    split
    · rw [h2]
    · omega
  · rw [if_neg h0,if_neg (show ¬ T'.stopped<0 by omega)]; omega
 have hp:Xl T l=Xl T' l:=by unfold Xl; rw [hrd,hr,h.c,h.tick,h.gos]
 have hact:(actT T l).cars=(actT T' l).cars∧(actT T l).gos=(actT T' l).gos:=by
  unfold actT
  by_cases h0:Ve T<0
  · rw [if_pos h0,if_pos (hst.1 h0)]
    unfold yu
    rw [hrd,hp,h.c]
    exact yc (s:=⟨(Xl T' l).1,(Xl T' l).2.1,T.rounds,T.gone⟩) (s':=⟨(Xl T' l).1,(Xl T' l).2.1,T'.rounds,T'.gone⟩) rfl rfl
  · rw [if_neg h0,if_neg (fun hh=>h0 (hst.2 hh))]
    exact ⟨hr,h.gos⟩
 unfold QI
 rw [← h.wr]
 split
 · exact ⟨h.c,h.f,h.cars,h.gos,by simp only; rw [h.tick],h.st,rfl⟩
 · refine ⟨h.c,h.f,hact.1,hact.2,by simp only; rw [h.tick],?_,?_⟩
   · simp only [stpT]
     rw [decide_eq_decide]; omega
   · simp only; rw [hact.1,h.c]
end Go.Proofs.Ytgdfkjjgdkejfaa
namespace Ax
open Go Go.ChangeShapes Go.WideShapes Go.RowKit
abbrev Old (W:World) (b:Nat):Prop:=b<W.heap.size
/-- What is read as of this type stands for typed data. -/
def Dec (P:Program) (W:World) (t:TypeId) (T:Type) (F:T→List AV) (Q:T→Prop):Prop :=
 ∀ (H:Type) (enc:TypeId × Value→H) (sp:Nat→Bool) (held:Bool) (fuel:Nat) (cs:List Value) (x:DataW H × List MemPlace),
  DataW.trod enc P W 0 sp held fuel t cs=some x→∃ a,Q a∧VRs (Old W) W C0 (F a) cs
/-- The same for the fields from one on; 'off' is where they begin. -/
def DecFs (P:Program) (W:World) (fs:List Field) (off:Nat) (T:Type) (F:T→List AV) (Q:T→Prop) (tot:Nat):Prop :=
 ∀ (H:Type) (enc:TypeId × Value→H) (sp:Nat→Bool) (held:Bool) (fuel:Nat) (cs:List Value),cs.length=tot →
  (∀ f ∈ fs,∃ x,DataW.trod enc P W 0 sp held fuel f.type ((cs.drop f.offset).take (P.cellsOf f.type))=some x)→∃ a,Q a∧VRs (Old W) W C0 (F a) (cs.drop off)
section
variable {P:Program} {W:World} {t e:TypeId}
theorem VRs.one1 {Z:Nat→Prop} {w:World} {C:Ctx} {a:AV} {c:Value} (h:VR Z w C a c):VRs Z w C [a] [c] :=
 ⟨rfl,fun i x y p q=>by
  cases i with
  | zero=>simp at p q; subst p; subst q; exact h
  | succ i=>simp at p⟩
theorem dec_int {k:IntKind} (ht:P.underlying t=some (.int k)):Dec P W t Int (fun n=>[.int k n]) (fun n=>k.min≤n∧n≤k.max):=by
 intro H enc sp held fuel cs x h
 obtain ⟨n,rfl,-,hw⟩:=DataW.trod_int ht h
 simp only [Lit.wf,Bool.and_eq_true,decide_eq_true_eq] at hw
 exact ⟨n,hw,VRs.one1 (.int _ _)⟩
theorem KG (ht:P.underlying t=some (.int .i64)):Dec P W t Int cI (fun n=>InR .i64 n):=by
 intro H enc sp held fuel cs x h
 obtain ⟨n,hn,hv⟩:=dec_int ht H enc sp held fuel cs x h
 exact ⟨n,by simpa [InR,IntKind.min,IntKind.max,IntKind.signed,IntKind.bits] using hn,hv⟩
theorem QaU (ht:P.underlying t=some .bool):Dec P W t Bool cB (fun _=>True):=by
 intro H enc sp held fuel cs x h
 obtain ⟨b,rfl,-⟩:=DataW.trod_bool ht h
 exact ⟨b,trivial,VRs.one1 (.bool _)⟩
theorem Dec.map {T S:Type} {F:T→List AV} {Q:T→Prop} {F':S→List AV} {Q':S→Prop} (h:Dec P W t T F Q) (g:T→S) (hF:∀ a,F' (g a)=F a) (hQ:∀ a,Q a→Q' (g a)):Dec P W t S F' Q':=by
 intro H enc sp held fuel cs x hx
 obtain ⟨a,q,v⟩:=h H enc sp held fuel cs x hx
 exact ⟨g a,hQ a q,by rw [hF]; exact v⟩
theorem qG {tot:Nat}:DecFs P W [] tot Unit (fun _=>[]) (fun _=>True) tot:=by
 intro H enc sp held fuel cs hl _
 exact ⟨(),trivial,by rw [List.drop_of_length_le (by omega)]; exact ⟨rfl,fun i x y p q=>by simp at p⟩⟩
theorem XQ {f:Field} {fs:List Field} {off n tot:Nat} {A B:Type} {FA:A→List AV} {QA:A→Prop} {FB:B→List AV} {QB:B→Prop} (hn:P.cellsOf f.type=n) (ho:f.offset=off)
 (D:Dec P W f.type A FA QA) (R:DecFs P W fs (off+n) B FB QB tot) (hle:off+n≤tot):DecFs P W (f :: fs) off (A × B) (fun p=>FA p.1++FB p.2) (fun p=>QA p.1∧QB p.2) tot:=by
 intro H enc sp held fuel cs hl h
 obtain ⟨x,hx⟩:=h f (by simp)
 obtain ⟨a,qa,va⟩:=D H enc sp held fuel _ x hx
 obtain ⟨b,qb,vb⟩:=R H enc sp held fuel cs hl fun g hg=>h g (by simp [hg])
 rw [hn,ho] at va
 refine ⟨(a,b),⟨qa,qb⟩,?_⟩
 have e:cs.drop off=(cs.drop off).take n++cs.drop (off+n):=by
  rw [← List.drop_drop]; exact (List.take_append_drop _ _).symm
 rw [e]
 exact va.app vb
theorem WS {fs:Array Field} {T:Type} {F:T→List AV} {Q:T→Prop} {l:List Field} {tot:Nat} (ht:P.underlying t=some (.struct fs)) (hl:fs.toList=l) (hc:P.cellsOf t=tot) (h:DecFs P W l 0 T F Q tot):Dec P W t T F Q:=by
 intro H enc sp held fuel cs x hx
 obtain ⟨xs,n,-,-,h1,h2,h3⟩:=DataW.trod_struct ht hx
 obtain ⟨a,q,v⟩:=h H enc sp held n cs (by rw [h1,hc]) fun f hf=>by
  rw [← hl] at hf
  obtain ⟨i,hi⟩:=List.mem_iff_getElem?.1 hf
  have:=h3 i f (by simpa using hi)
  have hlt:i<xs.length:=by rw [h2]; have:=(List.getElem?_eq_some_iff.1 hi).1; simpa using this
  exact ⟨xs[i],by rw [this]; simp [hlt]⟩
 exact ⟨a,q,by simpa using v⟩
theorem cells_get {W:World} {a:Addr} {n:Nat} {cs:List Value} (h:W.cells? 0 a n=some cs):cs.length=n∧∀ i,i<n→W.cell? (a.add i)=cs[i]?:=by
 unfold World.cells? at h
 rw [if_pos (Nat.zero_le _)] at h
 have key:∀ (n k:Nat) (cs:List Value),((List.range' k n).mapM fun i=>W.cell? (a.add i))=some cs→cs.length=n∧∀ i,i<n→W.cell? (a.add (k+i))=cs[i]?:=by
  intro n
  induction n with
  | zero=>intro k cs h; simp at h; subst h; simp
  | succ n ih =>
   intro k cs h
   rw [List.range'_succ,List.mapM_cons] at h
   simp only [Option.bind_eq_bind,Option.bind_eq_some_iff,Option.pure_def,Option.some.injEq] at h
   obtain ⟨c,h1,cs',h2,rfl⟩:=h
   obtain ⟨i1,i2⟩:=ih (k+1) cs' h2
   refine ⟨by simp [i1],fun i hi=>?_⟩
   cases i with
   | zero=>simpa using h1
   | succ i=>rw [show k+(i+1)=k+1+i by omega,i2 i (by omega)]; simp
 have:=key n 0 cs (by rw [← List.range_eq_range']; exact h)
 simpa using this
theorem list_of {T:Type} {Q:Nat→T→Prop}:∀ (n k:Nat),(∀ i,k≤i→i<k+n→∃ a,Q i a)→∃ l:List T,l.length=n∧∀ i a,l[i]?=some a→Q (k+i) a
 | 0,k,_=>⟨[],rfl,by simp⟩
 | n+1,k,h=>by
  obtain ⟨a,ha⟩:=h k (Nat.le_refl _) (by omega)
  obtain ⟨l,hl,hq⟩:=list_of n (k+1) fun i h1 h2=>h i (by omega) (by omega)
  refine ⟨a :: l,by simp [hl],fun i b hb=>?_⟩
  cases i with
  | zero=>simp at hb; subst hb; exact ha
  | succ i=>simp at hb; have:=hq i b hb; rw [show k+(i+1)=k+1+i by omega]; exact this
theorem KF {T:Type} {F:T→List AV} {Q:T→Prop} {n:Nat} (ht:P.underlying t=some (.slice e)) (hc:P.cellsOf e=n) (hn:0<n) (hF:∀ a,(F a).length=n) (hk:∀ a,XG (F a)=true) (D:Dec P W e T F Q) :
 Dec P W t (List T) (fun l=>[.rsl (l.flatMap F) 0 l.length]) (fun l=>l.length≤9223372036854775807∧∀ a ∈ l,Q a):=by
 intro H enc sp held fuel cs x h
 rcases DataW.trod_slice ht h with ⟨rfl,-⟩ | ⟨a,len,cap,elems,rest,m,-,rfl,-,-,h1,h2,h3,h4,-,-⟩
 · exact ⟨[],⟨by simp,by simp⟩,VRs.one1 .rsl0⟩
 have hel:∀ i,i<len→∃ b,Q b∧∃ vs,W.cells? 0 (a.add (i*n)) n=some vs∧VRs (Old W) W C0 (F b) vs:=by
  intro i hi
  have:=h4 i hi
  rw [hc,List.getElem?_eq_getElem (by omega)] at this
  obtain ⟨vs,g1,g2⟩:=Option.bind_eq_some_iff.1 this
  obtain ⟨b,qb,vb⟩:=D H enc sp held m vs _ g2
  exact ⟨b,qb,vs,g1,vb⟩
 obtain ⟨l,hl,hq⟩:=list_of (Q:=fun i b=>Q b∧∃ vs,W.cells? 0 (a.add (i*n)) n=some vs∧VRs (Old W) W C0 (F b) vs) len 0 fun i _ hi=>hel i (by omega)
 refine ⟨l,⟨by rw [hl]; unfold maxLen at h2; omega,fun b hb=>?_⟩,VRs.one1 ?_⟩
 · obtain ⟨i,hi⟩:=List.mem_iff_getElem?.1 hb
   exact (hq i b hi).1
 rcases Nat.eq_zero_or_pos len with h0 | h0
 · subst h0
   obtain rfl:l=[]:=List.length_eq_zero_iff.1 hl
   exact .rsl0
 have hcell:∀ j,j<len*n→∃ v,W.cell? ⟨a.block,a.off+j,none⟩=some v∧∃ c,(l.flatMap F)[j]?=some c∧VR (Old W) W C0 c v∧XE c=true∧a.spot=none:=by
  intro j hj
  have hi:j / n<len:=by rw [Nat.div_lt_iff_lt_mul hn]; exact hj
  have hm:j % n<n:=Nat.mod_lt _ hn
  have hb:l[j / n]?=some l[j / n]:=by simp [hl,hi]
  obtain ⟨-,vs,g1,g2⟩:=hq _ _ hb
  rw [Nat.zero_add] at g1
  obtain ⟨g3,g4⟩:=cells_get g1
  have g5:=g4 (j % n) hm
  have hv:vs[j % n]?=some vs[j % n]:=by simp [g3,hm]
  rw [hv] at g5
  have hdm:j / n*n+j % n=j:=by rw [Nat.mul_comm]; exact Nat.div_add_mod j n
  have hspot:a.spot=none:=by
   have g6:=g4 0 hn
   rw [List.getElem?_eq_getElem (by omega)] at g6
   have hfirst:∃ v0,W.cell? a=some v0:=by
    have hb0:l[0]?=some l[0]:=by simp [hl,h0]
    obtain ⟨-,vs0,k1,-⟩:=hq _ _ hb0
    obtain ⟨k3,k4⟩:=cells_get k1
    have k5:=k4 0 hn
    rw [List.getElem?_eq_getElem (by omega)] at k5
    exact ⟨_,by simpa [Addr.add] using k5⟩
   obtain ⟨v0,hv0⟩:=hfirst
   unfold World.cell? at hv0
   split at hv0
   · split at hv0
     · cases hv0
     · rename_i hsp; simpa using hsp
   · cases hv0
  have haddr:(a.add (j / n*n)).add (j % n)=⟨a.block,a.off+j,none⟩:=by
   obtain ⟨ab,ao,asp⟩:=a
   simp only at hspot
   subst hspot
   unfold Addr.add
   split <;> split <;> simp_all <;> omega
  rw [haddr] at g5
  refine ⟨_,g5,?_⟩
  have hrow:=QaG F hF (k:=j % n) hb (by omega)
  have e1:(l.flatMap F)[j]?=(F l[j / n])[j % n]?:=by
   have:=congrArg (fun l=>l[0]?) hrow
   simp only [List.getElem?_drop,Nat.add_zero] at this
   rw [show 0+j / n*n+j % n=j by omega] at this
   rw [this,List.getElem?_append_left (by rw [List.length_drop,hF]; omega),List.getElem?_drop,Nat.add_zero]
  have hF1:(F l[j / n])[j % n]?=some ((F l[j / n])[j % n]'(by rw [hF]; exact hm)):=by simp [hF,hm]
  refine ⟨_,e1.trans hF1,g2.2 _ _ _ hF1 hv,Yv (hk _) hF1,hspot⟩
 have hrl:(l.flatMap F).length=len*n:=by rw [Qv F hF,hl]
 obtain ⟨v0,c0,-,-,-,-,hspot⟩:=hcell 0 (Nat.mul_pos h0 hn)
 have haa:a=⟨a.block,0+a.off,none⟩:=by
  obtain ⟨ab,ao,asp⟩:=a
  simp only at hspot ⊢
  subst hspot; simp
 have hblk:a.block<W.heap.size:=by
  unfold World.cell? at c0
  split at c0
  · rename_i heq; exact (Array.getElem?_eq_some_iff.1 heq).1
  · cases c0
 rw [← hl]
 have hval:Value.slice (some a) l.length cap=Value.slice (some ⟨a.block,a.off+0,none⟩) l.length cap:=by
  congr 2
  rw [haa]; simp
 rw [hval]
 refine .rsl (o:=a.off) (fun i=>(W.cell? ⟨a.block,a.off+i,none⟩).getD undef) hblk (by omega) (fun i hi=>?_) (fun i c hc=>?_) (fun i c hc=>?_)
 · obtain ⟨v,h5,-⟩:=hcell i (by omega)
   rw [h5]; rfl
 · obtain ⟨v,-,c',h6,-,h7,-⟩:=hcell i (by have:=(List.getElem?_eq_some_iff.1 hc).1; omega)
   rw [hc] at h6; cases h6; exact h7
 · obtain ⟨v,h5,c',h6,h7,-,-⟩:=hcell i (by have:=(List.getElem?_eq_some_iff.1 hc).1; omega)
   rw [hc] at h6; cases h6; rw [h5]; exact h7
/-! ### A law's arguments -/
/-- One argument. -/
def DecA (P:Program) (W:World) (t:TypeId) (T:Type) (F:T→AV) (Q:T→Prop):Prop :=
 ∀ (H:Type) (enc:TypeId × Value→H) (base:Nat) (v:Value) (d:DataW H) (ps:List MemPlace),Value.okWide P W .any base t v→DataW.Trod enc P W 0 (fun _=>true) true t v d ps →
  ∃ a,Q a∧VR (Old W) W C0 (F a) v
theorem KH {T:Type} {F:T→List AV} {Q:T→Prop} {fs:Array Field} (ht:P.underlying t=some (.struct fs)) (D:Dec P W t T F Q):DecA P W t T (fun a=>.agg (F a)) Q:=by
 intro H enc base v d ps hok ⟨fuel,h⟩
 obtain ⟨cs,rfl,-⟩:=okWide_struct ht hok
 obtain ⟨a,q,hv⟩:=D H enc _ _ fuel _ _ h
 exact ⟨a,q,.agg (by have:=hv.1; simpa [Value.cells] using this) fun i c x p r=>hv.2 i c x p (by simpa [Value.cells] using r)⟩
/-- All arguments; 'K': what holds of them together. -/
def DecAs (P:Program) (W:World) (ts:List TypeId) (K:List AV→Prop):Prop :=
 ∀ (H:Type) (enc:TypeId × Value→H) (base:Nat) (vs:List Value) (ds:List (DataW H)) (ps:List MemPlace),
  (∀ (j:Nat) t v,ts[j]?=some t→vs[j]?=some v→Value.okWide P W .any base t v)→DataW.TrodAll enc P W 0 (fun _=>true) true ts vs ds ps→∃ al,K al∧VRs (Old W) W C0 al vs
theorem decAs_nil {K:List AV→Prop} (h:K []):DecAs P W [] K:=by
 intro H enc base vs ds ps _ hT
 obtain ⟨rfl,rfl,rfl⟩:=trodAll_nil hT
 exact ⟨[],h,rfl,fun i x y p q=>by simp at p⟩
theorem Qap {ts:List TypeId} {T:Type} {F:T→AV} {Q:T→Prop} {K:List AV→Prop} (D:DecA P W t T F Q) (R:∀ a,Q a→DecAs P W ts fun al=>K (F a :: al)):DecAs P W (t :: ts) K:=by
 intro H enc base vs ds ps hok hT
 obtain ⟨v,vs',d,ds',p,q,rfl,rfl,rfl,h1,h2⟩:=trodAll_cons hT
 obtain ⟨a,qa,va⟩:=D H enc base v d p (hok 0 t v rfl rfl) h1
 obtain ⟨al,ka,vas⟩:=R a qa H enc base vs' ds' q (fun j t v ht hv=>hok (j+1) t v (by simpa using ht) (by simpa using hv)) h2
 exact ⟨_,ka,by simpa using (VRs.one1 va).app vas⟩
theorem Fr.same_at {W W':World} (h:Fr W (fun _=>False) W') (p:MemPlace) (hp:p.block<W.heap.size):W.sameAt W' p:=by
 have:=h.same p.block hp (fun h=>h)
 cases p with
 | cell b off=>exact YS this
 | map b=>exact this
theorem qv {H:Type} {enc:TypeId × Value→H} {W':World} (hl:laidOutB P=true) (h:Fr W (fun _=>False) W') {sp:Nat→Bool}:∀ {ts:List TypeId} {vs:List Value} {ds:List (DataW H)} {ps:List MemPlace},
 (∀ t ∈ ts,P.readableRec t=true∧t<P.types.size)→DataW.TrodAll enc P W 0 (fun _=>true) true ts vs ds ps→(∀ p ∈ ps,sp p.block=true)→DataW.TrodAll enc P W' 0 sp true ts vs ds ps
 | [],vs,ds,ps,_,hT,_=>by
  obtain ⟨rfl,rfl,rfl⟩:=trodAll_nil hT
  rfl
 | t :: ts,vs,ds,ps,hr,hT,hs=>by
  have hlt:=DataW.TrodAll.lt hT
  obtain ⟨v,vs',d,ds',p,q,rfl,rfl,rfl,h1,h2⟩:=trodAll_cons hT
  refine ⟨p,q,WideElems.Trod_stays hl (hr t (by simp)).1 (hr t (by simp)).2 h1 (fun x hx=>h.same_at x (hlt x (by simp [hx]))) (fun x hx=>hs x (by simp [hx])),
   qv hl h (fun t ht=>hr t (by simp [ht])) h2 (fun x hx=>hs x (by simp [hx])),rfl⟩
theorem Fr.keptBut {W W':World} (h:Fr W (fun _=>False) W') (may:MemPlace→Prop):W.keptBut W' may:=by
 refine ⟨h.os,h.output,fun i hi=>?_⟩
 rw [h.same i hi (fun h=>h)]
 cases hx:W.heap[i]? with
 | none=>simp
 | some o=>cases o <;> simp
theorem law_post {H:Type} {enc:TypeId × Value→H} {W':World} {f:Func} {s:ChangeSpec} {args:Array Value} {ds gs:List (DataW H)} {before:List MemPlace} {tb:TypeId}
 (hW:DataW.Whole enc P f.params.toList s.vars false W args.toList ds gs before) (hv:s.vars=[]) (hr:f.resultTypes=#[tb]) (hb:P.underlying tb=some .bool)
 (h1:(s.fn H (ds++gs)).results=[.lit (.bool true)]) (h2:(s.fn H (ds++gs)).args=ds) (h3:(s.fn H (ds++gs)).vars=[]) (hl:laidOutB P=true)
 (hread:∀ t ∈ f.params.toList,P.readableRec t=true∧t<P.types.size) (hf:Fr W (fun _=>False) W'):s.post enc P f false true false false W args (.bool true) W':=by
 have hW':=hW
 obtain ⟨p,q,hA,hV,hpq,-,-⟩:=hW
 refine ⟨ds,gs,before,[],p,[],hW',?_,?_,?_,hf.keptBut _,fun h=>by cases h⟩
 · rw [h1,hr]
   exact trodAll_mk1 ⟨1,by simp [DataW.trod,Value.cells,hb]⟩
 · rw [h2]
   exact qv hl hf hread hA fun x hx=>by simpa using DataW.TrodAll.lt hA x hx
 · rw [h3,hv]; rfl
theorem Fr.frozen {W W':World} (h:Fr W (fun _=>False) W') (a:Addr) (ha:a.block<W.heap.size):W'.frozen? a=W.frozen? a:=by
 unfold World.frozen?; rw [h.same a.block ha (fun h=>h)]
end
end Ax
namespace Go.Proofs.Ytgdfkjjgdkejfaa
open Go Ax
open Go.Proofs
theorem ownT:ownKnob Try.prog.godebug=none:=by kernel_rfl
theorem laidT:laidOutB Try.prog=true:=by kernel_rfl
theorem f17b:Try.f17.body=some (Qh Try.prog 17):=by kernel_rfl
theorem u17 {a c k:List AV} {r:AV} (h:Pure Try.prog 17 (a++c++k) r):Qd Try.prog (.clos 17 a k) c r:=QQ Try.func17 (by kernel_rfl) f17b h
abbrev YL:List AV:=[.rsl (Qk exC.blocks) 0 exC.blocks.length,.rsl (rowI exC.cars) 0 exC.cars.length]
abbrev yD:AV:=.tup [.rsl ((Xc Qb) ((XO exC 6 ([(⟨0,3,0⟩:Prs)]) ([]:List Flt)).1)) 0 (((XO exC 6 ([(⟨0,3,0⟩:Prs)]) ([]:List Flt)).1).length),.int .i64 ((XO exC 6 ([(⟨0,3,0⟩:Prs)]) ([]:List Flt)).2)]
abbrev yZ:=Va exC 3 ([]:List Prs) ([(⟨2,1,0,1,1⟩:Flt)])
abbrev yC:AV:=.tup [.int .i64 (yZ.1),.int .i64 (yZ.2)]
abbrev z17_4:List AV:=[.agg YL,.int .i64 3,.nilSl,.rsl [.int .i64 2,.int .i64 1,.int .i64 0,.int .i64 1,.int .i64 1] 0 1]
abbrev z17_6:List Blk:=[⟨true,0,3,true,[.int .i64 0,.int .i64 3,.int .i64 0],true⟩]
abbrev z17_7:List AV:=[.agg YL,.int .i64 6,.sl 0 0 0 1 3,.nilSl]
theorem p17_start_0 (le:(List Spt)) (se:Spt) {E:Env} {res:AV} (hE:Qn Try.prog 17 res E) (ho:AllP [Qd Try.prog (.clos 42 [] []) [] (.agg YL),VQ Try.prog (.clos 19 [] []) z17_7 z17_6 yD [⟨false,1,3,true,[],false⟩],Qd Try.prog (.clos 42 [] []) [] (.agg YL),Qd Try.prog (.clos 23 [] []) z17_4 yC,0=0,((XO exC 6 ([(⟨0,3,0⟩:Prs)]) ([]:List Flt)).2 == 0)=true,(yZ.2 == 0)=true,(yZ.1 == 2)=true,(((((XO exC 6 ([(⟨0,3,0⟩:Prs)]) ([]:List Flt)).1).length:Nat):Int) == 6)=true,(0:Int)≤3∧(3:Int)<((((XO exC 6 ([(⟨0,3,0⟩:Prs)]) ([]:List Flt)).1).length:Nat):Int),(((Xc Qb) ((XO exC 6 ([(⟨0,3,0⟩:Prs)]) ([]:List Flt)).1)).drop (0+3*1)).take 1=[.rsl (Qb le) 0 le.length],((le.length:Int) == 2)=true,(0:Int)≤3∧(3:Int)<((((XO exC 6 ([(⟨0,3,0⟩:Prs)]) ([]:List Flt)).1).length:Nat):Int),(((Xc Qb) ((XO exC 6 ([(⟨0,3,0⟩:Prs)]) ([]:List Flt)).1)).drop (0+3*1)).take 1=[.rsl (Qb le) 0 le.length],(0:Int)≤0∧(0:Int)<(le.length:Int),((Qb le).drop (0+0*3)).take 3=[.int .i64 se.block,.int .i64 se.ran,.bool se.opn]])
 (hr:AvLe (.bool (se.block == 1 && (se.ran == 0 && (se.opn == false && true)))) res):G Try.prog E [.code (Qh Try.prog 17)] ⟨[]++unds (Try.f17.ntmps - 0),[]⟩ :=
 Qf (n:=400) (evs:=[.v (.agg YL),.lent [0] yD [⟨false,1,3,true,[],false⟩],.v (.agg YL),.v yC,.b true,.b true,.b true,.b true,.ld (.rsl (Qb le) 0 le.length),.b true,.ld (.rsl (Qb le) 0 le.length),.ld (.agg [.int .i64 se.block,.int .i64 se.ran,.bool se.opn])]) (obs:=_) hE Try.func17 Ql (by kernel_rfl) ho hr
theorem p17_start_1 (le:(List Spt)) {E:Env} {res:AV} (hE:Qn Try.prog 17 res E) (ho:AllP [Qd Try.prog (.clos 42 [] []) [] (.agg YL),VQ Try.prog (.clos 19 [] []) z17_7 z17_6 yD [⟨false,1,3,true,[],false⟩],Qd Try.prog (.clos 42 [] []) [] (.agg YL),Qd Try.prog (.clos 23 [] []) z17_4 yC,0=0,((XO exC 6 ([(⟨0,3,0⟩:Prs)]) ([]:List Flt)).2 == 0)=true,(yZ.2 == 0)=true,(yZ.1 == 2)=true,(((((XO exC 6 ([(⟨0,3,0⟩:Prs)]) ([]:List Flt)).1).length:Nat):Int) == 6)=true,(0:Int)≤3∧(3:Int)<((((XO exC 6 ([(⟨0,3,0⟩:Prs)]) ([]:List Flt)).1).length:Nat):Int),(((Xc Qb) ((XO exC 6 ([(⟨0,3,0⟩:Prs)]) ([]:List Flt)).1)).drop (0+3*1)).take 1=[.rsl (Qb le) 0 le.length],((le.length:Int) == 2)=false])
 (hr:AvLe (.bool false) res):G Try.prog E [.code (Qh Try.prog 17)] ⟨[]++unds (Try.f17.ntmps - 0),[]⟩ :=
 Qf (n:=400) (evs:=[.v (.agg YL),.lent [0] yD [⟨false,1,3,true,[],false⟩],.v (.agg YL),.v yC,.b true,.b true,.b true,.b true,.ld (.rsl (Qb le) 0 le.length),.b false]) (obs:=_) hE Try.func17 Ql (by kernel_rfl) ho hr
theorem p17_start_2 {E:Env} {res:AV} (hE:Qn Try.prog 17 res E) (ho:AllP [Qd Try.prog (.clos 42 [] []) [] (.agg YL),VQ Try.prog (.clos 19 [] []) z17_7 z17_6 yD [⟨false,1,3,true,[],false⟩],Qd Try.prog (.clos 42 [] []) [] (.agg YL),Qd Try.prog (.clos 23 [] []) z17_4 yC,0=0,((XO exC 6 ([(⟨0,3,0⟩:Prs)]) ([]:List Flt)).2 == 0)=true,(yZ.2 == 0)=true,(yZ.1 == 2)=true,(((((XO exC 6 ([(⟨0,3,0⟩:Prs)]) ([]:List Flt)).1).length:Nat):Int) == 6)=false,false=false])
 (hr:AvLe (.bool false) res):G Try.prog E [.code (Qh Try.prog 17)] ⟨[]++unds (Try.f17.ntmps - 0),[]⟩ :=
 Qf (n:=400) (evs:=[.v (.agg YL),.lent [0] yD [⟨false,1,3,true,[],false⟩],.v (.agg YL),.v yC,.b true,.b true,.b true,.b false,.b false]) (obs:=_) hE Try.func17 Ql (by kernel_rfl) ho hr
theorem p17_start_3 {E:Env} {res:AV} (hE:Qn Try.prog 17 res E) (ho:AllP [Qd Try.prog (.clos 42 [] []) [] (.agg YL),VQ Try.prog (.clos 19 [] []) z17_7 z17_6 yD [⟨false,1,3,true,[],false⟩],Qd Try.prog (.clos 42 [] []) [] (.agg YL),Qd Try.prog (.clos 23 [] []) z17_4 yC,0=0,((XO exC 6 ([(⟨0,3,0⟩:Prs)]) ([]:List Flt)).2 == 0)=true,(yZ.2 == 0)=true,(yZ.1 == 2)=false,false=false,false=false])
 (hr:AvLe (.bool false) res):G Try.prog E [.code (Qh Try.prog 17)] ⟨[]++unds (Try.f17.ntmps - 0),[]⟩ :=
 Qf (n:=400) (evs:=[.v (.agg YL),.lent [0] yD [⟨false,1,3,true,[],false⟩],.v (.agg YL),.v yC,.b true,.b true,.b false,.b false,.b false]) (obs:=_) hE Try.func17 Ql (by kernel_rfl) ho hr
theorem p17_start_4 {E:Env} {res:AV} (hE:Qn Try.prog 17 res E) (ho:AllP [Qd Try.prog (.clos 42 [] []) [] (.agg YL),VQ Try.prog (.clos 19 [] []) z17_7 z17_6 yD [⟨false,1,3,true,[],false⟩],Qd Try.prog (.clos 42 [] []) [] (.agg YL),Qd Try.prog (.clos 23 [] []) z17_4 yC,0=0,((XO exC 6 ([(⟨0,3,0⟩:Prs)]) ([]:List Flt)).2 == 0)=true,(yZ.2 == 0)=false,false=false,false=false,false=false])
 (hr:AvLe (.bool false) res):G Try.prog E [.code (Qh Try.prog 17)] ⟨[]++unds (Try.f17.ntmps - 0),[]⟩ :=
 Qf (n:=400) (evs:=[.v (.agg YL),.lent [0] yD [⟨false,1,3,true,[],false⟩],.v (.agg YL),.v yC,.b true,.b false,.b false,.b false,.b false]) (obs:=_) hE Try.func17 Ql (by kernel_rfl) ho hr
theorem p17_start_5 {E:Env} {res:AV} (hE:Qn Try.prog 17 res E) (ho:AllP [Qd Try.prog (.clos 42 [] []) [] (.agg YL),VQ Try.prog (.clos 19 [] []) z17_7 z17_6 yD [⟨false,1,3,true,[],false⟩],Qd Try.prog (.clos 42 [] []) [] (.agg YL),Qd Try.prog (.clos 23 [] []) z17_4 yC,0=0,((XO exC 6 ([(⟨0,3,0⟩:Prs)]) ([]:List Flt)).2 == 0)=false,false=false,false=false,false=false,false=false])
 (hr:AvLe (.bool false) res):G Try.prog E [.code (Qh Try.prog 17)] ⟨[]++unds (Try.f17.ntmps - 0),[]⟩ :=
 Qf (n:=400) (evs:=[.v (.agg YL),.lent [0] yD [⟨false,1,3,true,[],false⟩],.v (.agg YL),.v yC,.b false,.b false,.b false,.b false,.b false]) (obs:=_) hE Try.func17 Ql (by kernel_rfl) ho hr
theorem f17W {E:Env} {rv:Bool} (hE:Qn Try.prog 17 (.bool rv) E)
 (h:(((exC.blocks.length≤9223372036854775807∧exC.cars.length≤9223372036854775807)∧([(⟨0,3,0⟩:Prs)]).length≤9223372036854775807∧([]:List Flt).length≤9223372036854775807)∧(((exC.blocks.length≤9223372036854775807∧exC.cars.length≤9223372036854775807)∧([]:List Prs).length≤9223372036854775807∧([(⟨2,1,0,1,1⟩:Flt)]).length≤9223372036854775807)∧(((XO exC 6 ([(⟨0,3,0⟩:Prs)]) ([]:List Flt)).2=0→(((Va exC 3 ([]:List Prs) ([(⟨2,1,0,1,1⟩:Flt)])).2=0→(((Va exC 3 ([]:List Prs) ([(⟨2,1,0,1,1⟩:Flt)])).1=2→((((((XO exC 6 ([(⟨0,3,0⟩:Prs)]) ([]:List Flt)).1).length:Nat):Int)=6→(∃ le:(List Spt),((XO exC 6 ([(⟨0,3,0⟩:Prs)]) ([]:List Flt)).1)[3]?=some le∧(((le.length:Int)=2→(∃ se:Spt,le[0]?=some se∧rv=(se.block == 1 && (se.ran == 0 && (se.opn == false && true)))))∧(¬ ((le.length:Int)=2)→rv=false))))∧(¬ (((((XO exC 6 ([(⟨0,3,0⟩:Prs)]) ([]:List Flt)).1).length:Nat):Int)=6)→rv=false)))∧(¬ ((Va exC 3 ([]:List Prs) ([(⟨2,1,0,1,1⟩:Flt)])).1=2)→rv=false)))∧(¬ ((Va exC 3 ([]:List Prs) ([(⟨2,1,0,1,1⟩:Flt)])).2=0)→rv=false)))∧(¬ ((XO exC 6 ([(⟨0,3,0⟩:Prs)]) ([]:List Flt)).2=0)→rv=false))))):G Try.prog E [.code (Qh Try.prog 17)] ⟨[]++unds (Try.f17.ntmps - 0),[]⟩:=by
 obtain ⟨h1,h⟩:=h
 obtain ⟨h2,h⟩:=h
 rcases bft ((XO exC 6 ([(⟨0,3,0⟩:Prs)]) ([]:List Flt)).2 == 0) with hc0 | hc0
 · have h:=h.1 (eq_of_beq hc0)
   rcases bft ((Va exC 3 ([]:List Prs) ([(⟨2,1,0,1,1⟩:Flt)])).2 == 0) with hc1 | hc1
   · have h:=h.1 (eq_of_beq hc1)
     rcases bft ((Va exC 3 ([]:List Prs) ([(⟨2,1,0,1,1⟩:Flt)])).1 == 2) with hc2 | hc2
     · have h:=h.1 (eq_of_beq hc2)
       rcases bft (((((XO exC 6 ([(⟨0,3,0⟩:Prs)]) ([]:List Flt)).1).length:Nat):Int) == 6) with hc3 | hc3
       · have h:=h.1 (eq_of_beq hc3)
         obtain ⟨le,h3,h⟩:=h
         rcases bft ((le.length:Int) == 2) with hc4 | hc4
         · have h:=h.1 (eq_of_beq hc4)
           obtain ⟨se,h4,h⟩:=h
           exact p17_start_0 le se hE ⟨(u42 (XH )),(Yi (fv':=.clos 19 [] []) (args':=[.agg [.rsl (Qk exC.blocks) 0 exC.blocks.length,.rsl (rowI exC.cars) 0 exC.cars.length],.int .i64 6,.rsl [.int .i64 0,.int .i64 3,.int .i64 0] 0 1,.nilSl]) (o1:=[]) (o2:=[0=0]) (by kernel_rfl) trivial (by kernel_rfl) ⟨rfl,trivial⟩ (Qd.le (args:=[.agg [.rsl (Qk exC.blocks) 0 exC.blocks.length,.rsl (rowI exC.cars) 0 exC.cars.length],.int .i64 6,.rsl (QV ([(⟨0,3,0⟩:Prs)])) 0 (([(⟨0,3,0⟩:Prs)]).length),.rsl (Qo ([]:List Flt)) 0 (([]:List Flt).length)]) (u19 (qS exC 6 ([(⟨0,3,0⟩:Prs)]) ([]:List Flt) h1)) ⟨AvLe.of_eq rfl,⟨AvLe.of_eq rfl,⟨AvLe.of_eq rfl,⟨Xr,trivial⟩⟩⟩⟩)),(u42 (XH )),(Qd.le (args:=[.agg [.rsl (Qk exC.blocks) 0 exC.blocks.length,.rsl (rowI exC.cars) 0 exC.cars.length],.int .i64 3,.rsl (QV ([]:List Prs)) 0 (([]:List Prs).length),.rsl (Qo ([(⟨2,1,0,1,1⟩:Flt)])) 0 (([(⟨2,1,0,1,1⟩:Flt)]).length)]) (u23 (WG exC 3 ([]:List Prs) ([(⟨2,1,0,1,1⟩:Flt)]) h2)) ⟨AvLe.of_eq rfl,⟨AvLe.of_eq rfl,⟨Xr,⟨AvLe.of_eq rfl,trivial⟩⟩⟩⟩),rfl,hc0,hc1,hc2,hc3,(Qp h3),(rp (cLs Qb) 1 0 1 h3),hc4,(Qp h3),(rp (cLs Qb) 1 0 1 h3),(Qp h4),(rp cSpt 3 0 3 h4),trivial⟩ (AvLe.of_eq (by rw [h]; try rfl))
         · have h:=h.2 (ne_of_beq_false hc4)
           exact p17_start_1 le hE ⟨(u42 (XH )),(Yi (fv':=.clos 19 [] []) (args':=[.agg [.rsl (Qk exC.blocks) 0 exC.blocks.length,.rsl (rowI exC.cars) 0 exC.cars.length],.int .i64 6,.rsl [.int .i64 0,.int .i64 3,.int .i64 0] 0 1,.nilSl]) (o1:=[]) (o2:=[0=0]) (by kernel_rfl) trivial (by kernel_rfl) ⟨rfl,trivial⟩ (Qd.le (args:=[.agg [.rsl (Qk exC.blocks) 0 exC.blocks.length,.rsl (rowI exC.cars) 0 exC.cars.length],.int .i64 6,.rsl (QV ([(⟨0,3,0⟩:Prs)])) 0 (([(⟨0,3,0⟩:Prs)]).length),.rsl (Qo ([]:List Flt)) 0 (([]:List Flt).length)]) (u19 (qS exC 6 ([(⟨0,3,0⟩:Prs)]) ([]:List Flt) h1)) ⟨AvLe.of_eq rfl,⟨AvLe.of_eq rfl,⟨AvLe.of_eq rfl,⟨Xr,trivial⟩⟩⟩⟩)),(u42 (XH )),(Qd.le (args:=[.agg [.rsl (Qk exC.blocks) 0 exC.blocks.length,.rsl (rowI exC.cars) 0 exC.cars.length],.int .i64 3,.rsl (QV ([]:List Prs)) 0 (([]:List Prs).length),.rsl (Qo ([(⟨2,1,0,1,1⟩:Flt)])) 0 (([(⟨2,1,0,1,1⟩:Flt)]).length)]) (u23 (WG exC 3 ([]:List Prs) ([(⟨2,1,0,1,1⟩:Flt)]) h2)) ⟨AvLe.of_eq rfl,⟨AvLe.of_eq rfl,⟨Xr,⟨AvLe.of_eq rfl,trivial⟩⟩⟩⟩),rfl,hc0,hc1,hc2,hc3,(Qp h3),(rp (cLs Qb) 1 0 1 h3),hc4,trivial⟩ (AvLe.of_eq (by rw [h]; try rfl))
       · have h:=h.2 (ne_of_beq_false hc3)
         exact p17_start_2 hE ⟨(u42 (XH )),(Yi (fv':=.clos 19 [] []) (args':=[.agg [.rsl (Qk exC.blocks) 0 exC.blocks.length,.rsl (rowI exC.cars) 0 exC.cars.length],.int .i64 6,.rsl [.int .i64 0,.int .i64 3,.int .i64 0] 0 1,.nilSl]) (o1:=[]) (o2:=[0=0]) (by kernel_rfl) trivial (by kernel_rfl) ⟨rfl,trivial⟩ (Qd.le (args:=[.agg [.rsl (Qk exC.blocks) 0 exC.blocks.length,.rsl (rowI exC.cars) 0 exC.cars.length],.int .i64 6,.rsl (QV ([(⟨0,3,0⟩:Prs)])) 0 (([(⟨0,3,0⟩:Prs)]).length),.rsl (Qo ([]:List Flt)) 0 (([]:List Flt).length)]) (u19 (qS exC 6 ([(⟨0,3,0⟩:Prs)]) ([]:List Flt) h1)) ⟨AvLe.of_eq rfl,⟨AvLe.of_eq rfl,⟨AvLe.of_eq rfl,⟨Xr,trivial⟩⟩⟩⟩)),(u42 (XH )),(Qd.le (args:=[.agg [.rsl (Qk exC.blocks) 0 exC.blocks.length,.rsl (rowI exC.cars) 0 exC.cars.length],.int .i64 3,.rsl (QV ([]:List Prs)) 0 (([]:List Prs).length),.rsl (Qo ([(⟨2,1,0,1,1⟩:Flt)])) 0 (([(⟨2,1,0,1,1⟩:Flt)]).length)]) (u23 (WG exC 3 ([]:List Prs) ([(⟨2,1,0,1,1⟩:Flt)]) h2)) ⟨AvLe.of_eq rfl,⟨AvLe.of_eq rfl,⟨Xr,⟨AvLe.of_eq rfl,trivial⟩⟩⟩⟩),rfl,hc0,hc1,hc2,hc3,rfl,trivial⟩ (AvLe.of_eq (by rw [h]; try rfl))
     · have h:=h.2 (ne_of_beq_false hc2)
       exact p17_start_3 hE ⟨(u42 (XH )),(Yi (fv':=.clos 19 [] []) (args':=[.agg [.rsl (Qk exC.blocks) 0 exC.blocks.length,.rsl (rowI exC.cars) 0 exC.cars.length],.int .i64 6,.rsl [.int .i64 0,.int .i64 3,.int .i64 0] 0 1,.nilSl]) (o1:=[]) (o2:=[0=0]) (by kernel_rfl) trivial (by kernel_rfl) ⟨rfl,trivial⟩ (Qd.le (args:=[.agg [.rsl (Qk exC.blocks) 0 exC.blocks.length,.rsl (rowI exC.cars) 0 exC.cars.length],.int .i64 6,.rsl (QV ([(⟨0,3,0⟩:Prs)])) 0 (([(⟨0,3,0⟩:Prs)]).length),.rsl (Qo ([]:List Flt)) 0 (([]:List Flt).length)]) (u19 (qS exC 6 ([(⟨0,3,0⟩:Prs)]) ([]:List Flt) h1)) ⟨AvLe.of_eq rfl,⟨AvLe.of_eq rfl,⟨AvLe.of_eq rfl,⟨Xr,trivial⟩⟩⟩⟩)),(u42 (XH )),(Qd.le (args:=[.agg [.rsl (Qk exC.blocks) 0 exC.blocks.length,.rsl (rowI exC.cars) 0 exC.cars.length],.int .i64 3,.rsl (QV ([]:List Prs)) 0 (([]:List Prs).length),.rsl (Qo ([(⟨2,1,0,1,1⟩:Flt)])) 0 (([(⟨2,1,0,1,1⟩:Flt)]).length)]) (u23 (WG exC 3 ([]:List Prs) ([(⟨2,1,0,1,1⟩:Flt)]) h2)) ⟨AvLe.of_eq rfl,⟨AvLe.of_eq rfl,⟨Xr,⟨AvLe.of_eq rfl,trivial⟩⟩⟩⟩),rfl,hc0,hc1,hc2,rfl,rfl,trivial⟩ (AvLe.of_eq (by rw [h]; try rfl))
   · have h:=h.2 (ne_of_beq_false hc1)
     exact p17_start_4 hE ⟨(u42 (XH )),(Yi (fv':=.clos 19 [] []) (args':=[.agg [.rsl (Qk exC.blocks) 0 exC.blocks.length,.rsl (rowI exC.cars) 0 exC.cars.length],.int .i64 6,.rsl [.int .i64 0,.int .i64 3,.int .i64 0] 0 1,.nilSl]) (o1:=[]) (o2:=[0=0]) (by kernel_rfl) trivial (by kernel_rfl) ⟨rfl,trivial⟩ (Qd.le (args:=[.agg [.rsl (Qk exC.blocks) 0 exC.blocks.length,.rsl (rowI exC.cars) 0 exC.cars.length],.int .i64 6,.rsl (QV ([(⟨0,3,0⟩:Prs)])) 0 (([(⟨0,3,0⟩:Prs)]).length),.rsl (Qo ([]:List Flt)) 0 (([]:List Flt).length)]) (u19 (qS exC 6 ([(⟨0,3,0⟩:Prs)]) ([]:List Flt) h1)) ⟨AvLe.of_eq rfl,⟨AvLe.of_eq rfl,⟨AvLe.of_eq rfl,⟨Xr,trivial⟩⟩⟩⟩)),(u42 (XH )),(Qd.le (args:=[.agg [.rsl (Qk exC.blocks) 0 exC.blocks.length,.rsl (rowI exC.cars) 0 exC.cars.length],.int .i64 3,.rsl (QV ([]:List Prs)) 0 (([]:List Prs).length),.rsl (Qo ([(⟨2,1,0,1,1⟩:Flt)])) 0 (([(⟨2,1,0,1,1⟩:Flt)]).length)]) (u23 (WG exC 3 ([]:List Prs) ([(⟨2,1,0,1,1⟩:Flt)]) h2)) ⟨AvLe.of_eq rfl,⟨AvLe.of_eq rfl,⟨Xr,⟨AvLe.of_eq rfl,trivial⟩⟩⟩⟩),rfl,hc0,hc1,rfl,rfl,rfl,trivial⟩ (AvLe.of_eq (by rw [h]; try rfl))
 · have h:=h.2 (ne_of_beq_false hc0)
   exact p17_start_5 hE ⟨(u42 (XH )),(Yi (fv':=.clos 19 [] []) (args':=[.agg [.rsl (Qk exC.blocks) 0 exC.blocks.length,.rsl (rowI exC.cars) 0 exC.cars.length],.int .i64 6,.rsl [.int .i64 0,.int .i64 3,.int .i64 0] 0 1,.nilSl]) (o1:=[]) (o2:=[0=0]) (by kernel_rfl) trivial (by kernel_rfl) ⟨rfl,trivial⟩ (Qd.le (args:=[.agg [.rsl (Qk exC.blocks) 0 exC.blocks.length,.rsl (rowI exC.cars) 0 exC.cars.length],.int .i64 6,.rsl (QV ([(⟨0,3,0⟩:Prs)])) 0 (([(⟨0,3,0⟩:Prs)]).length),.rsl (Qo ([]:List Flt)) 0 (([]:List Flt).length)]) (u19 (qS exC 6 ([(⟨0,3,0⟩:Prs)]) ([]:List Flt) h1)) ⟨AvLe.of_eq rfl,⟨AvLe.of_eq rfl,⟨AvLe.of_eq rfl,⟨Xr,trivial⟩⟩⟩⟩)),(u42 (XH )),(Qd.le (args:=[.agg [.rsl (Qk exC.blocks) 0 exC.blocks.length,.rsl (rowI exC.cars) 0 exC.cars.length],.int .i64 3,.rsl (QV ([]:List Prs)) 0 (([]:List Prs).length),.rsl (Qo ([(⟨2,1,0,1,1⟩:Flt)])) 0 (([(⟨2,1,0,1,1⟩:Flt)]).length)]) (u23 (WG exC 3 ([]:List Prs) ([(⟨2,1,0,1,1⟩:Flt)]) h2)) ⟨AvLe.of_eq rfl,⟨AvLe.of_eq rfl,⟨Xr,⟨AvLe.of_eq rfl,trivial⟩⟩⟩⟩),rfl,hc0,rfl,rfl,rfl,rfl,trivial⟩ (AvLe.of_eq (by rw [h]; try rfl))
theorem Xa:Pure Try.prog 17 [] (.bool true):=QT Try.func17 f17b fun E hE=>by
 have e1:(XO exC 6 ([(⟨0,3,0⟩:Prs)]) ([]:List Flt)).2=0:=by kernel_rfl
 have e2:(Va exC 3 ([]:List Prs) ([(⟨2,1,0,1,1⟩:Flt)])).2=0:=by kernel_rfl
 have e3:(Va exC 3 ([]:List Prs) ([(⟨2,1,0,1,1⟩:Flt)])).1=2:=by kernel_rfl
 have e4:(XO exC 6 ([(⟨0,3,0⟩:Prs)]) ([]:List Flt)).1.length=6:=by kernel_rfl
 have e5:((XO exC 6 ([(⟨0,3,0⟩:Prs)]) ([]:List Flt)).1.getD 3 []).length=2:=by kernel_rfl
 have e6:((XO exC 6 ([(⟨0,3,0⟩:Prs)]) ([]:List Flt)).1.getD 3 []).getD 0 dS=⟨1,0,false⟩:=by kernel_rfl
 refine f17W (rv:=true) hE ⟨⟨⟨by decide,by decide⟩,by decide,by decide⟩,⟨⟨by decide,by decide⟩,by decide,by decide⟩,fun _=>⟨fun _=>⟨fun _=>⟨fun _=>⟨_,getD_some (d:=[]) (by rw [e4]; decide),fun _=>⟨_,getD_some (d:=dS) (by rw [e5]; decide),by rw [e6]; rfl⟩,fun h=>?_⟩,fun h=>?_⟩,fun h=>?_⟩,fun h=>?_⟩,fun h=>?_⟩
 · exact absurd (by rw [e5]; rfl) h
 · exact absurd (by rw [e4]; rfl) h
 · exact absurd e3 h
 · exact absurd e2 h
 · exact absurd e1 h
theorem dInts (W:World):Dec Try.prog W 23 (List Int) (fun a=>[.rsl (rowI a) 0 a.length]) (fun a=>a.length≤9223372036854775807):=by
 refine Dec.map (KF Try.underlying23 (n:=1) (by kernel_rfl) (by decide) (fun _=>rfl) (fun _=>rfl) (KG Try.underlying3)) (fun x=>x) ?_ ?_
 · exact fun _=>rfl
 · exact fun _ h=>h.1
theorem dBk (W:World):Dec Try.prog W 45 Bk cBk (fun a=>True):=by
 refine Dec.map (WS Try.underlying45 rfl (tot:=4) (by kernel_rfl) (XQ (n:=1) (tot:=4) (by kernel_rfl) rfl (KG Try.underlying3) (XQ (n:=1) (tot:=4) (by kernel_rfl) rfl (QaU Try.underlying4) (XQ (n:=1) (tot:=4) (by kernel_rfl) rfl (KG Try.underlying3) (XQ (n:=1) (tot:=4) (by kernel_rfl) rfl (QaU Try.underlying4) qG (by decide)) (by decide)) (by decide)) (by decide))) (fun x=>(⟨x.1,x.2.1,x.2.2.1,x.2.2.2.1⟩:Bk)) ?_ ?_
 · exact fun _=>rfl
 · exact fun _ _=>trivial
theorem dBks (W:World):Dec Try.prog W 22 (List Bk) (fun a=>[.rsl (Qk a) 0 a.length]) (fun a=>a.length≤9223372036854775807):=by
 refine Dec.map (KF Try.underlying22 (n:=4) (by kernel_rfl) (by decide) (fun _=>rfl) (fun _=>rfl) (dBk W)) (fun x=>x) ?_ ?_
 · exact fun _=>rfl
 · exact fun _ h=>h.1
theorem dCir (W:World):Dec Try.prog W 25 Cir (fun a=>[.rsl (Qk a.blocks) 0 a.blocks.length,.rsl (rowI a.cars) 0 a.cars.length]) (fun a=>a.blocks.length≤9223372036854775807∧a.cars.length≤9223372036854775807):=by
 refine Dec.map (WS Try.underlying25 rfl (tot:=2) (by kernel_rfl) (XQ (n:=1) (tot:=2) (by kernel_rfl) rfl (dBks W) (XQ (n:=1) (tot:=2) (by kernel_rfl) rfl (dInts W) qG (by decide)) (by decide))) (fun x=>(⟨x.1,x.2.1⟩:Cir)) ?_ ?_
 · exact fun _=>rfl
 · exact fun _ h=>⟨h.1,h.2.1⟩
theorem dSpt (W:World):Dec Try.prog W 48 Spt cSpt (fun a=>True):=by
 refine Dec.map (WS Try.underlying48 rfl (tot:=3) (by kernel_rfl) (XQ (n:=1) (tot:=3) (by kernel_rfl) rfl (KG Try.underlying3) (XQ (n:=1) (tot:=3) (by kernel_rfl) rfl (KG Try.underlying3) (XQ (n:=1) (tot:=3) (by kernel_rfl) rfl (QaU Try.underlying4) qG (by decide)) (by decide)) (by decide))) (fun x=>(⟨x.1,x.2.1,x.2.2.1⟩:Spt)) ?_ ?_
 · exact fun _=>rfl
 · exact fun _ _=>trivial
theorem dSpts (W:World):Dec Try.prog W 46 (List Spt) (fun a=>[.rsl (Qb a) 0 a.length]) (fun a=>a.length≤9223372036854775807):=by
 refine Dec.map (KF Try.underlying46 (n:=3) (by kernel_rfl) (by decide) (fun _=>rfl) (fun _=>rfl) (dSpt W)) (fun x=>x) ?_ ?_
 · exact fun _=>rfl
 · exact fun _ h=>h.1
def CirQ (c:Cir):Prop:=c.blocks.length≤9223372036854775807∧c.cars.length≤9223372036854775807
theorem far_in {c:Cir} (h:farB c=false):c.blocks.length≤15∧c.cars.length≤12:=by
 simp only [farB,Bool.or_eq_false_iff,decide_eq_false_iff_not] at h; omega
end Go.Proofs.Ytgdfkjjgdkejfaa
namespace Go.Proofs.Ytgdfkjjgdkejfaa
open Go Ax
open Go.Proofs
def spotOk (c:Cir) (x:Spt):Bool:=Qj x.block 0 (c.blocks.length - 1) && Qj x.ran 0 (bkAt c x.block).time
end Go.Proofs.Ytgdfkjjgdkejfaa
namespace Go.Proofs.Ytgdfkjjgdkejfaa
open Go Ax
open Go.Proofs
/-! ### What the switches say,if nothing is split -/
theorem b2i_one {b:Bool}:(b2i b == 1)=b:=by cases b <;> rfl
theorem b2i_zero {b:Bool}:(b2i b == 0)=!b:=by cases b <;> rfl
theorem said_true {T:Trk} (h1:T.faults.length≤1) {k b:Int} (hs:QJ (XF T k b)=false):(XF T k b).a=b2i (isI T.c T.cars k b)∧(XF T k b).b=b2i (isI T.c T.cars k b):=by
 simp only [XF,saysV] at hs ⊢
 cases hf:T.faults with
 | nil=>simp
 | cons f l =>
  have:l=[]:=by rw [hf] at h1; exact List.eq_nil_of_length_eq_zero (by simpa using h1)
  subst this
  rw [hf] at hs
  simp only [List.foldl_cons,List.foldl_nil,XD,QJ] at hs ⊢
  split at hs
  · rename_i h
    rw [if_pos h]
    split at hs
    · rename_i hc; rw [if_pos hc]; simp only at hs ⊢; exact ⟨by simpa using hs,trivial⟩
    · rename_i hc; rw [if_neg hc]; simp only at hs ⊢; exact ⟨trivial,(show b2i (isI T.c T.cars k b)=f.val by simpa using hs).symm⟩
  · rename_i h; rw [if_neg h]; exact ⟨rfl,rfl⟩
theorem QaC {T:Trk} (h:Xd (Qm T)=false) {k b:Nat} (hk:k<3) (hb:b<T.c.blocks.length):QJ (XF T ((k+1:Nat):Int) (b:Int))=false:=by
 rw [QJ,yO h hk hb]; simp
theorem Qaz {T:Trk} (h1:T.faults.length≤1) (h:Xd (Qm T)=false) {k b:Nat} (hk:k<3) (hb:b<T.c.blocks.length):(XF T ((k+1:Nat):Int) (b:Int)).a=b2i (isI T.c T.cars ((k+1:Nat):Int) (b:Int)) :=
 (said_true h1 (QaC h hk hb)).1
theorem free_true {T:Trk} (h1:T.faults.length≤1) (hsp:Xd (Qm T)=false) (hn:0<T.c.blocks.length) {ops:List Bool} {b:Nat} (hb:b<T.c.blocks.length) :
 qj T.c (Qm T) ops b=(isI T.c T.cars 2 b && isI T.c T.cars 3 b && !(ops.getD b false) && !(isI T.c T.cars 1 (YN T.c b:Nat))):=by
 have e1:(XF T 2 b).a=b2i (isI T.c T.cars 2 b):=Qaz h1 hsp (k:=1) (by omega) hb
 have e2:(XF T 3 b).a=b2i (isI T.c T.cars 3 b):=Qaz h1 hsp (k:=2) (by omega) hb
 have e3:(XF T 1 (YN T.c b:Nat)).a=b2i (isI T.c T.cars 1 (YN T.c b:Nat)):=Qaz h1 hsp (k:=0) (by omega) (Nat.mod_lt _ hn)
 rw [free_a hsp hn hb,e1,e2,e3,b2i_one,b2i_one,b2i_zero]
theorem open_true {T:Trk} (h1:T.faults.length≤1) (hsp:Xd (Qm T)=false) {p:Prs} (hp:InC T.c p.block) (ho:qU T.c (Qm T) p=true):isI T.c T.cars 2 p.block=true:=by
 have e:((Int.toNat p.block:Nat):Int)=p.block:=by have:=hp.1; omega
 have e1:=Qaz h1 hsp (k:=1) (by omega) hp.2
 rw [e] at e1
 have e1:(XF T 2 p.block).a=b2i (isI T.c T.cars 2 p.block):=e1
 rw [open_a hsp hp,e1,b2i_one] at ho
 simp only [Bool.and_eq_true] at ho
 exact ho.1.2
/-! ### The brake,car by car -/
def mvC (c:Cir) (x:Car):Car:=⟨⟨(YN c (Int.toNat x.spot.block):Nat),0,x.spot.opn⟩,0⟩
def goS (c:Cir) (rd:Rd4) (ops:List Bool) (s0:Brk) (i:Nat):Bool:=qj c rd ops (Int.toNat (s0.cars.getD i dC).spot.block) && !(qt c s0 (Int.toNat (s0.cars.getD i dC).spot.block) i)
theorem carAt_some {cars:List Car} (hn:Xx cars) {i b:Nat} (hi:i<cars.length) (hb:(cars.getD i dC).spot.block=(b:Int)):QaV cars b cars.length=some i :=
 ql hi (by simpa using hb) fun j hj=>by
  have:=hn j i hj hi
  rw [hb] at this
  exact beq_eq_false_iff_ne.2 this
theorem Qas {c:Cir} {rd:Rd4} {ops:List Bool} {s0:Brk} (hn:Xx s0.cars) (hin:∀ x ∈ s0.cars,InC c x.spot.block) (hg:s0.gos.length=c.blocks.length):∀ {b:Nat},b≤c.blocks.length →
 ((QP c rd ops s0.cars b s0).cars.length=s0.cars.length∧(∀ i,i<s0.cars.length→(QP c rd ops s0.cars b s0).cars.getD i dC=if Int.toNat (s0.cars.getD i dC).spot.block<b∧goS c rd ops s0 i=true then mvC c (s0.cars.getD i dC) else s0.cars.getD i dC) ∧
   (∀ j,b≤j→(QP c rd ops s0.cars b s0).gos.getD j false=s0.gos.getD j false))
 | 0,_=>⟨rfl,fun i hi=>by rw [if_neg (by omega)]; rfl,fun j _=>rfl⟩
 | b+1,hb=>by
  obtain ⟨h1,h2,h3⟩:=Qas hn hin hg (rd:=rd) (ops:=ops) (b:=b) (by omega)
  simp only [QP]
  generalize QP c rd ops s0.cars b s0=s at h1 h2 h3
  have same:(∀ i,i<s0.cars.length→Int.toNat (s0.cars.getD i dC).spot.block=b→goS c rd ops s0 i=false)→s.cars.length=s0.cars.length∧(∀ i,i<s0.cars.length→s.cars.getD i dC=if Int.toNat (s0.cars.getD i dC).spot.block<b+1∧goS c rd ops s0 i=true then mvC c (s0.cars.getD i dC) else s0.cars.getD i dC)∧(∀ j,b+1≤j→s.gos.getD j false=s0.gos.getD j false):=fun hh=>by
   refine ⟨h1,fun i hi=>?_,fun j hj=>h3 j (by omega)⟩
   rw [h2 i hi]
   by_cases hbi:Int.toNat (s0.cars.getD i dC).spot.block=b
   · rw [if_neg (by omega),if_neg (by rw [hh i hi hbi]; simp)]
   · by_cases hlt:Int.toNat (s0.cars.getD i dC).spot.block<b∧goS c rd ops s0 i=true
     · rw [if_pos hlt,if_pos ⟨by omega,hlt.2⟩]
     · rw [if_neg hlt,if_neg fun h=>hlt ⟨by omega,h.2⟩]
  have inI:∀ i,i<s0.cars.length→((Int.toNat (s0.cars.getD i dC).spot.block:Nat):Int)=(s0.cars.getD i dC).spot.block:=fun i hi=>by
   have:=(hin _ (List.mem_of_getElem? (getD_some (d:=dC) hi))).1
   omega
  unfold YT
  split
  · rename_i hfree
    cases hc:QaV s0.cars b s0.cars.length with
    | none =>
     simp only
     refine same fun i hi hbi=>?_
     have:=carAt_some hn hi (b:=b) (by rw [← inI i hi,hbi])
     rw [hc] at this; cases this
    | some i =>
     simp only
     obtain ⟨hi,hib,-⟩:=We hc
     have hib:(s0.cars.getD i dC).spot.block=(b:Int):=by simpa using hib
     have hibn:Int.toNat (s0.cars.getD i dC).spot.block=b:=by omega
     have hsi:s.cars.getD i dC=s0.cars.getD i dC:=by rw [h2 i hi,if_neg (by omega)]
     have hw:qt c s b i=qt c s0 b i:=by simp only [qt,hsi,h3 b (Nat.le_refl b)]
     have only:∀ k,k<s0.cars.length→Int.toNat (s0.cars.getD k dC).spot.block=b→k=i:=fun k hk hkb=>hn.uniq hk hi (by rw [← inI k hk,hkb,hib])
     split
     · rename_i hwt
       refine same fun k hk hkb=>?_
       have:=only k hk hkb
       subst this
       rw [goS,hkb,← hw,hwt]; simp
     · rename_i hwt
       have hgo:goS c rd ops s0 i=true:=by rw [goS,hibn,hfree,← hw,Bool.eq_false_iff.2 hwt]; rfl
       refine ⟨by simp [goB,h1],fun k hk=>?_,fun j hj=>?_⟩
       · simp only [goB]
         rw [List.getD_eq_getElem?_getD,List.getElem?_set]
         by_cases hki:i=k
         · subst hki
           rw [if_pos rfl,if_pos (by rw [h1]; exact hk),if_pos ⟨by omega,hgo⟩,hsi]
           simp only [mvC,hibn,Option.getD_some]
         · rw [if_neg hki,← List.getD_eq_getElem?_getD,h2 k hk]
           have hne:Int.toNat (s0.cars.getD k dC).spot.block ≠ b:=fun h=>hki (only k hk h).symm
           by_cases hlt:Int.toNat (s0.cars.getD k dC).spot.block<b∧goS c rd ops s0 k=true
           · rw [if_pos hlt,if_pos ⟨by omega,hlt.2⟩]
           · rw [if_neg hlt,if_neg fun h=>hlt ⟨by omega,h.2⟩]
       · simp only [goB]
         rw [List.getD_eq_getElem?_getD,List.getElem?_set,if_neg (by omega),← List.getD_eq_getElem?_getD]
         exact h3 j (by omega)
  · rename_i hfree
    refine same fun i hi hbi=>?_
    rw [goS,hbi,Bool.eq_false_iff.2 hfree]; rfl
/-! ### What is pressed,car by car -/
structure Prd (c:Cir) (r:List Car) (s:List Car × List Bool × List Bool):Prop where
 len:s.1.length=r.length
 same:∀ i,i<r.length→(s.1.getD i dC).spot.block=(r.getD i dC).spot.block∧(s.1.getD i dC).spot.ran=(r.getD i dC).spot.ran∧(s.1.getD i dC).stood=(r.getD i dC).stood
 opn:∀ i,i<r.length→(s.1.getD i dC).spot.opn=true→(r.getD i dC).spot.opn=true ∨ (s.2.2.getD (Int.toNat (r.getD i dC).spot.block) false=true∧XV c (r.getD i dC)=true)
theorem isI_car {c:Cir} {cars:List Car} (hn:Xx cars) {i:Nat} (hi:i<cars.length):isI c cars 2 (cars.getD i dC).spot.block=XV c (cars.getD i dC):=by
 have hm:=List.mem_of_getElem? (getD_some (d:=dC) hi)
 rw [isI,if_neg (by omega),if_pos rfl,Bool.eq_iff_iff,QaY]
 constructor
 · rintro ⟨j,hj,hp⟩
   simp only [Bool.and_eq_true,beq_iff_eq] at hp
   have:=hn.uniq hj hi hp.1
   rw [← this]; exact hp.2
 · intro h
   exact ⟨i,hi,by rw [beq_self_eq_true,h]; rfl⟩
theorem Prd.press {T:Trk} (h1:T.faults.length≤1) (hsp:Xd (Qm T)=false) (hn:Xx T.cars) {s:List Car × List Bool × List Bool} {p:Prs} (hp:InC T.c p.block) (h:Prd T.c T.cars s) (hlo:s.2.2.length=T.c.blocks.length):Prd T.c T.cars (Xm T.c (Qm T) p s):=by
 unfold Xm
 split
 · exact ⟨h.len,h.same,h.opn⟩
 · refine ⟨by simp [h.len],fun i hi=>?_,fun i hi ho=>?_⟩
   · rw [Vf (d:=dC) (by rw [h.len]; exact hi)]
     have:=h.same i hi
     unfold Vp
     split
     · exact this
     · exact this
   · rw [Vf (d:=dC) (by rw [h.len]; exact hi)] at ho
     have hsm:=h.same i hi
     have grow:∀ j,s.2.2.getD j false=true→(opsP (qU T.c (Qm T) p) p s.1 s.2.2).getD j false=true:=fun j hj=>by
      have hjl:j<s.2.2.length:=by
       rcases Nat.lt_or_ge j s.2.2.length with q | q
       · exact q
       · rw [List.getD_eq_getElem?_getD,List.getElem?_eq_none q] at hj; cases hj
      rw [opsP,List.getD_eq_getElem?_getD,List.getElem?_set]
      split
      · rename_i e; subst e; rw [if_pos hjl,hj]; rfl
      · rw [← List.getD_eq_getElem?_getD]; exact hj
     unfold Vp at ho
     split at ho
     · rename_i hh
       simp only at ho
       have hk:p.kind=1:=by simpa using ho
       have hhit:=hh
       simp only [hitP,Bool.and_eq_true,beq_iff_eq,Bool.or_eq_true] at hh
       have hop:qU T.c (Qm T) p=true:=by rcases hh.2 with h | h; omega; exact h
       have hrest:=open_true h1 hsp hp hop
       have hb:(T.cars.getD i dC).spot.block=p.block:=by rw [← hsm.1]; exact hh.1
       rw [← hb,isI_car hn hi] at hrest
       refine .inr ⟨?_,hrest⟩
       have hany:s.1.any (hitP (qU T.c (Qm T) p) p)=true:=QaY.2 ⟨i,by rw [h.len]; exact hi,hhit⟩
       rw [hb,opsP,List.getD_eq_getElem?_getD,List.getElem?_set,if_pos rfl,if_pos (by rw [hlo]; exact hp.2),hany,show (p.kind == 1)=true by simpa using hk]
       simp
     · rcases h.opn i hi ho with q | ⟨q1,q2⟩
       · exact .inl q
       · exact .inr ⟨grow _ q1,q2⟩
theorem Prd.fold {T:Trk} (h1:T.faults.length≤1) (hsp:Xd (Qm T)=false) (hn:Xx T.cars):∀ {l:List Prs} {s:List Car × List Bool × List Bool},PrsIn T.c l→Prd T.c T.cars s→s.2.2.length=T.c.blocks.length→Prd T.c T.cars (l.foldl (YW T.c (Qm T) T.tick) s)
 | [],s,_,h,_=>h
 | p :: l,s,hp,h,hl=>by
  simp only [List.foldl_cons]
  have hpp:=hp p (by simp)
  refine Prd.fold h1 hsp hn (fun q hq=>hp q (by simp [hq])) ?_ ?_
  · unfold YW
    split
    · exact Prd.press h1 hsp hn hpp.1 h hl
    · exact h
  · unfold YW
    split
    · rw [Qac]; exact hl
    · exact hl
end Go.Proofs.Ytgdfkjjgdkejfaa
namespace Go.Proofs.Ytgdfkjjgdkejfaa
open Go Ax
open Go.Proofs
theorem wreck_no {c:Cir} {cars:List Car} (hn:Xx cars) (hr:∀ x ∈ cars,x.spot.opn=true→XV c x=true):wreckS c (cars.map Car.spot)=false:=by
 rw [wreckS]
 refine Wz fun i hi=>?_
 rw [List.length_map] at hi
 rw [Bool.or_eq_false_iff]
 refine ⟨?_,Wz fun k hk=>?_⟩
 · rw [wreckA,Xz hi]
   have:=hr _ (List.mem_of_getElem? (getD_some (d:=dC) hi))
   cases ho:(cars.getD i dC).spot.opn with
   | false=>rfl
   | true =>
    have:=this ho
    have e:restS c (cars.getD i dC).spot=true:=this
    rw [e]; rfl
 · rw [Xz hi,Xz (by omega)]
   exact beq_eq_false_iff_ne.2 (hn k i hk hi)
theorem next_inj {n a b:Nat} (ha:a<n) (hb:b<n) (h:(a+1) % n=(b+1) % n):a=b:=by
 rcases Nat.lt_or_ge (a+1) n with h1 | h1 <;> rcases Nat.lt_or_ge (b+1) n with h2 | h2
 · rw [Nat.mod_eq_of_lt h1,Nat.mod_eq_of_lt h2] at h; omega
 · rw [Nat.mod_eq_of_lt h1,show b+1=n by omega,Nat.mod_self] at h; omega
 · rw [Nat.mod_eq_of_lt h2,show a+1=n by omega,Nat.mod_self] at h; omega
 · omega
structure Inv (T:Trk) (B:Int):Prop where
 tok:TOk T B
 tt:TT T
 w:T.wrecked=false
 rest:∀ x ∈ T.cars,x.spot.opn=true→XV T.c x=true
 f1:T.faults.length≤1
theorem Inv.ns {T:Trk} {B:Int} (h:Inv T B):Xx T.cars:=h.tok.ns h.w
theorem roll_rest {T:Trk} (h:∀ x ∈ T.cars,x.spot.opn=true→XV T.c x=true):∀ x ∈ XS T,x.spot.opn=true→XV T.c x=true:=by
 unfold XS
 split
 · intro x hx
   obtain ⟨y,hy,rfl⟩:=List.mem_map.1 hx
   have:=h y hy
   unfold Qr
   split
   · rename_i hr; exact fun _=>hr
   · rename_i hr; exact fun ho=>absurd (this ho) hr
 · exact h
theorem Inv.nosplit {T:Trk} {B:Int} (h:Inv T B) (hs:Ve T<0):Xd (Qm (midT T))=false:=by
 have:=h.tok.tk
 unfold Ve at hs
 split at hs
 · split at hs
   · omega
   · rename_i hh; exact Bool.eq_false_iff.2 hh
 · rename_i h0; exact absurd hs h0
/-- Cars that move: each into a block that was free. -/
structure Moved (c:Cir) (r s r':List Car) (go:Nat→Bool):Prop where
 len:s.length=r.length
 len':r'.length=r.length
 each:∀ i,i<r.length→r'.getD i dC=if go i=true then mvC c (s.getD i dC) else s.getD i dC
 same:∀ i,i<r.length→(s.getD i dC).spot.block=(r.getD i dC).spot.block∧(s.getD i dC).spot.ran=(r.getD i dC).spot.ran
 free:∀ i,i<r.length→go i=true→(∀ j,j<r.length→(r.getD j dC).spot.block ≠ (YN c (Int.toNat (r.getD i dC).spot.block):Nat))∧(s.getD i dC).spot.opn=false
 opn:∀ i,i<r.length→(s.getD i dC).spot.opn=true→(r.getD i dC).spot.opn=true ∨ XV c (r.getD i dC)=true
theorem act_moved {T:Trk} {B:Int} {l:List Prs} (h:Inv T B) (hpr:PrsIn T.c l) (hs:Ve T<0):∃ s go,Moved T.c (XS T) s (actT T l).cars go:=by
 have hsp:=h.nosplit hs
 have hn:=qx h.ns
 have hcar:=Vn h.tok
 have hf1:(midT T).faults.length≤1:=h.f1
 have hprd:Prd T.c (XS T) (Xl T l):=Prd.fold (T:=midT T) hf1 hsp hn hpr ⟨rfl,fun i hi=>⟨rfl,rfl,rfl⟩,fun i hi ho=>.inl ho⟩ (by simp [midT])
 have hp:=pres_ok (l:=l) h.tok h.w
 have e:actT T l=yu T l:=by unfold actT; rw [if_pos hs]
 have hbr:=Qas (c:=T.c) (rd:=Qm (midT T)) (ops:=(Xl T l).2.2) (s0:=⟨(Xl T l).1,(Xl T l).2.1,T.rounds,T.gone⟩) hp.ns (fun x hx=>(hp.car x hx).inC) hp.lg (b:=T.c.blocks.length) (Nat.le_refl _)
 simp only at hbr
 have hl:=hprd.len
 refine ⟨(Xl T l).1,fun i=>goS T.c (Qm (midT T)) (Xl T l).2.2 ⟨(Xl T l).1,(Xl T l).2.1,T.rounds,T.gone⟩ i,hl,?_,fun i hi=>?_,fun i hi=>⟨(hprd.same i hi).1,(hprd.same i hi).2.1⟩,fun i hi hgo=>?_,fun i hi ho=>?_⟩
 · rw [e]; show (QP _ _ _ _ _ _).cars.length=_; rw [hbr.1]; exact hl
 · rw [e]
   show (QP _ _ _ _ _ _).cars.getD i dC=_
   rw [hbr.2.1 i (by rw [hl]; exact hi)]
   have hb:Int.toNat ((Xl T l).1.getD i dC).spot.block<T.c.blocks.length:=(hp.car _ (List.mem_of_getElem? (getD_some (d:=dC) (by rw [hl]; exact hi)))).inC.2
   by_cases hg:goS T.c (Qm (midT T)) (Xl T l).2.2 ⟨(Xl T l).1,(Xl T l).2.1,T.rounds,T.gone⟩ i=true
   · rw [if_pos ⟨hb,hg⟩,if_pos hg]
   · rw [if_neg (fun h=>hg h.2),if_neg hg]
 · have hb:=(hcar _ (List.mem_of_getElem? (getD_some (d:=dC) hi))).inC
   rw [goS] at hgo
   simp only [(hprd.same i hi).1] at hgo
   have hfr:=free_true (T:=midT T) hf1 hsp h.tok.nb.1 (ops:=(Xl T l).2.2) hb.2
   have hfr':qj T.c (Qm (midT T)) (Xl T l).2.2 (Int.toNat ((XS T).getD i dC).spot.block)=true:=by
    simp only [Bool.and_eq_true] at hgo; exact hgo.1
   have hfr:qj T.c (Qm (midT T)) (Xl T l).2.2 (Int.toNat ((XS T).getD i dC).spot.block)=(isI T.c (XS T) 2 (Int.toNat ((XS T).getD i dC).spot.block:Nat) && isI T.c (XS T) 3 (Int.toNat ((XS T).getD i dC).spot.block:Nat) && !((Xl T l).2.2.getD (Int.toNat ((XS T).getD i dC).spot.block) false) && !(isI T.c (XS T) 1 (YN T.c (Int.toNat ((XS T).getD i dC).spot.block):Nat))):=hfr
   rw [hfr'] at hfr
   have hfr:=hfr.symm
   simp only [Bool.and_eq_true,Bool.not_eq_true'] at hfr
   obtain ⟨⟨⟨-,q2⟩,q3⟩,q4⟩:=hfr
   have hbi:((Int.toNat ((XS T).getD i dC).spot.block:Nat):Int)=((XS T).getD i dC).spot.block:=by have:=hb.1; omega
   refine ⟨fun j hj hjb=>?_,?_⟩
   · rw [isI,if_pos rfl] at q4
     have:=(QaY (p:=fun x:Car=>x.spot.block == ((YN T.c (Int.toNat ((XS T).getD i dC).spot.block):Nat):Int))).2 ⟨j,hj,by simp only [beq_iff_eq]; exact hjb⟩
     rw [q4] at this; cases this
   · rw [Bool.eq_false_iff]
     intro ho
     rcases hprd.opn i hi ho with w | ⟨w,-⟩
     · rw [isI,if_neg (by omega),if_neg (by omega),hbi,Bool.not_eq_true'] at q2
       have:=(QaY (p:=fun x:Car=>x.spot.block == ((XS T).getD i dC).spot.block && x.spot.opn)).2 ⟨i,hi,by simp only [beq_self_eq_true,w]; rfl⟩
       rw [q2] at this; cases this
     · rw [q3] at w; cases w
 · rcases hprd.opn i hi ho with w | w
   · exact .inl w
   · exact .inr w.2
theorem Moved.ns {c:Cir} {r s r':List Car} {go:Nat→Bool} (h:Moved c r s r' go) (hn:Xx r) (hin:∀ x ∈ r,InC c x.spot.block):Xx r':=by
 have blk:∀ i,i<r.length→(r'.getD i dC).spot.block=if go i=true then ((YN c (Int.toNat (r.getD i dC).spot.block):Nat):Int) else (r.getD i dC).spot.block:=fun i hi=>by
  rw [h.each i hi]
  split
  · simp only [mvC,(h.same i hi).1]
  · exact (h.same i hi).1
 intro i j hij hj
 rw [h.len'] at hj
 have hi:i<r.length:=by omega
 rw [blk i hi,blk j hj]
 have h1:=hin _ (List.mem_of_getElem? (getD_some (d:=dC) hi))
 have h2:=hin _ (List.mem_of_getElem? (getD_some (d:=dC) hj))
 split
 · rename_i gi
   split
   · intro e
     have:=next_inj h1.2 h2.2 (by simp only [YN] at e; omega)
     exact hn i j hij hj (by have:=h1.1; have:=h2.1; omega)
   · exact fun e=>(h.free i hi gi).1 j hj e.symm
 · split
   · rename_i gj
     exact (h.free j hj gj).1 i hi
   · exact hn i j hij hj
theorem Moved.rest {c:Cir} {r s r':List Car} {go:Nat→Bool} (h:Moved c r s r' go) (hr:∀ x ∈ r,x.spot.opn=true→XV c x=true):∀ x ∈ r',x.spot.opn=true→XV c x=true:=fun x hx ho=>by
 obtain ⟨i,hi⟩:=List.getElem?_of_mem hx
 have hil:i<r.length:=by rw [← h.len']; exact (List.getElem?_eq_some_iff.1 hi).1
 have e:r'.getD i dC=x:=Wd hi
 rw [← e,h.each i hil] at ho ⊢
 split at ho
 · rename_i hg
   have:=(h.free i hil hg).2
   simp only [mvC,this] at ho; cases ho
 · rename_i hg
   rw [if_neg hg]
   have hs:=h.same i hil
   have:XV c (s.getD i dC)=XV c (r.getD i dC):=by simp only [XV,hs.1,hs.2]
   rw [this]
   rcases h.opn i hil ho with w | w
   · exact hr _ (List.mem_of_getElem? (getD_some (d:=dC) hil)) w
   · exact w
theorem Inv.act {T:Trk} {B:Int} {l:List Prs} (h:Inv T B) (hpr:PrsIn T.c l):Xx (actT T l).cars∧(∀ x ∈ (actT T l).cars,x.spot.opn=true→XV T.c x=true)∧(actT T l).cars.length=T.cars.length:=by
 by_cases hs:Ve T<0
 · obtain ⟨s,go,hm⟩:=act_moved h hpr hs
   exact ⟨hm.ns (qx h.ns) fun x hx=>(Vn h.tok x hx).inC,hm.rest (roll_rest h.rest),by rw [hm.len',Vm]⟩
 · have e:actT T l=⟨XS T,T.gos,T.rounds,T.gone⟩:=by unfold actT; rw [if_neg hs]
   rw [e]
   exact ⟨qx h.ns,roll_rest h.rest,Vm⟩
theorem Inv.eq {T:Trk} {B:Int} {l:List Prs} (h:Inv T B):QI T l=⟨T.c,T.faults,(actT T l).cars,(actT T l).gos,T.tick+1,Ve T,VP T.c (actT T l).cars,(actT T l).rounds,(actT T l).gone⟩:=by
 unfold QI; rw [if_neg (by rw [h.w]; simp)]
theorem Inv.step {T:Trk} {B:Int} {l:List Prs} (h:Inv T B) (hpr:PrsIn T.c l):Inv (QI T l) (B+1):=by
 obtain ⟨a1,a2,a3⟩:=h.act hpr
 have htt:=step_tt (l:=l) h.tt h.tok
 refine ⟨step_tok h.tok,htt,?_,?_,by rw [step_f]; exact h.f1⟩
 · rw [htt.wr,crash_wreck htt.ct]
   refine wreck_no ?_ ?_
   · rw [h.eq]; exact a1
   · rw [h.eq]; exact a2
 · rw [h.eq]; exact a2
theorem Inv.run {T:Trk} {B:Int} {l:Nat→List Prs} (h:Inv T B) (hpr:∀ n,PrsIn T.c (l n)):∀ {n:Nat},Inv (runT T l n) (B+n)
 | 0=>by rw [show B+((0:Nat):Int)=B by omega]; exact h
 | n+1=>by
  have:=(Inv.run h hpr (n:=n)).step (l:=l n) (by rw [run_c]; exact hpr n)
  rw [show B+((n+1:Nat):Int)=B+n+1 by omega]
  exact this
end Go.Proofs.Ytgdfkjjgdkejfaa
namespace Go.Proofs.Ytgdfkjjgdkejfaa
open Go Ax
open Go.Proofs
/-! ### A nil slice,handed on with blocks of the caller's own -/
def LeC (a b:AV):Prop:=∀ (Z:Nat→Prop) (w:World) (C:Ctx) (c:Value),VR Z w C a c→VR Z w C b c
def LesC:List AV→List AV→Prop
 | [],[]=>True
 | a :: as',b :: bs=>LeC a b∧LesC as' bs
 | _,_=>False
theorem LesC.vrs {Z:Nat→Prop} {w:World} {C:Ctx}:∀ {as' bs:List AV} {vs:List Value},LesC as' bs→VRs Z w C as' vs→VRs Z w C bs vs
 | [],[],vs,_,h=>h
 | a :: as',b :: bs,[],_,h=>by have:=h.1; simp at this
 | a :: as',b :: bs,v :: vs,hl,h=>by
  have h1:VR Z w C a v:=h.2 0 a v rfl rfl
  have h2:VRs Z w C as' vs:=⟨by have:=h.1; simpa using this,fun i c v p q=>h.2 (i+1) c v (by simpa using p) (by simpa using q)⟩
  have h3:=LesC.vrs hl.2 h2
  refine ⟨by simp [h3.1],fun i c x p q=>?_⟩
  cases i with
  | zero=>simp at p q; subst p; subst q; exact hl.1 _ _ _ _ h1
  | succ i=>exact h3.2 i c x (by simpa using p) (by simpa using q)
 | [],b :: bs,_,hl,_=>hl.elim
 | a :: as',[],_,hl,_=>hl.elim
/-! ### Rounds are counted where a car comes into the block 0 -/
end Go.Proofs.Ytgdfkjjgdkejfaa
namespace Go.Proofs.Ytgdfkjjgdkejfaa
open Go Ax
open Go.Proofs
/-- A row of a safe ride. -/
structure RowOk (c:Cir) (r:List Spt):Prop where
 len:r.length=c.cars.length
 ok:∀ x ∈ r,spotOk c x=true
 rest:∀ x ∈ r,x.opn=true→x.ran=(bkAt c x.block).time
 ns:∀ i j,i<j→j<r.length→(r.getD i dS).block ≠ (r.getD j dS).block
/-! ### When the ride is stopped -/
/-! ### A fault that is never seen -/
structure Sim (T T':Trk):Prop where
 c:T.c=T'.c
 cars:T.cars=T'.cars
 gos:T.gos=T'.gos
 tick:T.tick=T'.tick
 wr:T.wrecked=T'.wrecked
 s:T.stopped<0
 s':T'.stopped<0
theorem said_val {T:Trk} (h1:T.faults.length≤1) {k b:Int} (hs:QJ (XF T k b)=false):XF T k b=⟨b2i (isI T.c T.cars k b),b2i (isI T.c T.cars k b)⟩:=by
 have a:=said_true h1 hs
 cases h:XF T k b with
 | mk x y=>rw [h] at a; simp only at a; rw [a.1,a.2]
theorem said_sound {T T':Trk} (h1:T.faults.length≤1) (h1':T'.faults.length≤1) (hs:Xd (Qm T)=false) (hs':Xd (Qm T')=false) (hc:T.c=T'.c) (hx:T.cars=T'.cars):Qm T=Qm T':=by
 have key:∀ k,k<3→QR T ((k+1:Nat):Int)=QR T' ((k+1:Nat):Int):=fun k hk=>by
  rw [QR,QR,← hc]
  refine List.map_congr_left fun b hb=>?_
  have hb:=List.mem_range.1 hb
  rw [said_val h1 (QaC hs hk hb),said_val h1' (QaC hs' hk (b:=b) (by rw [← hc]; exact hb)),hc,hx]
 rw [Qm,Qm]
 have k1:=key 0 (by omega)
 have k2:=key 1 (by omega)
 have k3:=key 2 (by omega)
 have k1:QR T 1=QR T' 1:=k1
 have k2:QR T 2=QR T' 2:=k2
 have k3:QR T 3=QR T' 3:=k3
 rw [k1,k2,k3]
theorem Sim.step {T T':Trk} {l:List Prs} (h:Sim T T') (h1:T.faults.length≤1) (h1':T'.faults.length≤1) (ht:0≤T.tick) (hs:(QI T l).stopped<0) (hs':(QI T' l).stopped<0):Sim (QI T l) (QI T' l):=by
 have ht':0≤T'.tick:=by rw [← h.tick]; exact ht
 by_cases hw:T.wrecked=true
 · have e:QI T l=⟨T.c,T.faults,T.cars,T.gos,T.tick+1,T.stopped,T.wrecked,T.rounds,T.gone⟩:=by unfold QI; rw [if_pos hw]
   have e':QI T' l=⟨T'.c,T'.faults,T'.cars,T'.gos,T'.tick+1,T'.stopped,T'.wrecked,T'.rounds,T'.gone⟩:=by unfold QI; rw [if_pos (by rw [← h.wr]; exact hw)]
   rw [e,e']
   exact ⟨h.c,h.cars,h.gos,by simp only; rw [h.tick],h.wr,h.s,h.s'⟩
 · have e:QI T l=⟨T.c,T.faults,(actT T l).cars,(actT T l).gos,T.tick+1,Ve T,VP T.c (actT T l).cars,(actT T l).rounds,(actT T l).gone⟩:=by unfold QI; rw [if_neg hw]
   have e':QI T' l=⟨T'.c,T'.faults,(actT T' l).cars,(actT T' l).gos,T'.tick+1,Ve T',VP T'.c (actT T' l).cars,(actT T' l).rounds,(actT T' l).gone⟩:=by unfold QI; rw [if_neg (by rw [← h.wr]; exact hw)]
   have s1:Ve T<0:=by rw [e] at hs; exact hs
   have s2:Ve T'<0:=by rw [e'] at hs'; exact hs'
   have sp:∀ {T:Trk},Ve T<0→0≤T.tick→Xd (Qm (midT T))=false:=fun {T} q q'=>by
    unfold Ve at q
    split at q
    · split at q
      · omega
      · rename_i hh; exact Bool.eq_false_iff.2 hh
    · rename_i h0; exact absurd q h0
   have hr:XS T=XS T':=by simp only [XS,h.c,h.cars,h.tick]
   have hrd:Qm (midT T)=Qm (midT T'):=said_sound (T:=midT T) (T':=midT T') h1 h1' (sp s1 ht) (sp s2 ht') h.c hr
   have hp:Xl T l=Xl T' l:=by unfold Xl; rw [hrd,hr,h.c,h.tick,h.gos]
   have hact:(actT T l).cars=(actT T' l).cars∧(actT T l).gos=(actT T' l).gos:=by
    unfold actT
    rw [if_pos s1,if_pos s2]
    unfold yu
    rw [hrd,hp,h.c]
    exact yc (s:=⟨(Xl T' l).1,(Xl T' l).2.1,T.rounds,T.gone⟩) (s':=⟨(Xl T' l).1,(Xl T' l).2.1,T'.rounds,T'.gone⟩) rfl rfl
   rw [e,e']
   exact ⟨h.c,hact.1,hact.2,by simp only; rw [h.tick],by simp only; rw [hact.1,h.c],s1,s2⟩
end Go.Proofs.Ytgdfkjjgdkejfaa
namespace Go.Proofs.Ytgdfkjjgdkejfaa
open Go Ax
open Go.Proofs
def cyc (n x y:Int):Int:=Int.tmod ((y - x)+n) n
def Cyc (n x y D:Int):Prop:=0≤D∧D<n∧(D=y - x ∨ D=y - x+n)
theorem YC {n x y:Int} (hx:0≤x∧x<n) (hy:0≤y∧y<n):Cyc n x y (cyc n x y):=by
 unfold cyc Cyc
 rw [Int.tmod_eq_emod_of_nonneg (by omega)]
 refine ⟨Int.emod_nonneg _ (by omega),Int.emod_lt_of_pos _ (by omega),?_⟩
 rcases Int.lt_or_le y x with h | h
 · right; rw [Int.emod_eq_of_lt (by omega) (by omega)]
 · left; rw [Int.add_emod_right,Int.emod_eq_of_lt (by omega) (by omega)]
def Mv (n p q m:Int):Prop:=(m=0∧q=p) ∨ (m=1∧((q=p+1∧p+1<n) ∨ (q=0∧p+1=n)))
theorem dist_step {n pi pk qi qk mi mk D D':Int} (hD:Cyc n pi pk D) (hD':Cyc n qi qk D') (hi:Mv n pi qi mi) (hk:Mv n pk qk mk) (ri:0≤pi∧pi<n) (rk:0≤pk∧pk<n) (ne:pi ≠ pk) (fi:mi=1→qi ≠ pk) (fk:mk=1→qk ≠ pi):D'=D+mk - mi:=by
 unfold Cyc at hD hD'
 unfold Mv at hi hk
 rcases hi with ⟨rfl,rfl⟩ | ⟨rfl,hi⟩ <;> rcases hk with ⟨rfl,rfl⟩ | ⟨rfl,hk⟩
 · omega
 · have:=fk rfl; omega
 · have:=fi rfl; omega
 · have:=fk rfl; have:=fi rfl; omega
theorem order_step {n pi pk pm qk qm mi mk mm D D2:Int} (hD:Cyc n pi pk D) (hD2:Cyc n pi pm D2) (hk:Mv n pk qk mk) (hm:Mv n pm qm mm) (ne:pk ≠ pm) (fk:mk=1→qk ≠ pm) (fm:mm=1→qm ≠ pk) (rk:0≤pk∧pk<n) (rm:0≤pm∧pm<n):(D<D2) ↔ (D+mk - mi<D2+mm - mi):=by
 unfold Cyc at hD hD2
 unfold Mv at hk hm
 rcases hk with ⟨rfl,rfl⟩ | ⟨rfl,hk⟩ <;> rcases hm with ⟨rfl,rfl⟩ | ⟨rfl,hm⟩
 · omega
 · have:=fm rfl; omega
 · have:=fk rfl; omega
 · have:=fk rfl; have:=fm rfl; omega
end Go.Proofs.Ytgdfkjjgdkejfaa