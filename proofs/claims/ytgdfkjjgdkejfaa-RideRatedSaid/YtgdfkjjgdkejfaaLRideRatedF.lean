/- A part of the proof: several texts, one behind the other. -/
import Derived.Test.YtgdfkjjgdkejfaaLRideRatedE
import Derived.ProofKit
import Derived.OpenShut
import Derived.WideShapes
import Derived.WideKeyArgs
import Derived.ChangeSame
set_option linter.unusedVariables false
set_option linter.unusedSimpArgs false
set_option maxRecDepth 100000
namespace Go.Proofs.Ytgdfkjjgdkejfaa
open Go Ax
open Go.Proofs
theorem Wj {α β:Type} {f:α→β} {l:List α} {i:Nat} {a:α}:(l.set i a).map f=(l.map f).set i (f a):=List.map_set
theorem Kk {α:Type} {l:List α} {i:Nat} {x:α} (h:l[i]?=some x):l.set i x=l:=by
 apply List.ext_getElem?
 intro j
 rw [List.getElem?_set]
 split
 · rename_i e; subst e; rw [if_pos (List.getElem?_eq_some_iff.1 h).1,h]
 · rfl
/-- One car alone is turned. -/
theorem map_one {f:Car→Car} {cars:List Car} {i:Nat} (hi:i<cars.length) (h:∀ j,j<cars.length→j ≠ i→f (cars.getD j dC)=cars.getD j dC):cars.map f=cars.set i (f (cars.getD i dC)):=by
 apply List.ext_getElem?
 intro j
 rw [List.getElem?_map,List.getElem?_set]
 split
 · rename_i e; subst e; rw [getD_some (d:=dC) hi]; first | rfl | (rw [if_pos hi]; rfl)
 · rename_i e
   rcases Nat.lt_or_ge j cars.length with hj | hj
   · rw [getD_some (d:=dC) hj]; simp only [Option.map_some]; rw [h j hj (fun h=>e h.symm)]
   · rw [List.getElem?_eq_none hj]; rfl
theorem map_no {f:Car→Car} {cars:List Car} (h:∀ j,j<cars.length→f (cars.getD j dC)=cars.getD j dC):cars.map f=cars:=by
 apply List.ext_getElem?
 intro j
 rw [List.getElem?_map]
 rcases Nat.lt_or_ge j cars.length with hj | hj
 · rw [getD_some (d:=dC) hj]; simp only [Option.map_some]; rw [h j hj]
 · rw [List.getElem?_eq_none hj]; rfl
/-- What the switches say,one behind the other. -/
def Kb (T:Trk) (m:Nat):Said:=Xc T (((m / T.c.blocks.length+1:Nat)):Int) ((m % T.c.blocks.length:Nat):Int)
def arrM (T:Trk) (m:Nat):List Int:=(List.range (3*T.c.blocks.length)).map fun j=>if j<m then (Kb T j).a else 0
def splM (T:Trk) (stp:Bool) (m:Nat):Bool:=stp || (List.range m).any fun j=>Qy (Kb T j)
theorem Qan {T:Trk} {m:Nat}:(arrM T m).length=3*T.c.blocks.length:=by simp [arrM]
theorem yE {T:Trk} {m j:Nat} (h:j<3*T.c.blocks.length):(arrM T m)[j]?=some (if j<m then (Kb T j).a else 0):=by
 rw [arrM,List.getElem?_map,List.getElem?_range h]; rfl
theorem arr_zero {T:Trk}:arrM T 0=List.replicate (3*T.c.blocks.length) 0:=by
 apply List.ext_getElem?
 intro j
 rcases Nat.lt_or_ge j (3*T.c.blocks.length) with h | h
 · rw [yE h,List.getElem?_replicate,if_pos h,if_neg (by omega)]
 · rw [List.getElem?_eq_none (by rw [Qan]; exact h),List.getElem?_eq_none (by simpa using h)]
theorem arr_set {T:Trk} {m:Nat} (h:m<3*T.c.blocks.length):(arrM T m).set m (Kb T m).a=arrM T (m+1):=by
 apply List.ext_getElem?
 intro j
 rw [List.getElem?_set]
 split
 · rename_i e; subst e; rw [if_pos (by rw [Qan]; exact h),yE h,if_pos (by omega)]
 · rename_i e
   rcases Nat.lt_or_ge j (3*T.c.blocks.length) with hj | hj
   · rw [yE hj,yE hj]
     rcases Nat.lt_or_ge j m with h1 | h1
     · rw [if_pos h1,if_pos (by omega)]
     · rw [if_neg (by omega),if_neg (by omega)]
   · rw [List.getElem?_eq_none (by rw [Qan]; exact hj),List.getElem?_eq_none (by rw [Qan]; exact hj)]
theorem spl_next {T:Trk} {stp:Bool} {m:Nat}:splM T stp (m+1)=(splM T stp m || Qy (Kb T m)):=by rw [splM,range_any,← Bool.or_assoc]; rfl
theorem qG {T:Trk} {k b:Nat} (h:b<T.c.blocks.length):Kb T (k*T.c.blocks.length+b)=Xc T ((k+1:Nat):Int) (b:Int):=by
 have e1:(k*T.c.blocks.length+b) / T.c.blocks.length=k:=by
  rw [Nat.mul_comm,Nat.mul_add_div (by omega),Nat.div_eq_of_lt h]; omega
 have e2:(k*T.c.blocks.length+b) % T.c.blocks.length=b:=by rw [Nat.mul_comm,Nat.mul_add_mod,Nat.mod_eq_of_lt h]
 rw [Kb,e1,e2]
theorem qX {p:Nat→Bool} {a b:Nat}:(List.range (a+b)).any p=((List.range a).any p || (List.range b).any fun j=>p (a+j)):=by
 rw [List.range_add,List.any_append,List.any_map]; rfl
theorem KJ {T:Trk} {k:Nat}:(QK T ((k+1:Nat):Int)).any Qy=(List.range T.c.blocks.length).any fun j=>Qy (Kb T (k*T.c.blocks.length+j)):=by
 rw [QK,List.any_map,Bool.eq_iff_iff,List.any_eq_true,List.any_eq_true]
 constructor
 · rintro ⟨j,hj,h⟩
   exact ⟨j,hj,by rw [qG (List.mem_range.1 hj)]; exact h⟩
 · rintro ⟨j,hj,h⟩
   exact ⟨j,hj,by rw [qG (List.mem_range.1 hj)] at h; exact h⟩
theorem Qbx {T:Trk} {stp:Bool}:splM T stp (3*T.c.blocks.length)=(stp || QL (Qj T)):=by
 have h1:=KJ (T:=T) (k:=0)
 have h2:=KJ (T:=T) (k:=1)
 have h3:=KJ (T:=T) (k:=2)
 rw [splM,show 3*T.c.blocks.length=T.c.blocks.length+T.c.blocks.length+T.c.blocks.length by omega,qX,qX]
 simp only [QL,Qj,List.any_cons,List.any_nil,Bool.or_false,Bool.false_or]
 have e1:(List.range T.c.blocks.length).any (fun j=>Qy (Kb T j))=(QK T 1).any Qy:=by rw [show (1:Int)=((0+1:Nat):Int) from rfl,h1]; simp
 have e2:(List.range T.c.blocks.length).any (fun j=>Qy (Kb T (T.c.blocks.length+j)))=(QK T 2).any Qy:=by rw [show (2:Int)=((1+1:Nat):Int) from rfl,h2]; simp
 have e3:(List.range T.c.blocks.length).any (fun j=>Qy (Kb T (T.c.blocks.length+T.c.blocks.length+j)))=(QK T 3).any Qy:=by
  rw [show (3:Int)=((2+1:Nat):Int) from rfl,h3]; simp [Nat.two_mul]
 rw [e1,e2,e3,Bool.or_assoc]
/-- Nothing is split: both channels say the same. -/
theorem Ko {T:Trk} (h:QL (Qj T)=false) {k b:Nat} (hk:k<3) (hb:b<T.c.blocks.length):(Xc T ((k+1:Nat):Int) (b:Int)).b=(Xc T ((k+1:Nat):Int) (b:Int)).a:=by
 have:=Qbx (T:=T) (stp:=false)
 rw [h,splM] at this
 have:=List.any_eq_false.1 (by simpa using this) (k*T.c.blocks.length+b) (List.mem_range.2 (by
  have:k*T.c.blocks.length+T.c.blocks.length≤3*T.c.blocks.length:=by rw [← Nat.succ_mul]; exact Nat.mul_le_mul_right _ hk
  omega))
 rw [qG hb] at this
 have this:(Xc T ((k+1:Nat):Int) (b:Int)).a=(Xc T ((k+1:Nat):Int) (b:Int)).b:=by simpa [Qy] using this
 exact this.symm
theorem k_at {T:Trk} {b:Nat} (h:b<T.c.blocks.length):(Qj T).k1.getD b dD=Xc T 1 b∧(Qj T).k2.getD b dD=Xc T 2 b∧(Qj T).k3.getD b dD=Xc T 3 b:=by
 simp [Qj,QK,List.getD,List.getElem?_range h]
theorem both_a {T:Trk} (h:QL (Qj T)=false) {b:Nat} (hb:b<T.c.blocks.length) (n:Int) :
 Qr ((Qj T).k1.getD b dD) n=((Xc T 1 b).a == n)∧Qr ((Qj T).k2.getD b dD) n=((Xc T 2 b).a == n)∧Qr ((Qj T).k3.getD b dD) n=((Xc T 3 b).a == n):=by
 obtain ⟨e1,e2,e3⟩:=k_at hb
 have n1:=Ko h (k:=0) (by omega) hb
 have n2:=Ko h (k:=1) (by omega) hb
 have n3:=Ko h (k:=2) (by omega) hb
 rw [e1,e2,e3,Qr,Qr,Qr]
 have n1:(Xc T 1 b).b=(Xc T 1 b).a:=n1
 have n2:(Xc T 2 b).b=(Xc T 2 b).a:=n2
 have n3:(Xc T 3 b).b=(Xc T 3 b).a:=n3
 rw [n1,n2,n3]; simp
theorem arr_at {T:Trk} {k b:Nat} (hk:k<3) (hb:b<T.c.blocks.length):(arrM T (3*T.c.blocks.length))[k*T.c.blocks.length+b]?=some (Xc T ((k+1:Nat):Int) b).a:=by
 have:k*T.c.blocks.length+T.c.blocks.length≤3*T.c.blocks.length:=by rw [← Nat.succ_mul]; exact Nat.mul_le_mul_right _ hk
 rw [yE (by omega),if_pos (by omega),qG hb]
/-- What is pressed turns one car alone. -/
theorem press_one {op:Bool} {p:Prs} {cars:List Car} (hn:QP cars) :
 cars.map (XY op p)=match carO (cars.map Car.spot) p.block with
  | none=>cars
  | some i=>if p.kind=2 ∨ op=true then cars.set i ⟨⟨(cars.getD i dC).spot.block,(cars.getD i dC).spot.ran,p.kind == 1⟩,(cars.getD i dC).stood⟩ else cars:=by
 cases hc:carO (cars.map Car.spot) p.block with
 | none =>
  refine map_no fun j hj=>?_
  have:=carO_no hc j (by simpa using hj)
  rw [QO hj] at this
  rw [XY,if_neg (by simp only [hitP,Bool.and_eq_true,beq_iff_eq]; exact fun hh=>this hh.1)]
 | some i =>
  obtain ⟨h1,h2,-⟩:=Wb hc
  rw [List.length_map] at h1
  rw [QO h1] at h2
  have other:∀ j,j<cars.length→j ≠ i→XY op p (cars.getD j dC)=cars.getD j dC:=fun j hj hne=>by
   rw [XY,if_neg ?_]
   intro hh
   simp only [hitP,Bool.and_eq_true,beq_iff_eq] at hh
   exact hne (hn.uniq hj h1 (by rw [hh.1,h2]))
  rw [map_one h1 other]
  simp only
  by_cases hop:p.kind=2 ∨ op=true
  · rw [if_pos hop,XY,if_pos]
    simp only [hitP,Bool.and_eq_true,beq_iff_eq,Bool.or_eq_true]
    exact ⟨h2,hop⟩
  · rw [if_neg hop,XY,if_neg]
    · exact Kk (getD_some h1)
    · simp only [hitP,Bool.and_eq_true,beq_iff_eq,Bool.or_eq_true]
      exact fun h=>hop h.2
theorem hit_any {op : Bool} {p : Prs} {cars : List Car} (hn : QP cars) : cars.any (hitP op p) = match carO (cars.map Car.spot) p.block with
      | none => false
      | some _ => p.kind == 2 || op := by
  show cars.any (fun x => x.spot.block == p.block && (p.kind == 2 || op)) = _
  cases hc : carO (cars.map Car.spot) p.block with
  | none => exact Kv hc fun _ => (p.kind == 2 || op)
  | some i => exact QbP hn hc fun _ => (p.kind == 2 || op)
theorem press_stood {op:Bool} {p:Prs} {cars:List Car}:(cars.map (XY op p)).map Car.stood=cars.map Car.stood:=by
 rw [List.map_map]
 apply List.map_congr_left
 intro x _
 simp only [Function.comp,XY]
 split <;> rfl
theorem f49b:Try.f49.body=some (Qf Try.prog 49):=by kernel_rfl
def f49K0 (P:Program):List Item:=kAt 400 [.code (Qf P 49)] [.b false,.stop]
def f49S0 (tick:Int) (l:(List Prs)) (f:(List Flt)) (c:Cir) (spots:List Spt) (stood:List Int) (go:List Bool) (stp:Bool) (g1 g2 g3:Nat) (i:Nat) (v2:List Int) (v1:List Spt):St:=⟨([.ptr 0 0 0,.int .i64 tick,.rsl (Qs l) 0 l.length,.rsl (Qi f) 0 f.length,J,J,J,J,.int .i64 (i:Int)]++Js 316),[⟨true,0,1,false,[.rsl (Qc c.blocks) 0 c.blocks.length,.rsl (rowI c.cars) 0 c.cars.length,.sl 1 g1 0 v1.length 3,.sl 2 g2 0 v2.length 1,.sl 3 g3 0 go.length 1,.bool stp],false⟩,⟨true,g1,3,true,(Qg v1),true⟩,⟨true,g2,1,true,(rowI v2),true⟩,⟨true,g3,1,true,(rowB go),true⟩]⟩
def f49G0 (E:Env) (tick:Int) (l:(List Prs)) (f:(List Flt)) (c:Cir) (spots:List Spt) (stood:List Int) (go:List Bool) (stp:Bool) (g1 g2 g3:Nat) (i:Nat) (v2:List Int) (v1:List Spt):Prop:=G Try.prog E (f49K0 Try.prog) (f49S0 tick l f c spots stood go stp g1 g2 g3 i v2 v1 )
def f49K1 (P:Program):List Item:=kAt 400 [.code (Qf P 49)] [.b false,.b false,.stop]
def f49S1 (tick:Int) (l:(List Prs)) (f:(List Flt)) (c:Cir) (spots:List Spt) (stood:List Int) (go:List Bool) (stp:Bool) (g1 g2 g3:Nat) (v1:List Spt) (v2:List Int) (v4:List Int) (kind:Nat) (v0_5:Bool) (g4:Nat):St:=⟨([.ptr 0 0 0,.int .i64 tick,.rsl (Qs l) 0 l.length,.rsl (Qi f) 0 f.length]++jj 5 ([.int .i64 (c.blocks.length:Int),.sl 4 g4 0 v4.length 1,.int .i64 (kind:Int)]++Js 313)),[⟨true,0,1,false,[.rsl (Qc c.blocks) 0 c.blocks.length,.rsl (rowI c.cars) 0 c.cars.length,.sl 1 g1 0 v1.length 3,.sl 2 g2 0 v2.length 1,.sl 3 g3 0 go.length 1,.bool v0_5],false⟩,⟨true,g1,3,true,(Qg v1),true⟩,⟨true,g2,1,true,(rowI v2),true⟩,⟨true,g3,1,true,(rowB go),true⟩,⟨true,g4,1,true,(rowI v4),true⟩]⟩
def QaC (E:Env) (tick:Int) (l:(List Prs)) (f:(List Flt)) (c:Cir) (spots:List Spt) (stood:List Int) (go:List Bool) (stp:Bool) (g1 g2 g3:Nat) (v1:List Spt) (v2:List Int) (v4:List Int) (kind:Nat) (v0_5:Bool):Prop:=∀ g4:Nat,G Try.prog E (f49K1 Try.prog) (f49S1 tick l f c spots stood go stp g1 g2 g3 v1 v2 v4 kind v0_5 g4)
def f49K2 (P:Program):List Item:=kAt 400 [.code (Qf P 49)] [.b false,.b false,.b true,.stop]
def f49S2 (tick:Int) (l:(List Prs)) (f:(List Flt)) (c:Cir) (spots:List Spt) (stood:List Int) (go:List Bool) (stp:Bool) (g1 g2 g3:Nat) (v1:List Spt) (v2:List Int) (v4:List Int) (b:Nat) (v0_5:Bool) (kind:Nat) (g4:Nat):St:=⟨([.ptr 0 0 0,.int .i64 tick,.rsl (Qs l) 0 l.length,.rsl (Qi f) 0 f.length]++jj 5 ([.int .i64 (c.blocks.length:Int),.sl 4 g4 0 v4.length 1,.int .i64 (kind:Int),.int .i64 (b:Int)]++Js 312)),[⟨true,0,1,false,[.rsl (Qc c.blocks) 0 c.blocks.length,.rsl (rowI c.cars) 0 c.cars.length,.sl 1 g1 0 v1.length 3,.sl 2 g2 0 v2.length 1,.sl 3 g3 0 go.length 1,.bool v0_5],false⟩,⟨true,g1,3,true,(Qg v1),true⟩,⟨true,g2,1,true,(rowI v2),true⟩,⟨true,g3,1,true,(rowB go),true⟩,⟨true,g4,1,true,(rowI v4),true⟩]⟩
def f49G2 (E:Env) (tick:Int) (l:(List Prs)) (f:(List Flt)) (c:Cir) (spots:List Spt) (stood:List Int) (go:List Bool) (stp:Bool) (g1 g2 g3:Nat) (v1:List Spt) (v2:List Int) (v4:List Int) (b:Nat) (v0_5:Bool) (kind:Nat):Prop:=∀ g4:Nat,G Try.prog E (f49K2 Try.prog) (f49S2 tick l f c spots stood go stp g1 g2 g3 v1 v2 v4 b v0_5 kind g4)
def Vs (P:Program):List Item:=kAt 400 [.code (Qf P 49)] [.b false,.b false,.b false,.b false,.stop]
def qh (tick:Int) (l:(List Prs)) (f:(List Flt)) (c:Cir) (spots:List Spt) (stood:List Int) (go:List Bool) (stp:Bool) (g1 g2 g3:Nat) (v0_5:Bool) (v1:List Spt) (v2:List Int) (v4:List Int) (v5:List Bool) (i:Nat) (v3:List Bool) (g4:Nat) (g5:Nat):St:=⟨([.ptr 0 0 0,.int .i64 tick,.rsl (Qs l) 0 l.length]++jj 6 ([.int .i64 (c.blocks.length:Int),.sl 4 g4 0 v4.length 1,J,J,J,.sl 5 g5 0 v5.length 1,.int .i64 (i:Int)]++Js 309)),[⟨true,0,1,false,[.rsl (Qc c.blocks) 0 c.blocks.length,.rsl (rowI c.cars) 0 c.cars.length,.sl 1 g1 0 v1.length 3,.sl 2 g2 0 v2.length 1,.sl 3 g3 0 v3.length 1,.bool v0_5],false⟩,⟨true,g1,3,true,(Qg v1),true⟩,⟨true,g2,1,true,(rowI v2),true⟩,⟨true,g3,1,true,(rowB v3),true⟩,⟨true,g4,1,true,(rowI v4),true⟩,⟨true,g5,1,true,(rowB v5),true⟩]⟩
def Wo (E:Env) (tick:Int) (l:(List Prs)) (f:(List Flt)) (c:Cir) (spots:List Spt) (stood:List Int) (go:List Bool) (stp:Bool) (g1 g2 g3:Nat) (v0_5:Bool) (v1:List Spt) (v2:List Int) (v4:List Int) (v5:List Bool) (i:Nat) (v3:List Bool):Prop:=∀ g4 g5:Nat,G Try.prog E (Vs Try.prog) (qh tick l f c spots stood go stp g1 g2 g3 v0_5 v1 v2 v4 v5 i v3 g4 g5)
def f49K4 (P:Program):List Item:=kAt 400 [.code (Qf P 49)] [.b false,.b false,.b false,.b false,.b false,.stop]
def f49S4 (tick:Int) (l:(List Prs)) (f:(List Flt)) (c:Cir) (spots:List Spt) (stood:List Int) (go:List Bool) (stp:Bool) (g1 g2 g3:Nat) (v0_5:Bool) (v1:List Spt) (v2:List Int) (v3:List Bool) (v4:List Int) (v5:List Bool) (v6:List Int) (b:Nat) (g4:Nat) (g5:Nat) (g6:Nat):St:=⟨([.ptr 0 0 0]++jj 8 ([.int .i64 (c.blocks.length:Int),.sl 4 g4 0 v4.length 1,J,J,J,.sl 5 g5 0 v5.length 1,J,J,J,.sl 6 g6 0 v6.length 1,.int .i64 (b:Int)]++Js 305)),[⟨true,0,1,false,[.rsl (Qc c.blocks) 0 c.blocks.length,.rsl (rowI c.cars) 0 c.cars.length,.sl 1 g1 0 v1.length 3,.sl 2 g2 0 v2.length 1,.sl 3 g3 0 v3.length 1,.bool v0_5],false⟩,⟨true,g1,3,true,(Qg v1),true⟩,⟨true,g2,1,true,(rowI v2),true⟩,⟨true,g3,1,true,(rowB v3),true⟩,⟨true,g4,1,true,(rowI v4),true⟩,⟨true,g5,1,true,(rowB v5),true⟩,⟨true,g6,1,true,(rowI v6),true⟩]⟩
def f49G4 (E:Env) (tick:Int) (l:(List Prs)) (f:(List Flt)) (c:Cir) (spots:List Spt) (stood:List Int) (go:List Bool) (stp:Bool) (g1 g2 g3:Nat) (v0_5:Bool) (v1:List Spt) (v2:List Int) (v3:List Bool) (v4:List Int) (v5:List Bool) (v6:List Int) (b:Nat):Prop:=∀ g4 g5 g6:Nat,G Try.prog E (f49K4 Try.prog) (f49S4 tick l f c spots stood go stp g1 g2 g3 v0_5 v1 v2 v3 v4 v5 v6 b g4 g5 g6)
def VP (P:Program):List Item:=kAt 400 [.code (Qf P 49)] [.b false,.b false,.b false,.b false,.b false,.b false,.stop]
def yr (tick:Int) (l:(List Prs)) (f:(List Flt)) (c:Cir) (spots:List Spt) (stood:List Int) (go:List Bool) (stp:Bool) (g1 g2 g3:Nat) (v0_5:Bool) (v1:List Spt) (v2:List Int) (v3:List Bool) (v4:List Int) (v5:List Bool) (v6:List Int) (b:Nat) (g4:Nat) (g5:Nat) (g6:Nat):St:=⟨([.ptr 0 0 0]++jj 8 ([.int .i64 (c.blocks.length:Int),.sl 4 g4 0 v4.length 1,J,J,J,.sl 5 g5 0 v5.length 1,J,J,J,.sl 6 g6 0 v6.length 1,J,.int .i64 (b:Int)]++Js 304)),[⟨true,0,1,false,[.rsl (Qc c.blocks) 0 c.blocks.length,.rsl (rowI c.cars) 0 c.cars.length,.sl 1 g1 0 v1.length 3,.sl 2 g2 0 v2.length 1,.sl 3 g3 0 v3.length 1,.bool v0_5],false⟩,⟨true,g1,3,true,(Qg v1),true⟩,⟨true,g2,1,true,(rowI v2),true⟩,⟨true,g3,1,true,(rowB v3),true⟩,⟨true,g4,1,true,(rowI v4),true⟩,⟨true,g5,1,true,(rowB v5),true⟩,⟨true,g6,1,true,(rowI v6),true⟩]⟩
def qj (E:Env) (tick:Int) (l:(List Prs)) (f:(List Flt)) (c:Cir) (spots:List Spt) (stood:List Int) (go:List Bool) (stp:Bool) (g1 g2 g3:Nat) (v0_5:Bool) (v1:List Spt) (v2:List Int) (v3:List Bool) (v4:List Int) (v5:List Bool) (v6:List Int) (b:Nat):Prop:=∀ g4 g5 g6:Nat,G Try.prog E (VP Try.prog) (yr tick l f c spots stood go stp g1 g2 g3 v0_5 v1 v2 v3 v4 v5 v6 b g4 g5 g6)
abbrev Qav (c:Cir) (g1:Nat) (v1:List Spt) (g2:Nat) (v2:List Int) (g3:Nat) (v3:List Bool) (v0_5:Bool):List AV:=[.rsl (Qc c.blocks) 0 c.blocks.length,.rsl (rowI c.cars) 0 c.cars.length,.sl 1 g1 0 v1.length 3,.sl 2 g2 0 v2.length 1,.sl 3 g3 0 v3.length 1,.bool v0_5]
abbrev z49_2 (c:Cir) (g1:Nat) (v1:List Spt) (g2:Nat) (v2:List Int) (g3:Nat) (v3:List Bool) (v0_5:Bool) (g4:Nat) (v4:List Int) (g5:Nat) (v5:List Bool) (g6:Nat) (v6:List Int):List Blk:=[⟨true,0,1,false,(Qav c g1 v1 g2 v2 g3 v3 v0_5),false⟩,⟨true,g1,3,true,(Qg v1),true⟩,⟨true,g2,1,true,(rowI v2),true⟩,⟨true,g3,1,true,(rowB v3),true⟩,⟨true,g4,1,true,(rowI v4),true⟩,⟨true,g5,1,true,(rowB v5),true⟩,⟨true,g6,1,true,(rowI v6),true⟩]
abbrev Qau (tick:Int) (l:(List Prs)) (c:Cir) (g4:Nat) (v4:List Int) (g5:Nat) (v5:List Bool) (i:Nat):List AV:=[.ptr 0 0 0,.int .i64 tick,.rsl (Qs l) 0 l.length]++jj 6 ([.int .i64 (c.blocks.length:Int),.sl 4 g4 0 v4.length 1,J,J,J,.sl 5 g5 0 v5.length 1,.int .i64 ((i:Int)+1)]++Js 309)
abbrev Qbm (c:Cir) (v1:List Spt) (v2:List Int) (v3:List Bool) (v0_5:Bool) (pe:Prs):List AV:=[.rptr [.rsl (Qc c.blocks) 0 c.blocks.length,.rsl (rowI c.cars) 0 c.cars.length,.rsl (Qg v1) 0 v1.length,.rsl (rowI v2) 0 v2.length,.rsl (rowB v3) 0 v3.length,.bool v0_5] 0,.int .i64 pe.block]
abbrev Qbl (c:Cir) (g4:Nat) (v4:List Int) (g5:Nat) (v5:List Bool) (g6:Nat) (v6:List Int) (b:Nat):List AV:=[.ptr 0 0 0]++jj 8 ([.int .i64 (c.blocks.length:Int),.sl 4 g4 0 v4.length 1,J,J,J,.sl 5 g5 0 v5.length 1,J,J,J,.sl 6 g6 0 v6.length 1,J,.int .i64 ((b:Int)+1)]++Js 304)
abbrev z49_6 (c:Cir) (g1:Nat) (v1:List Spt) (g2:Nat) (v2:List Int) (g3:Nat) (v3:List Bool) (v0_5:Bool) (g4:Nat) (v4:List Int) (g5:Nat) (v5:List Bool):List Blk:=[⟨true,0,1,false,(Qav c g1 v1 g2 v2 g3 v3 v0_5),false⟩,⟨true,g1,3,true,(Qg v1),true⟩,⟨true,g2,1,true,(rowI v2),true⟩,⟨true,g3,1,true,(rowB v3),true⟩,⟨true,g4,1,true,(rowI v4),true⟩,⟨true,g5,1,true,(rowB v5),true⟩]
abbrev z49_7 (c:Cir) (g1:Nat) (spots:List Spt) (g2:Nat) (stood:List Int) (g3:Nat) (go:List Bool) (stp:Bool):List Blk:=[⟨true,0,1,false,[.rsl (Qc c.blocks) 0 c.blocks.length,.rsl (rowI c.cars) 0 c.cars.length,.sl 1 g1 0 spots.length 3,.sl 2 g2 0 stood.length 1,.sl 3 g3 0 go.length 1,.bool stp],false⟩,⟨true,g1,3,true,(Qg spots),true⟩,⟨true,g2,1,true,(rowI stood),true⟩,⟨true,g3,1,true,(rowB go),true⟩]
abbrev Wv (c:Cir) (v1:List Spt) (v2:List Int) (v3:List Bool) (v0_5:Bool) (pe:Prs):AV:=.int .i64 (carS (⟨c,v1,v2,v3,v0_5⟩:Rn).spots pe.block)
abbrev z49_9 (tick:Int) (l:(List Prs)) (f:(List Flt)):List AV:=[.ptr 0 0 0,.int .i64 tick,.rsl (Qs l) 0 l.length,.rsl (Qi f) 0 f.length]
abbrev z49_10 (c:Cir) (g1:Nat) (v1:List Spt) (g2:Nat) (v2:List Int) (g3:Nat) (go:List Bool) (v0_5:Bool):List AV:=[.rsl (Qc c.blocks) 0 c.blocks.length,.rsl (rowI c.cars) 0 c.cars.length,.sl 1 g1 0 v1.length 3,.sl 2 g2 0 v2.length 1,.sl 3 g3 0 go.length 1,.bool v0_5]
abbrev z49_11 (c:Cir) (v1:List Spt) (v2:List Int) (go:List Bool) (v0_5:Bool):List AV:=[.rsl (Qc c.blocks) 0 c.blocks.length,.rsl (rowI c.cars) 0 c.cars.length,.rsl (Qg v1) 0 v1.length,.rsl (rowI v2) 0 v2.length,.rsl (rowB go) 0 go.length,.bool v0_5]
abbrev z49_12 (c:Cir) (g1:Nat) (v1:List Spt) (g2:Nat) (v2:List Int) (g3:Nat) (go:List Bool) (stp:Bool):List AV:=[.rsl (Qc c.blocks) 0 c.blocks.length,.rsl (rowI c.cars) 0 c.cars.length,.sl 1 g1 0 v1.length 3,.sl 2 g2 0 v2.length 1,.sl 3 g3 0 go.length 1,.bool stp]
abbrev z49_13 (f:(List Flt)) (kind:Nat) (b:Nat) (tick:Int) (c:Cir) (v1:List Spt) (v2:List Int) (go:List Bool) (v0_5:Bool):AV:=.int .i64 (Yt f (kind:Int) 0 (b:Int) tick (XN (⟨c,v1,v2,go,v0_5⟩:Rn).c (⟨c,v1,v2,go,v0_5⟩:Rn).spots (kind:Int) (b:Int)))
abbrev z49_14 (f:(List Flt)) (kind:Nat) (b:Nat) (tick:Int) (c:Cir) (v1:List Spt) (v2:List Int) (go:List Bool) (v0_5:Bool):AV:=.int .i64 (Yt f (kind:Int) 1 (b:Int) tick (XN (⟨c,v1,v2,go,v0_5⟩:Rn).c (⟨c,v1,v2,go,v0_5⟩:Rn).spots (kind:Int) (b:Int)))
abbrev z49_15 (f:(List Flt)) (kind:Nat) (b:Nat) (tick:Int) (c:Cir) (v1:List Spt) (v2:List Int) (go:List Bool) (v0_5:Bool):List AV:=[.int .i64 (Yt f (kind:Int) 0 (b:Int) tick (XN (⟨c,v1,v2,go,v0_5⟩:Rn).c (⟨c,v1,v2,go,v0_5⟩:Rn).spots (kind:Int) (b:Int)))]
abbrev z49_16 (c:Cir) (v1:List Spt) (v2:List Int) (go:List Bool) (stp:Bool) (i:Nat):AV:=.bool (Vg (⟨c,v1,v2,go,stp⟩:Rn).c ((⟨c,v1,v2,go,stp⟩:Rn).spots.getD (Int.toNat (i:Int)) dS))
abbrev z49_17 (b:Nat) (c:Cir):List AV:=[.int .i64 (Int.tmod ((b:Int)+1) (c.blocks.length:Int))]
theorem p49_start_0 (tick:Int) (l:(List Prs)) (f:(List Flt)) (c:Cir) (spots:List Spt) (stood:List Int) (go:List Bool) (stp:Bool) (g1 g2 g3:Nat) {E:Env} {res:AV} {bs2:List Blk} (hE:LentE Try.prog 49 [.sl 3 g3 0 0 1] res bs2 E) (ho:AllP [Ql Try.prog (.clos 79 [] []) [.rptr [.rsl (Qc c.blocks) 0 c.blocks.length,.rsl (rowI c.cars) 0 c.cars.length,.rsl (Qg spots) 0 spots.length,.rsl (rowI stood) 0 stood.length,.rsl (rowB go) 0 go.length,.bool stp] 0] (.bool (XU (⟨c,spots,stood,go,stp⟩:Rn).c (⟨c,spots,stood,go,stp⟩:Rn).spots)),g1=g1,g2=g2,g3=g3,(XU (⟨c,spots,stood,go,stp⟩:Rn).c (⟨c,spots,stood,go,stp⟩:Rn).spots)=true])
 (hr:(.tup [])=res) (hb:(z49_7 c g1 spots g2 stood g3 go stp)=bs2):G Try.prog E [.code (Qf Try.prog 49)] ⟨(z49_9 tick l f)++unds (Try.f49.ntmps - 4),(z49_7 c g1 spots g2 stood g3 go stp)⟩ :=
 Xb (n:=400) (live:=[]) (m:=4) (evs:=[.v (.bool (XU (⟨c,spots,stood,go,stp⟩:Rn).c (⟨c,spots,stood,go,stp⟩:Rn).spots)),.b true]) (obs:=_) hE (hE.nogh (by kernel_rfl)) Try.func49 Qm (by kernel_rfl) ho hr hb
theorem p49_start_1 (tick:Int) (l:(List Prs)) (f:(List Flt)) (c:Cir) (spots:List Spt) (stood:List Int) (go:List Bool) (stp:Bool) (g1 g2 g3:Nat) {E:Env} {rv:AV} {bs2:List Blk} (hE:LentE Try.prog 49 [.sl 3 g3 0 0 1] rv bs2 E) (ho:AllP [Ql Try.prog (.clos 79 [] []) [.rptr [.rsl (Qc c.blocks) 0 c.blocks.length,.rsl (rowI c.cars) 0 c.cars.length,.rsl (Qg spots) 0 spots.length,.rsl (rowI stood) 0 stood.length,.rsl (rowB go) 0 go.length,.bool stp] 0] (.bool (XU (⟨c,spots,stood,go,stp⟩:Rn).c (⟨c,spots,stood,go,stp⟩:Rn).spots)),g1=g1,g2=g2,g3=g3,(XU (⟨c,spots,stood,go,stp⟩:Rn).c (⟨c,spots,stood,go,stp⟩:Rn).spots)=false])
 (hg:G Try.prog E (f49K0 Try.prog) ⟨([.ptr 0 0 0,.int .i64 tick,.rsl (Qs l) 0 l.length,.rsl (Qi f) 0 f.length,J,J,J,J,.int .i64 0]++Js 316),(z49_7 c g1 spots g2 stood g3 go stp)⟩):G Try.prog E [.code (Qf Try.prog 49)] ⟨(z49_9 tick l f)++unds (Try.f49.ntmps - 4),(z49_7 c g1 spots g2 stood g3 go stp)⟩ :=
 Qa (n:=400) (ds:=[]) (cs:=[]) (live:=[0,1,2,3,8]) (m:=4) (evs:=[.v (.bool (XU (⟨c,spots,stood,go,stp⟩:Rn).c (⟨c,spots,stood,go,stp⟩:Rn).spots)),.b false,.stop]) (obs:=_) hE.kind (hE.nogh (by kernel_rfl)) Qm (by kernel_rfl) ho hg
theorem f49W (tick:Int) (l:(List Prs)) (f:(List Flt)) (c:Cir) (spots:List Spt) (stood:List Int) (go:List Bool) (stp:Bool) (g1 g2 g3:Nat) {E:Env} {rv:Unit} {stp2:Bool} {spots2:List Spt} {stood2:List Int} {go2:List Bool} (hE:LentE Try.prog 49 [.sl 3 g3 0 0 1] (.tup []) [⟨true,0,1,false,[.rsl (Qc c.blocks) 0 c.blocks.length,.rsl (rowI c.cars) 0 c.cars.length,.sl 1 g1 0 spots2.length 3,.sl 2 g2 0 stood2.length 1,.sl 3 g3 0 go2.length 1,.bool stp2],false⟩,⟨true,g1,3,true,(Qg spots2),true⟩,⟨true,g2,1,true,(rowI stood2),true⟩,⟨true,g3,1,true,(rowB go2),true⟩] E)
 (h:((RnIn (⟨c,spots,stood,go,stp⟩:Rn))∧(((XU (⟨c,spots,stood,go,stp⟩:Rn).c (⟨c,spots,stood,go,stp⟩:Rn).spots)=true→stp2=stp∧spots2=spots∧stood2=stood∧go2=go)∧((XU (⟨c,spots,stood,go,stp⟩:Rn).c (⟨c,spots,stood,go,stp⟩:Rn).spots)=false→f49G0 E tick l f c spots stood go stp g1 g2 g3 0 stood spots)))):G Try.prog E [.code (Qf Try.prog 49)] ⟨[.ptr 0 0 0,.int .i64 tick,.rsl (Qs l) 0 l.length,.rsl (Qi f) 0 f.length]++unds (Try.f49.ntmps - 4),[⟨true,0,1,false,[.rsl (Qc c.blocks) 0 c.blocks.length,.rsl (rowI c.cars) 0 c.cars.length,.sl 1 g1 0 spots.length 3,.sl 2 g2 0 stood.length 1,.sl 3 g3 0 go.length 1,.bool stp],false⟩,⟨true,g1,3,true,(Qg spots),true⟩,⟨true,g2,1,true,(rowI stood),true⟩,⟨true,g3,1,true,(rowB go),true⟩]⟩:=by
 obtain ⟨h1,h⟩:=h
 rcases bft (XU (⟨c,spots,stood,go,stp⟩:Rn).c (⟨c,spots,stood,go,stp⟩:Rn).spots) with hc0 | hc0
 · have h:=h.1 hc0
   obtain ⟨qe0,qe1,qe2,qe3⟩:=h
   exact p49_start_0 tick l f c spots stood go stp g1 g2 g3 hE ⟨(u79 (QaG (⟨c,spots,stood,go,stp⟩:Rn) h1)),rfl,rfl,rfl,hc0,trivial⟩ (by try rfl) (by rw [qe0,qe1,qe2,qe3]; all_goals (first | rfl | (simp only [List.length_set]; done) | (simp only [List.length_set]; rfl)))
 · have h:=h.2 hc0
   exact p49_start_1 tick l f c spots stood go stp g1 g2 g3 hE ⟨(u79 (QaG (⟨c,spots,stood,go,stp⟩:Rn) h1)),rfl,rfl,rfl,hc0,trivial⟩ h
theorem p49_0_0 (tick:Int) (l:(List Prs)) (f:(List Flt)) (c:Cir) (spots:List Spt) (stood:List Int) (go:List Bool) (stp:Bool) (g1 g2 g3:Nat) (i:Nat) (v2:List Int) (v1:List Spt) (e:Int) {E:Env} {rv:AV} {bs2:List Blk} (hE:LentE Try.prog 49 [.sl 3 g3 0 0 1] rv bs2 E) (ho:AllP [g1=g1,(decide ((i:Int)<(v1.length:Int)))=true,(decide (tick > 0))=true,Ql Try.prog (.clos 80 [] []) [.rptr [.rsl (Qc c.blocks) 0 c.blocks.length,.rsl (rowI c.cars) 0 c.cars.length,.rsl (Qg v1) 0 v1.length,.rsl (rowI v2) 0 v2.length,.rsl (rowB go) 0 go.length,.bool stp] 0,.int .i64 (i:Int)] (z49_16 c v1 v2 go stp i),g1=g1,g2=g2,g3=g3,(Vg (⟨c,v1,v2,go,stp⟩:Rn).c ((⟨c,v1,v2,go,stp⟩:Rn).spots.getD (Int.toNat (i:Int)) dS))=true,0≤(i:Int)∧(i:Int)<(v2.length:Int),g2=g2,g2=g2,((rowI v2).drop (0+(Int.toNat (i:Int))*1)).take 1=[.int .i64 e],InR .i64 (e+1),0≤(i:Int)∧(i:Int)<(v2.length:Int),g2=g2,((0+(Int.toNat (i:Int))*1)+1)≤(rowI v2).length,g2=g2,InR .i64 ((i:Int)+1)])
 (hg:G Try.prog E (f49K0 Try.prog) ⟨([.ptr 0 0 0,.int .i64 tick,.rsl (Qs l) 0 l.length,.rsl (Qi f) 0 f.length,J,J,J,J,.int .i64 ((i:Int)+1)]++Js 316),[⟨true,0,1,false,(z49_12 c g1 v1 g2 v2 g3 go stp),false⟩,⟨true,g1,3,true,(Qg v1),true⟩,⟨true,g2,1,true,(Qv (rowI v2) (0+(Int.toNat (i:Int))*1) [.int .i64 (e+1)]),true⟩,⟨true,g3,1,true,(rowB go),true⟩]⟩):G Try.prog E (f49K0 Try.prog) (f49S0 tick l f c spots stood go stp g1 g2 g3 i v2 v1 ) :=
 Qa (n:=400) (ds:=[]) (cs:=[]) (live:=[0,1,2,3,8]) (m:=4) (evs:=[.b true,.b true,.v (z49_16 c v1 v2 go stp i),.b true,.auto,.ld (.int .i64 e),.stop]) (obs:=_) hE.kind (hE.nogh (by kernel_rfl)) Qm (by kernel_rfl) ho hg
theorem p49_0_1 (tick:Int) (l:(List Prs)) (f:(List Flt)) (c:Cir) (spots:List Spt) (stood:List Int) (go:List Bool) (stp:Bool) (g1 g2 g3:Nat) (i:Nat) (v2:List Int) (v1:List Spt) (se:Spt) {E:Env} {rv:AV} {bs2:List Blk} (hE:LentE Try.prog 49 [.sl 3 g3 0 0 1] rv bs2 E) (ho:AllP [g1=g1,(decide ((i:Int)<(v1.length:Int)))=true,(decide (tick > 0))=true,Ql Try.prog (.clos 80 [] []) [.rptr [.rsl (Qc c.blocks) 0 c.blocks.length,.rsl (rowI c.cars) 0 c.cars.length,.rsl (Qg v1) 0 v1.length,.rsl (rowI v2) 0 v2.length,.rsl (rowB go) 0 go.length,.bool stp] 0,.int .i64 (i:Int)] (z49_16 c v1 v2 go stp i),g1=g1,g2=g2,g3=g3,(Vg (⟨c,v1,v2,go,stp⟩:Rn).c ((⟨c,v1,v2,go,stp⟩:Rn).spots.getD (Int.toNat (i:Int)) dS))=false,0≤(i:Int)∧(i:Int)<(v1.length:Int),g1=g1,g1=g1,g1=g1,((Qg v1).drop ((0+(Int.toNat (i:Int))*3)+1)).take 1=[.int .i64 se.ran],InR .i64 (se.ran+1),0≤(i:Int)∧(i:Int)<(v1.length:Int),g1=g1,g1=g1,(((0+(Int.toNat (i:Int))*3)+1)+1)≤(Qg v1).length,g1=g1,InR .i64 ((i:Int)+1)])
 (hg:G Try.prog E (f49K0 Try.prog) ⟨([.ptr 0 0 0,.int .i64 tick,.rsl (Qs l) 0 l.length,.rsl (Qi f) 0 f.length,J,J,J,J,.int .i64 ((i:Int)+1)]++Js 316),[⟨true,0,1,false,(z49_12 c g1 v1 g2 v2 g3 go stp),false⟩,⟨true,g1,3,true,(Qv (Qg v1) ((0+(Int.toNat (i:Int))*3)+1) [.int .i64 (se.ran+1)]),true⟩,⟨true,g2,1,true,(rowI v2),true⟩,⟨true,g3,1,true,(rowB go),true⟩]⟩):G Try.prog E (f49K0 Try.prog) (f49S0 tick l f c spots stood go stp g1 g2 g3 i v2 v1 ) :=
 Qa (n:=400) (ds:=[]) (cs:=[]) (live:=[0,1,2,3,8]) (m:=4) (evs:=[.b true,.b true,.v (z49_16 c v1 v2 go stp i),.b false,.auto,.ld (.int .i64 se.ran),.stop]) (obs:=_) hE.kind (hE.nogh (by kernel_rfl)) Qm (by kernel_rfl) ho hg
theorem p49_0_2 (tick:Int) (l:(List Prs)) (f:(List Flt)) (c:Cir) (spots:List Spt) (stood:List Int) (go:List Bool) (stp:Bool) (g1 g2 g3:Nat) (i:Nat) (v2:List Int) (v1:List Spt) {E:Env} {rv:AV} {bs2:List Blk} (hE:LentE Try.prog 49 [.sl 3 g3 0 0 1] rv bs2 E) (ho:AllP [g1=g1,(decide ((i:Int)<(v1.length:Int)))=true,(decide (tick > 0))=false,InR .i64 (3*(c.blocks.length:Int)),0≤(3*(c.blocks.length:Int))∧(3*(c.blocks.length:Int))≤(3*(c.blocks.length:Int))∧(3*(c.blocks.length:Int))≤2147483648])
 (hg:G Try.prog E (f49K1 Try.prog) ⟨((z49_9 tick l f)++jj 5 ([.int .i64 (c.blocks.length:Int),.sl 4 0 0 (Int.toNat (3*(c.blocks.length:Int))) 1,.int .i64 1]++Js 313)),[⟨true,0,1,false,(z49_12 c g1 v1 g2 v2 g3 go stp),false⟩,⟨true,g1,3,true,(Qg v1),true⟩,⟨true,g2,1,true,(rowI v2),true⟩,⟨true,g3,1,true,(rowB go),true⟩,⟨true,0,1,true,((List.replicate (Int.toNat (3*(c.blocks.length:Int))) ([.int .i64 0]:List AV)).flatten),true⟩]⟩):G Try.prog E (f49K0 Try.prog) (f49S0 tick l f c spots stood go stp g1 g2 g3 i v2 v1 ) :=
 Qa (n:=400) (ds:=[]) (cs:=[]) (live:=[0,1,2,3,9,10,11]) (m:=5) (evs:=[.b true,.b false,.stop]) (obs:=_) hE.kind (hE.nogh (by kernel_rfl)) Qm (by kernel_rfl) ho hg
theorem p49_0_3 (tick:Int) (l:(List Prs)) (f:(List Flt)) (c:Cir) (spots:List Spt) (stood:List Int) (go:List Bool) (stp:Bool) (g1 g2 g3:Nat) (i:Nat) (v2:List Int) (v1:List Spt) {E:Env} {rv:AV} {bs2:List Blk} (hE:LentE Try.prog 49 [.sl 3 g3 0 0 1] rv bs2 E) (ho:AllP [g1=g1,(decide ((i:Int)<(v1.length:Int)))=false,false=false,InR .i64 (3*(c.blocks.length:Int)),0≤(3*(c.blocks.length:Int))∧(3*(c.blocks.length:Int))≤(3*(c.blocks.length:Int))∧(3*(c.blocks.length:Int))≤2147483648])
 (hg:G Try.prog E (f49K1 Try.prog) ⟨((z49_9 tick l f)++jj 5 ([.int .i64 (c.blocks.length:Int),.sl 4 0 0 (Int.toNat (3*(c.blocks.length:Int))) 1,.int .i64 1]++Js 313)),[⟨true,0,1,false,(z49_12 c g1 v1 g2 v2 g3 go stp),false⟩,⟨true,g1,3,true,(Qg v1),true⟩,⟨true,g2,1,true,(rowI v2),true⟩,⟨true,g3,1,true,(rowB go),true⟩,⟨true,0,1,true,((List.replicate (Int.toNat (3*(c.blocks.length:Int))) ([.int .i64 0]:List AV)).flatten),true⟩]⟩):G Try.prog E (f49K0 Try.prog) (f49S0 tick l f c spots stood go stp g1 g2 g3 i v2 v1 ) :=
 Qa (n:=400) (ds:=[]) (cs:=[]) (live:=[0,1,2,3,9,10,11]) (m:=5) (evs:=[.b false,.b false,.stop]) (obs:=_) hE.kind (hE.nogh (by kernel_rfl)) Qm (by kernel_rfl) ho hg
theorem f49W0 (tick:Int) (l:(List Prs)) (f:(List Flt)) (c:Cir) (spots:List Spt) (stood:List Int) (go:List Bool) (stp:Bool) (g1 g2 g3:Nat) (i:Nat) (v2:List Int) (v1:List Spt) {E:Env} {rv:Unit} {stp2:Bool} {spots2:List Spt} {stood2:List Int} {go2:List Bool} (hE:LentE Try.prog 49 [.sl 3 g3 0 0 1] (.tup []) [⟨true,0,1,false,[.rsl (Qc c.blocks) 0 c.blocks.length,.rsl (rowI c.cars) 0 c.cars.length,.sl 1 g1 0 spots2.length 3,.sl 2 g2 0 stood2.length 1,.sl 3 g3 0 go2.length 1,.bool stp2],false⟩,⟨true,g1,3,true,(Qg spots2),true⟩,⟨true,g2,1,true,(rowI stood2),true⟩,⟨true,g3,1,true,(rowB go2),true⟩] E)
 (h:(((i:Int)<(v1.length:Int)→((tick > 0→((RnIn (⟨c,v1,v2,go,stp⟩:Rn)∧0≤(i:Int)∧Int.toNat (i:Int)<(⟨c,v1,v2,go,stp⟩:Rn).spots.length)∧(((Vg (⟨c,v1,v2,go,stp⟩:Rn).c ((⟨c,v1,v2,go,stp⟩:Rn).spots.getD (Int.toNat (i:Int)) dS))=true→(∃ e:Int,v2[i]?=some e∧((I6 (e+1))∧((I6 ((i:Int)+1))∧f49G0 E tick l f c spots stood go stp g1 g2 g3 (i+1) (v2.set i (e+1)) v1))))∧((Vg (⟨c,v1,v2,go,stp⟩:Rn).c ((⟨c,v1,v2,go,stp⟩:Rn).spots.getD (Int.toNat (i:Int)) dS))=false→(∃ se:Spt,v1[i]?=some se∧((I6 (se.ran+1))∧((I6 ((i:Int)+1))∧f49G0 E tick l f c spots stood go stp g1 g2 g3 (i+1) v2 (v1.set i (⟨se.block,(se.ran+1),se.opn⟩:Spt)))))))))∧(¬ (tick > 0)→((I6 (3*(c.blocks.length:Int)))∧((0≤(3*(c.blocks.length:Int))∧(3*(c.blocks.length:Int))≤2147483648)∧QaC E tick l f c spots stood go stp g1 g2 g3 v1 v2 (List.replicate (Int.toNat (3*(c.blocks.length:Int))) (0:Int)) 1 stp)))))∧(¬ ((i:Int)<(v1.length:Int))→((I6 (3*(c.blocks.length:Int)))∧((0≤(3*(c.blocks.length:Int))∧(3*(c.blocks.length:Int))≤2147483648)∧QaC E tick l f c spots stood go stp g1 g2 g3 v1 v2 (List.replicate (Int.toNat (3*(c.blocks.length:Int))) (0:Int)) 1 stp))))):f49G0 E tick l f c spots stood go stp g1 g2 g3 i v2 v1:=by
 rcases bft (decide ((i:Int)<(v1.length:Int))) with hc0 | hc0
 · have h:=h.1 (odt hc0)
   rcases bft (decide (tick > 0)) with hc1 | hc1
   · have h:=h.1 (odt hc1)
     obtain ⟨h1,h⟩:=h
     rcases bft (Vg (⟨c,v1,v2,go,stp⟩:Rn).c ((⟨c,v1,v2,go,stp⟩:Rn).spots.getD (Int.toNat (i:Int)) dS)) with hc2 | hc2
     · have h:=h.1 hc2
       obtain ⟨e,h2,h⟩:=h
       obtain ⟨q13_3,h⟩:=h
       obtain ⟨q18_3,h⟩:=h
       refine p49_0_0 tick l f c spots stood go stp g1 g2 g3 i v2 v1 e hE ⟨rfl,hc0,hc1,(u80 (qd (⟨c,v1,v2,go,stp⟩:Rn) (i:Int) h1)),rfl,rfl,rfl,hc2,(Qe h2),rfl,rfl,(rp cI 1 0 1 h2),q13_3,(Qe h2),rfl,(rf cI 1 0 1 h2),rfl,q18_3,trivial⟩ ?_
       have h:=h
       simp only [f49G0,f49S0,List.length_set] at h
       rw [(show Qv (rowI v2) (0+(Int.toNat (i:Int))*1) [.int .i64 (e+1)]=rowI (v2.set i (e+1)) from Qx cI (s:=1) (k:=0) (fun _=>rfl) h2 rfl (by first | decide | simp))]
       exact h
     · have h:=h.2 hc2
       obtain ⟨se,h2,h⟩:=h
       obtain ⟨q14_3,h⟩:=h
       obtain ⟨q20_3,h⟩:=h
       refine p49_0_1 tick l f c spots stood go stp g1 g2 g3 i v2 v1 se hE ⟨rfl,hc0,hc1,(u80 (qd (⟨c,v1,v2,go,stp⟩:Rn) (i:Int) h1)),rfl,rfl,rfl,hc2,(Qe h2),rfl,rfl,rfl,(rp cSpt 3 1 1 h2),q14_3,(Qe h2),rfl,rfl,(rf cSpt 3 1 1 h2),rfl,q20_3,trivial⟩ ?_
       have h:=h
       simp only [f49G0,f49S0,List.length_set] at h
       rw [(show Qv (Qg v1) ((0+(Int.toNat (i:Int))*3)+1) [.int .i64 (se.ran+1)]=Qg (v1.set i (⟨se.block,(se.ran+1),se.opn⟩:Spt)) from Qx cSpt (s:=3) (k:=1) (fun _=>rfl) h2 rfl (by first | decide | simp))]
       exact h
   · have h:=h.2 (odf hc1)
     obtain ⟨q3_2,h⟩:=h
     obtain ⟨h1,h⟩:=h
     refine p49_0_2 tick l f c spots stood go stp g1 g2 g3 i v2 v1 hE ⟨rfl,hc0,hc1,q3_2,⟨h1.1,by omega,h1.2⟩,trivial⟩ ?_
     have h:=(h 0)
     simp only [QaC,f49S1,List.length_set,List.length_replicate] at h
     rw [(show (List.replicate (Int.toNat (3*(c.blocks.length:Int))) ([.int .i64 0]:List AV)).flatten=rowI (List.replicate (Int.toNat (3*(c.blocks.length:Int))) (0:Int)) from YD cI _ _)]
     exact h
 · have h:=h.2 (odf hc0)
   obtain ⟨q3_1,h⟩:=h
   obtain ⟨h1,h⟩:=h
   refine p49_0_3 tick l f c spots stood go stp g1 g2 g3 i v2 v1 hE ⟨rfl,hc0,rfl,q3_1,⟨h1.1,by omega,h1.2⟩,trivial⟩ ?_
   have h:=(h 0)
   simp only [QaC,f49S1,List.length_set,List.length_replicate] at h
   rw [(show (List.replicate (Int.toNat (3*(c.blocks.length:Int))) ([.int .i64 0]:List AV)).flatten=rowI (List.replicate (Int.toNat (3*(c.blocks.length:Int))) (0:Int)) from YD cI _ _)]
   exact h
theorem p49_1_0 (tick:Int) (l:(List Prs)) (f:(List Flt)) (c:Cir) (spots:List Spt) (stood:List Int) (go:List Bool) (stp:Bool) (g1 g2 g3:Nat) (v1:List Spt) (v2:List Int) (v4:List Int) (kind:Nat) (v0_5:Bool) (g4:Nat) {E:Env} {rv:AV} {bs2:List Blk} (hE:LentE Try.prog 49 [.sl 3 g3 0 0 1] rv bs2 E) (ho:AllP [(decide ((kind:Int)≤3))=true])
 (hg:G Try.prog E (f49K2 Try.prog) ⟨((z49_9 tick l f)++jj 5 ([.int .i64 (c.blocks.length:Int),.sl 4 g4 0 v4.length 1,.int .i64 (kind:Int),.int .i64 0]++Js 312)),[⟨true,0,1,false,(z49_10 c g1 v1 g2 v2 g3 go v0_5),false⟩,⟨true,g1,3,true,(Qg v1),true⟩,⟨true,g2,1,true,(rowI v2),true⟩,⟨true,g3,1,true,(rowB go),true⟩,⟨true,g4,1,true,(rowI v4),true⟩]⟩):G Try.prog E (f49K1 Try.prog) (f49S1 tick l f c spots stood go stp g1 g2 g3 v1 v2 v4 kind v0_5 g4) :=
 Qa (n:=400) (ds:=[]) (cs:=[]) (live:=[0,1,2,3,9,10,11,12]) (m:=5) (evs:=[.b true,.stop]) (obs:=_) hE.kind (hE.nogh (by kernel_rfl)) Qm (by kernel_rfl) ho hg
theorem p49_1_1 (tick:Int) (l:(List Prs)) (f:(List Flt)) (c:Cir) (spots:List Spt) (stood:List Int) (go:List Bool) (stp:Bool) (g1 g2 g3:Nat) (v1:List Spt) (v2:List Int) (v4:List Int) (kind:Nat) (v0_5:Bool) (g4:Nat) {E:Env} {res:AV} {bs2:List Blk} (hE:LentE Try.prog 49 [.sl 3 g3 0 0 1] res bs2 E) (ho:AllP [(decide ((kind:Int)≤3))=false,v0_5=true])
 (hr:(.tup [])=res) (hb:[⟨true,0,1,false,(z49_10 c g1 v1 g2 v2 g3 go v0_5),false⟩,⟨true,g1,3,true,(Qg v1),true⟩,⟨true,g2,1,true,(rowI v2),true⟩,⟨true,g3,1,true,(rowB go),true⟩]=bs2):G Try.prog E (f49K1 Try.prog) (f49S1 tick l f c spots stood go stp g1 g2 g3 v1 v2 v4 kind v0_5 g4) :=
 Xb (n:=400) (live:=[]) (m:=4) (evs:=[.b false,.b true]) (obs:=_) hE (hE.nogh (by kernel_rfl)) Try.func49 Qm (by kernel_rfl) ho hr hb
theorem p49_1_2 (tick:Int) (l:(List Prs)) (f:(List Flt)) (c:Cir) (spots:List Spt) (stood:List Int) (go:List Bool) (stp:Bool) (g1 g2 g3:Nat) (v1:List Spt) (v2:List Int) (v4:List Int) (kind:Nat) (v0_5:Bool) (g4:Nat) {E:Env} {rv:AV} {bs2:List Blk} (hE:LentE Try.prog 49 [.sl 3 g3 0 0 1] rv bs2 E) (ho:AllP [(decide ((kind:Int)≤3))=false,v0_5=false,0≤(c.blocks.length:Int)∧(c.blocks.length:Int)≤(c.blocks.length:Int)∧(c.blocks.length:Int)≤2147483648])
 (hg:G Try.prog E (Vs Try.prog) ⟨([.ptr 0 0 0,.int .i64 tick,.rsl (Qs l) 0 l.length]++jj 6 ([.int .i64 (c.blocks.length:Int),.sl 4 g4 0 v4.length 1,J,J,J,.sl 5 0 0 (Int.toNat (c.blocks.length:Int)) 1,.int .i64 0]++Js 309)),[⟨true,0,1,false,(z49_10 c g1 v1 g2 v2 g3 go v0_5),false⟩,⟨true,g1,3,true,(Qg v1),true⟩,⟨true,g2,1,true,(rowI v2),true⟩,⟨true,g3,1,true,(rowB go),true⟩,⟨true,g4,1,true,(rowI v4),true⟩,⟨true,0,1,true,((List.replicate (Int.toNat (c.blocks.length:Int)) ([.bool false]:List AV)).flatten),true⟩]⟩):G Try.prog E (f49K1 Try.prog) (f49S1 tick l f c spots stood go stp g1 g2 g3 v1 v2 v4 kind v0_5 g4) :=
 Qa (n:=400) (ds:=[]) (cs:=[]) (live:=[0,1,2,9,10,14,15]) (m:=6) (evs:=[.b false,.b false,.stop]) (obs:=_) hE.kind (hE.nogh (by kernel_rfl)) Qm (by kernel_rfl) ho hg
theorem f49W1 (tick:Int) (l:(List Prs)) (f:(List Flt)) (c:Cir) (spots:List Spt) (stood:List Int) (go:List Bool) (stp:Bool) (g1 g2 g3:Nat) (v1:List Spt) (v2:List Int) (v4:List Int) (kind:Nat) (v0_5:Bool) {E:Env} {rv:Unit} {stp2:Bool} {spots2:List Spt} {stood2:List Int} {go2:List Bool} (hE:LentE Try.prog 49 [.sl 3 g3 0 0 1] (.tup []) [⟨true,0,1,false,[.rsl (Qc c.blocks) 0 c.blocks.length,.rsl (rowI c.cars) 0 c.cars.length,.sl 1 g1 0 spots2.length 3,.sl 2 g2 0 stood2.length 1,.sl 3 g3 0 go2.length 1,.bool stp2],false⟩,⟨true,g1,3,true,(Qg spots2),true⟩,⟨true,g2,1,true,(rowI stood2),true⟩,⟨true,g3,1,true,(rowB go2),true⟩] E)
 (h:(((kind:Int)≤3→f49G2 E tick l f c spots stood go stp g1 g2 g3 v1 v2 v4 0 v0_5 kind)∧(¬ ((kind:Int)≤3)→((v0_5=true→stp2=v0_5∧spots2=v1∧stood2=v2∧go2=go)∧(v0_5=false→(c.blocks.length≤2147483648∧Wo E tick l f c spots stood go stp g1 g2 g3 v0_5 v1 v2 v4 (List.replicate c.blocks.length (false:Bool)) 0 go)))))):QaC E tick l f c spots stood go stp g1 g2 g3 v1 v2 v4 kind v0_5:=by
 intro g4
 rcases bft (decide ((kind:Int)≤3)) with hc0 | hc0
 · have h:=h.1 (odt hc0)
   exact p49_1_0 tick l f c spots stood go stp g1 g2 g3 v1 v2 v4 kind v0_5 g4 hE ⟨hc0,trivial⟩ (h g4)
 · have h:=h.2 (odf hc0)
   rcases bft v0_5 with hc1 | hc1
   · have h:=h.1 hc1
     obtain ⟨qe0,qe1,qe2,qe3⟩:=h
     exact p49_1_1 tick l f c spots stood go stp g1 g2 g3 v1 v2 v4 kind v0_5 g4 hE ⟨hc0,hc1,trivial⟩ (by try rfl) (by rw [qe0,qe1,qe2,qe3]; all_goals (first | rfl | (simp only [List.length_set]; done) | (simp only [List.length_set]; rfl)))
   · have h:=h.2 hc1
     obtain ⟨h1,h⟩:=h
     refine p49_1_2 tick l f c spots stood go stp g1 g2 g3 v1 v2 v4 kind v0_5 g4 hE ⟨hc0,hc1,⟨by omega,by omega,by have:=h1; omega⟩,trivial⟩ ?_
     have h:=(h g4 0)
     simp only [Wo,qh,List.length_set,List.length_replicate] at h
     rw [(show (List.replicate (Int.toNat (c.blocks.length:Int)) ([.bool false]:List AV)).flatten=rowB (List.replicate c.blocks.length (false:Bool)) from YD cB _ _)]
     exact h
theorem p49_2_0 (tick:Int) (l:(List Prs)) (f:(List Flt)) (c:Cir) (spots:List Spt) (stood:List Int) (go:List Bool) (stp:Bool) (g1 g2 g3:Nat) (v1:List Spt) (v2:List Int) (v4:List Int) (b:Nat) (v0_5:Bool) (kind:Nat) (g4:Nat) (e:Int) (e1:Int) {E:Env} {rv:AV} {bs2:List Blk} (hE:LentE Try.prog 49 [.sl 3 g3 0 0 1] rv bs2 E) (ho:AllP [(decide ((b:Int)<(c.blocks.length:Int)))=true,InR .i64 ((kind:Int) - 1),InR .i64 (((kind:Int) - 1)*(c.blocks.length:Int)),InR .i64 ((((kind:Int) - 1)*(c.blocks.length:Int))+(b:Int)),Ql Try.prog (.clos 81 [] []) [.rptr (z49_11 c v1 v2 go v0_5) 0,.int .i64 tick,.int .i64 (kind:Int),.int .i64 0,.int .i64 (b:Int),.rsl (Qi f) 0 f.length] (z49_13 f kind b tick c v1 v2 go v0_5),g1=g1,g2=g2,g3=g3,0≤((((kind:Int) - 1)*(c.blocks.length:Int))+(b:Int))∧((((kind:Int) - 1)*(c.blocks.length:Int))+(b:Int))<(v4.length:Int),g4=g4,((0+(Int.toNat ((((kind:Int) - 1)*(c.blocks.length:Int))+(b:Int)))*1)+1)≤(rowI v4).length,g4=g4,Ql Try.prog (.clos 81 [] []) [.rptr (z49_11 c v1 v2 go v0_5) 0,.int .i64 tick,.int .i64 (kind:Int),.int .i64 1,.int .i64 (b:Int),.rsl (Qi f) 0 f.length] (z49_14 f kind b tick c v1 v2 go v0_5),g1=g1,g2=g2,g3=g3,0≤((((kind:Int) - 1)*(c.blocks.length:Int))+(b:Int))∧((((kind:Int) - 1)*(c.blocks.length:Int))+(b:Int))<(v4.length:Int),g4=g4,g4=g4,((Qv (rowI v4) (0+(Int.toNat ((((kind:Int) - 1)*(c.blocks.length:Int))+(b:Int)))*1) (z49_15 f kind b tick c v1 v2 go v0_5)).drop (0+(Int.toNat ((((kind:Int) - 1)*(c.blocks.length:Int))+(b:Int)))*1)).take 1=[.int .i64 e1],((Yt f (kind:Int) 1 (b:Int) tick (XN (⟨c,v1,v2,go,v0_5⟩:Rn).c (⟨c,v1,v2,go,v0_5⟩:Rn).spots (kind:Int) (b:Int))) != e1)=true,6≤6,InR .i64 ((b:Int)+1)])
 (hg:G Try.prog E (f49K2 Try.prog) ⟨((z49_9 tick l f)++jj 5 ([.int .i64 (c.blocks.length:Int),.sl 4 g4 0 v4.length 1,.int .i64 (kind:Int),.int .i64 ((b:Int)+1)]++Js 312)),[⟨true,0,1,false,[.rsl (Qc c.blocks) 0 c.blocks.length,.rsl (rowI c.cars) 0 c.cars.length,.sl 1 g1 0 v1.length 3,.sl 2 g2 0 v2.length 1,.sl 3 g3 0 go.length 1,.bool true],false⟩,⟨true,g1,3,true,(Qg v1),true⟩,⟨true,g2,1,true,(rowI v2),true⟩,⟨true,g3,1,true,(rowB go),true⟩,⟨true,g4,1,true,(Qv (rowI v4) (0+(Int.toNat ((((kind:Int) - 1)*(c.blocks.length:Int))+(b:Int)))*1) (z49_15 f kind b tick c v1 v2 go v0_5)),true⟩]⟩):G Try.prog E (f49K2 Try.prog) (f49S2 tick l f c spots stood go stp g1 g2 g3 v1 v2 v4 b v0_5 kind g4) :=
 Qa (n:=400) (ds:=[]) (cs:=[]) (live:=[0,1,2,3,9,10,11,12]) (m:=5) (evs:=[.b true,.v (z49_13 f kind b tick c v1 v2 go v0_5),.v (z49_14 f kind b tick c v1 v2 go v0_5),.ld (.int .i64 e1),.b true,.stop]) (obs:=_) hE.kind (hE.nogh (by kernel_rfl)) Qm (by kernel_rfl) ho hg
theorem p49_2_1 (tick:Int) (l:(List Prs)) (f:(List Flt)) (c:Cir) (spots:List Spt) (stood:List Int) (go:List Bool) (stp:Bool) (g1 g2 g3:Nat) (v1:List Spt) (v2:List Int) (v4:List Int) (b:Nat) (v0_5:Bool) (kind:Nat) (g4:Nat) (e:Int) (e1:Int) {E:Env} {rv:AV} {bs2:List Blk} (hE:LentE Try.prog 49 [.sl 3 g3 0 0 1] rv bs2 E) (ho:AllP [(decide ((b:Int)<(c.blocks.length:Int)))=true,InR .i64 ((kind:Int) - 1),InR .i64 (((kind:Int) - 1)*(c.blocks.length:Int)),InR .i64 ((((kind:Int) - 1)*(c.blocks.length:Int))+(b:Int)),Ql Try.prog (.clos 81 [] []) [.rptr (z49_11 c v1 v2 go v0_5) 0,.int .i64 tick,.int .i64 (kind:Int),.int .i64 0,.int .i64 (b:Int),.rsl (Qi f) 0 f.length] (z49_13 f kind b tick c v1 v2 go v0_5),g1=g1,g2=g2,g3=g3,0≤((((kind:Int) - 1)*(c.blocks.length:Int))+(b:Int))∧((((kind:Int) - 1)*(c.blocks.length:Int))+(b:Int))<(v4.length:Int),g4=g4,((0+(Int.toNat ((((kind:Int) - 1)*(c.blocks.length:Int))+(b:Int)))*1)+1)≤(rowI v4).length,g4=g4,Ql Try.prog (.clos 81 [] []) [.rptr (z49_11 c v1 v2 go v0_5) 0,.int .i64 tick,.int .i64 (kind:Int),.int .i64 1,.int .i64 (b:Int),.rsl (Qi f) 0 f.length] (z49_14 f kind b tick c v1 v2 go v0_5),g1=g1,g2=g2,g3=g3,0≤((((kind:Int) - 1)*(c.blocks.length:Int))+(b:Int))∧((((kind:Int) - 1)*(c.blocks.length:Int))+(b:Int))<(v4.length:Int),g4=g4,g4=g4,((Qv (rowI v4) (0+(Int.toNat ((((kind:Int) - 1)*(c.blocks.length:Int))+(b:Int)))*1) (z49_15 f kind b tick c v1 v2 go v0_5)).drop (0+(Int.toNat ((((kind:Int) - 1)*(c.blocks.length:Int))+(b:Int)))*1)).take 1=[.int .i64 e1],((Yt f (kind:Int) 1 (b:Int) tick (XN (⟨c,v1,v2,go,v0_5⟩:Rn).c (⟨c,v1,v2,go,v0_5⟩:Rn).spots (kind:Int) (b:Int))) != e1)=false,InR .i64 ((b:Int)+1)])
 (hg:G Try.prog E (f49K2 Try.prog) ⟨((z49_9 tick l f)++jj 5 ([.int .i64 (c.blocks.length:Int),.sl 4 g4 0 v4.length 1,.int .i64 (kind:Int),.int .i64 ((b:Int)+1)]++Js 312)),[⟨true,0,1,false,(z49_10 c g1 v1 g2 v2 g3 go v0_5),false⟩,⟨true,g1,3,true,(Qg v1),true⟩,⟨true,g2,1,true,(rowI v2),true⟩,⟨true,g3,1,true,(rowB go),true⟩,⟨true,g4,1,true,(Qv (rowI v4) (0+(Int.toNat ((((kind:Int) - 1)*(c.blocks.length:Int))+(b:Int)))*1) (z49_15 f kind b tick c v1 v2 go v0_5)),true⟩]⟩):G Try.prog E (f49K2 Try.prog) (f49S2 tick l f c spots stood go stp g1 g2 g3 v1 v2 v4 b v0_5 kind g4) :=
 Qa (n:=400) (ds:=[]) (cs:=[]) (live:=[0,1,2,3,9,10,11,12]) (m:=5) (evs:=[.b true,.v (z49_13 f kind b tick c v1 v2 go v0_5),.v (z49_14 f kind b tick c v1 v2 go v0_5),.ld (.int .i64 e1),.b false,.stop]) (obs:=_) hE.kind (hE.nogh (by kernel_rfl)) Qm (by kernel_rfl) ho hg
theorem p49_2_2 (tick:Int) (l:(List Prs)) (f:(List Flt)) (c:Cir) (spots:List Spt) (stood:List Int) (go:List Bool) (stp:Bool) (g1 g2 g3:Nat) (v1:List Spt) (v2:List Int) (v4:List Int) (b:Nat) (v0_5:Bool) (kind:Nat) (g4:Nat) {E:Env} {rv:AV} {bs2:List Blk} (hE:LentE Try.prog 49 [.sl 3 g3 0 0 1] rv bs2 E) (ho:AllP [(decide ((b:Int)<(c.blocks.length:Int)))=false,InR .i64 ((kind:Int)+1)])
 (hg:G Try.prog E (f49K1 Try.prog) ⟨((z49_9 tick l f)++jj 5 ([.int .i64 (c.blocks.length:Int),.sl 4 g4 0 v4.length 1,.int .i64 ((kind:Int)+1)]++Js 313)),[⟨true,0,1,false,(z49_10 c g1 v1 g2 v2 g3 go v0_5),false⟩,⟨true,g1,3,true,(Qg v1),true⟩,⟨true,g2,1,true,(rowI v2),true⟩,⟨true,g3,1,true,(rowB go),true⟩,⟨true,g4,1,true,(rowI v4),true⟩]⟩):G Try.prog E (f49K2 Try.prog) (f49S2 tick l f c spots stood go stp g1 g2 g3 v1 v2 v4 b v0_5 kind g4) :=
 Qa (n:=400) (ds:=[]) (cs:=[]) (live:=[0,1,2,3,9,10,11]) (m:=5) (evs:=[.b false,.stop]) (obs:=_) hE.kind (hE.nogh (by kernel_rfl)) Qm (by kernel_rfl) ho hg
theorem f49W2 (tick:Int) (l:(List Prs)) (f:(List Flt)) (c:Cir) (spots:List Spt) (stood:List Int) (go:List Bool) (stp:Bool) (g1 g2 g3:Nat) (v1:List Spt) (v2:List Int) (v4:List Int) (b:Nat) (v0_5:Bool) (kind:Nat) {E:Env} {rv:Unit} {stp2:Bool} {spots2:List Spt} {stood2:List Int} {go2:List Bool} (hE:LentE Try.prog 49 [.sl 3 g3 0 0 1] (.tup []) [⟨true,0,1,false,[.rsl (Qc c.blocks) 0 c.blocks.length,.rsl (rowI c.cars) 0 c.cars.length,.sl 1 g1 0 spots2.length 3,.sl 2 g2 0 stood2.length 1,.sl 3 g3 0 go2.length 1,.bool stp2],false⟩,⟨true,g1,3,true,(Qg spots2),true⟩,⟨true,g2,1,true,(rowI stood2),true⟩,⟨true,g3,1,true,(rowB go2),true⟩] E)
 (h:(((b:Int)<(c.blocks.length:Int)→((I6 ((kind:Int) - 1))∧((I6 (((kind:Int) - 1)*(c.blocks.length:Int)))∧((I6 ((((kind:Int) - 1)*(c.blocks.length:Int))+(b:Int)))∧((RnIn (⟨c,v1,v2,go,v0_5⟩:Rn)∧f.length≤9223372036854775807)∧(0≤((((kind:Int) - 1)*(c.blocks.length:Int))+(b:Int))∧(∃ e:Int,v4[Int.toNat ((((kind:Int) - 1)*(c.blocks.length:Int))+(b:Int))]?=some e∧((RnIn (⟨c,v1,v2,go,v0_5⟩:Rn)∧f.length≤9223372036854775807)∧(0≤((((kind:Int) - 1)*(c.blocks.length:Int))+(b:Int))∧(∃ e1:Int,(v4.set (Int.toNat ((((kind:Int) - 1)*(c.blocks.length:Int))+(b:Int))) (Yt f (kind:Int) 0 (b:Int) tick (XN (⟨c,v1,v2,go,v0_5⟩:Rn).c (⟨c,v1,v2,go,v0_5⟩:Rn).spots (kind:Int) (b:Int))))[Int.toNat ((((kind:Int) - 1)*(c.blocks.length:Int))+(b:Int))]?=some e1∧((¬ ((Yt f (kind:Int) 1 (b:Int) tick (XN (⟨c,v1,v2,go,v0_5⟩:Rn).c (⟨c,v1,v2,go,v0_5⟩:Rn).spots (kind:Int) (b:Int)))=e1)→((I6 ((b:Int)+1))∧f49G2 E tick l f c spots stood go stp g1 g2 g3 v1 v2 (v4.set (Int.toNat ((((kind:Int) - 1)*(c.blocks.length:Int))+(b:Int))) (Yt f (kind:Int) 0 (b:Int) tick (XN (⟨c,v1,v2,go,v0_5⟩:Rn).c (⟨c,v1,v2,go,v0_5⟩:Rn).spots (kind:Int) (b:Int)))) (b+1) true kind))∧((Yt f (kind:Int) 1 (b:Int) tick (XN (⟨c,v1,v2,go,v0_5⟩:Rn).c (⟨c,v1,v2,go,v0_5⟩:Rn).spots (kind:Int) (b:Int)))=e1→((I6 ((b:Int)+1))∧f49G2 E tick l f c spots stood go stp g1 g2 g3 v1 v2 (v4.set (Int.toNat ((((kind:Int) - 1)*(c.blocks.length:Int))+(b:Int))) (Yt f (kind:Int) 0 (b:Int) tick (XN (⟨c,v1,v2,go,v0_5⟩:Rn).c (⟨c,v1,v2,go,v0_5⟩:Rn).spots (kind:Int) (b:Int)))) (b+1) v0_5 kind)))))))))))))∧(¬ ((b:Int)<(c.blocks.length:Int))→((I6 ((kind:Int)+1))∧QaC E tick l f c spots stood go stp g1 g2 g3 v1 v2 v4 (kind+1) v0_5)))):f49G2 E tick l f c spots stood go stp g1 g2 g3 v1 v2 v4 b v0_5 kind:=by
 intro g4
 rcases bft (decide ((b:Int)<(c.blocks.length:Int))) with hc0 | hc0
 · have h:=h.1 (odt hc0)
   obtain ⟨q1_1,h⟩:=h
   obtain ⟨q2_1,h⟩:=h
   obtain ⟨q3_1,h⟩:=h
   obtain ⟨h1,h⟩:=h
   obtain ⟨h3,h⟩:=h
   obtain ⟨e,h2,h⟩:=h
   obtain ⟨h4,h⟩:=h
   obtain ⟨h6,h⟩:=h
   obtain ⟨e1,h5,h⟩:=h
   rcases bft ((Yt f (kind:Int) 1 (b:Int) tick (XN (⟨c,v1,v2,go,v0_5⟩:Rn).c (⟨c,v1,v2,go,v0_5⟩:Rn).spots (kind:Int) (b:Int))) != e1) with hc1 | hc1
   · have h:=h.1 (bneT hc1)
     obtain ⟨q24_2,h⟩:=h
     refine p49_2_0 tick l f c spots stood go stp g1 g2 g3 v1 v2 v4 b v0_5 kind g4 e e1 hE ⟨hc0,q1_1,q2_1,q3_1,(u81 (Qby (⟨c,v1,v2,go,v0_5⟩:Rn) tick (kind:Int) 0 (b:Int) f h1)),rfl,rfl,rfl,(Qq h3 h2),rfl,(rf cI 1 0 1 h2),rfl,(u81 (Qby (⟨c,v1,v2,go,v0_5⟩:Rn) tick (kind:Int) 1 (b:Int) f h4)),rfl,rfl,rfl,(by have hx:=Qq h6 h5; simpa using hx),rfl,rfl,(by rw [(show Qv (rowI v4) (0+(Int.toNat ((((kind:Int) - 1)*(c.blocks.length:Int))+(b:Int)))*1) [.int .i64 (Yt f (kind:Int) 0 (b:Int) tick (XN (⟨c,v1,v2,go,v0_5⟩:Rn).c (⟨c,v1,v2,go,v0_5⟩:Rn).spots (kind:Int) (b:Int)))]=rowI (v4.set (Int.toNat ((((kind:Int) - 1)*(c.blocks.length:Int))+(b:Int))) (Yt f (kind:Int) 0 (b:Int) tick (XN (⟨c,v1,v2,go,v0_5⟩:Rn).c (⟨c,v1,v2,go,v0_5⟩:Rn).spots (kind:Int) (b:Int)))) from Qx cI (s:=1) (k:=0) (fun _=>rfl) h2 rfl (by first | decide | simp))]; exact rp cI 1 0 1 h5),hc1,(by decide),q24_2,trivial⟩ ?_
     have h:=(h g4)
     simp only [f49G2,f49S2,List.length_set] at h
     rw [(show Qv (rowI v4) (0+(Int.toNat ((((kind:Int) - 1)*(c.blocks.length:Int))+(b:Int)))*1) [.int .i64 (Yt f (kind:Int) 0 (b:Int) tick (XN (⟨c,v1,v2,go,v0_5⟩:Rn).c (⟨c,v1,v2,go,v0_5⟩:Rn).spots (kind:Int) (b:Int)))]=rowI (v4.set (Int.toNat ((((kind:Int) - 1)*(c.blocks.length:Int))+(b:Int))) (Yt f (kind:Int) 0 (b:Int) tick (XN (⟨c,v1,v2,go,v0_5⟩:Rn).c (⟨c,v1,v2,go,v0_5⟩:Rn).spots (kind:Int) (b:Int)))) from Qx cI (s:=1) (k:=0) (fun _=>rfl) h2 rfl (by first | decide | simp))]
     exact h
   · have h:=h.2 (bneF hc1)
     obtain ⟨q23_2,h⟩:=h
     refine p49_2_1 tick l f c spots stood go stp g1 g2 g3 v1 v2 v4 b v0_5 kind g4 e e1 hE ⟨hc0,q1_1,q2_1,q3_1,(u81 (Qby (⟨c,v1,v2,go,v0_5⟩:Rn) tick (kind:Int) 0 (b:Int) f h1)),rfl,rfl,rfl,(Qq h3 h2),rfl,(rf cI 1 0 1 h2),rfl,(u81 (Qby (⟨c,v1,v2,go,v0_5⟩:Rn) tick (kind:Int) 1 (b:Int) f h4)),rfl,rfl,rfl,(by have hx:=Qq h6 h5; simpa using hx),rfl,rfl,(by rw [(show Qv (rowI v4) (0+(Int.toNat ((((kind:Int) - 1)*(c.blocks.length:Int))+(b:Int)))*1) [.int .i64 (Yt f (kind:Int) 0 (b:Int) tick (XN (⟨c,v1,v2,go,v0_5⟩:Rn).c (⟨c,v1,v2,go,v0_5⟩:Rn).spots (kind:Int) (b:Int)))]=rowI (v4.set (Int.toNat ((((kind:Int) - 1)*(c.blocks.length:Int))+(b:Int))) (Yt f (kind:Int) 0 (b:Int) tick (XN (⟨c,v1,v2,go,v0_5⟩:Rn).c (⟨c,v1,v2,go,v0_5⟩:Rn).spots (kind:Int) (b:Int)))) from Qx cI (s:=1) (k:=0) (fun _=>rfl) h2 rfl (by first | decide | simp))]; exact rp cI 1 0 1 h5),hc1,q23_2,trivial⟩ ?_
     have h:=(h g4)
     simp only [f49G2,f49S2,List.length_set] at h
     rw [(show Qv (rowI v4) (0+(Int.toNat ((((kind:Int) - 1)*(c.blocks.length:Int))+(b:Int)))*1) [.int .i64 (Yt f (kind:Int) 0 (b:Int) tick (XN (⟨c,v1,v2,go,v0_5⟩:Rn).c (⟨c,v1,v2,go,v0_5⟩:Rn).spots (kind:Int) (b:Int)))]=rowI (v4.set (Int.toNat ((((kind:Int) - 1)*(c.blocks.length:Int))+(b:Int))) (Yt f (kind:Int) 0 (b:Int) tick (XN (⟨c,v1,v2,go,v0_5⟩:Rn).c (⟨c,v1,v2,go,v0_5⟩:Rn).spots (kind:Int) (b:Int)))) from Qx cI (s:=1) (k:=0) (fun _=>rfl) h2 rfl (by first | decide | simp))]
     exact h
 · have h:=h.2 (odf hc0)
   obtain ⟨q1_1,h⟩:=h
   exact p49_2_2 tick l f c spots stood go stp g1 g2 g3 v1 v2 v4 b v0_5 kind g4 hE ⟨hc0,q1_1,trivial⟩ (h g4)
theorem p49_3_0 (tick:Int) (l:(List Prs)) (f:(List Flt)) (c:Cir) (spots:List Spt) (stood:List Int) (go:List Bool) (stp:Bool) (g1 g2 g3:Nat) (v0_5:Bool) (v1:List Spt) (v2:List Int) (v4:List Int) (v5:List Bool) (i:Nat) (v3:List Bool) (g4:Nat) (g5:Nat) (pe:Prs) {E:Env} {rv:AV} {bs2:List Blk} (hE:LentE Try.prog 49 [.sl 3 g3 0 0 1] rv bs2 E) (ho:AllP [(decide ((i:Int)<(l.length:Int)))=true,0≤(i:Int)∧(i:Int)<(l.length:Int),((Qs l).drop ((0+(Int.toNat (i:Int))*3)+0)).take 1=[.int .i64 pe.at_],(pe.at_ != tick)=true,InR .i64 ((i:Int)+1)])
 (hg:G Try.prog E (Vs Try.prog) ⟨(Qau tick l c g4 v4 g5 v5 i),(z49_6 c g1 v1 g2 v2 g3 v3 v0_5 g4 v4 g5 v5)⟩):G Try.prog E (Vs Try.prog) (qh tick l f c spots stood go stp g1 g2 g3 v0_5 v1 v2 v4 v5 i v3 g4 g5) :=
 Qa (n:=400) (ds:=[]) (cs:=[]) (live:=[0,1,2,9,10,14,15]) (m:=6) (evs:=[.b true,.ld (.int .i64 pe.at_),.b true,.stop]) (obs:=_) hE.kind (hE.nogh (by kernel_rfl)) Qm (by kernel_rfl) ho hg
theorem p49_3_1 (tick:Int) (l:(List Prs)) (f:(List Flt)) (c:Cir) (spots:List Spt) (stood:List Int) (go:List Bool) (stp:Bool) (g1 g2 g3:Nat) (v0_5:Bool) (v1:List Spt) (v2:List Int) (v4:List Int) (v5:List Bool) (i:Nat) (v3:List Bool) (g4:Nat) (g5:Nat) (pe:Prs) (be:Bk) (e:Int) (e1:Int) (se:Spt) (eb:Bool) {E:Env} {rv:AV} {bs2:List Blk} (hE:LentE Try.prog 49 [.sl 3 g3 0 0 1] rv bs2 E) (ho:AllP [(decide ((i:Int)<(l.length:Int)))=true,0≤(i:Int)∧(i:Int)<(l.length:Int),((Qs l).drop ((0+(Int.toNat (i:Int))*3)+0)).take 1=[.int .i64 pe.at_],(pe.at_ != tick)=false,0≤(i:Int)∧(i:Int)<(l.length:Int),((Qs l).drop ((0+(Int.toNat (i:Int))*3)+2)).take 1=[.int .i64 pe.block],Ql Try.prog (.clos 82 [] []) (Qbm c v1 v2 v3 v0_5 pe) (Wv c v1 v2 v3 v0_5 pe),g1=g1,g2=g2,g3=g3,0≤(i:Int)∧(i:Int)<(l.length:Int),((Qs l).drop ((0+(Int.toNat (i:Int))*3)+1)).take 1=[.int .i64 pe.kind],(pe.kind == 1)=true,0≤pe.block∧pe.block<(c.blocks.length:Int),((Qc c.blocks).drop ((0+(Int.toNat pe.block)*4)+1)).take 1=[.bool be.station],be.station=true,InR .i64 ((c.blocks.length:Int)+pe.block),0≤((c.blocks.length:Int)+pe.block)∧((c.blocks.length:Int)+pe.block)<(v4.length:Int),g4=g4,g4=g4,((rowI v4).drop (0+(Int.toNat ((c.blocks.length:Int)+pe.block))*1)).take 1=[.int .i64 e],(e == 1)=true,0≤pe.block∧pe.block<(v4.length:Int),g4=g4,g4=g4,((rowI v4).drop (0+(Int.toNat pe.block)*1)).take 1=[.int .i64 e1],(e1 == 1)=true,(decide ((carS (⟨c,v1,v2,v3,v0_5⟩:Rn).spots pe.block)≥0))=true,0≤(carS (⟨c,v1,v2,v3,v0_5⟩:Rn).spots pe.block)∧(carS (⟨c,v1,v2,v3,v0_5⟩:Rn).spots pe.block)<(v1.length:Int),g1=g1,g1=g1,(((0+(Int.toNat (carS (⟨c,v1,v2,v3,v0_5⟩:Rn).spots pe.block))*3)+2)+1)≤(Qg v1).length,g1=g1,0≤pe.block∧pe.block<(v5.length:Int),g5=g5,((0+(Int.toNat pe.block)*1)+1)≤(rowB v5).length,g5=g5,InR .i64 ((i:Int)+1)])
 (hg:G Try.prog E (Vs Try.prog) ⟨(Qau tick l c g4 v4 g5 v5 i),[⟨true,0,1,false,(Qav c g1 v1 g2 v2 g3 v3 v0_5),false⟩,⟨true,g1,3,true,(Qv (Qg v1) ((0+(Int.toNat (carS (⟨c,v1,v2,v3,v0_5⟩:Rn).spots pe.block))*3)+2) [.bool true]),true⟩,⟨true,g2,1,true,(rowI v2),true⟩,⟨true,g3,1,true,(rowB v3),true⟩,⟨true,g4,1,true,(rowI v4),true⟩,⟨true,g5,1,true,(Qv (rowB v5) (0+(Int.toNat pe.block)*1) [.bool true]),true⟩]⟩):G Try.prog E (Vs Try.prog) (qh tick l f c spots stood go stp g1 g2 g3 v0_5 v1 v2 v4 v5 i v3 g4 g5) :=
 Qa (n:=400) (ds:=[]) (cs:=[]) (live:=[0,1,2,9,10,14,15]) (m:=6) (evs:=[.b true,.ld (.int .i64 pe.at_),.b false,.ld (.int .i64 pe.block),.v (Wv c v1 v2 v3 v0_5 pe),.ld (.int .i64 pe.kind),.b true,.auto,.ld (.bool be.station),.b true,.ld (.int .i64 e),.b true,.ld (.int .i64 e1),.b true,.b true,.stop]) (obs:=_) hE.kind (hE.nogh (by kernel_rfl)) Qm (by kernel_rfl) ho hg
theorem p49_3_2 (tick:Int) (l:(List Prs)) (f:(List Flt)) (c:Cir) (spots:List Spt) (stood:List Int) (go:List Bool) (stp:Bool) (g1 g2 g3:Nat) (v0_5:Bool) (v1:List Spt) (v2:List Int) (v4:List Int) (v5:List Bool) (i:Nat) (v3:List Bool) (g4:Nat) (g5:Nat) (pe:Prs) (be:Bk) (e:Int) (e1:Int) {E:Env} {rv:AV} {bs2:List Blk} (hE:LentE Try.prog 49 [.sl 3 g3 0 0 1] rv bs2 E) (ho:AllP [(decide ((i:Int)<(l.length:Int)))=true,0≤(i:Int)∧(i:Int)<(l.length:Int),((Qs l).drop ((0+(Int.toNat (i:Int))*3)+0)).take 1=[.int .i64 pe.at_],(pe.at_ != tick)=false,0≤(i:Int)∧(i:Int)<(l.length:Int),((Qs l).drop ((0+(Int.toNat (i:Int))*3)+2)).take 1=[.int .i64 pe.block],Ql Try.prog (.clos 82 [] []) (Qbm c v1 v2 v3 v0_5 pe) (Wv c v1 v2 v3 v0_5 pe),g1=g1,g2=g2,g3=g3,0≤(i:Int)∧(i:Int)<(l.length:Int),((Qs l).drop ((0+(Int.toNat (i:Int))*3)+1)).take 1=[.int .i64 pe.kind],(pe.kind == 1)=true,0≤pe.block∧pe.block<(c.blocks.length:Int),((Qc c.blocks).drop ((0+(Int.toNat pe.block)*4)+1)).take 1=[.bool be.station],be.station=true,InR .i64 ((c.blocks.length:Int)+pe.block),0≤((c.blocks.length:Int)+pe.block)∧((c.blocks.length:Int)+pe.block)<(v4.length:Int),g4=g4,g4=g4,((rowI v4).drop (0+(Int.toNat ((c.blocks.length:Int)+pe.block))*1)).take 1=[.int .i64 e],(e == 1)=true,0≤pe.block∧pe.block<(v4.length:Int),g4=g4,g4=g4,((rowI v4).drop (0+(Int.toNat pe.block)*1)).take 1=[.int .i64 e1],(e1 == 1)=true,(decide ((carS (⟨c,v1,v2,v3,v0_5⟩:Rn).spots pe.block)≥0))=false,InR .i64 ((i:Int)+1)])
 (hg:G Try.prog E (Vs Try.prog) ⟨(Qau tick l c g4 v4 g5 v5 i),(z49_6 c g1 v1 g2 v2 g3 v3 v0_5 g4 v4 g5 v5)⟩):G Try.prog E (Vs Try.prog) (qh tick l f c spots stood go stp g1 g2 g3 v0_5 v1 v2 v4 v5 i v3 g4 g5) :=
 Qa (n:=400) (ds:=[]) (cs:=[]) (live:=[0,1,2,9,10,14,15]) (m:=6) (evs:=[.b true,.ld (.int .i64 pe.at_),.b false,.ld (.int .i64 pe.block),.v (Wv c v1 v2 v3 v0_5 pe),.ld (.int .i64 pe.kind),.b true,.auto,.ld (.bool be.station),.b true,.ld (.int .i64 e),.b true,.ld (.int .i64 e1),.b true,.b false,.stop]) (obs:=_) hE.kind (hE.nogh (by kernel_rfl)) Qm (by kernel_rfl) ho hg
theorem p49_3_3 (tick:Int) (l:(List Prs)) (f:(List Flt)) (c:Cir) (spots:List Spt) (stood:List Int) (go:List Bool) (stp:Bool) (g1 g2 g3:Nat) (v0_5:Bool) (v1:List Spt) (v2:List Int) (v4:List Int) (v5:List Bool) (i:Nat) (v3:List Bool) (g4:Nat) (g5:Nat) (pe:Prs) (be:Bk) (e:Int) (e1:Int) {E:Env} {rv:AV} {bs2:List Blk} (hE:LentE Try.prog 49 [.sl 3 g3 0 0 1] rv bs2 E) (ho:AllP [(decide ((i:Int)<(l.length:Int)))=true,0≤(i:Int)∧(i:Int)<(l.length:Int),((Qs l).drop ((0+(Int.toNat (i:Int))*3)+0)).take 1=[.int .i64 pe.at_],(pe.at_ != tick)=false,0≤(i:Int)∧(i:Int)<(l.length:Int),((Qs l).drop ((0+(Int.toNat (i:Int))*3)+2)).take 1=[.int .i64 pe.block],Ql Try.prog (.clos 82 [] []) (Qbm c v1 v2 v3 v0_5 pe) (Wv c v1 v2 v3 v0_5 pe),g1=g1,g2=g2,g3=g3,0≤(i:Int)∧(i:Int)<(l.length:Int),((Qs l).drop ((0+(Int.toNat (i:Int))*3)+1)).take 1=[.int .i64 pe.kind],(pe.kind == 1)=true,0≤pe.block∧pe.block<(c.blocks.length:Int),((Qc c.blocks).drop ((0+(Int.toNat pe.block)*4)+1)).take 1=[.bool be.station],be.station=true,InR .i64 ((c.blocks.length:Int)+pe.block),0≤((c.blocks.length:Int)+pe.block)∧((c.blocks.length:Int)+pe.block)<(v4.length:Int),g4=g4,g4=g4,((rowI v4).drop (0+(Int.toNat ((c.blocks.length:Int)+pe.block))*1)).take 1=[.int .i64 e],(e == 1)=true,0≤pe.block∧pe.block<(v4.length:Int),g4=g4,g4=g4,((rowI v4).drop (0+(Int.toNat pe.block)*1)).take 1=[.int .i64 e1],(e1 == 1)=false,false=false,InR .i64 ((i:Int)+1)])
 (hg:G Try.prog E (Vs Try.prog) ⟨(Qau tick l c g4 v4 g5 v5 i),(z49_6 c g1 v1 g2 v2 g3 v3 v0_5 g4 v4 g5 v5)⟩):G Try.prog E (Vs Try.prog) (qh tick l f c spots stood go stp g1 g2 g3 v0_5 v1 v2 v4 v5 i v3 g4 g5) :=
 Qa (n:=400) (ds:=[]) (cs:=[]) (live:=[0,1,2,9,10,14,15]) (m:=6) (evs:=[.b true,.ld (.int .i64 pe.at_),.b false,.ld (.int .i64 pe.block),.v (Wv c v1 v2 v3 v0_5 pe),.ld (.int .i64 pe.kind),.b true,.auto,.ld (.bool be.station),.b true,.ld (.int .i64 e),.b true,.ld (.int .i64 e1),.b false,.b false,.stop]) (obs:=_) hE.kind (hE.nogh (by kernel_rfl)) Qm (by kernel_rfl) ho hg
theorem p49_3_4 (tick:Int) (l:(List Prs)) (f:(List Flt)) (c:Cir) (spots:List Spt) (stood:List Int) (go:List Bool) (stp:Bool) (g1 g2 g3:Nat) (v0_5:Bool) (v1:List Spt) (v2:List Int) (v4:List Int) (v5:List Bool) (i:Nat) (v3:List Bool) (g4:Nat) (g5:Nat) (pe:Prs) (be:Bk) (e:Int) {E:Env} {rv:AV} {bs2:List Blk} (hE:LentE Try.prog 49 [.sl 3 g3 0 0 1] rv bs2 E) (ho:AllP [(decide ((i:Int)<(l.length:Int)))=true,0≤(i:Int)∧(i:Int)<(l.length:Int),((Qs l).drop ((0+(Int.toNat (i:Int))*3)+0)).take 1=[.int .i64 pe.at_],(pe.at_ != tick)=false,0≤(i:Int)∧(i:Int)<(l.length:Int),((Qs l).drop ((0+(Int.toNat (i:Int))*3)+2)).take 1=[.int .i64 pe.block],Ql Try.prog (.clos 82 [] []) (Qbm c v1 v2 v3 v0_5 pe) (Wv c v1 v2 v3 v0_5 pe),g1=g1,g2=g2,g3=g3,0≤(i:Int)∧(i:Int)<(l.length:Int),((Qs l).drop ((0+(Int.toNat (i:Int))*3)+1)).take 1=[.int .i64 pe.kind],(pe.kind == 1)=true,0≤pe.block∧pe.block<(c.blocks.length:Int),((Qc c.blocks).drop ((0+(Int.toNat pe.block)*4)+1)).take 1=[.bool be.station],be.station=true,InR .i64 ((c.blocks.length:Int)+pe.block),0≤((c.blocks.length:Int)+pe.block)∧((c.blocks.length:Int)+pe.block)<(v4.length:Int),g4=g4,g4=g4,((rowI v4).drop (0+(Int.toNat ((c.blocks.length:Int)+pe.block))*1)).take 1=[.int .i64 e],(e == 1)=false,false=false,false=false,InR .i64 ((i:Int)+1)])
 (hg:G Try.prog E (Vs Try.prog) ⟨(Qau tick l c g4 v4 g5 v5 i),(z49_6 c g1 v1 g2 v2 g3 v3 v0_5 g4 v4 g5 v5)⟩):G Try.prog E (Vs Try.prog) (qh tick l f c spots stood go stp g1 g2 g3 v0_5 v1 v2 v4 v5 i v3 g4 g5) :=
 Qa (n:=400) (ds:=[]) (cs:=[]) (live:=[0,1,2,9,10,14,15]) (m:=6) (evs:=[.b true,.ld (.int .i64 pe.at_),.b false,.ld (.int .i64 pe.block),.v (Wv c v1 v2 v3 v0_5 pe),.ld (.int .i64 pe.kind),.b true,.auto,.ld (.bool be.station),.b true,.ld (.int .i64 e),.b false,.b false,.b false,.stop]) (obs:=_) hE.kind (hE.nogh (by kernel_rfl)) Qm (by kernel_rfl) ho hg
theorem p49_3_5 (tick:Int) (l:(List Prs)) (f:(List Flt)) (c:Cir) (spots:List Spt) (stood:List Int) (go:List Bool) (stp:Bool) (g1 g2 g3:Nat) (v0_5:Bool) (v1:List Spt) (v2:List Int) (v4:List Int) (v5:List Bool) (i:Nat) (v3:List Bool) (g4:Nat) (g5:Nat) (pe:Prs) (be:Bk) {E:Env} {rv:AV} {bs2:List Blk} (hE:LentE Try.prog 49 [.sl 3 g3 0 0 1] rv bs2 E) (ho:AllP [(decide ((i:Int)<(l.length:Int)))=true,0≤(i:Int)∧(i:Int)<(l.length:Int),((Qs l).drop ((0+(Int.toNat (i:Int))*3)+0)).take 1=[.int .i64 pe.at_],(pe.at_ != tick)=false,0≤(i:Int)∧(i:Int)<(l.length:Int),((Qs l).drop ((0+(Int.toNat (i:Int))*3)+2)).take 1=[.int .i64 pe.block],Ql Try.prog (.clos 82 [] []) (Qbm c v1 v2 v3 v0_5 pe) (Wv c v1 v2 v3 v0_5 pe),g1=g1,g2=g2,g3=g3,0≤(i:Int)∧(i:Int)<(l.length:Int),((Qs l).drop ((0+(Int.toNat (i:Int))*3)+1)).take 1=[.int .i64 pe.kind],(pe.kind == 1)=true,0≤pe.block∧pe.block<(c.blocks.length:Int),((Qc c.blocks).drop ((0+(Int.toNat pe.block)*4)+1)).take 1=[.bool be.station],be.station=false,false=false,false=false,false=false,InR .i64 ((i:Int)+1)])
 (hg:G Try.prog E (Vs Try.prog) ⟨(Qau tick l c g4 v4 g5 v5 i),(z49_6 c g1 v1 g2 v2 g3 v3 v0_5 g4 v4 g5 v5)⟩):G Try.prog E (Vs Try.prog) (qh tick l f c spots stood go stp g1 g2 g3 v0_5 v1 v2 v4 v5 i v3 g4 g5) :=
 Qa (n:=400) (ds:=[]) (cs:=[]) (live:=[0,1,2,9,10,14,15]) (m:=6) (evs:=[.b true,.ld (.int .i64 pe.at_),.b false,.ld (.int .i64 pe.block),.v (Wv c v1 v2 v3 v0_5 pe),.ld (.int .i64 pe.kind),.b true,.auto,.ld (.bool be.station),.b false,.b false,.b false,.b false,.stop]) (obs:=_) hE.kind (hE.nogh (by kernel_rfl)) Qm (by kernel_rfl) ho hg
theorem p49_3_6 (tick:Int) (l:(List Prs)) (f:(List Flt)) (c:Cir) (spots:List Spt) (stood:List Int) (go:List Bool) (stp:Bool) (g1 g2 g3:Nat) (v0_5:Bool) (v1:List Spt) (v2:List Int) (v4:List Int) (v5:List Bool) (i:Nat) (v3:List Bool) (g4:Nat) (g5:Nat) (pe:Prs) (se:Spt) {E:Env} {rv:AV} {bs2:List Blk} (hE:LentE Try.prog 49 [.sl 3 g3 0 0 1] rv bs2 E) (ho:AllP [(decide ((i:Int)<(l.length:Int)))=true,0≤(i:Int)∧(i:Int)<(l.length:Int),((Qs l).drop ((0+(Int.toNat (i:Int))*3)+0)).take 1=[.int .i64 pe.at_],(pe.at_ != tick)=false,0≤(i:Int)∧(i:Int)<(l.length:Int),((Qs l).drop ((0+(Int.toNat (i:Int))*3)+2)).take 1=[.int .i64 pe.block],Ql Try.prog (.clos 82 [] []) (Qbm c v1 v2 v3 v0_5 pe) (Wv c v1 v2 v3 v0_5 pe),g1=g1,g2=g2,g3=g3,0≤(i:Int)∧(i:Int)<(l.length:Int),((Qs l).drop ((0+(Int.toNat (i:Int))*3)+1)).take 1=[.int .i64 pe.kind],(pe.kind == 1)=false,(pe.kind == 2)=true,(decide ((carS (⟨c,v1,v2,v3,v0_5⟩:Rn).spots pe.block)≥0))=true,0≤(carS (⟨c,v1,v2,v3,v0_5⟩:Rn).spots pe.block)∧(carS (⟨c,v1,v2,v3,v0_5⟩:Rn).spots pe.block)<(v1.length:Int),g1=g1,g1=g1,(((0+(Int.toNat (carS (⟨c,v1,v2,v3,v0_5⟩:Rn).spots pe.block))*3)+2)+1)≤(Qg v1).length,g1=g1,InR .i64 ((i:Int)+1)])
 (hg:G Try.prog E (Vs Try.prog) ⟨(Qau tick l c g4 v4 g5 v5 i),[⟨true,0,1,false,(Qav c g1 v1 g2 v2 g3 v3 v0_5),false⟩,⟨true,g1,3,true,(Qv (Qg v1) ((0+(Int.toNat (carS (⟨c,v1,v2,v3,v0_5⟩:Rn).spots pe.block))*3)+2) [.bool false]),true⟩,⟨true,g2,1,true,(rowI v2),true⟩,⟨true,g3,1,true,(rowB v3),true⟩,⟨true,g4,1,true,(rowI v4),true⟩,⟨true,g5,1,true,(rowB v5),true⟩]⟩):G Try.prog E (Vs Try.prog) (qh tick l f c spots stood go stp g1 g2 g3 v0_5 v1 v2 v4 v5 i v3 g4 g5) :=
 Qa (n:=400) (ds:=[]) (cs:=[]) (live:=[0,1,2,9,10,14,15]) (m:=6) (evs:=[.b true,.ld (.int .i64 pe.at_),.b false,.ld (.int .i64 pe.block),.v (Wv c v1 v2 v3 v0_5 pe),.ld (.int .i64 pe.kind),.b false,.b true,.b true,.stop]) (obs:=_) hE.kind (hE.nogh (by kernel_rfl)) Qm (by kernel_rfl) ho hg
theorem p49_3_7 (tick:Int) (l:(List Prs)) (f:(List Flt)) (c:Cir) (spots:List Spt) (stood:List Int) (go:List Bool) (stp:Bool) (g1 g2 g3:Nat) (v0_5:Bool) (v1:List Spt) (v2:List Int) (v4:List Int) (v5:List Bool) (i:Nat) (v3:List Bool) (g4:Nat) (g5:Nat) (pe:Prs) {E:Env} {rv:AV} {bs2:List Blk} (hE:LentE Try.prog 49 [.sl 3 g3 0 0 1] rv bs2 E) (ho:AllP [(decide ((i:Int)<(l.length:Int)))=true,0≤(i:Int)∧(i:Int)<(l.length:Int),((Qs l).drop ((0+(Int.toNat (i:Int))*3)+0)).take 1=[.int .i64 pe.at_],(pe.at_ != tick)=false,0≤(i:Int)∧(i:Int)<(l.length:Int),((Qs l).drop ((0+(Int.toNat (i:Int))*3)+2)).take 1=[.int .i64 pe.block],Ql Try.prog (.clos 82 [] []) (Qbm c v1 v2 v3 v0_5 pe) (Wv c v1 v2 v3 v0_5 pe),g1=g1,g2=g2,g3=g3,0≤(i:Int)∧(i:Int)<(l.length:Int),((Qs l).drop ((0+(Int.toNat (i:Int))*3)+1)).take 1=[.int .i64 pe.kind],(pe.kind == 1)=false,(pe.kind == 2)=true,(decide ((carS (⟨c,v1,v2,v3,v0_5⟩:Rn).spots pe.block)≥0))=false,InR .i64 ((i:Int)+1)])
 (hg:G Try.prog E (Vs Try.prog) ⟨(Qau tick l c g4 v4 g5 v5 i),(z49_6 c g1 v1 g2 v2 g3 v3 v0_5 g4 v4 g5 v5)⟩):G Try.prog E (Vs Try.prog) (qh tick l f c spots stood go stp g1 g2 g3 v0_5 v1 v2 v4 v5 i v3 g4 g5) :=
 Qa (n:=400) (ds:=[]) (cs:=[]) (live:=[0,1,2,9,10,14,15]) (m:=6) (evs:=[.b true,.ld (.int .i64 pe.at_),.b false,.ld (.int .i64 pe.block),.v (Wv c v1 v2 v3 v0_5 pe),.ld (.int .i64 pe.kind),.b false,.b true,.b false,.stop]) (obs:=_) hE.kind (hE.nogh (by kernel_rfl)) Qm (by kernel_rfl) ho hg
theorem p49_3_8 (tick:Int) (l:(List Prs)) (f:(List Flt)) (c:Cir) (spots:List Spt) (stood:List Int) (go:List Bool) (stp:Bool) (g1 g2 g3:Nat) (v0_5:Bool) (v1:List Spt) (v2:List Int) (v4:List Int) (v5:List Bool) (i:Nat) (v3:List Bool) (g4:Nat) (g5:Nat) (pe:Prs) (eb:Bool) {E:Env} {rv:AV} {bs2:List Blk} (hE:LentE Try.prog 49 [.sl 3 g3 0 0 1] rv bs2 E) (ho:AllP [(decide ((i:Int)<(l.length:Int)))=true,0≤(i:Int)∧(i:Int)<(l.length:Int),((Qs l).drop ((0+(Int.toNat (i:Int))*3)+0)).take 1=[.int .i64 pe.at_],(pe.at_ != tick)=false,0≤(i:Int)∧(i:Int)<(l.length:Int),((Qs l).drop ((0+(Int.toNat (i:Int))*3)+2)).take 1=[.int .i64 pe.block],Ql Try.prog (.clos 82 [] []) (Qbm c v1 v2 v3 v0_5 pe) (Wv c v1 v2 v3 v0_5 pe),g1=g1,g2=g2,g3=g3,0≤(i:Int)∧(i:Int)<(l.length:Int),((Qs l).drop ((0+(Int.toNat (i:Int))*3)+1)).take 1=[.int .i64 pe.kind],(pe.kind == 1)=false,(pe.kind == 2)=false,(pe.kind == 3)=true,0≤pe.block∧pe.block<(v3.length:Int),g3=g3,((0+(Int.toNat pe.block)*1)+1)≤(rowB v3).length,g3=g3,InR .i64 ((i:Int)+1)])
 (hg:G Try.prog E (Vs Try.prog) ⟨(Qau tick l c g4 v4 g5 v5 i),[⟨true,0,1,false,(Qav c g1 v1 g2 v2 g3 v3 v0_5),false⟩,⟨true,g1,3,true,(Qg v1),true⟩,⟨true,g2,1,true,(rowI v2),true⟩,⟨true,g3,1,true,(Qv (rowB v3) (0+(Int.toNat pe.block)*1) [.bool true]),true⟩,⟨true,g4,1,true,(rowI v4),true⟩,⟨true,g5,1,true,(rowB v5),true⟩]⟩):G Try.prog E (Vs Try.prog) (qh tick l f c spots stood go stp g1 g2 g3 v0_5 v1 v2 v4 v5 i v3 g4 g5) :=
 Qa (n:=400) (ds:=[]) (cs:=[]) (live:=[0,1,2,9,10,14,15]) (m:=6) (evs:=[.b true,.ld (.int .i64 pe.at_),.b false,.ld (.int .i64 pe.block),.v (Wv c v1 v2 v3 v0_5 pe),.ld (.int .i64 pe.kind),.b false,.b false,.b true,.stop]) (obs:=_) hE.kind (hE.nogh (by kernel_rfl)) Qm (by kernel_rfl) ho hg
theorem p49_3_9 (tick:Int) (l:(List Prs)) (f:(List Flt)) (c:Cir) (spots:List Spt) (stood:List Int) (go:List Bool) (stp:Bool) (g1 g2 g3:Nat) (v0_5:Bool) (v1:List Spt) (v2:List Int) (v4:List Int) (v5:List Bool) (i:Nat) (v3:List Bool) (g4:Nat) (g5:Nat) (pe:Prs) {E:Env} {rv:AV} {bs2:List Blk} (hE:LentE Try.prog 49 [.sl 3 g3 0 0 1] rv bs2 E) (ho:AllP [(decide ((i:Int)<(l.length:Int)))=true,0≤(i:Int)∧(i:Int)<(l.length:Int),((Qs l).drop ((0+(Int.toNat (i:Int))*3)+0)).take 1=[.int .i64 pe.at_],(pe.at_ != tick)=false,0≤(i:Int)∧(i:Int)<(l.length:Int),((Qs l).drop ((0+(Int.toNat (i:Int))*3)+2)).take 1=[.int .i64 pe.block],Ql Try.prog (.clos 82 [] []) (Qbm c v1 v2 v3 v0_5 pe) (Wv c v1 v2 v3 v0_5 pe),g1=g1,g2=g2,g3=g3,0≤(i:Int)∧(i:Int)<(l.length:Int),((Qs l).drop ((0+(Int.toNat (i:Int))*3)+1)).take 1=[.int .i64 pe.kind],(pe.kind == 1)=false,(pe.kind == 2)=false,(pe.kind == 3)=false,InR .i64 ((i:Int)+1)])
 (hg:G Try.prog E (Vs Try.prog) ⟨(Qau tick l c g4 v4 g5 v5 i),(z49_6 c g1 v1 g2 v2 g3 v3 v0_5 g4 v4 g5 v5)⟩):G Try.prog E (Vs Try.prog) (qh tick l f c spots stood go stp g1 g2 g3 v0_5 v1 v2 v4 v5 i v3 g4 g5) :=
 Qa (n:=400) (ds:=[]) (cs:=[]) (live:=[0,1,2,9,10,14,15]) (m:=6) (evs:=[.b true,.ld (.int .i64 pe.at_),.b false,.ld (.int .i64 pe.block),.v (Wv c v1 v2 v3 v0_5 pe),.ld (.int .i64 pe.kind),.b false,.b false,.b false,.stop]) (obs:=_) hE.kind (hE.nogh (by kernel_rfl)) Qm (by kernel_rfl) ho hg
theorem p49_3_10 (tick:Int) (l:(List Prs)) (f:(List Flt)) (c:Cir) (spots:List Spt) (stood:List Int) (go:List Bool) (stp:Bool) (g1 g2 g3:Nat) (v0_5:Bool) (v1:List Spt) (v2:List Int) (v4:List Int) (v5:List Bool) (i:Nat) (v3:List Bool) (g4:Nat) (g5:Nat) {E:Env} {rv:AV} {bs2:List Blk} (hE:LentE Try.prog 49 [.sl 3 g3 0 0 1] rv bs2 E) (ho:AllP [(decide ((i:Int)<(l.length:Int)))=false,0≤(c.blocks.length:Int)∧(c.blocks.length:Int)≤(c.blocks.length:Int)∧(c.blocks.length:Int)≤2147483648])
 (hg:G Try.prog E (f49K4 Try.prog) ⟨([.ptr 0 0 0]++jj 8 ([.int .i64 (c.blocks.length:Int),.sl 4 g4 0 v4.length 1,J,J,J,.sl 5 g5 0 v5.length 1,J,J,J,.sl 6 0 0 (Int.toNat (c.blocks.length:Int)) 1,.int .i64 0]++Js 305)),[⟨true,0,1,false,(Qav c g1 v1 g2 v2 g3 v3 v0_5),false⟩,⟨true,g1,3,true,(Qg v1),true⟩,⟨true,g2,1,true,(rowI v2),true⟩,⟨true,g3,1,true,(rowB v3),true⟩,⟨true,g4,1,true,(rowI v4),true⟩,⟨true,g5,1,true,(rowB v5),true⟩,⟨true,0,1,true,((List.replicate (Int.toNat (c.blocks.length:Int)) ([.int .i64 0]:List AV)).flatten),true⟩]⟩):G Try.prog E (Vs Try.prog) (qh tick l f c spots stood go stp g1 g2 g3 v0_5 v1 v2 v4 v5 i v3 g4 g5) :=
 Qa (n:=400) (ds:=[]) (cs:=[]) (live:=[0,9,10,14,18,19]) (m:=7) (evs:=[.b false,.stop]) (obs:=_) hE.kind (hE.nogh (by kernel_rfl)) Qm (by kernel_rfl) ho hg
theorem f49W3 (tick:Int) (l:(List Prs)) (f:(List Flt)) (c:Cir) (spots:List Spt) (stood:List Int) (go:List Bool) (stp:Bool) (g1 g2 g3:Nat) (v0_5:Bool) (v1:List Spt) (v2:List Int) (v4:List Int) (v5:List Bool) (i:Nat) (v3:List Bool) {E:Env} {rv:Unit} {stp2:Bool} {spots2:List Spt} {stood2:List Int} {go2:List Bool} (hE:LentE Try.prog 49 [.sl 3 g3 0 0 1] (.tup []) [⟨true,0,1,false,[.rsl (Qc c.blocks) 0 c.blocks.length,.rsl (rowI c.cars) 0 c.cars.length,.sl 1 g1 0 spots2.length 3,.sl 2 g2 0 stood2.length 1,.sl 3 g3 0 go2.length 1,.bool stp2],false⟩,⟨true,g1,3,true,(Qg spots2),true⟩,⟨true,g2,1,true,(rowI stood2),true⟩,⟨true,g3,1,true,(rowB go2),true⟩] E)
 (h:(((i:Int)<(l.length:Int)→(∃ pe:Prs,l[i]?=some pe∧((¬ (pe.at_=tick)→((I6 ((i:Int)+1))∧Wo E tick l f c spots stood go stp g1 g2 g3 v0_5 v1 v2 v4 v5 (i+1) v3))∧(pe.at_=tick→((RnIn (⟨c,v1,v2,v3,v0_5⟩:Rn))∧((pe.kind=1→(0≤pe.block∧(∃ be:Bk,c.blocks[Int.toNat pe.block]?=some be∧((be.station=true→((I6 ((c.blocks.length:Int)+pe.block))∧(0≤((c.blocks.length:Int)+pe.block)∧(∃ e:Int,v4[Int.toNat ((c.blocks.length:Int)+pe.block)]?=some e∧((e=1→(0≤pe.block∧(∃ e1:Int,v4[Int.toNat pe.block]?=some e1∧((e1=1→(((carS (⟨c,v1,v2,v3,v0_5⟩:Rn).spots pe.block)≥0→(0≤(carS (⟨c,v1,v2,v3,v0_5⟩:Rn).spots pe.block)∧(∃ se:Spt,v1[Int.toNat (carS (⟨c,v1,v2,v3,v0_5⟩:Rn).spots pe.block)]?=some se∧(0≤pe.block∧(∃ eb:Bool,v5[Int.toNat pe.block]?=some eb∧((I6 ((i:Int)+1))∧Wo E tick l f c spots stood go stp g1 g2 g3 v0_5 (v1.set (Int.toNat (carS (⟨c,v1,v2,v3,v0_5⟩:Rn).spots pe.block)) (⟨se.block,se.ran,true⟩:Spt)) v2 v4 (v5.set (Int.toNat pe.block) true) (i+1) v3))))))∧(¬ ((carS (⟨c,v1,v2,v3,v0_5⟩:Rn).spots pe.block)≥0)→((I6 ((i:Int)+1))∧Wo E tick l f c spots stood go stp g1 g2 g3 v0_5 v1 v2 v4 v5 (i+1) v3))))∧(¬ (e1=1)→((I6 ((i:Int)+1))∧Wo E tick l f c spots stood go stp g1 g2 g3 v0_5 v1 v2 v4 v5 (i+1) v3))))))∧(¬ (e=1)→((I6 ((i:Int)+1))∧Wo E tick l f c spots stood go stp g1 g2 g3 v0_5 v1 v2 v4 v5 (i+1) v3)))))))∧(be.station=false→((I6 ((i:Int)+1))∧Wo E tick l f c spots stood go stp g1 g2 g3 v0_5 v1 v2 v4 v5 (i+1) v3))))))∧(¬ (pe.kind=1)→((pe.kind=2→(((carS (⟨c,v1,v2,v3,v0_5⟩:Rn).spots pe.block)≥0→(0≤(carS (⟨c,v1,v2,v3,v0_5⟩:Rn).spots pe.block)∧(∃ se:Spt,v1[Int.toNat (carS (⟨c,v1,v2,v3,v0_5⟩:Rn).spots pe.block)]?=some se∧((I6 ((i:Int)+1))∧Wo E tick l f c spots stood go stp g1 g2 g3 v0_5 (v1.set (Int.toNat (carS (⟨c,v1,v2,v3,v0_5⟩:Rn).spots pe.block)) (⟨se.block,se.ran,false⟩:Spt)) v2 v4 v5 (i+1) v3))))∧(¬ ((carS (⟨c,v1,v2,v3,v0_5⟩:Rn).spots pe.block)≥0)→((I6 ((i:Int)+1))∧Wo E tick l f c spots stood go stp g1 g2 g3 v0_5 v1 v2 v4 v5 (i+1) v3))))∧(¬ (pe.kind=2)→((pe.kind=3→(0≤pe.block∧(∃ eb:Bool,v3[Int.toNat pe.block]?=some eb∧((I6 ((i:Int)+1))∧Wo E tick l f c spots stood go stp g1 g2 g3 v0_5 v1 v2 v4 v5 (i+1) (v3.set (Int.toNat pe.block) true)))))∧(¬ (pe.kind=3)→((I6 ((i:Int)+1))∧Wo E tick l f c spots stood go stp g1 g2 g3 v0_5 v1 v2 v4 v5 (i+1) v3))))))))))))∧(¬ ((i:Int)<(l.length:Int))→(c.blocks.length≤2147483648∧f49G4 E tick l f c spots stood go stp g1 g2 g3 v0_5 v1 v2 v3 v4 v5 (List.replicate c.blocks.length (0:Int)) 0)))):Wo E tick l f c spots stood go stp g1 g2 g3 v0_5 v1 v2 v4 v5 i v3:=by
 intro g4 g5
 rcases bft (decide ((i:Int)<(l.length:Int))) with hc0 | hc0
 · have h:=h.1 (odt hc0)
   obtain ⟨pe,h1,h⟩:=h
   rcases bft (pe.at_ != tick) with hc1 | hc1
   · have h:=h.1 (bneT hc1)
     obtain ⟨q5_2,h⟩:=h
     exact p49_3_0 tick l f c spots stood go stp g1 g2 g3 v0_5 v1 v2 v4 v5 i v3 g4 g5 pe hE ⟨hc0,(Qe h1),(rp cPrs 3 0 1 h1),hc1,q5_2,trivial⟩ (h g4 g5)
   · have h:=h.2 (bneF hc1)
     obtain ⟨h2,h⟩:=h
     rcases bft (pe.kind == 1) with hc2 | hc2
     · have h:=h.1 (eq_of_beq hc2)
       obtain ⟨h4,h⟩:=h
       obtain ⟨be,h3,h⟩:=h
       rcases bft be.station with hc3 | hc3
       · have h:=h.1 hc3
         obtain ⟨q18_4,h⟩:=h
         obtain ⟨h6,h⟩:=h
         obtain ⟨e,h5,h⟩:=h
         rcases bft (e == 1) with hc4 | hc4
         · have h:=h.1 (eq_of_beq hc4)
           obtain ⟨h8,h⟩:=h
           obtain ⟨e1,h7,h⟩:=h
           rcases bft (e1 == 1) with hc5 | hc5
           · have h:=h.1 (eq_of_beq hc5)
             rcases bft (decide ((carS (⟨c,v1,v2,v3,v0_5⟩:Rn).spots pe.block)≥0)) with hc6 | hc6
             · have h:=h.1 (odt hc6)
               obtain ⟨h10,h⟩:=h
               obtain ⟨se,h9,h⟩:=h
               obtain ⟨h12,h⟩:=h
               obtain ⟨eb,h11,h⟩:=h
               obtain ⟨q43_7,h⟩:=h
               refine p49_3_1 tick l f c spots stood go stp g1 g2 g3 v0_5 v1 v2 v4 v5 i v3 g4 g5 pe be e e1 se eb hE ⟨hc0,(Qe h1),(rp cPrs 3 0 1 h1),hc1,(Qe h1),(rp cPrs 3 2 1 h1),(u82 (XJ (⟨c,v1,v2,v3,v0_5⟩:Rn) pe.block h2)),rfl,rfl,rfl,(Qe h1),(rp cPrs 3 1 1 h1),hc2,(Qq h4 h3),(rp cBk 4 1 1 h3),hc3,q18_4,(Qq h6 h5),rfl,rfl,(rp cI 1 0 1 h5),hc4,(Qq h8 h7),rfl,rfl,(rp cI 1 0 1 h7),hc5,hc6,(Qq h10 h9),rfl,rfl,(rf cSpt 3 2 1 h9),rfl,(Qq h12 h11),rfl,(rf cB 1 0 1 h11),rfl,q43_7,trivial⟩ ?_
               have h:=(h g4 g5)
               simp only [Wo,qh,List.length_set] at h
               rw [(show Qv (Qg v1) ((0+(Int.toNat (carS (⟨c,v1,v2,v3,v0_5⟩:Rn).spots pe.block))*3)+2) [.bool true]=Qg (v1.set (Int.toNat (carS (⟨c,v1,v2,v3,v0_5⟩:Rn).spots pe.block)) (⟨se.block,se.ran,true⟩:Spt)) from Qx cSpt (s:=3) (k:=2) (fun _=>rfl) h9 rfl (by first | decide | simp))]; rw [(show Qv (rowB v5) (0+(Int.toNat pe.block)*1) [.bool true]=rowB (v5.set (Int.toNat pe.block) true) from Qx cB (s:=1) (k:=0) (fun _=>rfl) h11 rfl (by first | decide | simp))]
               exact h
             · have h:=h.2 (odf hc6)
               obtain ⟨q32_7,h⟩:=h
               exact p49_3_2 tick l f c spots stood go stp g1 g2 g3 v0_5 v1 v2 v4 v5 i v3 g4 g5 pe be e e1 hE ⟨hc0,(Qe h1),(rp cPrs 3 0 1 h1),hc1,(Qe h1),(rp cPrs 3 2 1 h1),(u82 (XJ (⟨c,v1,v2,v3,v0_5⟩:Rn) pe.block h2)),rfl,rfl,rfl,(Qe h1),(rp cPrs 3 1 1 h1),hc2,(Qq h4 h3),(rp cBk 4 1 1 h3),hc3,q18_4,(Qq h6 h5),rfl,rfl,(rp cI 1 0 1 h5),hc4,(Qq h8 h7),rfl,rfl,(rp cI 1 0 1 h7),hc5,hc6,q32_7,trivial⟩ (h g4 g5)
           · have h:=h.2 (ne_of_beq_false hc5)
             obtain ⟨q32_6,h⟩:=h
             exact p49_3_3 tick l f c spots stood go stp g1 g2 g3 v0_5 v1 v2 v4 v5 i v3 g4 g5 pe be e e1 hE ⟨hc0,(Qe h1),(rp cPrs 3 0 1 h1),hc1,(Qe h1),(rp cPrs 3 2 1 h1),(u82 (XJ (⟨c,v1,v2,v3,v0_5⟩:Rn) pe.block h2)),rfl,rfl,rfl,(Qe h1),(rp cPrs 3 1 1 h1),hc2,(Qq h4 h3),(rp cBk 4 1 1 h3),hc3,q18_4,(Qq h6 h5),rfl,rfl,(rp cI 1 0 1 h5),hc4,(Qq h8 h7),rfl,rfl,(rp cI 1 0 1 h7),hc5,rfl,q32_6,trivial⟩ (h g4 g5)
         · have h:=h.2 (ne_of_beq_false hc4)
           obtain ⟨q27_5,h⟩:=h
           exact p49_3_4 tick l f c spots stood go stp g1 g2 g3 v0_5 v1 v2 v4 v5 i v3 g4 g5 pe be e hE ⟨hc0,(Qe h1),(rp cPrs 3 0 1 h1),hc1,(Qe h1),(rp cPrs 3 2 1 h1),(u82 (XJ (⟨c,v1,v2,v3,v0_5⟩:Rn) pe.block h2)),rfl,rfl,rfl,(Qe h1),(rp cPrs 3 1 1 h1),hc2,(Qq h4 h3),(rp cBk 4 1 1 h3),hc3,q18_4,(Qq h6 h5),rfl,rfl,(rp cI 1 0 1 h5),hc4,rfl,rfl,q27_5,trivial⟩ (h g4 g5)
       · have h:=h.2 hc3
         obtain ⟨q21_4,h⟩:=h
         exact p49_3_5 tick l f c spots stood go stp g1 g2 g3 v0_5 v1 v2 v4 v5 i v3 g4 g5 pe be hE ⟨hc0,(Qe h1),(rp cPrs 3 0 1 h1),hc1,(Qe h1),(rp cPrs 3 2 1 h1),(u82 (XJ (⟨c,v1,v2,v3,v0_5⟩:Rn) pe.block h2)),rfl,rfl,rfl,(Qe h1),(rp cPrs 3 1 1 h1),hc2,(Qq h4 h3),(rp cBk 4 1 1 h3),hc3,rfl,rfl,rfl,q21_4,trivial⟩ (h g4 g5)
     · have h:=h.2 (ne_of_beq_false hc2)
       rcases bft (pe.kind == 2) with hc3 | hc3
       · have h:=h.1 (eq_of_beq hc3)
         rcases bft (decide ((carS (⟨c,v1,v2,v3,v0_5⟩:Rn).spots pe.block)≥0)) with hc4 | hc4
         · have h:=h.1 (odt hc4)
           obtain ⟨h4,h⟩:=h
           obtain ⟨se,h3,h⟩:=h
           obtain ⟨q22_5,h⟩:=h
           refine p49_3_6 tick l f c spots stood go stp g1 g2 g3 v0_5 v1 v2 v4 v5 i v3 g4 g5 pe se hE ⟨hc0,(Qe h1),(rp cPrs 3 0 1 h1),hc1,(Qe h1),(rp cPrs 3 2 1 h1),(u82 (XJ (⟨c,v1,v2,v3,v0_5⟩:Rn) pe.block h2)),rfl,rfl,rfl,(Qe h1),(rp cPrs 3 1 1 h1),hc2,hc3,hc4,(Qq h4 h3),rfl,rfl,(rf cSpt 3 2 1 h3),rfl,q22_5,trivial⟩ ?_
           have h:=(h g4 g5)
           simp only [Wo,qh,List.length_set] at h
           rw [(show Qv (Qg v1) ((0+(Int.toNat (carS (⟨c,v1,v2,v3,v0_5⟩:Rn).spots pe.block))*3)+2) [.bool false]=Qg (v1.set (Int.toNat (carS (⟨c,v1,v2,v3,v0_5⟩:Rn).spots pe.block)) (⟨se.block,se.ran,false⟩:Spt)) from Qx cSpt (s:=3) (k:=2) (fun _=>rfl) h3 rfl (by first | decide | simp))]
           exact h
         · have h:=h.2 (odf hc4)
           obtain ⟨q16_5,h⟩:=h
           exact p49_3_7 tick l f c spots stood go stp g1 g2 g3 v0_5 v1 v2 v4 v5 i v3 g4 g5 pe hE ⟨hc0,(Qe h1),(rp cPrs 3 0 1 h1),hc1,(Qe h1),(rp cPrs 3 2 1 h1),(u82 (XJ (⟨c,v1,v2,v3,v0_5⟩:Rn) pe.block h2)),rfl,rfl,rfl,(Qe h1),(rp cPrs 3 1 1 h1),hc2,hc3,hc4,q16_5,trivial⟩ (h g4 g5)
       · have h:=h.2 (ne_of_beq_false hc3)
         rcases bft (pe.kind == 3) with hc4 | hc4
         · have h:=h.1 (eq_of_beq hc4)
           obtain ⟨h4,h⟩:=h
           obtain ⟨eb,h3,h⟩:=h
           obtain ⟨q21_5,h⟩:=h
           refine p49_3_8 tick l f c spots stood go stp g1 g2 g3 v0_5 v1 v2 v4 v5 i v3 g4 g5 pe eb hE ⟨hc0,(Qe h1),(rp cPrs 3 0 1 h1),hc1,(Qe h1),(rp cPrs 3 2 1 h1),(u82 (XJ (⟨c,v1,v2,v3,v0_5⟩:Rn) pe.block h2)),rfl,rfl,rfl,(Qe h1),(rp cPrs 3 1 1 h1),hc2,hc3,hc4,(Qq h4 h3),rfl,(rf cB 1 0 1 h3),rfl,q21_5,trivial⟩ ?_
           have h:=(h g4 g5)
           simp only [Wo,qh,List.length_set] at h
           rw [(show Qv (rowB v3) (0+(Int.toNat pe.block)*1) [.bool true]=rowB (v3.set (Int.toNat pe.block) true) from Qx cB (s:=1) (k:=0) (fun _=>rfl) h3 rfl (by first | decide | simp))]
           exact h
         · have h:=h.2 (ne_of_beq_false hc4)
           obtain ⟨q16_5,h⟩:=h
           exact p49_3_9 tick l f c spots stood go stp g1 g2 g3 v0_5 v1 v2 v4 v5 i v3 g4 g5 pe hE ⟨hc0,(Qe h1),(rp cPrs 3 0 1 h1),hc1,(Qe h1),(rp cPrs 3 2 1 h1),(u82 (XJ (⟨c,v1,v2,v3,v0_5⟩:Rn) pe.block h2)),rfl,rfl,rfl,(Qe h1),(rp cPrs 3 1 1 h1),hc2,hc3,hc4,q16_5,trivial⟩ (h g4 g5)
 · have h:=h.2 (odf hc0)
   obtain ⟨h1,h⟩:=h
   refine p49_3_10 tick l f c spots stood go stp g1 g2 g3 v0_5 v1 v2 v4 v5 i v3 g4 g5 hE ⟨hc0,⟨by omega,by omega,by have:=h1; omega⟩,trivial⟩ ?_
   have h:=(h g4 g5 0)
   simp only [f49G4,f49S4,List.length_set,List.length_replicate] at h
   rw [(show (List.replicate (Int.toNat (c.blocks.length:Int)) ([.int .i64 0]:List AV)).flatten=rowI (List.replicate c.blocks.length (0:Int)) from YD cI _ _)]
   exact h
theorem p49_4_0 (tick:Int) (l:(List Prs)) (f:(List Flt)) (c:Cir) (spots:List Spt) (stood:List Int) (go:List Bool) (stp:Bool) (g1 g2 g3:Nat) (v0_5:Bool) (v1:List Spt) (v2:List Int) (v3:List Bool) (v4:List Int) (v5:List Bool) (v6:List Int) (b:Nat) (g4:Nat) (g5:Nat) (g6:Nat) (e:Int) {E:Env} {rv:AV} {bs2:List Blk} (hE:LentE Try.prog 49 [.sl 3 g3 0 0 1] rv bs2 E) (ho:AllP [(decide ((b:Int)<(c.blocks.length:Int)))=true,Ql Try.prog (.clos 82 [] []) [.rptr [.rsl (Qc c.blocks) 0 c.blocks.length,.rsl (rowI c.cars) 0 c.cars.length,.rsl (Qg v1) 0 v1.length,.rsl (rowI v2) 0 v2.length,.rsl (rowB v3) 0 v3.length,.bool v0_5] 0,.int .i64 (b:Int)] (.int .i64 (carS (⟨c,v1,v2,v3,v0_5⟩:Rn).spots (b:Int))),g1=g1,g2=g2,g3=g3,0≤(b:Int)∧(b:Int)<(v6.length:Int),g6=g6,((0+(Int.toNat (b:Int))*1)+1)≤(rowI v6).length,g6=g6,InR .i64 ((b:Int)+1)])
 (hg:G Try.prog E (f49K4 Try.prog) ⟨([.ptr 0 0 0]++jj 8 ([.int .i64 (c.blocks.length:Int),.sl 4 g4 0 v4.length 1,J,J,J,.sl 5 g5 0 v5.length 1,J,J,J,.sl 6 g6 0 v6.length 1,.int .i64 ((b:Int)+1)]++Js 305)),[⟨true,0,1,false,(Qav c g1 v1 g2 v2 g3 v3 v0_5),false⟩,⟨true,g1,3,true,(Qg v1),true⟩,⟨true,g2,1,true,(rowI v2),true⟩,⟨true,g3,1,true,(rowB v3),true⟩,⟨true,g4,1,true,(rowI v4),true⟩,⟨true,g5,1,true,(rowB v5),true⟩,⟨true,g6,1,true,(Qv (rowI v6) (0+(Int.toNat (b:Int))*1) [.int .i64 (carS (⟨c,v1,v2,v3,v0_5⟩:Rn).spots (b:Int))]),true⟩]⟩):G Try.prog E (f49K4 Try.prog) (f49S4 tick l f c spots stood go stp g1 g2 g3 v0_5 v1 v2 v3 v4 v5 v6 b g4 g5 g6) :=
 Qa (n:=400) (ds:=[]) (cs:=[]) (live:=[0,9,10,14,18,19]) (m:=7) (evs:=[.b true,.v (.int .i64 (carS (⟨c,v1,v2,v3,v0_5⟩:Rn).spots (b:Int))),.stop]) (obs:=_) hE.kind (hE.nogh (by kernel_rfl)) Qm (by kernel_rfl) ho hg
theorem p49_4_1 (tick:Int) (l:(List Prs)) (f:(List Flt)) (c:Cir) (spots:List Spt) (stood:List Int) (go:List Bool) (stp:Bool) (g1 g2 g3:Nat) (v0_5:Bool) (v1:List Spt) (v2:List Int) (v3:List Bool) (v4:List Int) (v5:List Bool) (v6:List Int) (b:Nat) (g4:Nat) (g5:Nat) (g6:Nat) {E:Env} {rv:AV} {bs2:List Blk} (hE:LentE Try.prog 49 [.sl 3 g3 0 0 1] rv bs2 E) (ho:AllP [(decide ((b:Int)<(c.blocks.length:Int)))=false])
 (hg:G Try.prog E (VP Try.prog) ⟨([.ptr 0 0 0]++jj 8 ([.int .i64 (c.blocks.length:Int),.sl 4 g4 0 v4.length 1,J,J,J,.sl 5 g5 0 v5.length 1,J,J,J,.sl 6 g6 0 v6.length 1,J,.int .i64 0]++Js 304)),(z49_2 c g1 v1 g2 v2 g3 v3 v0_5 g4 v4 g5 v5 g6 v6)⟩):G Try.prog E (f49K4 Try.prog) (f49S4 tick l f c spots stood go stp g1 g2 g3 v0_5 v1 v2 v3 v4 v5 v6 b g4 g5 g6) :=
 Qa (n:=400) (ds:=[]) (cs:=[]) (live:=[0,9,10,14,18,20]) (m:=7) (evs:=[.b false,.stop]) (obs:=_) hE.kind (hE.nogh (by kernel_rfl)) Qm (by kernel_rfl) ho hg
theorem f49W4 (tick:Int) (l:(List Prs)) (f:(List Flt)) (c:Cir) (spots:List Spt) (stood:List Int) (go:List Bool) (stp:Bool) (g1 g2 g3:Nat) (v0_5:Bool) (v1:List Spt) (v2:List Int) (v3:List Bool) (v4:List Int) (v5:List Bool) (v6:List Int) (b:Nat) {E:Env} {rv:Unit} {stp2:Bool} {spots2:List Spt} {stood2:List Int} {go2:List Bool} (hE:LentE Try.prog 49 [.sl 3 g3 0 0 1] (.tup []) [⟨true,0,1,false,[.rsl (Qc c.blocks) 0 c.blocks.length,.rsl (rowI c.cars) 0 c.cars.length,.sl 1 g1 0 spots2.length 3,.sl 2 g2 0 stood2.length 1,.sl 3 g3 0 go2.length 1,.bool stp2],false⟩,⟨true,g1,3,true,(Qg spots2),true⟩,⟨true,g2,1,true,(rowI stood2),true⟩,⟨true,g3,1,true,(rowB go2),true⟩] E)
 (h:(((b:Int)<(c.blocks.length:Int)→((RnIn (⟨c,v1,v2,v3,v0_5⟩:Rn))∧(∃ e:Int,v6[b]?=some e∧((I6 ((b:Int)+1))∧f49G4 E tick l f c spots stood go stp g1 g2 g3 v0_5 v1 v2 v3 v4 v5 (v6.set b (carS (⟨c,v1,v2,v3,v0_5⟩:Rn).spots (b:Int))) (b+1)))))∧(¬ ((b:Int)<(c.blocks.length:Int))→qj E tick l f c spots stood go stp g1 g2 g3 v0_5 v1 v2 v3 v4 v5 v6 0))):f49G4 E tick l f c spots stood go stp g1 g2 g3 v0_5 v1 v2 v3 v4 v5 v6 b:=by
 intro g4 g5 g6
 rcases bft (decide ((b:Int)<(c.blocks.length:Int))) with hc0 | hc0
 · have h:=h.1 (odt hc0)
   obtain ⟨h1,h⟩:=h
   obtain ⟨e,h2,h⟩:=h
   obtain ⟨q10_1,h⟩:=h
   refine p49_4_0 tick l f c spots stood go stp g1 g2 g3 v0_5 v1 v2 v3 v4 v5 v6 b g4 g5 g6 e hE ⟨hc0,(u82 (XJ (⟨c,v1,v2,v3,v0_5⟩:Rn) (b:Int) h1)),rfl,rfl,rfl,(Qe h2),rfl,(rf cI 1 0 1 h2),rfl,q10_1,trivial⟩ ?_
   have h:=(h g4 g5 g6)
   simp only [f49G4,f49S4,List.length_set] at h
   rw [(show Qv (rowI v6) (0+(Int.toNat (b:Int))*1) [.int .i64 (carS (⟨c,v1,v2,v3,v0_5⟩:Rn).spots (b:Int))]=rowI (v6.set b (carS (⟨c,v1,v2,v3,v0_5⟩:Rn).spots (b:Int))) from Qx cI (s:=1) (k:=0) (fun _=>rfl) h2 rfl (by first | decide | simp))]
   exact h
 · have h:=h.2 (odf hc0)
   exact p49_4_1 tick l f c spots stood go stp g1 g2 g3 v0_5 v1 v2 v3 v4 v5 v6 b g4 g5 g6 hE ⟨hc0,trivial⟩ (h g4 g5 g6)
theorem p49_5_0 (tick:Int) (l:(List Prs)) (f:(List Flt)) (c:Cir) (spots:List Spt) (stood:List Int) (go:List Bool) (stp:Bool) (g1 g2 g3:Nat) (v0_5:Bool) (v1:List Spt) (v2:List Int) (v3:List Bool) (v4:List Int) (v5:List Bool) (v6:List Int) (b:Nat) (g4:Nat) (g5:Nat) (g6:Nat) (e:Int) {E:Env} {rv:AV} {bs2:List Blk} (hE:LentE Try.prog 49 [.sl 3 g3 0 0 1] rv bs2 E) (ho:AllP [(decide ((b:Int)<(c.blocks.length:Int)))=true,InR .i64 ((b:Int)+1),(c.blocks.length:Int) ≠ 0,0≤(b:Int)∧(b:Int)<(v6.length:Int),g6=g6,g6=g6,((rowI v6).drop (0+(Int.toNat (b:Int))*1)).take 1=[.int .i64 e],(decide (e<0))=true,true=true,true=true,true=true,true=true,InR .i64 ((b:Int)+1)])
 (hg:G Try.prog E (VP Try.prog) ⟨(Qbl c g4 v4 g5 v5 g6 v6 b),(z49_2 c g1 v1 g2 v2 g3 v3 v0_5 g4 v4 g5 v5 g6 v6)⟩):G Try.prog E (VP Try.prog) (yr tick l f c spots stood go stp g1 g2 g3 v0_5 v1 v2 v3 v4 v5 v6 b g4 g5 g6) :=
 Qa (n:=400) (ds:=[]) (cs:=[]) (live:=[0,9,10,14,18,20]) (m:=7) (evs:=[.b true,.ld (.int .i64 e),.b true,.b true,.b true,.b true,.b true,.stop]) (obs:=_) hE.kind (hE.nogh (by kernel_rfl)) Qm (by kernel_rfl) ho hg
theorem p49_5_1 (tick:Int) (l:(List Prs)) (f:(List Flt)) (c:Cir) (spots:List Spt) (stood:List Int) (go:List Bool) (stp:Bool) (g1 g2 g3:Nat) (v0_5:Bool) (v1:List Spt) (v2:List Int) (v3:List Bool) (v4:List Int) (v5:List Bool) (v6:List Int) (b:Nat) (g4:Nat) (g5:Nat) (g6:Nat) (e:Int) (e1:Int) {E:Env} {rv:AV} {bs2:List Blk} (hE:LentE Try.prog 49 [.sl 3 g3 0 0 1] rv bs2 E) (ho:AllP [(decide ((b:Int)<(c.blocks.length:Int)))=true,InR .i64 ((b:Int)+1),(c.blocks.length:Int) ≠ 0,0≤(b:Int)∧(b:Int)<(v6.length:Int),g6=g6,g6=g6,((rowI v6).drop (0+(Int.toNat (b:Int))*1)).take 1=[.int .i64 e],(decide (e<0))=false,InR .i64 ((c.blocks.length:Int)+(b:Int)),0≤((c.blocks.length:Int)+(b:Int))∧((c.blocks.length:Int)+(b:Int))<(v4.length:Int),g4=g4,g4=g4,((rowI v4).drop (0+(Int.toNat ((c.blocks.length:Int)+(b:Int)))*1)).take 1=[.int .i64 e1],(e1 != 1)=true,true=true,true=true,true=true,InR .i64 ((b:Int)+1)])
 (hg:G Try.prog E (VP Try.prog) ⟨(Qbl c g4 v4 g5 v5 g6 v6 b),(z49_2 c g1 v1 g2 v2 g3 v3 v0_5 g4 v4 g5 v5 g6 v6)⟩):G Try.prog E (VP Try.prog) (yr tick l f c spots stood go stp g1 g2 g3 v0_5 v1 v2 v3 v4 v5 v6 b g4 g5 g6) :=
 Qa (n:=400) (ds:=[]) (cs:=[]) (live:=[0,9,10,14,18,20]) (m:=7) (evs:=[.b true,.ld (.int .i64 e),.b false,.ld (.int .i64 e1),.b true,.b true,.b true,.b true,.stop]) (obs:=_) hE.kind (hE.nogh (by kernel_rfl)) Qm (by kernel_rfl) ho hg
theorem p49_5_2 (tick:Int) (l:(List Prs)) (f:(List Flt)) (c:Cir) (spots:List Spt) (stood:List Int) (go:List Bool) (stp:Bool) (g1 g2 g3:Nat) (v0_5:Bool) (v1:List Spt) (v2:List Int) (v3:List Bool) (v4:List Int) (v5:List Bool) (v6:List Int) (b:Nat) (g4:Nat) (g5:Nat) (g6:Nat) (e:Int) (e1:Int) (e2:Int) {E:Env} {rv:AV} {bs2:List Blk} (hE:LentE Try.prog 49 [.sl 3 g3 0 0 1] rv bs2 E) (ho:AllP [(decide ((b:Int)<(c.blocks.length:Int)))=true,InR .i64 ((b:Int)+1),(c.blocks.length:Int) ≠ 0,0≤(b:Int)∧(b:Int)<(v6.length:Int),g6=g6,g6=g6,((rowI v6).drop (0+(Int.toNat (b:Int))*1)).take 1=[.int .i64 e],(decide (e<0))=false,InR .i64 ((c.blocks.length:Int)+(b:Int)),0≤((c.blocks.length:Int)+(b:Int))∧((c.blocks.length:Int)+(b:Int))<(v4.length:Int),g4=g4,g4=g4,((rowI v4).drop (0+(Int.toNat ((c.blocks.length:Int)+(b:Int)))*1)).take 1=[.int .i64 e1],(e1 != 1)=false,InR .i64 (2*(c.blocks.length:Int)),InR .i64 ((2*(c.blocks.length:Int))+(b:Int)),0≤((2*(c.blocks.length:Int))+(b:Int))∧((2*(c.blocks.length:Int))+(b:Int))<(v4.length:Int),g4=g4,g4=g4,((rowI v4).drop (0+(Int.toNat ((2*(c.blocks.length:Int))+(b:Int)))*1)).take 1=[.int .i64 e2],(e2 != 1)=true,true=true,true=true,InR .i64 ((b:Int)+1)])
 (hg:G Try.prog E (VP Try.prog) ⟨(Qbl c g4 v4 g5 v5 g6 v6 b),(z49_2 c g1 v1 g2 v2 g3 v3 v0_5 g4 v4 g5 v5 g6 v6)⟩):G Try.prog E (VP Try.prog) (yr tick l f c spots stood go stp g1 g2 g3 v0_5 v1 v2 v3 v4 v5 v6 b g4 g5 g6) :=
 Qa (n:=400) (ds:=[]) (cs:=[]) (live:=[0,9,10,14,18,20]) (m:=7) (evs:=[.b true,.ld (.int .i64 e),.b false,.ld (.int .i64 e1),.b false,.ld (.int .i64 e2),.b true,.b true,.b true,.stop]) (obs:=_) hE.kind (hE.nogh (by kernel_rfl)) Qm (by kernel_rfl) ho hg
theorem p49_5_3 (tick:Int) (l:(List Prs)) (f:(List Flt)) (c:Cir) (spots:List Spt) (stood:List Int) (go:List Bool) (stp:Bool) (g1 g2 g3:Nat) (v0_5:Bool) (v1:List Spt) (v2:List Int) (v3:List Bool) (v4:List Int) (v5:List Bool) (v6:List Int) (b:Nat) (g4:Nat) (g5:Nat) (g6:Nat) (e:Int) (e1:Int) (e2:Int) (eb:Bool) {E:Env} {rv:AV} {bs2:List Blk} (hE:LentE Try.prog 49 [.sl 3 g3 0 0 1] rv bs2 E) (ho:AllP [(decide ((b:Int)<(c.blocks.length:Int)))=true,InR .i64 ((b:Int)+1),(c.blocks.length:Int) ≠ 0,0≤(b:Int)∧(b:Int)<(v6.length:Int),g6=g6,g6=g6,((rowI v6).drop (0+(Int.toNat (b:Int))*1)).take 1=[.int .i64 e],(decide (e<0))=false,InR .i64 ((c.blocks.length:Int)+(b:Int)),0≤((c.blocks.length:Int)+(b:Int))∧((c.blocks.length:Int)+(b:Int))<(v4.length:Int),g4=g4,g4=g4,((rowI v4).drop (0+(Int.toNat ((c.blocks.length:Int)+(b:Int)))*1)).take 1=[.int .i64 e1],(e1 != 1)=false,InR .i64 (2*(c.blocks.length:Int)),InR .i64 ((2*(c.blocks.length:Int))+(b:Int)),0≤((2*(c.blocks.length:Int))+(b:Int))∧((2*(c.blocks.length:Int))+(b:Int))<(v4.length:Int),g4=g4,g4=g4,((rowI v4).drop (0+(Int.toNat ((2*(c.blocks.length:Int))+(b:Int)))*1)).take 1=[.int .i64 e2],(e2 != 1)=false,0≤(b:Int)∧(b:Int)<(v5.length:Int),g5=g5,g5=g5,((rowB v5).drop (0+(Int.toNat (b:Int))*1)).take 1=[.bool eb],eb=true,true=true,InR .i64 ((b:Int)+1)])
 (hg:G Try.prog E (VP Try.prog) ⟨(Qbl c g4 v4 g5 v5 g6 v6 b),(z49_2 c g1 v1 g2 v2 g3 v3 v0_5 g4 v4 g5 v5 g6 v6)⟩):G Try.prog E (VP Try.prog) (yr tick l f c spots stood go stp g1 g2 g3 v0_5 v1 v2 v3 v4 v5 v6 b g4 g5 g6) :=
 Qa (n:=400) (ds:=[]) (cs:=[]) (live:=[0,9,10,14,18,20]) (m:=7) (evs:=[.b true,.ld (.int .i64 e),.b false,.ld (.int .i64 e1),.b false,.ld (.int .i64 e2),.b false,.ld (.bool eb),.b true,.b true,.stop]) (obs:=_) hE.kind (hE.nogh (by kernel_rfl)) Qm (by kernel_rfl) ho hg
theorem p49_5_4 (tick:Int) (l:(List Prs)) (f:(List Flt)) (c:Cir) (spots:List Spt) (stood:List Int) (go:List Bool) (stp:Bool) (g1 g2 g3:Nat) (v0_5:Bool) (v1:List Spt) (v2:List Int) (v3:List Bool) (v4:List Int) (v5:List Bool) (v6:List Int) (b:Nat) (g4:Nat) (g5:Nat) (g6:Nat) (e:Int) (e1:Int) (e2:Int) (eb:Bool) (e3:Int) {E:Env} {rv:AV} {bs2:List Blk} (hE:LentE Try.prog 49 [.sl 3 g3 0 0 1] rv bs2 E) (ho:AllP [(decide ((b:Int)<(c.blocks.length:Int)))=true,InR .i64 ((b:Int)+1),(c.blocks.length:Int) ≠ 0,0≤(b:Int)∧(b:Int)<(v6.length:Int),g6=g6,g6=g6,((rowI v6).drop (0+(Int.toNat (b:Int))*1)).take 1=[.int .i64 e],(decide (e<0))=false,InR .i64 ((c.blocks.length:Int)+(b:Int)),0≤((c.blocks.length:Int)+(b:Int))∧((c.blocks.length:Int)+(b:Int))<(v4.length:Int),g4=g4,g4=g4,((rowI v4).drop (0+(Int.toNat ((c.blocks.length:Int)+(b:Int)))*1)).take 1=[.int .i64 e1],(e1 != 1)=false,InR .i64 (2*(c.blocks.length:Int)),InR .i64 ((2*(c.blocks.length:Int))+(b:Int)),0≤((2*(c.blocks.length:Int))+(b:Int))∧((2*(c.blocks.length:Int))+(b:Int))<(v4.length:Int),g4=g4,g4=g4,((rowI v4).drop (0+(Int.toNat ((2*(c.blocks.length:Int))+(b:Int)))*1)).take 1=[.int .i64 e2],(e2 != 1)=false,0≤(b:Int)∧(b:Int)<(v5.length:Int),g5=g5,g5=g5,((rowB v5).drop (0+(Int.toNat (b:Int))*1)).take 1=[.bool eb],eb=false,0≤(Int.tmod ((b:Int)+1) (c.blocks.length:Int))∧(Int.tmod ((b:Int)+1) (c.blocks.length:Int))<(v4.length:Int),g4=g4,g4=g4,((rowI v4).drop (0+(Int.toNat (Int.tmod ((b:Int)+1) (c.blocks.length:Int)))*1)).take 1=[.int .i64 e3],(e3 != 0)=true,InR .i64 ((b:Int)+1)])
 (hg:G Try.prog E (VP Try.prog) ⟨(Qbl c g4 v4 g5 v5 g6 v6 b),(z49_2 c g1 v1 g2 v2 g3 v3 v0_5 g4 v4 g5 v5 g6 v6)⟩):G Try.prog E (VP Try.prog) (yr tick l f c spots stood go stp g1 g2 g3 v0_5 v1 v2 v3 v4 v5 v6 b g4 g5 g6) :=
 Qa (n:=400) (ds:=[]) (cs:=[]) (live:=[0,9,10,14,18,20]) (m:=7) (evs:=[.b true,.ld (.int .i64 e),.b false,.ld (.int .i64 e1),.b false,.ld (.int .i64 e2),.b false,.ld (.bool eb),.b false,.ld (.int .i64 e3),.b true,.stop]) (obs:=_) hE.kind (hE.nogh (by kernel_rfl)) Qm (by kernel_rfl) ho hg
theorem p49_5_5 (tick:Int) (l:(List Prs)) (f:(List Flt)) (c:Cir) (spots:List Spt) (stood:List Int) (go:List Bool) (stp:Bool) (g1 g2 g3:Nat) (v0_5:Bool) (v1:List Spt) (v2:List Int) (v3:List Bool) (v4:List Int) (v5:List Bool) (v6:List Int) (b:Nat) (g4:Nat) (g5:Nat) (g6:Nat) (e:Int) (e1:Int) (e2:Int) (eb:Bool) (e3:Int) (be:Bk) (eb1:Bool) {E:Env} {rv:AV} {bs2:List Blk} (hE:LentE Try.prog 49 [.sl 3 g3 0 0 1] rv bs2 E) (ho:AllP [(decide ((b:Int)<(c.blocks.length:Int)))=true,InR .i64 ((b:Int)+1),(c.blocks.length:Int) ≠ 0,0≤(b:Int)∧(b:Int)<(v6.length:Int),g6=g6,g6=g6,((rowI v6).drop (0+(Int.toNat (b:Int))*1)).take 1=[.int .i64 e],(decide (e<0))=false,InR .i64 ((c.blocks.length:Int)+(b:Int)),0≤((c.blocks.length:Int)+(b:Int))∧((c.blocks.length:Int)+(b:Int))<(v4.length:Int),g4=g4,g4=g4,((rowI v4).drop (0+(Int.toNat ((c.blocks.length:Int)+(b:Int)))*1)).take 1=[.int .i64 e1],(e1 != 1)=false,InR .i64 (2*(c.blocks.length:Int)),InR .i64 ((2*(c.blocks.length:Int))+(b:Int)),0≤((2*(c.blocks.length:Int))+(b:Int))∧((2*(c.blocks.length:Int))+(b:Int))<(v4.length:Int),g4=g4,g4=g4,((rowI v4).drop (0+(Int.toNat ((2*(c.blocks.length:Int))+(b:Int)))*1)).take 1=[.int .i64 e2],(e2 != 1)=false,0≤(b:Int)∧(b:Int)<(v5.length:Int),g5=g5,g5=g5,((rowB v5).drop (0+(Int.toNat (b:Int))*1)).take 1=[.bool eb],eb=false,0≤(Int.tmod ((b:Int)+1) (c.blocks.length:Int))∧(Int.tmod ((b:Int)+1) (c.blocks.length:Int))<(v4.length:Int),g4=g4,g4=g4,((rowI v4).drop (0+(Int.toNat (Int.tmod ((b:Int)+1) (c.blocks.length:Int)))*1)).take 1=[.int .i64 e3],(e3 != 0)=false,0≤(b:Int)∧(b:Int)<(c.blocks.length:Int),((Qc c.blocks).drop ((0+(Int.toNat (b:Int))*4)+1)).take 1=[.bool be.station],be.station=true,0≤(b:Int)∧(b:Int)<(v3.length:Int),g3=g3,g3=g3,((rowB v3).drop (0+(Int.toNat (b:Int))*1)).take 1=[.bool eb1],(!eb1)=true,true=true,InR .i64 ((b:Int)+1)])
 (hg:G Try.prog E (VP Try.prog) ⟨(Qbl c g4 v4 g5 v5 g6 v6 b),(z49_2 c g1 v1 g2 v2 g3 v3 v0_5 g4 v4 g5 v5 g6 v6)⟩):G Try.prog E (VP Try.prog) (yr tick l f c spots stood go stp g1 g2 g3 v0_5 v1 v2 v3 v4 v5 v6 b g4 g5 g6) :=
 Qa (n:=400) (ds:=[]) (cs:=[]) (live:=[0,9,10,14,18,20]) (m:=7) (evs:=[.b true,.ld (.int .i64 e),.b false,.ld (.int .i64 e1),.b false,.ld (.int .i64 e2),.b false,.ld (.bool eb),.b false,.ld (.int .i64 e3),.b false,.auto,.ld (.bool be.station),.b true,.auto,.ld (.bool eb1),.b true,.b true,.stop]) (obs:=_) hE.kind (hE.nogh (by kernel_rfl)) Qm (by kernel_rfl) ho hg
theorem p49_5_6 (tick:Int) (l:(List Prs)) (f:(List Flt)) (c:Cir) (spots:List Spt) (stood:List Int) (go:List Bool) (stp:Bool) (g1 g2 g3:Nat) (v0_5:Bool) (v1:List Spt) (v2:List Int) (v3:List Bool) (v4:List Int) (v5:List Bool) (v6:List Int) (b:Nat) (g4:Nat) (g5:Nat) (g6:Nat) (e:Int) (e1:Int) (e2:Int) (eb:Bool) (e3:Int) (be:Bk) (eb1:Bool) (e4:Int) {E:Env} {rv:AV} {bs2:List Blk} (hE:LentE Try.prog 49 [.sl 3 g3 0 0 1] rv bs2 E) (ho:AllP [(decide ((b:Int)<(c.blocks.length:Int)))=true,InR .i64 ((b:Int)+1),(c.blocks.length:Int) ≠ 0,0≤(b:Int)∧(b:Int)<(v6.length:Int),g6=g6,g6=g6,((rowI v6).drop (0+(Int.toNat (b:Int))*1)).take 1=[.int .i64 e],(decide (e<0))=false,InR .i64 ((c.blocks.length:Int)+(b:Int)),0≤((c.blocks.length:Int)+(b:Int))∧((c.blocks.length:Int)+(b:Int))<(v4.length:Int),g4=g4,g4=g4,((rowI v4).drop (0+(Int.toNat ((c.blocks.length:Int)+(b:Int)))*1)).take 1=[.int .i64 e1],(e1 != 1)=false,InR .i64 (2*(c.blocks.length:Int)),InR .i64 ((2*(c.blocks.length:Int))+(b:Int)),0≤((2*(c.blocks.length:Int))+(b:Int))∧((2*(c.blocks.length:Int))+(b:Int))<(v4.length:Int),g4=g4,g4=g4,((rowI v4).drop (0+(Int.toNat ((2*(c.blocks.length:Int))+(b:Int)))*1)).take 1=[.int .i64 e2],(e2 != 1)=false,0≤(b:Int)∧(b:Int)<(v5.length:Int),g5=g5,g5=g5,((rowB v5).drop (0+(Int.toNat (b:Int))*1)).take 1=[.bool eb],eb=false,0≤(Int.tmod ((b:Int)+1) (c.blocks.length:Int))∧(Int.tmod ((b:Int)+1) (c.blocks.length:Int))<(v4.length:Int),g4=g4,g4=g4,((rowI v4).drop (0+(Int.toNat (Int.tmod ((b:Int)+1) (c.blocks.length:Int)))*1)).take 1=[.int .i64 e3],(e3 != 0)=false,0≤(b:Int)∧(b:Int)<(c.blocks.length:Int),((Qc c.blocks).drop ((0+(Int.toNat (b:Int))*4)+1)).take 1=[.bool be.station],be.station=true,0≤(b:Int)∧(b:Int)<(v3.length:Int),g3=g3,g3=g3,((rowB v3).drop (0+(Int.toNat (b:Int))*1)).take 1=[.bool eb1],(!eb1)=false,0≤e∧e<(v2.length:Int),g2=g2,g2=g2,((rowI v2).drop (0+(Int.toNat e)*1)).take 1=[.int .i64 e4],0≤(b:Int)∧(b:Int)<(c.blocks.length:Int),((Qc c.blocks).drop ((0+(Int.toNat (b:Int))*4)+2)).take 1=[.int .i64 be.hold],(decide (e4<be.hold))=true,InR .i64 ((b:Int)+1)])
 (hg:G Try.prog E (VP Try.prog) ⟨(Qbl c g4 v4 g5 v5 g6 v6 b),(z49_2 c g1 v1 g2 v2 g3 v3 v0_5 g4 v4 g5 v5 g6 v6)⟩):G Try.prog E (VP Try.prog) (yr tick l f c spots stood go stp g1 g2 g3 v0_5 v1 v2 v3 v4 v5 v6 b g4 g5 g6) :=
 Qa (n:=400) (ds:=[]) (cs:=[]) (live:=[0,9,10,14,18,20]) (m:=7) (evs:=[.b true,.ld (.int .i64 e),.b false,.ld (.int .i64 e1),.b false,.ld (.int .i64 e2),.b false,.ld (.bool eb),.b false,.ld (.int .i64 e3),.b false,.auto,.ld (.bool be.station),.b true,.auto,.ld (.bool eb1),.b false,.auto,.ld (.int .i64 e4),.auto,.ld (.int .i64 be.hold),.b true,.stop]) (obs:=_) hE.kind (hE.nogh (by kernel_rfl)) Qm (by kernel_rfl) ho hg
theorem p49_5_7 (tick:Int) (l:(List Prs)) (f:(List Flt)) (c:Cir) (spots:List Spt) (stood:List Int) (go:List Bool) (stp:Bool) (g1 g2 g3:Nat) (v0_5:Bool) (v1:List Spt) (v2:List Int) (v3:List Bool) (v4:List Int) (v5:List Bool) (v6:List Int) (b:Nat) (g4:Nat) (g5:Nat) (g6:Nat) (e:Int) (e1:Int) (e2:Int) (eb:Bool) (e3:Int) (be:Bk) (eb1:Bool) (e4:Int) (se:Spt) (se1:Spt) {E:Env} {rv:AV} {bs2:List Blk} (hE:LentE Try.prog 49 [.sl 3 g3 0 0 1] rv bs2 E) (ho:AllP [(decide ((b:Int)<(c.blocks.length:Int)))=true,InR .i64 ((b:Int)+1),(c.blocks.length:Int) ≠ 0,0≤(b:Int)∧(b:Int)<(v6.length:Int),g6=g6,g6=g6,((rowI v6).drop (0+(Int.toNat (b:Int))*1)).take 1=[.int .i64 e],(decide (e<0))=false,InR .i64 ((c.blocks.length:Int)+(b:Int)),0≤((c.blocks.length:Int)+(b:Int))∧((c.blocks.length:Int)+(b:Int))<(v4.length:Int),g4=g4,g4=g4,((rowI v4).drop (0+(Int.toNat ((c.blocks.length:Int)+(b:Int)))*1)).take 1=[.int .i64 e1],(e1 != 1)=false,InR .i64 (2*(c.blocks.length:Int)),InR .i64 ((2*(c.blocks.length:Int))+(b:Int)),0≤((2*(c.blocks.length:Int))+(b:Int))∧((2*(c.blocks.length:Int))+(b:Int))<(v4.length:Int),g4=g4,g4=g4,((rowI v4).drop (0+(Int.toNat ((2*(c.blocks.length:Int))+(b:Int)))*1)).take 1=[.int .i64 e2],(e2 != 1)=false,0≤(b:Int)∧(b:Int)<(v5.length:Int),g5=g5,g5=g5,((rowB v5).drop (0+(Int.toNat (b:Int))*1)).take 1=[.bool eb],eb=false,0≤(Int.tmod ((b:Int)+1) (c.blocks.length:Int))∧(Int.tmod ((b:Int)+1) (c.blocks.length:Int))<(v4.length:Int),g4=g4,g4=g4,((rowI v4).drop (0+(Int.toNat (Int.tmod ((b:Int)+1) (c.blocks.length:Int)))*1)).take 1=[.int .i64 e3],(e3 != 0)=false,0≤(b:Int)∧(b:Int)<(c.blocks.length:Int),((Qc c.blocks).drop ((0+(Int.toNat (b:Int))*4)+1)).take 1=[.bool be.station],be.station=true,0≤(b:Int)∧(b:Int)<(v3.length:Int),g3=g3,g3=g3,((rowB v3).drop (0+(Int.toNat (b:Int))*1)).take 1=[.bool eb1],(!eb1)=false,0≤e∧e<(v2.length:Int),g2=g2,g2=g2,((rowI v2).drop (0+(Int.toNat e)*1)).take 1=[.int .i64 e4],0≤(b:Int)∧(b:Int)<(c.blocks.length:Int),((Qc c.blocks).drop ((0+(Int.toNat (b:Int))*4)+2)).take 1=[.int .i64 be.hold],(decide (e4<be.hold))=false,0≤e∧e<(v1.length:Int),g1=g1,g1=g1,(((0+(Int.toNat e)*3)+0)+1)≤(Qg v1).length,g1=g1,0≤e∧e<(v1.length:Int),g1=g1,g1=g1,(((0+(Int.toNat e)*3)+1)+1)≤(Qv (Qg v1) ((0+(Int.toNat e)*3)+0) (z49_17 b c)).length,g1=g1,0≤e∧e<(v2.length:Int),g2=g2,((0+(Int.toNat e)*1)+1)≤(rowI v2).length,g2=g2,0≤(b:Int)∧(b:Int)<(v3.length:Int),g3=g3,((0+(Int.toNat (b:Int))*1)+1)≤(rowB v3).length,g3=g3,InR .i64 ((b:Int)+1)])
 (hg:G Try.prog E (VP Try.prog) ⟨(Qbl c g4 v4 g5 v5 g6 v6 b),[⟨true,0,1,false,(Qav c g1 v1 g2 v2 g3 v3 v0_5),false⟩,⟨true,g1,3,true,(Qv (Qv (Qg v1) ((0+(Int.toNat e)*3)+0) (z49_17 b c)) ((0+(Int.toNat e)*3)+1) [.int .i64 0]),true⟩,⟨true,g2,1,true,(Qv (rowI v2) (0+(Int.toNat e)*1) [.int .i64 0]),true⟩,⟨true,g3,1,true,(Qv (rowB v3) (0+(Int.toNat (b:Int))*1) [.bool false]),true⟩,⟨true,g4,1,true,(rowI v4),true⟩,⟨true,g5,1,true,(rowB v5),true⟩,⟨true,g6,1,true,(rowI v6),true⟩]⟩):G Try.prog E (VP Try.prog) (yr tick l f c spots stood go stp g1 g2 g3 v0_5 v1 v2 v3 v4 v5 v6 b g4 g5 g6) :=
 Qa (n:=400) (ds:=[]) (cs:=[]) (live:=[0,9,10,14,18,20]) (m:=7) (evs:=[.b true,.ld (.int .i64 e),.b false,.ld (.int .i64 e1),.b false,.ld (.int .i64 e2),.b false,.ld (.bool eb),.b false,.ld (.int .i64 e3),.b false,.auto,.ld (.bool be.station),.b true,.auto,.ld (.bool eb1),.b false,.auto,.ld (.int .i64 e4),.auto,.ld (.int .i64 be.hold),.b false,.stop]) (obs:=_) hE.kind (hE.nogh (by kernel_rfl)) Qm (by kernel_rfl) ho hg
theorem p49_5_8 (tick:Int) (l:(List Prs)) (f:(List Flt)) (c:Cir) (spots:List Spt) (stood:List Int) (go:List Bool) (stp:Bool) (g1 g2 g3:Nat) (v0_5:Bool) (v1:List Spt) (v2:List Int) (v3:List Bool) (v4:List Int) (v5:List Bool) (v6:List Int) (b:Nat) (g4:Nat) (g5:Nat) (g6:Nat) (e:Int) (e1:Int) (e2:Int) (eb:Bool) (e3:Int) (be:Bk) (se:Spt) (se1:Spt) (e4:Int) (eb1:Bool) {E:Env} {rv:AV} {bs2:List Blk} (hE:LentE Try.prog 49 [.sl 3 g3 0 0 1] rv bs2 E) (ho:AllP [(decide ((b:Int)<(c.blocks.length:Int)))=true,InR .i64 ((b:Int)+1),(c.blocks.length:Int) ≠ 0,0≤(b:Int)∧(b:Int)<(v6.length:Int),g6=g6,g6=g6,((rowI v6).drop (0+(Int.toNat (b:Int))*1)).take 1=[.int .i64 e],(decide (e<0))=false,InR .i64 ((c.blocks.length:Int)+(b:Int)),0≤((c.blocks.length:Int)+(b:Int))∧((c.blocks.length:Int)+(b:Int))<(v4.length:Int),g4=g4,g4=g4,((rowI v4).drop (0+(Int.toNat ((c.blocks.length:Int)+(b:Int)))*1)).take 1=[.int .i64 e1],(e1 != 1)=false,InR .i64 (2*(c.blocks.length:Int)),InR .i64 ((2*(c.blocks.length:Int))+(b:Int)),0≤((2*(c.blocks.length:Int))+(b:Int))∧((2*(c.blocks.length:Int))+(b:Int))<(v4.length:Int),g4=g4,g4=g4,((rowI v4).drop (0+(Int.toNat ((2*(c.blocks.length:Int))+(b:Int)))*1)).take 1=[.int .i64 e2],(e2 != 1)=false,0≤(b:Int)∧(b:Int)<(v5.length:Int),g5=g5,g5=g5,((rowB v5).drop (0+(Int.toNat (b:Int))*1)).take 1=[.bool eb],eb=false,0≤(Int.tmod ((b:Int)+1) (c.blocks.length:Int))∧(Int.tmod ((b:Int)+1) (c.blocks.length:Int))<(v4.length:Int),g4=g4,g4=g4,((rowI v4).drop (0+(Int.toNat (Int.tmod ((b:Int)+1) (c.blocks.length:Int)))*1)).take 1=[.int .i64 e3],(e3 != 0)=false,0≤(b:Int)∧(b:Int)<(c.blocks.length:Int),((Qc c.blocks).drop ((0+(Int.toNat (b:Int))*4)+1)).take 1=[.bool be.station],be.station=false,false=false,0≤e∧e<(v1.length:Int),g1=g1,g1=g1,(((0+(Int.toNat e)*3)+0)+1)≤(Qg v1).length,g1=g1,0≤e∧e<(v1.length:Int),g1=g1,g1=g1,(((0+(Int.toNat e)*3)+1)+1)≤(Qv (Qg v1) ((0+(Int.toNat e)*3)+0) (z49_17 b c)).length,g1=g1,0≤e∧e<(v2.length:Int),g2=g2,((0+(Int.toNat e)*1)+1)≤(rowI v2).length,g2=g2,0≤(b:Int)∧(b:Int)<(v3.length:Int),g3=g3,((0+(Int.toNat (b:Int))*1)+1)≤(rowB v3).length,g3=g3,InR .i64 ((b:Int)+1)])
 (hg:G Try.prog E (VP Try.prog) ⟨(Qbl c g4 v4 g5 v5 g6 v6 b),[⟨true,0,1,false,(Qav c g1 v1 g2 v2 g3 v3 v0_5),false⟩,⟨true,g1,3,true,(Qv (Qv (Qg v1) ((0+(Int.toNat e)*3)+0) (z49_17 b c)) ((0+(Int.toNat e)*3)+1) [.int .i64 0]),true⟩,⟨true,g2,1,true,(Qv (rowI v2) (0+(Int.toNat e)*1) [.int .i64 0]),true⟩,⟨true,g3,1,true,(Qv (rowB v3) (0+(Int.toNat (b:Int))*1) [.bool false]),true⟩,⟨true,g4,1,true,(rowI v4),true⟩,⟨true,g5,1,true,(rowB v5),true⟩,⟨true,g6,1,true,(rowI v6),true⟩]⟩):G Try.prog E (VP Try.prog) (yr tick l f c spots stood go stp g1 g2 g3 v0_5 v1 v2 v3 v4 v5 v6 b g4 g5 g6) :=
 Qa (n:=400) (ds:=[]) (cs:=[]) (live:=[0,9,10,14,18,20]) (m:=7) (evs:=[.b true,.ld (.int .i64 e),.b false,.ld (.int .i64 e1),.b false,.ld (.int .i64 e2),.b false,.ld (.bool eb),.b false,.ld (.int .i64 e3),.b false,.auto,.ld (.bool be.station),.b false,.b false,.stop]) (obs:=_) hE.kind (hE.nogh (by kernel_rfl)) Qm (by kernel_rfl) ho hg
theorem p49_5_9 (tick:Int) (l:(List Prs)) (f:(List Flt)) (c:Cir) (spots:List Spt) (stood:List Int) (go:List Bool) (stp:Bool) (g1 g2 g3:Nat) (v0_5:Bool) (v1:List Spt) (v2:List Int) (v3:List Bool) (v4:List Int) (v5:List Bool) (v6:List Int) (b:Nat) (g4:Nat) (g5:Nat) (g6:Nat) {E:Env} {res:AV} {bs2:List Blk} (hE:LentE Try.prog 49 [.sl 3 g3 0 0 1] res bs2 E) (ho:AllP [(decide ((b:Int)<(c.blocks.length:Int)))=false])
 (hr:(.tup [])=res) (hb:[⟨true,0,1,false,(Qav c g1 v1 g2 v2 g3 v3 v0_5),false⟩,⟨true,g1,3,true,(Qg v1),true⟩,⟨true,g2,1,true,(rowI v2),true⟩,⟨true,g3,1,true,(rowB v3),true⟩]=bs2):G Try.prog E (VP Try.prog) (yr tick l f c spots stood go stp g1 g2 g3 v0_5 v1 v2 v3 v4 v5 v6 b g4 g5 g6) :=
 Xb (n:=400) (live:=[]) (m:=4) (evs:=[.b false]) (obs:=_) hE (hE.nogh (by kernel_rfl)) Try.func49 Qm (by kernel_rfl) ho hr hb
theorem f49W5 (tick:Int) (l:(List Prs)) (f:(List Flt)) (c:Cir) (spots:List Spt) (stood:List Int) (go:List Bool) (stp:Bool) (g1 g2 g3:Nat) (v0_5:Bool) (v1:List Spt) (v2:List Int) (v3:List Bool) (v4:List Int) (v5:List Bool) (v6:List Int) (b:Nat) {E:Env} {rv:Unit} {stp2:Bool} {spots2:List Spt} {stood2:List Int} {go2:List Bool} (hE:LentE Try.prog 49 [.sl 3 g3 0 0 1] (.tup []) [⟨true,0,1,false,[.rsl (Qc c.blocks) 0 c.blocks.length,.rsl (rowI c.cars) 0 c.cars.length,.sl 1 g1 0 spots2.length 3,.sl 2 g2 0 stood2.length 1,.sl 3 g3 0 go2.length 1,.bool stp2],false⟩,⟨true,g1,3,true,(Qg spots2),true⟩,⟨true,g2,1,true,(rowI stood2),true⟩,⟨true,g3,1,true,(rowB go2),true⟩] E)
 (h:(((b:Int)<(c.blocks.length:Int)→((I6 ((b:Int)+1))∧((c.blocks.length:Int) ≠ 0∧(∃ e:Int,v6[b]?=some e∧((e<0→((I6 ((b:Int)+1))∧qj E tick l f c spots stood go stp g1 g2 g3 v0_5 v1 v2 v3 v4 v5 v6 (b+1)))∧(¬ (e<0)→((I6 ((c.blocks.length:Int)+(b:Int)))∧(∃ e1:Int,v4[c.blocks.length+b]?=some e1∧((¬ (e1=1)→((I6 ((b:Int)+1))∧qj E tick l f c spots stood go stp g1 g2 g3 v0_5 v1 v2 v3 v4 v5 v6 (b+1)))∧(e1=1→((I6 (2*(c.blocks.length:Int)))∧((I6 ((2*(c.blocks.length:Int))+(b:Int)))∧(0≤((2*(c.blocks.length:Int))+(b:Int))∧(∃ e2:Int,v4[Int.toNat ((2*(c.blocks.length:Int))+(b:Int))]?=some e2∧((¬ (e2=1)→((I6 ((b:Int)+1))∧qj E tick l f c spots stood go stp g1 g2 g3 v0_5 v1 v2 v3 v4 v5 v6 (b+1)))∧(e2=1→(∃ eb:Bool,v5[b]?=some eb∧((eb=true→((I6 ((b:Int)+1))∧qj E tick l f c spots stood go stp g1 g2 g3 v0_5 v1 v2 v3 v4 v5 v6 (b+1)))∧(eb=false→(0≤(Int.tmod ((b:Int)+1) (c.blocks.length:Int))∧(∃ e3:Int,v4[Int.toNat (Int.tmod ((b:Int)+1) (c.blocks.length:Int))]?=some e3∧((¬ (e3=0)→((I6 ((b:Int)+1))∧qj E tick l f c spots stood go stp g1 g2 g3 v0_5 v1 v2 v3 v4 v5 v6 (b+1)))∧(e3=0→(∃ be:Bk,c.blocks[b]?=some be∧((be.station=true→(∃ eb1:Bool,v3[b]?=some eb1∧((eb1=false→((I6 ((b:Int)+1))∧qj E tick l f c spots stood go stp g1 g2 g3 v0_5 v1 v2 v3 v4 v5 v6 (b+1)))∧(eb1=true→(0≤e∧(∃ e4:Int,v2[Int.toNat e]?=some e4∧((e4<be.hold→((I6 ((b:Int)+1))∧qj E tick l f c spots stood go stp g1 g2 g3 v0_5 v1 v2 v3 v4 v5 v6 (b+1)))∧(¬ (e4<be.hold)→(0≤e∧(∃ se:Spt,v1[Int.toNat e]?=some se∧(0≤e∧(∃ se1:Spt,(v1.set (Int.toNat e) (⟨(Int.tmod ((b:Int)+1) (c.blocks.length:Int)),se.ran,se.opn⟩:Spt))[Int.toNat e]?=some se1∧((I6 ((b:Int)+1))∧qj E tick l f c spots stood go stp g1 g2 g3 v0_5 ((v1.set (Int.toNat e) (⟨(Int.tmod ((b:Int)+1) (c.blocks.length:Int)),se.ran,se.opn⟩:Spt)).set (Int.toNat e) (⟨se1.block,0,se1.opn⟩:Spt)) (v2.set (Int.toNat e) 0) (v3.set b false) v4 v5 v6 (b+1))))))))))))))∧(be.station=false→(0≤e∧(∃ se:Spt,v1[Int.toNat e]?=some se∧(0≤e∧(∃ se1:Spt,(v1.set (Int.toNat e) (⟨(Int.tmod ((b:Int)+1) (c.blocks.length:Int)),se.ran,se.opn⟩:Spt))[Int.toNat e]?=some se1∧(0≤e∧(∃ e4:Int,v2[Int.toNat e]?=some e4∧(∃ eb1:Bool,v3[b]?=some eb1∧((I6 ((b:Int)+1))∧qj E tick l f c spots stood go stp g1 g2 g3 v0_5 ((v1.set (Int.toNat e) (⟨(Int.tmod ((b:Int)+1) (c.blocks.length:Int)),se.ran,se.opn⟩:Spt)).set (Int.toNat e) (⟨se1.block,0,se1.opn⟩:Spt)) (v2.set (Int.toNat e) 0) (v3.set b false) v4 v5 v6 (b+1)))))))))))))))))))))))))))))))))))∧(¬ ((b:Int)<(c.blocks.length:Int))→stp2=v0_5∧spots2=v1∧stood2=v2∧go2=v3))):qj E tick l f c spots stood go stp g1 g2 g3 v0_5 v1 v2 v3 v4 v5 v6 b:=by
 intro g4 g5 g6
 rcases bft (decide ((b:Int)<(c.blocks.length:Int))) with hc0 | hc0
 · have h:=h.1 (odt hc0)
   obtain ⟨q1_1,h⟩:=h
   obtain ⟨q2_1,h⟩:=h
   obtain ⟨e,h1,h⟩:=h
   rcases bft (decide (e<0)) with hc1 | hc1
   · have h:=h.1 (odt hc1)
     obtain ⟨q13_2,h⟩:=h
     exact p49_5_0 tick l f c spots stood go stp g1 g2 g3 v0_5 v1 v2 v3 v4 v5 v6 b g4 g5 g6 e hE ⟨hc0,q1_1,q2_1,(Qe h1),rfl,rfl,(rp cI 1 0 1 h1),hc1,rfl,rfl,rfl,rfl,q13_2,trivial⟩ (h g4 g5 g6)
   · have h:=h.2 (odf hc1)
     obtain ⟨q9_2,h⟩:=h
     obtain ⟨e1,h2,h⟩:=h
     rcases bft (e1 != 1) with hc2 | hc2
     · have h:=h.1 (bneT hc2)
       obtain ⟨q19_3,h⟩:=h
       exact p49_5_1 tick l f c spots stood go stp g1 g2 g3 v0_5 v1 v2 v3 v4 v5 v6 b g4 g5 g6 e e1 hE ⟨hc0,q1_1,q2_1,(Qe h1),rfl,rfl,(rp cI 1 0 1 h1),hc1,q9_2,(Qe h2),rfl,rfl,(rp cI 1 0 1 h2),hc2,rfl,rfl,rfl,q19_3,trivial⟩ (h g4 g5 g6)
     · have h:=h.2 (bneF hc2)
       obtain ⟨q16_3,h⟩:=h
       obtain ⟨q17_3,h⟩:=h
       obtain ⟨h4,h⟩:=h
       obtain ⟨e2,h3,h⟩:=h
       rcases bft (e2 != 1) with hc3 | hc3
       · have h:=h.1 (bneT hc3)
         obtain ⟨q26_4,h⟩:=h
         exact p49_5_2 tick l f c spots stood go stp g1 g2 g3 v0_5 v1 v2 v3 v4 v5 v6 b g4 g5 g6 e e1 e2 hE ⟨hc0,q1_1,q2_1,(Qe h1),rfl,rfl,(rp cI 1 0 1 h1),hc1,q9_2,(Qe h2),rfl,rfl,(rp cI 1 0 1 h2),hc2,q16_3,q17_3,(Qq h4 h3),rfl,rfl,(rp cI 1 0 1 h3),hc3,rfl,rfl,q26_4,trivial⟩ (h g4 g5 g6)
       · have h:=h.2 (bneF hc3)
         obtain ⟨eb,h5,h⟩:=h
         rcases bft eb with hc4 | hc4
         · have h:=h.1 hc4
           obtain ⟨q31_5,h⟩:=h
           exact p49_5_3 tick l f c spots stood go stp g1 g2 g3 v0_5 v1 v2 v3 v4 v5 v6 b g4 g5 g6 e e1 e2 eb hE ⟨hc0,q1_1,q2_1,(Qe h1),rfl,rfl,(rp cI 1 0 1 h1),hc1,q9_2,(Qe h2),rfl,rfl,(rp cI 1 0 1 h2),hc2,q16_3,q17_3,(Qq h4 h3),rfl,rfl,(rp cI 1 0 1 h3),hc3,(Qe h5),rfl,rfl,(rp cB 1 0 1 h5),hc4,rfl,q31_5,trivial⟩ (h g4 g5 g6)
         · have h:=h.2 hc4
           obtain ⟨h7,h⟩:=h
           obtain ⟨e3,h6,h⟩:=h
           rcases bft (e3 != 0) with hc5 | hc5
           · have h:=h.1 (bneT hc5)
             obtain ⟨q36_6,h⟩:=h
             exact p49_5_4 tick l f c spots stood go stp g1 g2 g3 v0_5 v1 v2 v3 v4 v5 v6 b g4 g5 g6 e e1 e2 eb e3 hE ⟨hc0,q1_1,q2_1,(Qe h1),rfl,rfl,(rp cI 1 0 1 h1),hc1,q9_2,(Qe h2),rfl,rfl,(rp cI 1 0 1 h2),hc2,q16_3,q17_3,(Qq h4 h3),rfl,rfl,(rp cI 1 0 1 h3),hc3,(Qe h5),rfl,rfl,(rp cB 1 0 1 h5),hc4,(Qq h7 h6),rfl,rfl,(rp cI 1 0 1 h6),hc5,q36_6,trivial⟩ (h g4 g5 g6)
           · have h:=h.2 (bneF hc5)
             obtain ⟨be,h8,h⟩:=h
             rcases bft be.station with hc6 | hc6
             · have h:=h.1 hc6
               obtain ⟨eb1,h9,h⟩:=h
               rcases bft (!eb1) with hc7 | hc7
               · have h:=h.1 (bnT hc7)
                 obtain ⟨q47_8,h⟩:=h
                 exact p49_5_5 tick l f c spots stood go stp g1 g2 g3 v0_5 v1 v2 v3 v4 v5 v6 b g4 g5 g6 e e1 e2 eb e3 be eb1 hE ⟨hc0,q1_1,q2_1,(Qe h1),rfl,rfl,(rp cI 1 0 1 h1),hc1,q9_2,(Qe h2),rfl,rfl,(rp cI 1 0 1 h2),hc2,q16_3,q17_3,(Qq h4 h3),rfl,rfl,(rp cI 1 0 1 h3),hc3,(Qe h5),rfl,rfl,(rp cB 1 0 1 h5),hc4,(Qq h7 h6),rfl,rfl,(rp cI 1 0 1 h6),hc5,(Qe h8),(rp cBk 4 1 1 h8),hc6,(Qe h9),rfl,rfl,(rp cB 1 0 1 h9),hc7,rfl,q47_8,trivial⟩ (h g4 g5 g6)
               · have h:=h.2 (bnF hc7)
                 obtain ⟨h11,h⟩:=h
                 obtain ⟨e4,h10,h⟩:=h
                 rcases bft (decide (e4<be.hold)) with hc8 | hc8
                 · have h:=h.1 (odt hc8)
                   obtain ⟨q54_9,h⟩:=h
                   exact p49_5_6 tick l f c spots stood go stp g1 g2 g3 v0_5 v1 v2 v3 v4 v5 v6 b g4 g5 g6 e e1 e2 eb e3 be eb1 e4 hE ⟨hc0,q1_1,q2_1,(Qe h1),rfl,rfl,(rp cI 1 0 1 h1),hc1,q9_2,(Qe h2),rfl,rfl,(rp cI 1 0 1 h2),hc2,q16_3,q17_3,(Qq h4 h3),rfl,rfl,(rp cI 1 0 1 h3),hc3,(Qe h5),rfl,rfl,(rp cB 1 0 1 h5),hc4,(Qq h7 h6),rfl,rfl,(rp cI 1 0 1 h6),hc5,(Qe h8),(rp cBk 4 1 1 h8),hc6,(Qe h9),rfl,rfl,(rp cB 1 0 1 h9),hc7,(Qq h11 h10),rfl,rfl,(rp cI 1 0 1 h10),(Qe h8),(rp cBk 4 2 1 h8),hc8,q54_9,trivial⟩ (h g4 g5 g6)
                 · have h:=h.2 (odf hc8)
                   obtain ⟨h13,h⟩:=h
                   obtain ⟨se,h12,h⟩:=h
                   obtain ⟨h15,h⟩:=h
                   obtain ⟨se1,h14,h⟩:=h
                   obtain ⟨q74_9,h⟩:=h
                   refine p49_5_7 tick l f c spots stood go stp g1 g2 g3 v0_5 v1 v2 v3 v4 v5 v6 b g4 g5 g6 e e1 e2 eb e3 be eb1 e4 se se1 hE ⟨hc0,q1_1,q2_1,(Qe h1),rfl,rfl,(rp cI 1 0 1 h1),hc1,q9_2,(Qe h2),rfl,rfl,(rp cI 1 0 1 h2),hc2,q16_3,q17_3,(Qq h4 h3),rfl,rfl,(rp cI 1 0 1 h3),hc3,(Qe h5),rfl,rfl,(rp cB 1 0 1 h5),hc4,(Qq h7 h6),rfl,rfl,(rp cI 1 0 1 h6),hc5,(Qe h8),(rp cBk 4 1 1 h8),hc6,(Qe h9),rfl,rfl,(rp cB 1 0 1 h9),hc7,(Qq h11 h10),rfl,rfl,(rp cI 1 0 1 h10),(Qe h8),(rp cBk 4 2 1 h8),hc8,(Qq h13 h12),rfl,rfl,(rf cSpt 3 0 1 h12),rfl,(by have hx:=Qq h15 h14; simpa using hx),rfl,rfl,(by rw [(show Qv (Qg v1) ((0+(Int.toNat e)*3)+0) [.int .i64 (Int.tmod ((b:Int)+1) (c.blocks.length:Int))]=Qg (v1.set (Int.toNat e) (⟨(Int.tmod ((b:Int)+1) (c.blocks.length:Int)),se.ran,se.opn⟩:Spt)) from Qx cSpt (s:=3) (k:=0) (fun _=>rfl) h12 rfl (by first | decide | simp))]; exact rf cSpt 3 1 1 h14),rfl,(Qq h11 h10),rfl,(rf cI 1 0 1 h10),rfl,(Qe h9),rfl,(rf cB 1 0 1 h9),rfl,q74_9,trivial⟩ ?_
                   have h:=(h g4 g5 g6)
                   simp only [qj,yr,List.length_set] at h
                   rw [(show Qv (Qg v1) ((0+(Int.toNat e)*3)+0) [.int .i64 (Int.tmod ((b:Int)+1) (c.blocks.length:Int))]=Qg (v1.set (Int.toNat e) (⟨(Int.tmod ((b:Int)+1) (c.blocks.length:Int)),se.ran,se.opn⟩:Spt)) from Qx cSpt (s:=3) (k:=0) (fun _=>rfl) h12 rfl (by first | decide | simp))]; rw [(show Qv (Qg (v1.set (Int.toNat e) (⟨(Int.tmod ((b:Int)+1) (c.blocks.length:Int)),se.ran,se.opn⟩:Spt))) ((0+(Int.toNat e)*3)+1) [.int .i64 0]=Qg ((v1.set (Int.toNat e) (⟨(Int.tmod ((b:Int)+1) (c.blocks.length:Int)),se.ran,se.opn⟩:Spt)).set (Int.toNat e) (⟨se1.block,0,se1.opn⟩:Spt)) from Qx cSpt (s:=3) (k:=1) (fun _=>rfl) h14 rfl (by first | decide | simp))]; rw [(show Qv (rowI v2) (0+(Int.toNat e)*1) [.int .i64 0]=rowI (v2.set (Int.toNat e) 0) from Qx cI (s:=1) (k:=0) (fun _=>rfl) h10 rfl (by first | decide | simp))]; rw [(show Qv (rowB v3) (0+(Int.toNat (b:Int))*1) [.bool false]=rowB (v3.set b false) from Qx cB (s:=1) (k:=0) (fun _=>rfl) h9 rfl (by first | decide | simp))]
                   exact h
             · have h:=h.2 hc6
               obtain ⟨h10,h⟩:=h
               obtain ⟨se,h9,h⟩:=h
               obtain ⟨h12,h⟩:=h
               obtain ⟨se1,h11,h⟩:=h
               obtain ⟨h14,h⟩:=h
               obtain ⟨e4,h13,h⟩:=h
               obtain ⟨eb1,h15,h⟩:=h
               obtain ⟨q63_7,h⟩:=h
               refine p49_5_8 tick l f c spots stood go stp g1 g2 g3 v0_5 v1 v2 v3 v4 v5 v6 b g4 g5 g6 e e1 e2 eb e3 be se se1 e4 eb1 hE ⟨hc0,q1_1,q2_1,(Qe h1),rfl,rfl,(rp cI 1 0 1 h1),hc1,q9_2,(Qe h2),rfl,rfl,(rp cI 1 0 1 h2),hc2,q16_3,q17_3,(Qq h4 h3),rfl,rfl,(rp cI 1 0 1 h3),hc3,(Qe h5),rfl,rfl,(rp cB 1 0 1 h5),hc4,(Qq h7 h6),rfl,rfl,(rp cI 1 0 1 h6),hc5,(Qe h8),(rp cBk 4 1 1 h8),hc6,rfl,(Qq h10 h9),rfl,rfl,(rf cSpt 3 0 1 h9),rfl,(by have hx:=Qq h12 h11; simpa using hx),rfl,rfl,(by rw [(show Qv (Qg v1) ((0+(Int.toNat e)*3)+0) [.int .i64 (Int.tmod ((b:Int)+1) (c.blocks.length:Int))]=Qg (v1.set (Int.toNat e) (⟨(Int.tmod ((b:Int)+1) (c.blocks.length:Int)),se.ran,se.opn⟩:Spt)) from Qx cSpt (s:=3) (k:=0) (fun _=>rfl) h9 rfl (by first | decide | simp))]; exact rf cSpt 3 1 1 h11),rfl,(Qq h14 h13),rfl,(rf cI 1 0 1 h13),rfl,(Qe h15),rfl,(rf cB 1 0 1 h15),rfl,q63_7,trivial⟩ ?_
               have h:=(h g4 g5 g6)
               simp only [qj,yr,List.length_set] at h
               rw [(show Qv (Qg v1) ((0+(Int.toNat e)*3)+0) [.int .i64 (Int.tmod ((b:Int)+1) (c.blocks.length:Int))]=Qg (v1.set (Int.toNat e) (⟨(Int.tmod ((b:Int)+1) (c.blocks.length:Int)),se.ran,se.opn⟩:Spt)) from Qx cSpt (s:=3) (k:=0) (fun _=>rfl) h9 rfl (by first | decide | simp))]; rw [(show Qv (Qg (v1.set (Int.toNat e) (⟨(Int.tmod ((b:Int)+1) (c.blocks.length:Int)),se.ran,se.opn⟩:Spt))) ((0+(Int.toNat e)*3)+1) [.int .i64 0]=Qg ((v1.set (Int.toNat e) (⟨(Int.tmod ((b:Int)+1) (c.blocks.length:Int)),se.ran,se.opn⟩:Spt)).set (Int.toNat e) (⟨se1.block,0,se1.opn⟩:Spt)) from Qx cSpt (s:=3) (k:=1) (fun _=>rfl) h11 rfl (by first | decide | simp))]; rw [(show Qv (rowI v2) (0+(Int.toNat e)*1) [.int .i64 0]=rowI (v2.set (Int.toNat e) 0) from Qx cI (s:=1) (k:=0) (fun _=>rfl) h13 rfl (by first | decide | simp))]; rw [(show Qv (rowB v3) (0+(Int.toNat (b:Int))*1) [.bool false]=rowB (v3.set b false) from Qx cB (s:=1) (k:=0) (fun _=>rfl) h15 rfl (by first | decide | simp))]
               exact h
 · have h:=h.2 (odf hc0)
   obtain ⟨qe0,qe1,qe2,qe3⟩:=h
   exact p49_5_9 tick l f c spots stood go stp g1 g2 g3 v0_5 v1 v2 v3 v4 v5 v6 b g4 g5 g6 hE ⟨hc0,trivial⟩ (by try rfl) (by rw [qe0,qe1,qe2,qe3]; all_goals (first | rfl | (simp only [List.length_set]; done) | (simp only [List.length_set]; rfl)))
end Go.Proofs.Ytgdfkjjgdkejfaa
namespace Go.Proofs.Ytgdfkjjgdkejfaa
open Go Ax
open Go.Proofs
/-- The car that is in each block,before the step. -/
def befN (cars:List Car) (nb n:Nat):List Int:=(List.range nb).map fun b=>if b<n then carS (cars.map Car.spot) (b:Int) else 0
theorem QbN {cars:List Car} {nb n:Nat}:(befN cars nb n).length=nb:=by simp [befN]
theorem yD {cars:List Car} {nb n b:Nat} (h:b<nb):(befN cars nb n)[b]?=some (if b<n then carS (cars.map Car.spot) (b:Int) else 0):=by
 rw [befN,List.getElem?_map,List.getElem?_range h]; rfl
theorem bef_zero {cars:List Car} {nb:Nat}:befN cars nb 0=List.replicate nb 0:=by
 apply List.ext_getElem?
 intro j
 rcases Nat.lt_or_ge j nb with h | h
 · rw [yD h,List.getElem?_replicate,if_pos h,if_neg (by omega)]
 · rw [List.getElem?_eq_none (by rw [QbN]; exact h),List.getElem?_eq_none (by simpa using h)]
theorem bef_set {cars:List Car} {nb n:Nat} (h:n<nb):(befN cars nb n).set n (carS (cars.map Car.spot) (n:Int))=befN cars nb (n+1):=by
 apply List.ext_getElem?
 intro j
 rw [List.getElem?_set]
 rcases Nat.lt_or_ge j nb with hj | hj
 · split
   · rename_i e; subst e; rw [if_pos (by rw [QbN]; exact h),yD h,if_pos (by omega)]
   · rename_i e
     rw [yD hj,yD hj]
     rcases Nat.lt_or_ge j n with h1 | h1
     · rw [if_pos h1,if_pos (by omega)]
     · rw [if_neg (by omega),if_neg (by omega)]
 · rw [if_neg (by omega),List.getElem?_eq_none (by rw [QbN]; exact hj),List.getElem?_eq_none (by rw [QbN]; exact hj)]
theorem press_ref {c:Cir} {rd:Rd4} {p:Prs} {s:List Car × List Bool × List Bool} (hn:QP s.1) :
 QT c rd p s=if p.kind=3 then (s.1,s.2.1.set (Int.toNat p.block) true,s.2.2) else
  (match carO (s.1.map Car.spot) p.block with
    | none=>s
    | some i=>if p.kind=2 ∨ Wh c rd p=true then (s.1.set i ⟨⟨(s.1.getD i dC).spot.block,(s.1.getD i dC).spot.ran,p.kind == 1⟩,(s.1.getD i dC).stood⟩,s.2.1,if p.kind=1 then s.2.2.set (Int.toNat p.block) true else s.2.2) else s):=by
 unfold QT
 split
 · rfl
 · rename_i h3
   have hset:s.2.2.set (Int.toNat p.block) (s.2.2.getD (Int.toNat p.block) false || false)=s.2.2:=by
    rw [Bool.or_false]
    rcases Nat.lt_or_ge (Int.toNat p.block) s.2.2.length with h | h
    · exact Kk (getD_some h)
    · exact List.set_eq_of_length_le h
   rw [press_one hn,opsP,hit_any hn]
   cases hc:carO (s.1.map Car.spot) p.block with
   | none =>
    simp only [Bool.and_false]
    rw [hset]
   | some i =>
    simp only
    by_cases hop:p.kind=2 ∨ Wh c rd p=true
    · rw [if_pos hop,if_pos hop]
      by_cases h1:p.kind=1
      · have ho:Wh c rd p=true:=by rcases hop with h | h; omega; exact h
        rw [if_pos h1,ho,h1]; simp
      · rw [if_neg h1]
        have:(p.kind == 1)=false:=by simpa using h1
        rw [this,Bool.false_and,hset]
    · rw [if_neg hop,if_neg hop]
      have e2:(p.kind == 2)=false:=by simpa using fun h=>hop (.inl h)
      have e1:Wh c rd p=false:=by simpa using fun h=>hop (.inr h)
      rw [e2,e1,Bool.or_false,Bool.and_false,hset]
theorem free_a {T:Trk} (hsp:QL (Qj T)=false) (hn:0<T.c.blocks.length) {ops:List Bool} {b:Nat} (hb:b<T.c.blocks.length) :
 VX T.c (Qj T) ops b=((Xc T 2 b).a == 1 && (Xc T 3 b).a == 1 && !(ops.getD b false) && (Xc T 1 (Xg T.c b:Nat)).a == 0):=by
 have h1:=both_a hsp hb 1
 have h2:=both_a hsp (b:=Xg T.c b) (Nat.mod_lt _ hn) 0
 rw [VX,h1.2.1,h1.2.2,h2.1]
theorem open_a {T:Trk} (hsp:QL (Qj T)=false) {p:Prs} (hp:InC T.c p.block) :
 Wh T.c (Qj T) p=((bkAt T.c p.block).station && (Xc T 2 p.block).a == 1 && (Xc T 1 p.block).a == 1):=by
 have h1:=both_a hsp hp.2 1
 have e:((Int.toNat p.block:Nat):Int)=p.block:=by have:=hp.1; omega
 rw [e] at h1
 rw [Wh,h1.2.1,h1.1]
theorem arr_at3 {T:Trk} {b:Nat} (hb:b<T.c.blocks.length):(arrM T (3*T.c.blocks.length))[b]?=some (Xc T 1 b).a∧(arrM T (3*T.c.blocks.length))[T.c.blocks.length+b]?=some (Xc T 2 b).a∧(arrM T (3*T.c.blocks.length))[2*T.c.blocks.length+b]?=some (Xc T 3 b).a:=by
 have h1:=arr_at (T:=T) (k:=0) (by omega) hb
 have h2:=arr_at (T:=T) (k:=1) (by omega) hb
 have h3:=arr_at (T:=T) (k:=2) (by omega) hb
 rw [Nat.zero_mul,Nat.zero_add] at h1
 rw [Nat.one_mul] at h2
 exact ⟨h1,h2,h3⟩
/-- The brake. -/
theorem tick5 (T:Trk) (l:List Prs) (spots:List Spt) (stood:List Int) (go:List Bool) (stp:Bool) (g1 g2 g3:Nat) {E:Env} {stp2:Bool} {spots2:List Spt} {stood2:List Int} {go2:List Bool} (hE:LentE Try.prog 49 [.sl 3 g3 0 0 1] (.tup []) [⟨true,0,1,false,[.rsl (Qc T.c.blocks) 0 T.c.blocks.length,.rsl (rowI T.c.cars) 0 T.c.cars.length,.sl 1 g1 0 spots2.length 3,.sl 2 g2 0 stood2.length 1,.sl 3 g3 0 go2.length 1,.bool stp2],false⟩,⟨true,g1,3,true,(Qg spots2),true⟩,⟨true,g2,1,true,(rowI stood2),true⟩,⟨true,g3,1,true,(rowB go2),true⟩] E) (stp':Bool) (ops:List Bool) (cars0:List Car) (s0:Brk) (B:Int) (hB:0≤B∧B≤1000000)
 (hn:0<T.c.blocks.length∧T.c.blocks.length≤1000000) (hsp:QL (Qj T)=false) (ho:ops.length=T.c.blocks.length)
 (hs0:BrkIn T.c cars0 1000000000000 s0)
 (hfin:stp2=stp'∧spots2=(Qw T.c (Qj T) ops cars0 T.c.blocks.length s0).cars.map Car.spot∧stood2=(Qw T.c (Qj T) ops cars0 T.c.blocks.length s0).cars.map Car.stood∧go2=(Qw T.c (Qj T) ops cars0 T.c.blocks.length s0).gos) :
 ∀ (d b:Nat),b+d=T.c.blocks.length→qj E T.tick l T.faults T.c spots stood go stp g1 g2 g3 stp' ((Qw T.c (Qj T) ops cars0 b s0).cars.map Car.spot) ((Qw T.c (Qj T) ops cars0 b s0).cars.map Car.stood) (Qw T.c (Qj T) ops cars0 b s0).gos (arrM T (3*T.c.blocks.length)) ops (befN cars0 T.c.blocks.length T.c.blocks.length) b:=by
 intro d
 induction d with
 | zero =>
  intro b hb
  refine f49W5 T.tick l T.faults T.c spots stood go stp g1 g2 g3 _ _ _ _ _ _ _ b (rv:=()) hE ⟨fun h=>by omega,fun _=>?_⟩
  rw [show b=T.c.blocks.length by omega]
  exact hfin
 | succ d ih =>
  intro b hd
  have hb:b<T.c.blocks.length:=by omega
  have nx:=ih (b+1) (by omega)
  have hin:=hs0.all (rd:=Qj T) (ops:=ops) (b:=b)
  simp only [Qw] at nx
  generalize hs:Qw T.c (Qj T) ops cars0 b s0=s at nx hin
  have hnx:Xg T.c b<T.c.blocks.length:=Nat.mod_lt _ hn.1
  obtain ⟨a1,a2,a3⟩:=arr_at3 (T:=T) hb
  have a4:=(arr_at3 (T:=T) hnx).1
  have s3:ops[b]?=some (ops.getD b false):=getD_some (by rw [ho]; exact hb)
  have s5:s.gos[b]?=some (s.gos.getD b false):=getD_some (by rw [hin.lg]; exact hb)
  have s6:T.c.blocks[b]?=some (T.c.blocks.getD b ⟨0,false,0,false⟩):=getD_some hb
  have stay:Xz T.c (Qj T) ops cars0 b s=s→qj E T.tick l T.faults T.c spots stood go stp g1 g2 g3 stp' (s.cars.map Car.spot) (s.cars.map Car.stood) s.gos (arrM T (3*T.c.blocks.length)) ops (befN cars0 T.c.blocks.length T.c.blocks.length) (b+1):=fun h=>by rw [h] at nx; exact nx
  have hfr:=free_a hsp hn.1 (ops:=ops) hb
  have nofree:VX T.c (Qj T) ops b=false→Xz T.c (Qj T) ops cars0 b s=s:=fun h=>by rw [Xz,h]; rfl
  have hk:Int.toNat (2*(T.c.blocks.length:Int)+(b:Int))=2*T.c.blocks.length+b:=by omega
  refine f49W5 T.tick l T.faults T.c spots stood go stp g1 g2 g3 _ _ _ _ _ _ _ b (rv:=()) hE ⟨fun _=>⟨by omega,by omega,_,yD hb,?_⟩,fun h=>by omega⟩
  rw [if_pos hb,tmod_next hn.1,hk,carS,carO_map]
  cases hc:Vv cars0 b cars0.length with
  | none =>
   have st:Xz T.c (Qj T) ops cars0 b s=s:=by unfold Xz; rw [hc]; split <;> rfl
   exact ⟨fun _=>⟨by omega,stay st⟩,fun h=>by simp at h⟩
  | some i =>
   dsimp only
   obtain ⟨hi,-,-⟩:=QS hc
   have hil:i<s.cars.length:=by rw [hin.lc]; exact hi
   have hspot:(s.cars.map Car.spot)[Int.toNat (i:Int)]?=some (s.cars.getD i dC).spot:=by rw [Int.toNat_natCast,List.getElem?_map,getD_some (d:=dC) hil]; rfl
   have hstood:(s.cars.map Car.stood)[Int.toNat (i:Int)]?=some (s.cars.getD i dC).stood:=by rw [Int.toNat_natCast,List.getElem?_map,getD_some (d:=dC) hil]; rfl
   have hset:∀ y:Spt,((s.cars.map Car.spot).set (Int.toNat (i:Int)) y)[Int.toNat (i:Int)]?=some y:=fun y=>List.getElem?_set_self (by rw [List.length_map]; exact hil)
   have mv:VX T.c (Qj T) ops b=true→YF T.c s b i=false→qj E T.tick l T.faults T.c spots stood go stp g1 g2 g3 stp' (((s.cars.map Car.spot).set (Int.toNat (i:Int)) ⟨((Xg T.c b:Nat):Int),(s.cars.getD i dC).spot.ran,(s.cars.getD i dC).spot.opn⟩).set (Int.toNat (i:Int)) ⟨((Xg T.c b:Nat):Int),0,(s.cars.getD i dC).spot.opn⟩) ((s.cars.map Car.stood).set (Int.toNat (i:Int)) 0) (s.gos.set b false) (arrM T (3*T.c.blocks.length)) ops (befN cars0 T.c.blocks.length T.c.blocks.length) (b+1):=fun h1 h2=>by
    have e:Xz T.c (Qj T) ops cars0 b s=goB T.c s b i:=by unfold Xz; rw [if_pos h1,hc]; simp only [h2]; simp
    rw [e] at nx
    simp only [goB,Wj] at nx
    rw [List.set_set,Int.toNat_natCast]
    exact nx
   refine ⟨fun h=>absurd h (by omega),fun _=>⟨by omega,_,a2,fun e1=>⟨by omega,stay (nofree ?_)⟩,fun e1=>⟨by omega,by omega,by omega,_,a3,fun e2=>⟨by omega,stay (nofree ?_)⟩,fun e2=>⟨_,s3,fun e3=>⟨by omega,stay (nofree ?_)⟩,fun e3=>⟨by omega,_,a4,fun e4=>⟨by omega,stay (nofree ?_)⟩,fun e4=>?_⟩⟩⟩⟩⟩
   · rw [hfr,show ((Xc T 2 b).a == 1)=false by simpa using e1]; rfl
   · rw [hfr,show ((Xc T 3 b).a == 1)=false by simpa using e2]; simp
   · rw [hfr,e3]; simp
   · rw [hfr,show ((Xc T 1 (Xg T.c b:Nat)).a == 0)=false by simpa using e4]; simp
   have hfree:VX T.c (Qj T) ops b=true:=by rw [hfr,e1,e2,e3,e4]; rfl
   have wait:YF T.c s b i=true→Xz T.c (Qj T) ops cars0 b s=s:=fun h=>by unfold Xz; rw [if_pos hfree,hc]; simp only [h,if_true]
   refine ⟨_,s6,fun st=>⟨_,s5,fun q=>⟨by omega,stay (wait (by rw [YF,st,q]; rfl))⟩,fun q=>⟨by omega,_,hstood,fun hw=>⟨by omega,stay (wait (by rw [YF,decide_eq_true hw]; simp [-List.getD_eq_getElem?_getD,st]))⟩,fun hw=>?_⟩⟩,fun st=>?_⟩
   · exact ⟨by omega,_,hspot,by omega,_,hset _,by omega,mv hfree (by rw [YF,q,decide_eq_false hw]; simp)⟩
   · exact ⟨by omega,_,hspot,by omega,_,hset _,by omega,_,hstood,_,s5,by omega,mv hfree (by rw [YF,st]; rfl)⟩
/-- Where the cars are before the step. -/
theorem tick4 (T:Trk) (l:List Prs) (spots:List Spt) (stood:List Int) (go:List Bool) (stp:Bool) (g1 g2 g3:Nat) {E:Env} {stp2:Bool} {spots2:List Spt} {stood2:List Int} {go2:List Bool} (hE:LentE Try.prog 49 [.sl 3 g3 0 0 1] (.tup []) [⟨true,0,1,false,[.rsl (Qc T.c.blocks) 0 T.c.blocks.length,.rsl (rowI T.c.cars) 0 T.c.cars.length,.sl 1 g1 0 spots2.length 3,.sl 2 g2 0 stood2.length 1,.sl 3 g3 0 go2.length 1,.bool stp2],false⟩,⟨true,g1,3,true,(Qg spots2),true⟩,⟨true,g2,1,true,(rowI stood2),true⟩,⟨true,g3,1,true,(rowB go2),true⟩] E) (stp':Bool) (ops:List Bool) (cars0:List Car) (gos:List Bool) (rounds gone:Int)
 (hn:0<T.c.blocks.length∧T.c.blocks.length≤1000000) (hsp:QL (Qj T)=false) (ho:ops.length=T.c.blocks.length)
 (hs0:BrkIn T.c cars0 1000000000000 ⟨cars0,gos,rounds,gone⟩) (hcl:cars0.length≤1000000) (hci:∀ x ∈ cars0,InC T.c x.spot.block)
 (hfin:stp2=stp'∧spots2=(Qw T.c (Qj T) ops cars0 T.c.blocks.length ⟨cars0,gos,rounds,gone⟩).cars.map Car.spot∧stood2=(Qw T.c (Qj T) ops cars0 T.c.blocks.length ⟨cars0,gos,rounds,gone⟩).cars.map Car.stood∧go2=(Qw T.c (Qj T) ops cars0 T.c.blocks.length ⟨cars0,gos,rounds,gone⟩).gos) :
 f49G4 E T.tick l T.faults T.c spots stood go stp g1 g2 g3 stp' (cars0.map Car.spot) (cars0.map Car.stood) gos (arrM T (3*T.c.blocks.length)) ops (List.replicate T.c.blocks.length 0) 0:=by
 have loop:∀ (d b:Nat),b+d=T.c.blocks.length→f49G4 E T.tick l T.faults T.c spots stood go stp g1 g2 g3 stp' (cars0.map Car.spot) (cars0.map Car.stood) gos (arrM T (3*T.c.blocks.length)) ops (befN cars0 T.c.blocks.length b) b:=by
  intro d
  induction d with
  | zero =>
   intro b hb
   refine f49W4 T.tick l T.faults T.c spots stood go stp g1 g2 g3 _ _ _ _ _ _ _ b (rv:=()) hE ⟨fun h=>by omega,fun _=>?_⟩
   rw [show b=T.c.blocks.length by omega]
   exact tick5 T l spots stood go stp g1 g2 g3 hE stp' ops cars0 _ 0 ⟨by omega,by omega⟩ hn hsp ho hs0 hfin T.c.blocks.length 0 (by omega)
  | succ d ih =>
   intro b hb
   have nx:=ih (b+1) (by omega)
   rw [← bef_set (by omega)] at nx
   exact f49W4 T.tick l T.faults T.c spots stood go stp g1 g2 g3 _ _ _ _ _ _ _ b (rv:=()) hE ⟨fun _=>⟨⟨by rw [List.length_map]; exact hcl,fun x hx=>by obtain ⟨y,hy,rfl⟩:=List.mem_map.1 hx; exact hci y hy⟩,_,yD (by omega),by omega,nx⟩,fun h=>by omega⟩
 rw [← bef_zero (cars:=cars0)]
 exact loop T.c.blocks.length 0 (by omega)
theorem QaW {c:Cir} {rd:Rd4} {tick:Int}:∀ {l:List Prs} {s:List Car × List Bool × List Bool},(l.foldl (Xs c rd tick) s).1.map Car.stood=s.1.map Car.stood
 | [],s=>rfl
 | p :: l,s=>by
  simp only [List.foldl_cons]
  rw [QaW]
  unfold Xs
  split
  · unfold QT
    split
    · rfl
    · exact press_stood
  · rfl
/-- What is pressed. -/
theorem tick3 (T:Trk) (l:List Prs) (spots:List Spt) (stood:List Int) (go:List Bool) (stp:Bool) (g1 g2 g3:Nat) {E:Env} {stp2:Bool} {spots2:List Spt} {stood2:List Int} {go2:List Bool} (hE:LentE Try.prog 49 [.sl 3 g3 0 0 1] (.tup []) [⟨true,0,1,false,[.rsl (Qc T.c.blocks) 0 T.c.blocks.length,.rsl (rowI T.c.cars) 0 T.c.cars.length,.sl 1 g1 0 spots2.length 3,.sl 2 g2 0 stood2.length 1,.sl 3 g3 0 go2.length 1,.bool stp2],false⟩,⟨true,g1,3,true,(Qg spots2),true⟩,⟨true,g2,1,true,(rowI stood2),true⟩,⟨true,g3,1,true,(rowB go2),true⟩] E) (stp':Bool) (s0:List Car × List Bool × List Bool) (rounds gone B:Int) (hB:B≤1000000)
 (hn:0<T.c.blocks.length∧T.c.blocks.length≤1000000) (hsp:QL (Qj T)=false)
 (hp0:PresOk T.c B s0.1.length s0) (hcl:s0.1.length≤1000000) (hl:l.length≤2147483648) (hpr:Qaq T.c l)
 (hr:-1000000000000≤rounds∧rounds≤1000000000000) (hg:-1000000000000≤gone∧gone≤1000000000000)
 (hfin:∀ s,s=l.foldl (Xs T.c (Qj T) T.tick) s0→stp2=stp'∧spots2=(Qw T.c (Qj T) s.2.2 s.1 T.c.blocks.length ⟨s.1,s.2.1,rounds,gone⟩).cars.map Car.spot∧stood2=(Qw T.c (Qj T) s.2.2 s.1 T.c.blocks.length ⟨s.1,s.2.1,rounds,gone⟩).cars.map Car.stood∧go2=(Qw T.c (Qj T) s.2.2 s.1 T.c.blocks.length ⟨s.1,s.2.1,rounds,gone⟩).gos) :
 ∀ (d i:Nat) (s:List Car × List Bool × List Bool),i+d=l.length→s=(l.take i).foldl (Xs T.c (Qj T) T.tick) s0→Wo E T.tick l T.faults T.c spots stood go stp g1 g2 g3 stp' (s.1.map Car.spot) (s0.1.map Car.stood) (arrM T (3*T.c.blocks.length)) s.2.2 i s.2.1:=by
 intro d
 induction d with
 | zero =>
  intro i s hi hs
  rw [show i=l.length by omega,List.take_length] at hs
  have hp:PresOk T.c B s0.1.length s:=by rw [hs]; exact PresOk.fold hp0
  have hst:s.1.map Car.stood=s0.1.map Car.stood:=by rw [hs]; exact QaW
  refine f49W3 T.tick l T.faults T.c spots stood go stp g1 g2 g3 _ _ _ _ _ i _ (rv:=()) hE ⟨fun h=>by omega,fun _=>⟨by omega,?_⟩⟩
  rw [← hst]
  exact tick4 T l spots stood go stp g1 g2 g3 hE stp' s.2.2 s.1 s.2.1 rounds gone hn hsp hp.lo ⟨rfl,hp.lg,hr,hg⟩ (by rw [hp.lc]; exact hcl) (fun x hx=>(hp.car x hx).inC) (hfin s hs)
 | succ d ih =>
  intro i s hi hs
  have hx:l[i]?=some l[i]:=List.getElem?_eq_getElem (by omega)
  generalize l[i]=p at hx
  obtain ⟨hpin,hpk⟩:=hpr p (List.mem_of_getElem? hx)
  have hp:PresOk T.c B s0.1.length s:=by rw [hs]; exact PresOk.fold hp0
  have nx:=fun s' (e:s'=Xs T.c (Qj T) T.tick s p)=>ih (i+1) s' (by omega) (by rw [Vh hx,← hs]; exact e)
  have pz:((Int.toNat p.block:Nat):Int)=p.block:=by have:=hpin.1; omega
  obtain ⟨a1,a2,-⟩:=arr_at3 (T:=T) hpin.2
  rw [pz] at a1 a2
  have hko:Int.toNat ((T.c.blocks.length:Int)+p.block)=T.c.blocks.length+Int.toNat p.block:=by have:=hpin.1; omega
  have hb2:=hpin.2
  have hb1:=hpin.1
  have q3:s.2.1[Int.toNat p.block]?=some (s.2.1.getD (Int.toNat p.block) false):=getD_some (by rw [hp.lg]; exact hpin.2)
  have q5:s.2.2[Int.toNat p.block]?=some (s.2.2.getD (Int.toNat p.block) false):=getD_some (by rw [hp.lo]; exact hpin.2)
  have hop:=open_a hsp hpin
  refine f49W3 T.tick l T.faults T.c spots stood go stp g1 g2 g3 _ _ _ _ _ i _ (rv:=()) hE ⟨fun _=>⟨p,hx,fun e=>⟨by omega,nx s (by rw [Xs,if_neg e])⟩,fun e=>⟨⟨by rw [List.length_map,hp.lc]; exact hcl,fun x hx=>by obtain ⟨y,hy,rfl⟩:=List.mem_map.1 hx; exact (hp.car y hy).inC⟩,?_⟩⟩,fun h=>by omega⟩
  have nx1:=nx _ rfl
  rw [Xs,if_pos e,press_ref hp.ns] at nx1
  rw [hko]
  have stay:p.kind ≠ 3→(carO (s.1.map Car.spot) p.block=none ∨ (p.kind ≠ 2∧Wh T.c (Qj T) p=false))→(-9223372036854775808≤(i:Int)+1∧(i:Int)+1≤9223372036854775807)∧Wo E T.tick l T.faults T.c spots stood go stp g1 g2 g3 stp' (s.1.map Car.spot) (s0.1.map Car.stood) (arrM T (3*T.c.blocks.length)) s.2.2 (i+1) s.2.1:=fun h3 h=>by
   refine ⟨by omega,?_⟩
   rw [if_neg h3] at nx1
   rcases h with h | ⟨h1,h2⟩
   · rw [h] at nx1; exact nx1
   · cases hc:carO (s.1.map Car.spot) p.block with
     | none=>rw [hc] at nx1; exact nx1
     | some k =>
      rw [hc] at nx1
      simp only at nx1
      rw [if_neg (by rw [h2]; simp [h1])] at nx1
      exact nx1
  have car:∀ k,carO (s.1.map Car.spot) p.block=some k→carS (s.1.map Car.spot) p.block=(k:Int)∧(s.1.map Car.spot)[Int.toNat (k:Int)]?=some (s.1.getD k dC).spot:=fun k hk=>by
   have h1:=(Wb hk).1
   rw [List.length_map] at h1
   exact ⟨by rw [carS,hk],by rw [Int.toNat_natCast,List.getElem?_map,getD_some (d:=dC) h1]; rfl⟩
  have nocar:carO (s.1.map Car.spot) p.block=none→carS (s.1.map Car.spot) p.block=-1:=fun hk=>by rw [carS,hk]
  refine ⟨fun k1=>⟨hpin.1,_,yC hpin,fun st=>⟨by omega,by omega,_,a2,fun e1=>⟨hpin.1,_,a1,fun e2=>?_,fun e2=>stay (by omega) (.inr ⟨by omega,?_⟩)⟩,fun e1=>stay (by omega) (.inr ⟨by omega,?_⟩)⟩,fun st=>stay (by omega) (.inr ⟨by omega,?_⟩)⟩,fun k1=>⟨fun k2=>?_,fun k2=>⟨fun k3=>⟨hpin.1,_,q3,by omega,?_⟩,fun k3=>by omega⟩⟩⟩
  · have ho:Wh T.c (Qj T) p=true:=by rw [hop,st,e1,e2]; rfl
    cases hc:carO (s.1.map Car.spot) p.block with
    | none =>
     rw [nocar hc]
     exact ⟨fun h=>absurd h (by omega),fun _=>stay (by omega) (.inl hc)⟩
    | some k =>
     obtain ⟨c1,c2⟩:=car k hc
     rw [c1]
     refine ⟨fun _=>⟨by omega,_,c2,hpin.1,_,q5,by omega,?_⟩,fun h=>absurd (by omega) h⟩
     rw [if_neg (by omega),hc] at nx1
     simp only at nx1
     rw [if_pos (.inr ho),if_pos k1,Wj,show (p.kind == 1)=true by simpa using k1] at nx1
     exact nx1
  · rw [hop,show ((Xc T 1 p.block).a == 1)=false by simpa using e2]; simp
  · rw [hop,show ((Xc T 2 p.block).a == 1)=false by simpa using e1]; simp
  · rw [hop,st]; rfl
  · cases hc:carO (s.1.map Car.spot) p.block with
    | none =>
     rw [nocar hc]
     exact ⟨fun h=>absurd h (by omega),fun _=>stay (by omega) (.inl hc)⟩
    | some k =>
     obtain ⟨c1,c2⟩:=car k hc
     rw [c1]
     refine ⟨fun _=>⟨by omega,_,c2,by omega,?_⟩,fun h=>absurd (by omega) h⟩
     rw [if_neg (by omega),hc] at nx1
     simp only at nx1
     rw [if_pos (.inl k2),if_neg k1,Wj,show (p.kind == 1)=false by simpa using k1] at nx1
     exact nx1
  · rw [if_pos k3] at nx1
    exact nx1
/-- What the switches say. -/
theorem tick12 (T:Trk) (l:List Prs) (spots:List Spt) (stood:List Int) (go:List Bool) (stp:Bool) (g1 g2 g3:Nat) {E:Env} {stp2:Bool} {spots2:List Spt} {stood2:List Int} {go2:List Bool} (hE:LentE Try.prog 49 [.sl 3 g3 0 0 1] (.tup []) [⟨true,0,1,false,[.rsl (Qc T.c.blocks) 0 T.c.blocks.length,.rsl (rowI T.c.cars) 0 T.c.cars.length,.sl 1 g1 0 spots2.length 3,.sl 2 g2 0 stood2.length 1,.sl 3 g3 0 go2.length 1,.bool stp2],false⟩,⟨true,g1,3,true,(Qg spots2),true⟩,⟨true,g2,1,true,(rowI stood2),true⟩,⟨true,g3,1,true,(rowB go2),true⟩] E) (stp0:Bool) (gos:List Bool) (hn:0<T.c.blocks.length∧T.c.blocks.length≤1000000) (hns:QP T.cars) (hcl:T.cars.length≤1000000) (hci:∀ x ∈ T.cars,InC T.c x.spot.block)
 (hfl:∀ f ∈ T.faults,f.chan=0 ∨ f.chan=1) (hfn:T.faults.length≤1000000) (hgo:gos=go)
 (hstop:(stp0 || QL (Qj T))=true→stp2=true∧spots2=T.cars.map Car.spot∧stood2=T.cars.map Car.stood∧go2=gos)
 (hgo3:(stp0 || QL (Qj T))=false→Wo E T.tick l T.faults T.c spots stood go stp g1 g2 g3 false (T.cars.map Car.spot) (T.cars.map Car.stood) (arrM T (3*T.c.blocks.length)) (List.replicate T.c.blocks.length false) 0 gos) :
 QaC E T.tick l T.faults T.c spots stood go stp g1 g2 g3 (T.cars.map Car.spot) (T.cars.map Car.stood) (List.replicate (3*T.c.blocks.length) 0) 1 stp0:=by
 have hrn:RnIn (⟨T.c,T.cars.map Car.spot,T.cars.map Car.stood,go,stp0⟩:Rn):=⟨by simp only [List.length_map]; exact hcl,fun x hx=>by obtain ⟨y,hy,rfl⟩:=List.mem_map.1 hx; exact hci y hy⟩
 have outer:∀ (e k:Nat),k+e=3→QaC E T.tick l T.faults T.c spots stood go stp g1 g2 g3 (T.cars.map Car.spot) (T.cars.map Car.stood) (arrM T (k*T.c.blocks.length)) (k+1) (splM T stp0 (k*T.c.blocks.length)):=by
  intro e
  induction e with
  | zero =>
   intro k hk
   rw [show k=3 by omega]
   refine f49W1 T.tick l T.faults T.c spots stood go stp g1 g2 g3 _ _ _ 4 _ (rv:=()) hE ⟨fun h=>absurd h (by omega),fun _=>⟨fun h=>?_,fun h=>⟨by omega,?_⟩⟩⟩
   · rw [h]; rw [Qbx] at h; obtain ⟨x1,x2,x3,x4⟩:=hstop h; exact ⟨x1,x2,x3,by rw [x4,hgo]⟩
   · rw [h]; rw [Qbx] at h; have:=hgo3 h; rw [hgo] at this; exact this
  | succ e ihe =>
   intro k hk
   have nx:=ihe (k+1) (by omega)
   have hmul:k*T.c.blocks.length+T.c.blocks.length≤3*T.c.blocks.length:=by rw [← Nat.succ_mul]; exact Nat.mul_le_mul_right _ (by omega)
   have inner:∀ (d b:Nat),b+d=T.c.blocks.length→f49G2 E T.tick l T.faults T.c spots stood go stp g1 g2 g3 (T.cars.map Car.spot) (T.cars.map Car.stood) (arrM T (k*T.c.blocks.length+b)) b (splM T stp0 (k*T.c.blocks.length+b)) (k+1):=by
    intro d
    induction d with
    | zero =>
     intro b hb
     refine f49W2 T.tick l T.faults T.c spots stood go stp g1 g2 g3 _ _ _ b _ (k+1) (rv:=()) hE ⟨fun h=>by omega,fun _=>⟨by omega,?_⟩⟩
     rw [show k*T.c.blocks.length+b=(k+1)*T.c.blocks.length by rw [Nat.succ_mul]; omega]
     exact nx
    | succ d ih =>
     intro b hb
     have hbl:b<T.c.blocks.length:=by omega
     have nx2:=ih (b+1) (by omega)
     rw [show k*T.c.blocks.length+(b+1)=k*T.c.blocks.length+b+1 by omega,spl_next,← arr_set (by omega),qG hbl] at nx2
     have hk1:(((k+1:Nat):Int) - 1)=(k:Int):=by omega
     have hkk:(k:Int)*(T.c.blocks.length:Int)=((k*T.c.blocks.length:Nat):Int):=by rw [Int.natCast_mul]
     have hss:=said_says (T:=T) (kind:=((k+1:Nat):Int)) (b:=(b:Int)) hfl hns (by omega)
     refine f49W2 T.tick l T.faults T.c spots stood go stp g1 g2 g3 _ _ _ b _ (k+1) (rv:=()) hE ⟨fun _=>?_,fun h=>by omega⟩
     rw [hk1,hkk]
     have ht:Int.toNat (((k*T.c.blocks.length:Nat):Int)+(b:Int))=k*T.c.blocks.length+b:=by omega
     rw [ht]
     rw [hss.1] at nx2
     refine ⟨by omega,by omega,by omega,⟨hrn,by omega⟩,by omega,_,yE (by omega),⟨hrn,by omega⟩,by omega,_,List.getElem?_set_self (by rw [Qan]; omega),fun hne=>⟨by omega,?_⟩,fun heq=>⟨by omega,?_⟩⟩
     · rw [Qy,hss.1,hss.2,show ((Yt T.faults ((k+1:Nat):Int) 0 b T.tick (XN T.c (T.cars.map Car.spot) ((k+1:Nat):Int) b)) != (Yt T.faults ((k+1:Nat):Int) 1 b T.tick (XN T.c (T.cars.map Car.spot) ((k+1:Nat):Int) b)))=true by simpa using fun h=>hne h.symm,Bool.or_true] at nx2
       exact nx2
     · rw [Qy,hss.1,hss.2,show ((Yt T.faults ((k+1:Nat):Int) 0 b T.tick (XN T.c (T.cars.map Car.spot) ((k+1:Nat):Int) b)) != (Yt T.faults ((k+1:Nat):Int) 1 b T.tick (XN T.c (T.cars.map Car.spot) ((k+1:Nat):Int) b)))=false by simpa using heq.symm,Bool.or_false] at nx2
       exact nx2
   exact f49W1 T.tick l T.faults T.c spots stood go stp g1 g2 g3 _ _ _ (k+1) _ (rv:=()) hE ⟨fun _=>inner T.c.blocks.length 0 (by omega),fun h=>absurd (by omega) h⟩
 have h0:=outer 3 0 (by omega)
 rw [Nat.zero_mul,arr_zero,show splM T stp0 0=stp0 by simp [splM]] at h0
 exact h0
end Go.Proofs.Ytgdfkjjgdkejfaa
namespace Go.Proofs.Ytgdfkjjgdkejfaa
open Go Ax
open Go.Proofs
def stpT (T:Trk):Bool:=decide (0≤T.stopped)
theorem mapTo_get' {c:Cir} {cars:List Car} {i:Nat} (h:i<cars.length):(Ym (Qo c) cars i)[i]?=some (cars.getD i dC):=by
 rw [qN h]; congr 1; simp [List.getD,h]
theorem rest_spot {c:Cir} {x:Car}:Vg c x.spot=Xp c x:=rfl
theorem tick_ok (T:Trk) (l:List Prs) (g1 g2 g3:Nat) (h:qp T l∧TT T) :
 Lent Try.prog 49 [.ptr 0 0 0,.int .i64 T.tick,.rsl (Qs l) 0 l.length,.rsl (Qi T.faults) 0 T.faults.length] [⟨true,0,1,false,[.rsl (Qc T.c.blocks) 0 T.c.blocks.length,.rsl (rowI T.c.cars) 0 T.c.cars.length,.sl 1 g1 0 (T.cars.map Car.spot).length 3,.sl 2 g2 0 (T.cars.map Car.stood).length 1,.sl 3 g3 0 T.gos.length 1,.bool (stpT T)],false⟩,⟨true,g1,3,true,(Qg (T.cars.map Car.spot)),true⟩,⟨true,g2,1,true,(rowI (T.cars.map Car.stood)),true⟩,⟨true,g3,1,true,(rowB T.gos),true⟩] (.tup []) [⟨true,0,1,false,[.rsl (Qc T.c.blocks) 0 T.c.blocks.length,.rsl (rowI T.c.cars) 0 T.c.cars.length,.sl 1 g1 0 ((Qu T l).cars.map Car.spot).length 3,.sl 2 g2 0 ((Qu T l).cars.map Car.stood).length 1,.sl 3 g3 0 (Qu T l).gos.length 1,.bool (stpT (Qu T l))],false⟩,⟨true,g1,3,true,(Qg ((Qu T l).cars.map Car.spot)),true⟩,⟨true,g2,1,true,(rowI ((Qu T l).cars.map Car.stood)),true⟩,⟨true,g3,1,true,(rowB (Qu T l).gos),true⟩]:=ym _ Try.func49 f49b rfl rfl fun E hE=>by
 obtain ⟨⟨B,h,hB,hpr,hl⟩,htt⟩:=h
 have hn:=h.nb
 have hlc:=h.lc
 have htk:=h.tk
 have hrn:RnIn (⟨T.c,T.cars.map Car.spot,T.cars.map Car.stood,T.gos,stpT T⟩:Rn):=⟨by simp only [List.length_map]; exact h.lc,fun x hx=>by obtain ⟨y,hy,rfl⟩:=List.mem_map.1 hx; exact (h.car y hy).inC⟩
 refine f49W T.tick l T.faults T.c (T.cars.map Car.spot) (T.cars.map Car.stood) T.gos (stpT T) g1 g2 g3 (rv:=()) hE ⟨hrn,fun hw=>?_,fun hw=>?_⟩
 · have hw:T.wrecked=true:=by rw [htt.wr,Vt htt.ct]; exact hw
   have e:Qu T l=⟨T.c,T.faults,T.cars,T.gos,T.tick+1,T.stopped,T.wrecked,T.rounds,T.gone⟩:=by unfold Qu; rw [if_pos hw]
   rw [e]
   exact ⟨rfl,rfl,rfl,rfl⟩
 · have hw:T.wrecked=false:=by rw [htt.wr,Vt htt.ct]; exact hw
   have hS:Qu T l=⟨T.c,T.faults,(actT T l).cars,(actT T l).gos,T.tick+1,Yf T,YZ T.c (actT T l).cars,(actT T l).rounds,(actT T l).gone⟩:=by unfold Qu; rw [if_neg (by rw [hw]; simp)]
   have hrd:=h.rd
   have hgn:=h.gn
   have hstp:(stpT T || QL (Qj (midT T)))=decide (¬ Yf T<0):=by
    unfold stpT Yf
    by_cases h0:T.stopped<0
    · rw [if_pos h0,decide_eq_false (show ¬ 0≤T.stopped by omega),Bool.false_or]
      cases QL (Qj (midT T)) with
      | true=>rw [if_pos rfl]; simp; omega
      | false=>rw [if_neg (by simp)]; simp [h0]
    · rw [if_neg h0,decide_eq_true (show 0≤T.stopped by omega),Bool.true_or]; simp; omega
   -- behind the roll
   have main:QaC E T.tick l T.faults T.c (T.cars.map Car.spot) (T.cars.map Car.stood) T.gos (stpT T) g1 g2 g3 ((QM T).map Car.spot) ((QM T).map Car.stood) (List.replicate (3*T.c.blocks.length) 0) 1 (stpT T):=by
    refine tick12 (midT T) l (T.cars.map Car.spot) (T.cars.map Car.stood) T.gos (stpT T) g1 g2 g3 hE (stpT T) T.gos hn (YN (h.ns hw)) (by show (QM T).length≤_; rw [QX]; exact hlc) (fun x hx=>(Yi h x hx).inC) h.flt h.lf rfl (fun hs=>?_) (fun hs=>?_)
    · rw [hstp,decide_eq_true_eq] at hs
      have e:actT T l=⟨QM T,T.gos,T.rounds,T.gone⟩:=by unfold actT; rw [if_neg hs]
      rw [hS,e]
      exact ⟨by simp only [stpT]; exact decide_eq_true (by omega),rfl,rfl,rfl⟩
    · have hsp:QL (Qj (midT T))=false:=by
       have:=Bool.or_eq_false_iff.1 hs; exact this.2
      rw [hstp] at hs
      have hs:Yf T<0:=by simpa using hs
      have e:actT T l=Ve T l:=by unfold actT; rw [if_pos hs]
      have hp:=qx (l:=l) h hw
      have hp0:PresOk T.c (B+1) (QM T).length (QM T,T.gos,List.replicate T.c.blocks.length false):=⟨rfl,h.lg,by simp,Yi h,YN (h.ns hw)⟩
      have h3:=tick3 (midT T) l (T.cars.map Car.spot) (T.cars.map Car.stood) T.gos (stpT T) g1 g2 g3 hE false (QM T,T.gos,List.replicate T.c.blocks.length false) T.rounds T.gone (B+1) (by omega) hn hsp hp0 (by show (QM T).length≤_; rw [QX]; exact hlc) hl hpr (by omega) (by omega) (fun s hs'=>by
       have e2:Qw (midT T).c (Qj (midT T)) s.2.2 s.1 (midT T).c.blocks.length ⟨s.1,s.2.1,T.rounds,T.gone⟩=Ve T l:=by rw [hs']; rfl
       rw [hS,e,e2]
       exact ⟨by simp only [stpT]; exact decide_eq_false (by omega),rfl,rfl,rfl⟩) l.length 0 _ (by omega) rfl
      exact h3
   have fin:∀ i:Nat,(¬ (i:Int)<(((Ym (Qo T.c) T.cars i).map Car.spot).length:Nat) ∨ ¬ T.tick > 0)→i≤T.cars.length→(i=0 ∨ T.tick > 0)→QaC E T.tick l T.faults T.c (T.cars.map Car.spot) (T.cars.map Car.stood) T.gos (stpT T) g1 g2 g3 ((Ym (Qo T.c) T.cars i).map Car.spot) ((Ym (Qo T.c) T.cars i).map Car.stood) (List.replicate (Int.toNat (3*(T.c.blocks.length:Int))) 0) 1 (stpT T):=fun i hi hle hi0=>by
    rw [show Int.toNat (3*(T.c.blocks.length:Int))=3*T.c.blocks.length by omega]
    have e:Ym (Qo T.c) T.cars i=QM T:=by
     unfold QM
     rcases hi0 with rfl | h0
     · split
       · rename_i ht
         rcases hi with hi | hi
         · rw [List.length_map,Vp] at hi
           have:T.cars=[]:=List.eq_nil_of_length_eq_zero (by omega)
           rw [this]; rfl
         · exact absurd ht hi
       · exact WR
     · rw [if_pos h0]
       rcases hi with hi | hi
       · rw [List.length_map,Vp] at hi
         rw [show i=T.cars.length by omega]; exact KT
       · exact absurd h0 hi
    rw [e]; exact main
   have loop:∀ (d i:Nat),i+d=T.cars.length→(i=0 ∨ T.tick > 0)→f49G0 E T.tick l T.faults T.c (T.cars.map Car.spot) (T.cars.map Car.stood) T.gos (stpT T) g1 g2 g3 i ((Ym (Qo T.c) T.cars i).map Car.stood) ((Ym (Qo T.c) T.cars i).map Car.spot):=by
    intro d
    induction d with
    | zero =>
     intro i hi h0
     refine f49W0 T.tick l T.faults T.c (T.cars.map Car.spot) (T.cars.map Car.stood) T.gos (stpT T) g1 g2 g3 i _ _ (rv:=()) hE ⟨fun h=>?_,fun hh=>⟨by omega,by omega,fin i (.inl hh) (by omega) h0⟩⟩
     rw [List.length_map,Vp] at h; omega
    | succ d ih =>
     intro i hi h0
     have hil:i<T.cars.length:=by omega
     refine f49W0 T.tick l T.faults T.c (T.cars.map Car.spot) (T.cars.map Car.stood) T.gos (stpT T) g1 g2 g3 i _ _ (rv:=()) hE ⟨fun _=>⟨fun ht=>?_,fun ht=>⟨by omega,by omega,fin i (.inr ht) (by omega) h0⟩⟩,fun hh=>?_⟩
     · have nx:=ih (i+1) (by omega) (.inr ht)
       have hx:=mapTo_get' (c:=T.c) hil
       have hxs:((Ym (Qo T.c) T.cars i).map Car.spot)[i]?=some (T.cars.getD i dC).spot:=by rw [List.getElem?_map,hx]; rfl
       have hxt:((Ym (Qo T.c) T.cars i).map Car.stood)[i]?=some (T.cars.getD i dC).stood:=by rw [List.getElem?_map,hx]; rfl
       have hcb:=h.car _ (List.mem_of_getElem? (getD_some (d:=dC) hil))
       have hgd:((Ym (Qo T.c) T.cars i).map Car.spot).getD (Int.toNat (i:Int)) dS=(T.cars.getD i dC).spot:=by rw [Int.toNat_natCast,List.getD_eq_getElem?_getD,hxs]; rfl
       have hset:(Ym (Qo T.c) T.cars i).set i (Qo T.c (T.cars.getD i dC))=Ym (Qo T.c) T.cars (i+1):=by
        have:=qM (f:=Qo T.c) hil
        rw [← this]; congr 1; simp [List.getD,hil]
       have hrun:=hcb.ran
       have hsto:=hcb.stood
       refine ⟨⟨⟨by simp only [List.length_map,Vp]; exact hlc,fun x hx=>?_⟩,by omega,by simp only [List.length_map,Vp]; omega⟩,fun hr=>?_,fun hr=>?_⟩
       · obtain ⟨y,hy,rfl⟩:=List.mem_map.1 hx
         have:∀ y ∈ Ym (Qo T.c) T.cars i,CarB T.c (B+1) y:=by
          intro y hy
          rw [Ym] at hy
          rcases List.mem_append.1 hy with hy | hy
          · obtain ⟨z,hz,rfl⟩:=List.mem_map.1 hy
            exact (h.car z (List.mem_of_mem_take hz)).roll
          · exact (h.car y (List.mem_of_mem_drop hy)).up (by omega)
         exact (this y hy).inC
       · simp only [hgd,rest_spot] at hr
         have er:Qo T.c (T.cars.getD i dC)=⟨(T.cars.getD i dC).spot,(T.cars.getD i dC).stood+1⟩:=by rw [Qo,if_pos hr]
         refine ⟨_,hxt,by omega,by omega,?_⟩
         rw [← hset,er,Wj,Wj,Kk hxs] at nx
         exact nx
       · simp only [hgd,rest_spot] at hr
         have er:Qo T.c (T.cars.getD i dC)=⟨⟨(T.cars.getD i dC).spot.block,(T.cars.getD i dC).spot.ran+1,(T.cars.getD i dC).spot.opn⟩,(T.cars.getD i dC).stood⟩:=by rw [Qo,if_neg (by rw [hr]; simp)]
         refine ⟨_,hxs,by omega,by omega,?_⟩
         rw [← hset,er,Wj,Wj,Kk hxt] at nx
         exact nx
     · rw [List.length_map,Vp] at hh; omega
   have h0:=loop T.cars.length 0 (by omega) (.inl rfl)
   rw [WR] at h0
   exact h0
end Go.Proofs.Ytgdfkjjgdkejfaa
namespace Go.Proofs.Ytgdfkjjgdkejfaa
open Go Ax
open Go.Proofs
def Xd (T:Trk):Rn:=⟨T.c,T.cars.map Car.spot,T.cars.map Car.stood,T.gos,stpT T⟩
def Qay (R:Rn) (tick:Int) (f:List Flt):Trk:=⟨R.c,f,List.zipWith Car.mk R.spots R.stood,R.go,tick,if R.stp=true then 0 else -1,XU R.c R.spots,0,0⟩
def VO (R:Rn) (tick:Int) (l:List Prs) (f:List Flt):Rn:=Xd (Qu (Qay R tick f) l)
def Xr (c:Cir):Rn:=Xd (newT c [])
def RunIn (R:Rn) (tick:Int) (l:List Prs) (f:List Flt):Prop:=R.spots.length=R.stood.length∧qp (Qay R tick f) l∧TT (Qay R tick f)
theorem zip_spot:∀ {a:List Spt} {b:List Int},a.length=b.length→(List.zipWith Car.mk a b).map Car.spot=a∧(List.zipWith Car.mk a b).map Car.stood=b
 | [],[],_=>⟨rfl,rfl⟩
 | x :: a,y :: b,h=>by
  have:=zip_spot (a:=a) (b:=b) (by simpa using h)
  simp only [List.zipWith_cons_cons,List.map_cons,this.1,this.2]
  exact ⟨trivial,trivial⟩
theorem zip_cars:∀ {l:List Car},List.zipWith Car.mk (l.map Car.spot) (l.map Car.stood)=l
 | []=>rfl
 | x :: l=>by simp only [List.map_cons,List.zipWith_cons_cons,zip_cars (l:=l)]
theorem run_trk {R:Rn} {tick:Int} {f:List Flt} (h:R.spots.length=R.stood.length):Xd (Qay R tick f)=R:=by
 have:=zip_spot h
 obtain ⟨c,spots,stood,go,stp⟩:=R
 simp only [Xd,Qay,stpT,this.1,this.2]
 cases stp <;> rfl
/-! ### What the ride shows does not depend on the counters -/
structure Like (T T':Trk):Prop where
 c:T.c=T'.c
 f:T.faults=T'.faults
 cars:T.cars=T'.cars
 gos:T.gos=T'.gos
 tick:T.tick=T'.tick
 st:stpT T=stpT T'
 wr:T.wrecked=T'.wrecked
theorem Like.run {T T':Trk} (h:Like T T'):Xd T=Xd T':=by simp only [Xd,h.c,h.cars,h.gos,h.st]
theorem yA {c:Cir} {rd:Rd4} {ops:List Bool} {cars0:List Car} {s s':Brk} (h:s.cars=s'.cars) (hg:s.gos=s'.gos):∀ {b:Nat},(Qw c rd ops cars0 b s).cars=(Qw c rd ops cars0 b s').cars∧(Qw c rd ops cars0 b s).gos=(Qw c rd ops cars0 b s').gos
 | 0=>⟨h,hg⟩
 | b+1=>by
  have ih:=yA h hg (c:=c) (rd:=rd) (ops:=ops) (cars0:=cars0) (b:=b)
  simp only [Qw]
  generalize Qw c rd ops cars0 b s=t at ih
  generalize Qw c rd ops cars0 b s'=t' at ih
  unfold Xz
  split
  · split
    · exact ih
    · have hw:∀ i,YF c t b i=YF c t' b i:=fun i=>by simp only [YF,ih.1,ih.2]
      rename_i i _
      rw [hw i]
      split
      · exact ih
      · simp only [goB,ih.1,ih.2]; exact ⟨trivial,trivial⟩
  · exact ih
theorem saidV_eq {T T':Trk} (hc:T.c=T'.c) (hf:T.faults=T'.faults) (hx:T.cars=T'.cars) (ht:T.tick=T'.tick) {k b:Int}:Xc T k b=Xc T' k b:=by simp only [Xc,hc,hf,hx,ht]
theorem readI_eq {T T':Trk} (hc:T.c=T'.c) (hf:T.faults=T'.faults) (hx:T.cars=T'.cars) (ht:T.tick=T'.tick):Qj T=Qj T':=by
 simp only [Qj,QK,hc,saidV_eq hc hf hx ht]
theorem Like.step {T T':Trk} {l:List Prs} (h:Like T T') (ht:0≤T.tick):Like (Qu T l) (Qu T' l):=by
 have ht':0≤T'.tick:=by rw [← h.tick]; exact ht
 have hr:QM T=QM T':=by simp only [QM,h.c,h.cars,h.tick]
 have hrd:Qj (midT T)=Qj (midT T'):=readI_eq h.c h.f hr h.tick
 have hst:(Yf T<0) ↔ (Yf T'<0):=by
  have h1:=h.st
  have h2:=h.tick
  unfold Yf
  rw [hrd]
  unfold stpT at h1
  have h1:(0≤T.stopped) ↔ (0≤T'.stopped):=by simpa using h1
  by_cases h0:T.stopped<0
  · rw [if_pos h0,if_pos (show T'.stopped<0 by omega)]
    split
    · rw [h2]
    · omega
  · rw [if_neg h0,if_neg (show ¬ T'.stopped<0 by omega)]; omega
 have hp:QI T l=QI T' l:=by unfold QI; rw [hrd,hr,h.c,h.tick,h.gos]
 have hact:(actT T l).cars=(actT T' l).cars∧(actT T l).gos=(actT T' l).gos:=by
  unfold actT
  by_cases h0:Yf T<0
  · rw [if_pos h0,if_pos (hst.1 h0)]
    unfold Ve
    rw [hrd,hp,h.c]
    exact yA (s:=⟨(QI T' l).1,(QI T' l).2.1,T.rounds,T.gone⟩) (s':=⟨(QI T' l).1,(QI T' l).2.1,T'.rounds,T'.gone⟩) rfl rfl
  · rw [if_neg h0,if_neg (fun hh=>h0 (hst.2 hh))]
    exact ⟨hr,h.gos⟩
 unfold Qu
 rw [← h.wr]
 split
 · exact ⟨h.c,h.f,h.cars,h.gos,by simp only; rw [h.tick],h.st,rfl⟩
 · refine ⟨h.c,h.f,hact.1,hact.2,by simp only; rw [h.tick],?_,?_⟩
   · simp only [stpT]
     rw [decide_eq_decide]; omega
   · simp only; rw [hact.1,h.c]
theorem Qbq {T:Trk} (h:TT T):Like (Qay (Xd T) T.tick T.faults) T:=by
 refine ⟨rfl,rfl,zip_cars,rfl,rfl,?_,?_⟩
 · show decide (0≤(if stpT T=true then (0:Int) else -1))=stpT T
   cases stpT T <;> rfl
 · show XU T.c (T.cars.map Car.spot)=T.wrecked
   rw [h.wr,Vt h.ct]
theorem tickR_run {T:Trk} {l:List Prs} (h:TT T) (ht:0≤T.tick):VO (Xd T) T.tick l T.faults=Xd (Qu T l):=((Qbq h).step ht).run
theorem like_tok {T T':Trk} {B:Int} (h:Like T T') (hT:TOk T' B) (hr:-1000000*B≤T.rounds∧T.rounds≤1000000*B) (hg:-1000000*B≤T.gone∧T.gone≤1000000*B):TOk T B :=
 ⟨by rw [h.c]; exact hT.nb,by rw [h.cars]; exact hT.lc,by rw [h.f]; exact hT.lf,by rw [h.f]; exact hT.flt,by rw [h.gos,h.c]; exact hT.lg,by rw [h.cars,h.c]; exact hT.car,by rw [h.tick]; exact hT.tk,hr,hg,by rw [h.wr,h.cars]; exact hT.ns⟩
theorem like_tt {T T':Trk} (h:Like T T') (hT:TT T'):TT T:=⟨by rw [h.c,h.cars]; exact hT.ct,by rw [h.c]; exact hT.tm,by rw [h.wr,h.c,h.cars]; exact hT.wr⟩
theorem runIn_of {T:Trk} {l:List Prs} (h:qp T l) (ht:TT T):RunIn (Xd T) T.tick l T.faults:=by
 obtain ⟨B,h1,h2,h3,h4⟩:=h
 have:=h1.tk
 exact ⟨by simp [Xd],⟨B,like_tok (Qbq ht) h1 (by simp only [Qay]; omega) (by simp only [Qay]; omega),h2,h3,h4⟩,like_tt (Qbq ht) ht⟩
theorem rn_eta {R:Rn} {c:Cir} (h:R.c=c):(⟨c,R.spots,R.stood,R.go,R.stp⟩:Rn)=R:=by subst h; rfl
theorem tickR_ok (tick:Int) (l:List Prs) (f:List Flt) (c:Cir) (spots:List Spt) (stood:List Int) (go:List Bool) (stp:Bool) (g1 g2 g3:Nat) (h:RunIn (⟨c,spots,stood,go,stp⟩:Rn) tick l f) :
 Lent Try.prog 49 [.ptr 0 0 0,.int .i64 tick,.rsl (Qs l) 0 l.length,.rsl (Qi f) 0 f.length] [⟨true,0,1,false,[.rsl (Qc c.blocks) 0 c.blocks.length,.rsl (rowI c.cars) 0 c.cars.length,.sl 1 g1 0 spots.length 3,.sl 2 g2 0 stood.length 1,.sl 3 g3 0 go.length 1,.bool stp],false⟩,⟨true,g1,3,true,(Qg spots),true⟩,⟨true,g2,1,true,(rowI stood),true⟩,⟨true,g3,1,true,(rowB go),true⟩] (.tup []) [⟨true,0,1,false,[.rsl (Qc c.blocks) 0 c.blocks.length,.rsl (rowI c.cars) 0 c.cars.length,.sl 1 g1 0 (VO (⟨c,spots,stood,go,stp⟩:Rn) tick l f).spots.length 3,.sl 2 g2 0 (VO (⟨c,spots,stood,go,stp⟩:Rn) tick l f).stood.length 1,.sl 3 g3 0 (VO (⟨c,spots,stood,go,stp⟩:Rn) tick l f).go.length 1,.bool (VO (⟨c,spots,stood,go,stp⟩:Rn) tick l f).stp],false⟩,⟨true,g1,3,true,(Qg (VO (⟨c,spots,stood,go,stp⟩:Rn) tick l f).spots),true⟩,⟨true,g2,1,true,(rowI (VO (⟨c,spots,stood,go,stp⟩:Rn) tick l f).stood),true⟩,⟨true,g3,1,true,(rowB (VO (⟨c,spots,stood,go,stp⟩:Rn) tick l f).go),true⟩]:=by
 have:=tick_ok (Qay (⟨c,spots,stood,go,stp⟩:Rn) tick f) l g1 g2 g3 ⟨h.2.1,h.2.2⟩
 have e:=run_trk (R:=(⟨c,spots,stood,go,stp⟩:Rn)) (tick:=tick) (f:=f) h.1
 have e1:=congrArg Rn.spots e
 have e2:=congrArg Rn.stood e
 have e4:=congrArg Rn.stp e
 simp only [Xd] at e1 e2 e4
 rw [e1,e2,e4] at this
 exact this
theorem f48b:Try.f48.body=some (Qf Try.prog 48):=by kernel_rfl
def f48K0 (P:Program):List Item:=kAt 400 [.code (Qf P 48)] [.stop]
def f48S0 (c:Cir) (v2:List Int) (v1:List Bool) (i:Nat) (v4:List Spt):St:=⟨([J,.ptr 0 0 0,J,.ptr 3 0 0,.int .i64 (i:Int)]++Js 44),[⟨true,0,1,true,[.rsl (Qc c.blocks) 0 c.blocks.length,.rsl (rowI c.cars) 0 c.cars.length],false⟩,⟨true,0,1,true,(rowB v1),true⟩,⟨true,0,1,true,(rowI v2),true⟩,⟨true,0,1,false,[.rsl (Qc c.blocks) 0 c.blocks.length,.rsl (rowI c.cars) 0 c.cars.length,.sl 4 i 0 v4.length 3,.sl 2 0 0 v2.length 1,.sl 1 0 0 v1.length 1,.bool false],false⟩,⟨true,i,3,true,(Qg v4),true⟩]⟩
def f48G0 (E:Env) (c:Cir) (v2:List Int) (v1:List Bool) (i:Nat) (v4:List Spt):Prop:=G Try.prog E (f48K0 Try.prog) (f48S0 c v2 v1 i v4 )
abbrev z48_1 (c:Cir):List AV:=[.rsl (Qc c.blocks) 0 c.blocks.length,.rsl (rowI c.cars) 0 c.cars.length]
theorem p48_start_0 (c:Cir) {E:Env} {rv:AV} {bs2:List Blk} (hE:LentE Try.prog 48 [] rv bs2 E) (ho:AllP [0≤(c.blocks.length:Int)∧(c.blocks.length:Int)≤(c.blocks.length:Int)∧(c.blocks.length:Int)≤2147483648,0≤(c.cars.length:Int)∧(c.cars.length:Int)≤(c.cars.length:Int)∧(c.cars.length:Int)≤2147483648])
 (hg:G Try.prog E (f48K0 Try.prog) ⟨([J,.ptr 0 0 0,J,.ptr 3 0 0,.int .i64 0]++Js 44),[⟨true,0,1,true,(z48_1 c),false⟩,⟨true,0,1,true,((List.replicate (Int.toNat (c.blocks.length:Int)) ([.bool false]:List AV)).flatten),true⟩,⟨true,0,1,true,((List.replicate (Int.toNat (c.cars.length:Int)) ([.int .i64 0]:List AV)).flatten),true⟩,⟨true,0,1,false,[.rsl (Qc c.blocks) 0 c.blocks.length,.rsl (rowI c.cars) 0 c.cars.length,.sl 4 0 0 0 3,.sl 2 0 0 (Int.toNat (c.cars.length:Int)) 1,.sl 1 0 0 (Int.toNat (c.blocks.length:Int)) 1,.bool false],false⟩,⟨true,0,3,true,[],true⟩]⟩):G Try.prog E [.code (Qf Try.prog 48)] ⟨[.agg (z48_1 c)]++unds (Try.f48.ntmps - 1),[]⟩ :=
 Qa (n:=400) (ds:=[]) (cs:=[(3,2,3)]) (live:=[1,3,4]) (m:=5) (evs:=[.stop]) (obs:=_) hE.kind (hE.nogh0 _) Qm (by kernel_rfl) ho hg
theorem f48W (c:Cir) {E:Env} {rv:Unit} {go2:List Bool} {stood2:List Int} {spots2:List Spt} {gc:Nat} (hE:LentE Try.prog 48 [] (.ptr 3 0 0) [⟨true,0,1,true,[.rsl (Qc c.blocks) 0 c.blocks.length,.rsl (rowI c.cars) 0 c.cars.length],false⟩,⟨true,0,1,true,(rowB go2),true⟩,⟨true,0,1,true,(rowI stood2),true⟩,⟨true,0,1,false,[.rsl (Qc c.blocks) 0 c.blocks.length,.rsl (rowI c.cars) 0 c.cars.length,.sl 4 gc 0 spots2.length 3,.sl 2 0 0 stood2.length 1,.sl 1 0 0 go2.length 1,.bool false],false⟩,⟨true,gc,3,true,(Qg spots2),true⟩] E)
 (h:(c.blocks.length≤2147483648∧(c.cars.length≤2147483648∧f48G0 E c (List.replicate c.cars.length (0:Int)) (List.replicate c.blocks.length (false:Bool)) 0 ([])))):G Try.prog E [.code (Qf Try.prog 48)] ⟨[.agg [.rsl (Qc c.blocks) 0 c.blocks.length,.rsl (rowI c.cars) 0 c.cars.length]]++unds (Try.f48.ntmps - 1),[]⟩:=by
 obtain ⟨h1,h⟩:=h
 obtain ⟨h2,h⟩:=h
 refine p48_start_0 c hE ⟨⟨by omega,by omega,by have:=h1; omega⟩,⟨by omega,by omega,by have:=h2; omega⟩,trivial⟩ ?_
 have h:=h
 simp only [f48G0,f48S0,List.length_set,List.length_replicate] at h
 rw [(show (List.replicate (Int.toNat (c.cars.length:Int)) ([.int .i64 0]:List AV)).flatten=rowI (List.replicate c.cars.length (0:Int)) from YD cI _ _)]; rw [(show (List.replicate (Int.toNat (c.blocks.length:Int)) ([.bool false]:List AV)).flatten=rowB (List.replicate c.blocks.length (false:Bool)) from YD cB _ _)]
 exact h
theorem p48_0_0 (c:Cir) (v2:List Int) (v1:List Bool) (i:Nat) (v4:List Spt) (e:Int) (be:Bk) {E:Env} {rv:AV} {bs2:List Blk} (hE:LentE Try.prog 48 [] rv bs2 E) (ho:AllP [(decide ((i:Int)<(c.cars.length:Int)))=true,0≤(i:Int)∧(i:Int)<(c.cars.length:Int),((rowI c.cars).drop (0+(Int.toNat (i:Int))*1)).take 1=[.int .i64 e],0≤(i:Int)∧(i:Int)<(c.cars.length:Int),((rowI c.cars).drop (0+(Int.toNat (i:Int))*1)).take 1=[.int .i64 e],0≤e∧e<(c.blocks.length:Int),((Qc c.blocks).drop ((0+(Int.toNat e)*4)+0)).take 1=[.int .i64 be.time],i=i,(0+(v4.length*3))=(Qg v4).length,(v4.length+1)≤2147483648,0=0,3≤6,InR .i64 ((i:Int)+1)])
 (hg:G Try.prog E (f48K0 Try.prog) ⟨([J,.ptr 0 0 0,J,.ptr 3 0 0,.int .i64 ((i:Int)+1)]++Js 44),[⟨true,0,1,true,(z48_1 c),false⟩,⟨true,0,1,true,(rowB v1),true⟩,⟨true,0,1,true,(rowI v2),true⟩,⟨true,0,1,false,[.rsl (Qc c.blocks) 0 c.blocks.length,.rsl (rowI c.cars) 0 c.cars.length,.sl 4 (i+1) 0 (v4.length+1) 3,.sl 2 0 0 v2.length 1,.sl 1 0 0 v1.length 1,.bool false],false⟩,⟨true,(i+1),3,true,((Qg v4)++[.int .i64 e,.int .i64 be.time,.bool false]),true⟩]⟩):G Try.prog E (f48K0 Try.prog) (f48S0 c v2 v1 i v4 ) :=
 Qa (n:=400) (ds:=[]) (cs:=[]) (live:=[1,3,4]) (m:=5) (evs:=[.b true,.auto,.auto,.ld (.int .i64 e),.auto,.auto,.ld (.int .i64 e),.ld (.int .i64 be.time),.stop]) (obs:=_) hE.kind (hE.nogh0 _) Qm (by kernel_rfl) ho hg
theorem p48_0_1 (c:Cir) (v2:List Int) (v1:List Bool) (i:Nat) (v4:List Spt) {E:Env} {res:AV} {bs2:List Blk} (hE:LentE Try.prog 48 [] res bs2 E) (ho:AllP [(decide ((i:Int)<(c.cars.length:Int)))=false])
 (hr:(.ptr 3 0 0)=res) (hb:[⟨true,0,1,true,(z48_1 c),false⟩,⟨true,0,1,true,(rowB v1),true⟩,⟨true,0,1,true,(rowI v2),true⟩,⟨true,0,1,false,[.rsl (Qc c.blocks) 0 c.blocks.length,.rsl (rowI c.cars) 0 c.cars.length,.sl 4 i 0 v4.length 3,.sl 2 0 0 v2.length 1,.sl 1 0 0 v1.length 1,.bool false],false⟩,⟨true,i,3,true,(Qg v4),true⟩]=bs2):G Try.prog E (f48K0 Try.prog) (f48S0 c v2 v1 i v4 ) :=
 Xb (n:=400) (live:=[2]) (m:=5) (evs:=[.b false]) (obs:=_) hE (hE.nogh0 _) Try.func48 Qm (by kernel_rfl) ho hr hb
theorem f48W0 (c:Cir) (v2:List Int) (v1:List Bool) (i:Nat) (v4:List Spt) {E:Env} {rv:Unit} {go2:List Bool} {stood2:List Int} {spots2:List Spt} {gc:Nat} (hE:LentE Try.prog 48 [] (.ptr 3 0 0) [⟨true,0,1,true,[.rsl (Qc c.blocks) 0 c.blocks.length,.rsl (rowI c.cars) 0 c.cars.length],false⟩,⟨true,0,1,true,(rowB go2),true⟩,⟨true,0,1,true,(rowI stood2),true⟩,⟨true,0,1,false,[.rsl (Qc c.blocks) 0 c.blocks.length,.rsl (rowI c.cars) 0 c.cars.length,.sl 4 gc 0 spots2.length 3,.sl 2 0 0 stood2.length 1,.sl 1 0 0 go2.length 1,.bool false],false⟩,⟨true,gc,3,true,(Qg spots2),true⟩] E)
 (h:(((i:Int)<(c.cars.length:Int)→(∃ e:Int,c.cars[i]?=some e∧(0≤e∧(∃ be:Bk,c.blocks[Int.toNat e]?=some be∧((v4.length+1)≤2147483648∧((I6 ((i:Int)+1))∧f48G0 E c v2 v1 (i+1) (v4++[(⟨e,be.time,false⟩:Spt)])))))))∧(¬ ((i:Int)<(c.cars.length:Int))→go2=v1∧stood2=v2∧spots2=v4∧gc=i))):f48G0 E c v2 v1 i v4:=by
 rcases bft (decide ((i:Int)<(c.cars.length:Int))) with hc0 | hc0
 · have h:=h.1 (odt hc0)
   obtain ⟨e,h1,h⟩:=h
   obtain ⟨h3,h⟩:=h
   obtain ⟨be,h2,h⟩:=h
   obtain ⟨h4,h⟩:=h
   obtain ⟨q14_1,h⟩:=h
   refine p48_0_0 c v2 v1 i v4 e be hE ⟨hc0,(Qe h1),(rp cI 1 0 1 h1),(Qe h1),(rp cI 1 0 1 h1),(Qq h3 h2),(rp cBk 4 0 1 h2),rfl,(by have hx:=XO cSpt (s:=3) (fun _=>rfl) v4; simp only [Qg] at hx ⊢; rw [hx]; simp),h4,rfl,(by decide),q14_1,trivial⟩ ?_
   rw [(show Qg v4++[.int .i64 e,.int .i64 be.time,.bool false]=Qg (v4++[(⟨e,be.time,false⟩:Spt)]) from (YV cSpt v4 [(⟨e,be.time,false⟩:Spt)]).symm)]; rw [(show (v4.length+1)=(v4++[(⟨e,be.time,false⟩:Spt)]).length from by simp)]; exact h
 · have h:=h.2 (odf hc0)
   obtain ⟨qe0,qe1,qe2,qe3⟩:=h
   exact p48_0_1 c v2 v1 i v4 hE ⟨hc0,trivial⟩ (by try rfl) (by rw [qe0,qe1,qe2,qe3]; all_goals (first | rfl | (simp only [List.length_set]; done) | (simp only [List.length_set]; rfl)))
theorem begin_ok (c:Cir) (h:NewIn c):Lent Try.prog 48 [.agg [.rsl (Qc c.blocks) 0 c.blocks.length,.rsl (rowI c.cars) 0 c.cars.length]] [] (.ptr 3 0 0)
 [⟨true,0,1,true,[.rsl (Qc c.blocks) 0 c.blocks.length,.rsl (rowI c.cars) 0 c.cars.length],false⟩,⟨true,0,1,true,(rowB (Xr c).go),true⟩,⟨true,0,1,true,(rowI (Xr c).stood),true⟩,⟨true,0,1,false,[.rsl (Qc c.blocks) 0 c.blocks.length,.rsl (rowI c.cars) 0 c.cars.length,.sl 4 c.cars.length 0 (Xr c).spots.length 3,.sl 2 0 0 (Xr c).stood.length 1,.sl 1 0 0 (Xr c).go.length 1,.bool false],false⟩,⟨true,c.cars.length,3,true,(Qg (Xr c).spots),true⟩]:=lent_of0 Try.func48 f48b fun E hE=>by
 obtain ⟨h1,h2,h3⟩:=h
 have key:∀ (d i:Nat),i+d=c.cars.length→f48G0 E c (Xr c).stood (Xr c).go i ((Xr c).spots.take i):=by
  intro d
  induction d with
  | zero =>
   intro i hi
   refine f48W0 c _ _ i _ (rv:=()) hE ⟨fun h=>by omega,fun _=>⟨rfl,rfl,?_,by omega⟩⟩
   rw [List.take_of_length_le (by simp [Xr,Xd,newT]; omega)]
  | succ d ih =>
   intro i hi
   have hx:c.cars[i]?=some (c.cars.getD i 0):=getD_some (by omega)
   have hin:=h3 _ (List.mem_of_getElem? hx)
   have nx:=ih (i+1) (by omega)
   have hy:(Xr c).spots[i]?=some ⟨c.cars.getD i 0,(bkAt c (c.cars.getD i 0)).time,false⟩:=by simp only [Xr,Xd,newT,List.map_map]; rw [List.getElem?_map,hx]; rfl
   rw [List.take_add_one,hy] at nx
   exact f48W0 c _ _ i _ (rv:=()) hE ⟨fun _=>⟨_,hx,hin.1,_,yC hin,by simp [Xr,Xd,newT]; omega,by omega,nx⟩,fun h=>by omega⟩
 have e1:(Xr c).stood=List.replicate c.cars.length 0:=by simp only [Xr,Xd,newT,List.map_map]; exact List.map_const' ..
 have k0:=key c.cars.length 0 (by omega)
 rw [e1] at k0
 exact f48W c (rv:=()) hE ⟨by omega,by omega,k0⟩
theorem new_ns {c:Cir} {f:List Flt} (h:ChkIn c):QP (newT c f).cars:=fun i j hij hj=>by
 simp only [newT,List.length_map] at hj ⊢
 rw [Xe (d:=0) (by omega),Xe (d:=0) hj]
 exact h.ne i j hij hj
end Go.Proofs.Ytgdfkjjgdkejfaa
namespace Ax
open Go Go.ChangeShapes Go.WideShapes Go.RowKit
abbrev Old (W:World) (b:Nat):Prop:=b<W.heap.size
/-- What is read as of this type stands for typed data. -/
def Dec (P:Program) (W:World) (t:TypeId) (T:Type) (F:T→List AV) (Q:T→Prop):Prop :=
 ∀ (H:Type) (enc:TypeId × Value→H) (sp:Nat→Bool) (held:Bool) (fuel:Nat) (cs:List Value) (x:DataW H × List MemPlace),
  DataW.trod enc P W 0 sp held fuel t cs=some x→∃ a,Q a∧VRs (Old W) W C0 (F a) cs
/-- The same for the fields from one on; 'off' is where they begin. -/
def DecFs (P:Program) (W:World) (fs:List Field) (off:Nat) (T:Type) (F:T→List AV) (Q:T→Prop) (tot:Nat):Prop :=
 ∀ (H:Type) (enc:TypeId × Value→H) (sp:Nat→Bool) (held:Bool) (fuel:Nat) (cs:List Value),cs.length=tot →
  (∀ f ∈ fs,∃ x,DataW.trod enc P W 0 sp held fuel f.type ((cs.drop f.offset).take (P.cellsOf f.type))=some x)→∃ a,Q a∧VRs (Old W) W C0 (F a) (cs.drop off)
section
variable {P:Program} {W:World} {t e:TypeId}
theorem VRs.one1 {Z:Nat→Prop} {w:World} {C:Ctx} {a:AV} {c:Value} (h:VR Z w C a c):VRs Z w C [a] [c] :=
 ⟨rfl,fun i x y p q=>by
  cases i with
  | zero=>simp at p q; subst p; subst q; exact h
  | succ i=>simp at p⟩
theorem dec_int {k:IntKind} (ht:P.underlying t=some (.int k)):Dec P W t Int (fun n=>[.int k n]) (fun n=>k.min≤n∧n≤k.max):=by
 intro H enc sp held fuel cs x h
 obtain ⟨n,rfl,-,hw⟩:=DataW.trod_int ht h
 simp only [Lit.wf,Bool.and_eq_true,decide_eq_true_eq] at hw
 exact ⟨n,hw,VRs.one1 (.int _ _)⟩
theorem dec_i64 (ht:P.underlying t=some (.int .i64)):Dec P W t Int cI (fun n=>InR .i64 n):=by
 intro H enc sp held fuel cs x h
 obtain ⟨n,hn,hv⟩:=dec_int ht H enc sp held fuel cs x h
 exact ⟨n,by simpa [InR,IntKind.min,IntKind.max,IntKind.signed,IntKind.bits] using hn,hv⟩
theorem dec_bool (ht:P.underlying t=some .bool):Dec P W t Bool cB (fun _=>True):=by
 intro H enc sp held fuel cs x h
 obtain ⟨b,rfl,-⟩:=DataW.trod_bool ht h
 exact ⟨b,trivial,VRs.one1 (.bool _)⟩
theorem Dec.map {T S:Type} {F:T→List AV} {Q:T→Prop} {F':S→List AV} {Q':S→Prop} (h:Dec P W t T F Q) (g:T→S) (hF:∀ a,F' (g a)=F a) (hQ:∀ a,Q a→Q' (g a)):Dec P W t S F' Q':=by
 intro H enc sp held fuel cs x hx
 obtain ⟨a,q,v⟩:=h H enc sp held fuel cs x hx
 exact ⟨g a,hQ a q,by rw [hF]; exact v⟩
theorem decFs_nil {tot:Nat}:DecFs P W [] tot Unit (fun _=>[]) (fun _=>True) tot:=by
 intro H enc sp held fuel cs hl _
 exact ⟨(),trivial,by rw [List.drop_of_length_le (by omega)]; exact ⟨rfl,fun i x y p q=>by simp at p⟩⟩
theorem Vi {f:Field} {fs:List Field} {off n tot:Nat} {A B:Type} {FA:A→List AV} {QA:A→Prop} {FB:B→List AV} {QB:B→Prop} (hn:P.cellsOf f.type=n) (ho:f.offset=off)
 (D:Dec P W f.type A FA QA) (R:DecFs P W fs (off+n) B FB QB tot) (hle:off+n≤tot):DecFs P W (f :: fs) off (A × B) (fun p=>FA p.1++FB p.2) (fun p=>QA p.1∧QB p.2) tot:=by
 intro H enc sp held fuel cs hl h
 obtain ⟨x,hx⟩:=h f (by simp)
 obtain ⟨a,qa,va⟩:=D H enc sp held fuel _ x hx
 obtain ⟨b,qb,vb⟩:=R H enc sp held fuel cs hl fun g hg=>h g (by simp [hg])
 rw [hn,ho] at va
 refine ⟨(a,b),⟨qa,qb⟩,?_⟩
 have e:cs.drop off=(cs.drop off).take n++cs.drop (off+n):=by
  rw [← List.drop_drop]; exact (List.take_append_drop _ _).symm
 rw [e]
 exact va.app vb
theorem Qbb {fs:Array Field} {T:Type} {F:T→List AV} {Q:T→Prop} {l:List Field} {tot:Nat} (ht:P.underlying t=some (.struct fs)) (hl:fs.toList=l) (hc:P.cellsOf t=tot) (h:DecFs P W l 0 T F Q tot):Dec P W t T F Q:=by
 intro H enc sp held fuel cs x hx
 obtain ⟨xs,n,-,-,h1,h2,h3⟩:=DataW.trod_struct ht hx
 obtain ⟨a,q,v⟩:=h H enc sp held n cs (by rw [h1,hc]) fun f hf=>by
  rw [← hl] at hf
  obtain ⟨i,hi⟩:=List.mem_iff_getElem?.1 hf
  have:=h3 i f (by simpa using hi)
  have hlt:i<xs.length:=by rw [h2]; have:=(List.getElem?_eq_some_iff.1 hi).1; simpa using this
  exact ⟨xs[i],by rw [this]; simp [hlt]⟩
 exact ⟨a,q,by simpa using v⟩
theorem cells_get {W:World} {a:Addr} {n:Nat} {cs:List Value} (h:W.cells? 0 a n=some cs):cs.length=n∧∀ i,i<n→W.cell? (a.add i)=cs[i]?:=by
 unfold World.cells? at h
 rw [if_pos (Nat.zero_le _)] at h
 have key:∀ (n k:Nat) (cs:List Value),((List.range' k n).mapM fun i=>W.cell? (a.add i))=some cs→cs.length=n∧∀ i,i<n→W.cell? (a.add (k+i))=cs[i]?:=by
  intro n
  induction n with
  | zero=>intro k cs h; simp at h; subst h; simp
  | succ n ih =>
   intro k cs h
   rw [List.range'_succ,List.mapM_cons] at h
   simp only [Option.bind_eq_bind,Option.bind_eq_some_iff,Option.pure_def,Option.some.injEq] at h
   obtain ⟨c,h1,cs',h2,rfl⟩:=h
   obtain ⟨i1,i2⟩:=ih (k+1) cs' h2
   refine ⟨by simp [i1],fun i hi=>?_⟩
   cases i with
   | zero=>simpa using h1
   | succ i=>rw [show k+(i+1)=k+1+i by omega,i2 i (by omega)]; simp
 have:=key n 0 cs (by rw [← List.range_eq_range']; exact h)
 simpa using this
theorem list_of {T:Type} {Q:Nat→T→Prop}:∀ (n k:Nat),(∀ i,k≤i→i<k+n→∃ a,Q i a)→∃ l:List T,l.length=n∧∀ i a,l[i]?=some a→Q (k+i) a
 | 0,k,_=>⟨[],rfl,by simp⟩
 | n+1,k,h=>by
  obtain ⟨a,ha⟩:=h k (Nat.le_refl _) (by omega)
  obtain ⟨l,hl,hq⟩:=list_of n (k+1) fun i h1 h2=>h i (by omega) (by omega)
  refine ⟨a :: l,by simp [hl],fun i b hb=>?_⟩
  cases i with
  | zero=>simp at hb; subst hb; exact ha
  | succ i=>simp at hb; have:=hq i b hb; rw [show k+(i+1)=k+1+i by omega]; exact this
theorem dec_slice {T:Type} {F:T→List AV} {Q:T→Prop} {n:Nat} (ht:P.underlying t=some (.slice e)) (hc:P.cellsOf e=n) (hn:0<n) (hF:∀ a,(F a).length=n) (hk:∀ a,Xu (F a)=true) (D:Dec P W e T F Q) :
 Dec P W t (List T) (fun l=>[.rsl (l.flatMap F) 0 l.length]) (fun l=>l.length≤9223372036854775807∧∀ a ∈ l,Q a):=by
 intro H enc sp held fuel cs x h
 rcases DataW.trod_slice ht h with ⟨rfl,-⟩ | ⟨a,len,cap,elems,rest,m,-,rfl,-,-,h1,h2,h3,h4,-,-⟩
 · exact ⟨[],⟨by simp,by simp⟩,VRs.one1 .rsl0⟩
 have hel:∀ i,i<len→∃ b,Q b∧∃ vs,W.cells? 0 (a.add (i*n)) n=some vs∧VRs (Old W) W C0 (F b) vs:=by
  intro i hi
  have:=h4 i hi
  rw [hc,List.getElem?_eq_getElem (by omega)] at this
  obtain ⟨vs,g1,g2⟩:=Option.bind_eq_some_iff.1 this
  obtain ⟨b,qb,vb⟩:=D H enc sp held m vs _ g2
  exact ⟨b,qb,vs,g1,vb⟩
 obtain ⟨l,hl,hq⟩:=list_of (Q:=fun i b=>Q b∧∃ vs,W.cells? 0 (a.add (i*n)) n=some vs∧VRs (Old W) W C0 (F b) vs) len 0 fun i _ hi=>hel i (by omega)
 refine ⟨l,⟨by rw [hl]; unfold maxLen at h2; omega,fun b hb=>?_⟩,VRs.one1 ?_⟩
 · obtain ⟨i,hi⟩:=List.mem_iff_getElem?.1 hb
   exact (hq i b hi).1
 rcases Nat.eq_zero_or_pos len with h0 | h0
 · subst h0
   obtain rfl:l=[]:=List.length_eq_zero_iff.1 hl
   exact .rsl0
 have hcell:∀ j,j<len*n→∃ v,W.cell? ⟨a.block,a.off+j,none⟩=some v∧∃ c,(l.flatMap F)[j]?=some c∧VR (Old W) W C0 c v∧Xx c=true∧a.spot=none:=by
  intro j hj
  have hi:j / n<len:=by rw [Nat.div_lt_iff_lt_mul hn]; exact hj
  have hm:j % n<n:=Nat.mod_lt _ hn
  have hb:l[j / n]?=some l[j / n]:=by simp [hl,hi]
  obtain ⟨-,vs,g1,g2⟩:=hq _ _ hb
  rw [Nat.zero_add] at g1
  obtain ⟨g3,g4⟩:=cells_get g1
  have g5:=g4 (j % n) hm
  have hv:vs[j % n]?=some vs[j % n]:=by simp [g3,hm]
  rw [hv] at g5
  have hdm:j / n*n+j % n=j:=by rw [Nat.mul_comm]; exact Nat.div_add_mod j n
  have hspot:a.spot=none:=by
   have g6:=g4 0 hn
   rw [List.getElem?_eq_getElem (by omega)] at g6
   have hfirst:∃ v0,W.cell? a=some v0:=by
    have hb0:l[0]?=some l[0]:=by simp [hl,h0]
    obtain ⟨-,vs0,k1,-⟩:=hq _ _ hb0
    obtain ⟨k3,k4⟩:=cells_get k1
    have k5:=k4 0 hn
    rw [List.getElem?_eq_getElem (by omega)] at k5
    exact ⟨_,by simpa [Addr.add] using k5⟩
   obtain ⟨v0,hv0⟩:=hfirst
   unfold World.cell? at hv0
   split at hv0
   · split at hv0
     · cases hv0
     · rename_i hsp; simpa using hsp
   · cases hv0
  have haddr:(a.add (j / n*n)).add (j % n)=⟨a.block,a.off+j,none⟩:=by
   obtain ⟨ab,ao,asp⟩:=a
   simp only at hspot
   subst hspot
   unfold Addr.add
   split <;> split <;> simp_all <;> omega
  rw [haddr] at g5
  refine ⟨_,g5,?_⟩
  have hrow:=Qbz F hF (k:=j % n) hb (by omega)
  have e1:(l.flatMap F)[j]?=(F l[j / n])[j % n]?:=by
   have:=congrArg (fun l=>l[0]?) hrow
   simp only [List.getElem?_drop,Nat.add_zero] at this
   rw [show 0+j / n*n+j % n=j by omega] at this
   rw [this,List.getElem?_append_left (by rw [List.length_drop,hF]; omega),List.getElem?_drop,Nat.add_zero]
  have hF1:(F l[j / n])[j % n]?=some ((F l[j / n])[j % n]'(by rw [hF]; exact hm)):=by simp [hF,hm]
  refine ⟨_,e1.trans hF1,g2.2 _ _ _ hF1 hv,Yw (hk _) hF1,hspot⟩
 have hrl:(l.flatMap F).length=len*n:=by rw [XO F hF,hl]
 obtain ⟨v0,c0,-,-,-,-,hspot⟩:=hcell 0 (Nat.mul_pos h0 hn)
 have haa:a=⟨a.block,0+a.off,none⟩:=by
  obtain ⟨ab,ao,asp⟩:=a
  simp only at hspot ⊢
  subst hspot; simp
 have hblk:a.block<W.heap.size:=by
  unfold World.cell? at c0
  split at c0
  · rename_i heq; exact (Array.getElem?_eq_some_iff.1 heq).1
  · cases c0
 rw [← hl]
 have hval:Value.slice (some a) l.length cap=Value.slice (some ⟨a.block,a.off+0,none⟩) l.length cap:=by
  congr 2
  rw [haa]; simp
 rw [hval]
 refine .rsl (o:=a.off) (fun i=>(W.cell? ⟨a.block,a.off+i,none⟩).getD undef) hblk (by omega) (fun i hi=>?_) (fun i c hc=>?_) (fun i c hc=>?_)
 · obtain ⟨v,h5,-⟩:=hcell i (by omega)
   rw [h5]; rfl
 · obtain ⟨v,-,c',h6,-,h7,-⟩:=hcell i (by have:=(List.getElem?_eq_some_iff.1 hc).1; omega)
   rw [hc] at h6; cases h6; exact h7
 · obtain ⟨v,h5,c',h6,h7,-,-⟩:=hcell i (by have:=(List.getElem?_eq_some_iff.1 hc).1; omega)
   rw [hc] at h6; cases h6; rw [h5]; exact h7
/-! ### A law's arguments -/
/-- One argument. -/
def DecA (P:Program) (W:World) (t:TypeId) (T:Type) (F:T→AV) (Q:T→Prop):Prop :=
 ∀ (H:Type) (enc:TypeId × Value→H) (base:Nat) (v:Value) (d:DataW H) (ps:List MemPlace),Value.okWide P W .any base t v→DataW.Trod enc P W 0 (fun _=>true) true t v d ps →
  ∃ a,Q a∧VR (Old W) W C0 (F a) v
theorem decA_struct {T:Type} {F:T→List AV} {Q:T→Prop} {fs:Array Field} (ht:P.underlying t=some (.struct fs)) (D:Dec P W t T F Q):DecA P W t T (fun a=>.agg (F a)) Q:=by
 intro H enc base v d ps hok ⟨fuel,h⟩
 obtain ⟨cs,rfl,-⟩:=okWide_struct ht hok
 obtain ⟨a,q,hv⟩:=D H enc _ _ fuel _ _ h
 exact ⟨a,q,.agg (by have:=hv.1; simpa [Value.cells] using this) fun i c x p r=>hv.2 i c x p (by simpa [Value.cells] using r)⟩
/-- All arguments; 'K': what holds of them together. -/
def DecAs (P:Program) (W:World) (ts:List TypeId) (K:List AV→Prop):Prop :=
 ∀ (H:Type) (enc:TypeId × Value→H) (base:Nat) (vs:List Value) (ds:List (DataW H)) (ps:List MemPlace),
  (∀ (j:Nat) t v,ts[j]?=some t→vs[j]?=some v→Value.okWide P W .any base t v)→DataW.TrodAll enc P W 0 (fun _=>true) true ts vs ds ps→∃ al,K al∧VRs (Old W) W C0 al vs
theorem decAs_nil {K:List AV→Prop} (h:K []):DecAs P W [] K:=by
 intro H enc base vs ds ps _ hT
 obtain ⟨rfl,rfl,rfl⟩:=trodAll_nil hT
 exact ⟨[],h,rfl,fun i x y p q=>by simp at p⟩
theorem decAs_cons {ts:List TypeId} {T:Type} {F:T→AV} {Q:T→Prop} {K:List AV→Prop} (D:DecA P W t T F Q) (R:∀ a,Q a→DecAs P W ts fun al=>K (F a :: al)):DecAs P W (t :: ts) K:=by
 intro H enc base vs ds ps hok hT
 obtain ⟨v,vs',d,ds',p,q,rfl,rfl,rfl,h1,h2⟩:=trodAll_cons hT
 obtain ⟨a,qa,va⟩:=D H enc base v d p (hok 0 t v rfl rfl) h1
 obtain ⟨al,ka,vas⟩:=R a qa H enc base vs' ds' q (fun j t v ht hv=>hok (j+1) t v (by simpa using ht) (by simpa using hv)) h2
 exact ⟨_,ka,by simpa using (VRs.one1 va).app vas⟩
theorem Fr.same_at {W W':World} (h:Fr W (fun _=>False) W') (p:MemPlace) (hp:p.block<W.heap.size):W.sameAt W' p:=by
 have:=h.same p.block hp (fun h=>h)
 cases p with
 | cell b off=>exact YT this
 | map b=>exact this
theorem qF {H:Type} {enc:TypeId × Value→H} {W':World} (hl:laidOutB P=true) (h:Fr W (fun _=>False) W') {sp:Nat→Bool}:∀ {ts:List TypeId} {vs:List Value} {ds:List (DataW H)} {ps:List MemPlace},
 (∀ t ∈ ts,P.readableRec t=true∧t<P.types.size)→DataW.TrodAll enc P W 0 (fun _=>true) true ts vs ds ps→(∀ p ∈ ps,sp p.block=true)→DataW.TrodAll enc P W' 0 sp true ts vs ds ps
 | [],vs,ds,ps,_,hT,_=>by
  obtain ⟨rfl,rfl,rfl⟩:=trodAll_nil hT
  rfl
 | t :: ts,vs,ds,ps,hr,hT,hs=>by
  have hlt:=DataW.TrodAll.lt hT
  obtain ⟨v,vs',d,ds',p,q,rfl,rfl,rfl,h1,h2⟩:=trodAll_cons hT
  refine ⟨p,q,WideElems.Trod_stays hl (hr t (by simp)).1 (hr t (by simp)).2 h1 (fun x hx=>h.same_at x (hlt x (by simp [hx]))) (fun x hx=>hs x (by simp [hx])),
   qF hl h (fun t ht=>hr t (by simp [ht])) h2 (fun x hx=>hs x (by simp [hx])),rfl⟩
theorem Fr.keptBut {W W':World} (h:Fr W (fun _=>False) W') (may:MemPlace→Prop):W.keptBut W' may:=by
 refine ⟨h.os,h.output,fun i hi=>?_⟩
 rw [h.same i hi (fun h=>h)]
 cases hx:W.heap[i]? with
 | none=>simp
 | some o=>cases o <;> simp
theorem law_post {H:Type} {enc:TypeId × Value→H} {W':World} {f:Func} {s:ChangeSpec} {args:Array Value} {ds gs:List (DataW H)} {before:List MemPlace} {tb:TypeId}
 (hW:DataW.Whole enc P f.params.toList s.vars false W args.toList ds gs before) (hv:s.vars=[]) (hr:f.resultTypes=#[tb]) (hb:P.underlying tb=some .bool)
 (h1:(s.fn H (ds++gs)).results=[.lit (.bool true)]) (h2:(s.fn H (ds++gs)).args=ds) (h3:(s.fn H (ds++gs)).vars=[]) (hl:laidOutB P=true)
 (hread:∀ t ∈ f.params.toList,P.readableRec t=true∧t<P.types.size) (hf:Fr W (fun _=>False) W'):s.post enc P f false true false false W args (.bool true) W':=by
 have hW':=hW
 obtain ⟨p,q,hA,hV,hpq,-,-⟩:=hW
 refine ⟨ds,gs,before,[],p,[],hW',?_,?_,?_,hf.keptBut _,fun h=>by cases h⟩
 · rw [h1,hr]
   exact trodAll_mk1 ⟨1,by simp [DataW.trod,Value.cells,hb]⟩
 · rw [h2]
   exact qF hl hf hread hA fun x hx=>by simpa using DataW.TrodAll.lt hA x hx
 · rw [h3,hv]; rfl
theorem Fr.frozen {W W':World} (h:Fr W (fun _=>False) W') (a:Addr) (ha:a.block<W.heap.size):W'.frozen? a=W.frozen? a:=by
 unfold World.frozen?; rw [h.same a.block ha (fun h=>h)]
end
end Ax
namespace Go.Proofs.Ytgdfkjjgdkejfaa
open Go Ax
open Go.Proofs
theorem ownT:ownKnob Try.prog.godebug=none:=by kernel_rfl
theorem laidT:laidOutB Try.prog=true:=by kernel_rfl
theorem f17b:Try.f17.body=some (Qf Try.prog 17):=by kernel_rfl
theorem u17 {a c k:List AV} {r:AV} (h:Pure Try.prog 17 (a++c++k) r):Ql Try.prog (.clos 17 a k) c r:=QJ Try.func17 (by kernel_rfl) f17b h
abbrev YQ:List AV:=[.rsl (Qc exC.blocks) 0 exC.blocks.length,.rsl (rowI exC.cars) 0 exC.cars.length]
abbrev Ka:AV:=.tup [.rsl ((Yh Qg) ((XH exC 6 ([(⟨0,3,0⟩:Prs)]) ([]:List Flt)).1)) 0 (((XH exC 6 ([(⟨0,3,0⟩:Prs)]) ([]:List Flt)).1).length),.int .i64 ((XH exC 6 ([(⟨0,3,0⟩:Prs)]) ([]:List Flt)).2)]
abbrev KC:=Vb exC 3 ([]:List Prs) ([(⟨2,1,0,1,1⟩:Flt)])
abbrev yZ:AV:=.tup [.int .i64 (KC.1),.int .i64 (KC.2)]
abbrev z17_4:List AV:=[.agg YQ,.int .i64 3,.nilSl,.rsl [.int .i64 2,.int .i64 1,.int .i64 0,.int .i64 1,.int .i64 1] 0 1]
abbrev z17_6:List Blk:=[⟨true,0,3,true,[.int .i64 0,.int .i64 3,.int .i64 0],true⟩]
abbrev z17_7:List AV:=[.agg YQ,.int .i64 6,.sl 0 0 0 1 3,.nilSl]
theorem p17_start_0 (le:(List Spt)) (se:Spt) {E:Env} {res:AV} (hE:Qn Try.prog 17 res E) (ho:AllP [Ql Try.prog (.clos 42 [] []) [] (.agg YQ),XT Try.prog (.clos 19 [] []) z17_7 z17_6 Ka [⟨false,1,3,true,[],false⟩],Ql Try.prog (.clos 42 [] []) [] (.agg YQ),Ql Try.prog (.clos 23 [] []) z17_4 yZ,0=0,((XH exC 6 ([(⟨0,3,0⟩:Prs)]) ([]:List Flt)).2 == 0)=true,(KC.2 == 0)=true,(KC.1 == 2)=true,(((((XH exC 6 ([(⟨0,3,0⟩:Prs)]) ([]:List Flt)).1).length:Nat):Int) == 6)=true,(0:Int)≤3∧(3:Int)<((((XH exC 6 ([(⟨0,3,0⟩:Prs)]) ([]:List Flt)).1).length:Nat):Int),(((Yh Qg) ((XH exC 6 ([(⟨0,3,0⟩:Prs)]) ([]:List Flt)).1)).drop (0+3*1)).take 1=[.rsl (Qg le) 0 le.length],((le.length:Int) == 2)=true,(0:Int)≤3∧(3:Int)<((((XH exC 6 ([(⟨0,3,0⟩:Prs)]) ([]:List Flt)).1).length:Nat):Int),(((Yh Qg) ((XH exC 6 ([(⟨0,3,0⟩:Prs)]) ([]:List Flt)).1)).drop (0+3*1)).take 1=[.rsl (Qg le) 0 le.length],(0:Int)≤0∧(0:Int)<(le.length:Int),((Qg le).drop (0+0*3)).take 3=[.int .i64 se.block,.int .i64 se.ran,.bool se.opn]])
 (hr:AvLe (.bool (se.block == 1 && (se.ran == 0 && (se.opn == false && true)))) res):G Try.prog E [.code (Qf Try.prog 17)] ⟨[]++unds (Try.f17.ntmps - 0),[]⟩ :=
 Qk (n:=400) (evs:=[.v (.agg YQ),.lent [0] Ka [⟨false,1,3,true,[],false⟩],.v (.agg YQ),.v yZ,.b true,.b true,.b true,.b true,.ld (.rsl (Qg le) 0 le.length),.b true,.ld (.rsl (Qg le) 0 le.length),.ld (.agg [.int .i64 se.block,.int .i64 se.ran,.bool se.opn])]) (obs:=_) hE Try.func17 Qm (by kernel_rfl) ho hr
theorem p17_start_1 (le:(List Spt)) {E:Env} {res:AV} (hE:Qn Try.prog 17 res E) (ho:AllP [Ql Try.prog (.clos 42 [] []) [] (.agg YQ),XT Try.prog (.clos 19 [] []) z17_7 z17_6 Ka [⟨false,1,3,true,[],false⟩],Ql Try.prog (.clos 42 [] []) [] (.agg YQ),Ql Try.prog (.clos 23 [] []) z17_4 yZ,0=0,((XH exC 6 ([(⟨0,3,0⟩:Prs)]) ([]:List Flt)).2 == 0)=true,(KC.2 == 0)=true,(KC.1 == 2)=true,(((((XH exC 6 ([(⟨0,3,0⟩:Prs)]) ([]:List Flt)).1).length:Nat):Int) == 6)=true,(0:Int)≤3∧(3:Int)<((((XH exC 6 ([(⟨0,3,0⟩:Prs)]) ([]:List Flt)).1).length:Nat):Int),(((Yh Qg) ((XH exC 6 ([(⟨0,3,0⟩:Prs)]) ([]:List Flt)).1)).drop (0+3*1)).take 1=[.rsl (Qg le) 0 le.length],((le.length:Int) == 2)=false])
 (hr:AvLe (.bool false) res):G Try.prog E [.code (Qf Try.prog 17)] ⟨[]++unds (Try.f17.ntmps - 0),[]⟩ :=
 Qk (n:=400) (evs:=[.v (.agg YQ),.lent [0] Ka [⟨false,1,3,true,[],false⟩],.v (.agg YQ),.v yZ,.b true,.b true,.b true,.b true,.ld (.rsl (Qg le) 0 le.length),.b false]) (obs:=_) hE Try.func17 Qm (by kernel_rfl) ho hr
theorem p17_start_2 {E:Env} {res:AV} (hE:Qn Try.prog 17 res E) (ho:AllP [Ql Try.prog (.clos 42 [] []) [] (.agg YQ),XT Try.prog (.clos 19 [] []) z17_7 z17_6 Ka [⟨false,1,3,true,[],false⟩],Ql Try.prog (.clos 42 [] []) [] (.agg YQ),Ql Try.prog (.clos 23 [] []) z17_4 yZ,0=0,((XH exC 6 ([(⟨0,3,0⟩:Prs)]) ([]:List Flt)).2 == 0)=true,(KC.2 == 0)=true,(KC.1 == 2)=true,(((((XH exC 6 ([(⟨0,3,0⟩:Prs)]) ([]:List Flt)).1).length:Nat):Int) == 6)=false,false=false])
 (hr:AvLe (.bool false) res):G Try.prog E [.code (Qf Try.prog 17)] ⟨[]++unds (Try.f17.ntmps - 0),[]⟩ :=
 Qk (n:=400) (evs:=[.v (.agg YQ),.lent [0] Ka [⟨false,1,3,true,[],false⟩],.v (.agg YQ),.v yZ,.b true,.b true,.b true,.b false,.b false]) (obs:=_) hE Try.func17 Qm (by kernel_rfl) ho hr
theorem p17_start_3 {E:Env} {res:AV} (hE:Qn Try.prog 17 res E) (ho:AllP [Ql Try.prog (.clos 42 [] []) [] (.agg YQ),XT Try.prog (.clos 19 [] []) z17_7 z17_6 Ka [⟨false,1,3,true,[],false⟩],Ql Try.prog (.clos 42 [] []) [] (.agg YQ),Ql Try.prog (.clos 23 [] []) z17_4 yZ,0=0,((XH exC 6 ([(⟨0,3,0⟩:Prs)]) ([]:List Flt)).2 == 0)=true,(KC.2 == 0)=true,(KC.1 == 2)=false,false=false,false=false])
 (hr:AvLe (.bool false) res):G Try.prog E [.code (Qf Try.prog 17)] ⟨[]++unds (Try.f17.ntmps - 0),[]⟩ :=
 Qk (n:=400) (evs:=[.v (.agg YQ),.lent [0] Ka [⟨false,1,3,true,[],false⟩],.v (.agg YQ),.v yZ,.b true,.b true,.b false,.b false,.b false]) (obs:=_) hE Try.func17 Qm (by kernel_rfl) ho hr
theorem p17_start_4 {E:Env} {res:AV} (hE:Qn Try.prog 17 res E) (ho:AllP [Ql Try.prog (.clos 42 [] []) [] (.agg YQ),XT Try.prog (.clos 19 [] []) z17_7 z17_6 Ka [⟨false,1,3,true,[],false⟩],Ql Try.prog (.clos 42 [] []) [] (.agg YQ),Ql Try.prog (.clos 23 [] []) z17_4 yZ,0=0,((XH exC 6 ([(⟨0,3,0⟩:Prs)]) ([]:List Flt)).2 == 0)=true,(KC.2 == 0)=false,false=false,false=false,false=false])
 (hr:AvLe (.bool false) res):G Try.prog E [.code (Qf Try.prog 17)] ⟨[]++unds (Try.f17.ntmps - 0),[]⟩ :=
 Qk (n:=400) (evs:=[.v (.agg YQ),.lent [0] Ka [⟨false,1,3,true,[],false⟩],.v (.agg YQ),.v yZ,.b true,.b false,.b false,.b false,.b false]) (obs:=_) hE Try.func17 Qm (by kernel_rfl) ho hr
theorem p17_start_5 {E:Env} {res:AV} (hE:Qn Try.prog 17 res E) (ho:AllP [Ql Try.prog (.clos 42 [] []) [] (.agg YQ),XT Try.prog (.clos 19 [] []) z17_7 z17_6 Ka [⟨false,1,3,true,[],false⟩],Ql Try.prog (.clos 42 [] []) [] (.agg YQ),Ql Try.prog (.clos 23 [] []) z17_4 yZ,0=0,((XH exC 6 ([(⟨0,3,0⟩:Prs)]) ([]:List Flt)).2 == 0)=false,false=false,false=false,false=false,false=false])
 (hr:AvLe (.bool false) res):G Try.prog E [.code (Qf Try.prog 17)] ⟨[]++unds (Try.f17.ntmps - 0),[]⟩ :=
 Qk (n:=400) (evs:=[.v (.agg YQ),.lent [0] Ka [⟨false,1,3,true,[],false⟩],.v (.agg YQ),.v yZ,.b false,.b false,.b false,.b false,.b false]) (obs:=_) hE Try.func17 Qm (by kernel_rfl) ho hr
theorem f17W {E:Env} {rv:Bool} (hE:Qn Try.prog 17 (.bool rv) E)
 (h:(((exC.blocks.length≤9223372036854775807∧exC.cars.length≤9223372036854775807)∧([(⟨0,3,0⟩:Prs)]).length≤9223372036854775807∧([]:List Flt).length≤9223372036854775807)∧(((exC.blocks.length≤9223372036854775807∧exC.cars.length≤9223372036854775807)∧([]:List Prs).length≤9223372036854775807∧([(⟨2,1,0,1,1⟩:Flt)]).length≤9223372036854775807)∧(((XH exC 6 ([(⟨0,3,0⟩:Prs)]) ([]:List Flt)).2=0→(((Vb exC 3 ([]:List Prs) ([(⟨2,1,0,1,1⟩:Flt)])).2=0→(((Vb exC 3 ([]:List Prs) ([(⟨2,1,0,1,1⟩:Flt)])).1=2→((((((XH exC 6 ([(⟨0,3,0⟩:Prs)]) ([]:List Flt)).1).length:Nat):Int)=6→(∃ le:(List Spt),((XH exC 6 ([(⟨0,3,0⟩:Prs)]) ([]:List Flt)).1)[3]?=some le∧(((le.length:Int)=2→(∃ se:Spt,le[0]?=some se∧rv=(se.block == 1 && (se.ran == 0 && (se.opn == false && true)))))∧(¬ ((le.length:Int)=2)→rv=false))))∧(¬ (((((XH exC 6 ([(⟨0,3,0⟩:Prs)]) ([]:List Flt)).1).length:Nat):Int)=6)→rv=false)))∧(¬ ((Vb exC 3 ([]:List Prs) ([(⟨2,1,0,1,1⟩:Flt)])).1=2)→rv=false)))∧(¬ ((Vb exC 3 ([]:List Prs) ([(⟨2,1,0,1,1⟩:Flt)])).2=0)→rv=false)))∧(¬ ((XH exC 6 ([(⟨0,3,0⟩:Prs)]) ([]:List Flt)).2=0)→rv=false))))):G Try.prog E [.code (Qf Try.prog 17)] ⟨[]++unds (Try.f17.ntmps - 0),[]⟩:=by
 obtain ⟨h1,h⟩:=h
 obtain ⟨h2,h⟩:=h
 rcases bft ((XH exC 6 ([(⟨0,3,0⟩:Prs)]) ([]:List Flt)).2 == 0) with hc0 | hc0
 · have h:=h.1 (eq_of_beq hc0)
   rcases bft ((Vb exC 3 ([]:List Prs) ([(⟨2,1,0,1,1⟩:Flt)])).2 == 0) with hc1 | hc1
   · have h:=h.1 (eq_of_beq hc1)
     rcases bft ((Vb exC 3 ([]:List Prs) ([(⟨2,1,0,1,1⟩:Flt)])).1 == 2) with hc2 | hc2
     · have h:=h.1 (eq_of_beq hc2)
       rcases bft (((((XH exC 6 ([(⟨0,3,0⟩:Prs)]) ([]:List Flt)).1).length:Nat):Int) == 6) with hc3 | hc3
       · have h:=h.1 (eq_of_beq hc3)
         obtain ⟨le,h3,h⟩:=h
         rcases bft ((le.length:Int) == 2) with hc4 | hc4
         · have h:=h.1 (eq_of_beq hc4)
           obtain ⟨se,h4,h⟩:=h
           exact p17_start_0 le se hE ⟨(u42 (Xv )),(Yc (fv':=.clos 19 [] []) (args':=[.agg [.rsl (Qc exC.blocks) 0 exC.blocks.length,.rsl (rowI exC.cars) 0 exC.cars.length],.int .i64 6,.rsl [.int .i64 0,.int .i64 3,.int .i64 0] 0 1,.nilSl]) (o1:=[]) (o2:=[0=0]) (by kernel_rfl) trivial (by kernel_rfl) ⟨rfl,trivial⟩ (Ql.le (args:=[.agg [.rsl (Qc exC.blocks) 0 exC.blocks.length,.rsl (rowI exC.cars) 0 exC.cars.length],.int .i64 6,.rsl (Qs ([(⟨0,3,0⟩:Prs)])) 0 (([(⟨0,3,0⟩:Prs)]).length),.rsl (Qi ([]:List Flt)) 0 (([]:List Flt).length)]) (u19 (yi exC 6 ([(⟨0,3,0⟩:Prs)]) ([]:List Flt) h1)) ⟨AvLe.of_eq rfl,⟨AvLe.of_eq rfl,⟨AvLe.of_eq rfl,⟨Yl,trivial⟩⟩⟩⟩)),(u42 (Xv )),(Ql.le (args:=[.agg [.rsl (Qc exC.blocks) 0 exC.blocks.length,.rsl (rowI exC.cars) 0 exC.cars.length],.int .i64 3,.rsl (Qs ([]:List Prs)) 0 (([]:List Prs).length),.rsl (Qi ([(⟨2,1,0,1,1⟩:Flt)])) 0 (([(⟨2,1,0,1,1⟩:Flt)]).length)]) (u23 (WP exC 3 ([]:List Prs) ([(⟨2,1,0,1,1⟩:Flt)]) h2)) ⟨AvLe.of_eq rfl,⟨AvLe.of_eq rfl,⟨Yl,⟨AvLe.of_eq rfl,trivial⟩⟩⟩⟩),rfl,hc0,hc1,hc2,hc3,(Qe h3),(rp (cLs Qg) 1 0 1 h3),hc4,(Qe h3),(rp (cLs Qg) 1 0 1 h3),(Qe h4),(rp cSpt 3 0 3 h4),trivial⟩ (AvLe.of_eq (by rw [h]; try rfl))
         · have h:=h.2 (ne_of_beq_false hc4)
           exact p17_start_1 le hE ⟨(u42 (Xv )),(Yc (fv':=.clos 19 [] []) (args':=[.agg [.rsl (Qc exC.blocks) 0 exC.blocks.length,.rsl (rowI exC.cars) 0 exC.cars.length],.int .i64 6,.rsl [.int .i64 0,.int .i64 3,.int .i64 0] 0 1,.nilSl]) (o1:=[]) (o2:=[0=0]) (by kernel_rfl) trivial (by kernel_rfl) ⟨rfl,trivial⟩ (Ql.le (args:=[.agg [.rsl (Qc exC.blocks) 0 exC.blocks.length,.rsl (rowI exC.cars) 0 exC.cars.length],.int .i64 6,.rsl (Qs ([(⟨0,3,0⟩:Prs)])) 0 (([(⟨0,3,0⟩:Prs)]).length),.rsl (Qi ([]:List Flt)) 0 (([]:List Flt).length)]) (u19 (yi exC 6 ([(⟨0,3,0⟩:Prs)]) ([]:List Flt) h1)) ⟨AvLe.of_eq rfl,⟨AvLe.of_eq rfl,⟨AvLe.of_eq rfl,⟨Yl,trivial⟩⟩⟩⟩)),(u42 (Xv )),(Ql.le (args:=[.agg [.rsl (Qc exC.blocks) 0 exC.blocks.length,.rsl (rowI exC.cars) 0 exC.cars.length],.int .i64 3,.rsl (Qs ([]:List Prs)) 0 (([]:List Prs).length),.rsl (Qi ([(⟨2,1,0,1,1⟩:Flt)])) 0 (([(⟨2,1,0,1,1⟩:Flt)]).length)]) (u23 (WP exC 3 ([]:List Prs) ([(⟨2,1,0,1,1⟩:Flt)]) h2)) ⟨AvLe.of_eq rfl,⟨AvLe.of_eq rfl,⟨Yl,⟨AvLe.of_eq rfl,trivial⟩⟩⟩⟩),rfl,hc0,hc1,hc2,hc3,(Qe h3),(rp (cLs Qg) 1 0 1 h3),hc4,trivial⟩ (AvLe.of_eq (by rw [h]; try rfl))
       · have h:=h.2 (ne_of_beq_false hc3)
         exact p17_start_2 hE ⟨(u42 (Xv )),(Yc (fv':=.clos 19 [] []) (args':=[.agg [.rsl (Qc exC.blocks) 0 exC.blocks.length,.rsl (rowI exC.cars) 0 exC.cars.length],.int .i64 6,.rsl [.int .i64 0,.int .i64 3,.int .i64 0] 0 1,.nilSl]) (o1:=[]) (o2:=[0=0]) (by kernel_rfl) trivial (by kernel_rfl) ⟨rfl,trivial⟩ (Ql.le (args:=[.agg [.rsl (Qc exC.blocks) 0 exC.blocks.length,.rsl (rowI exC.cars) 0 exC.cars.length],.int .i64 6,.rsl (Qs ([(⟨0,3,0⟩:Prs)])) 0 (([(⟨0,3,0⟩:Prs)]).length),.rsl (Qi ([]:List Flt)) 0 (([]:List Flt).length)]) (u19 (yi exC 6 ([(⟨0,3,0⟩:Prs)]) ([]:List Flt) h1)) ⟨AvLe.of_eq rfl,⟨AvLe.of_eq rfl,⟨AvLe.of_eq rfl,⟨Yl,trivial⟩⟩⟩⟩)),(u42 (Xv )),(Ql.le (args:=[.agg [.rsl (Qc exC.blocks) 0 exC.blocks.length,.rsl (rowI exC.cars) 0 exC.cars.length],.int .i64 3,.rsl (Qs ([]:List Prs)) 0 (([]:List Prs).length),.rsl (Qi ([(⟨2,1,0,1,1⟩:Flt)])) 0 (([(⟨2,1,0,1,1⟩:Flt)]).length)]) (u23 (WP exC 3 ([]:List Prs) ([(⟨2,1,0,1,1⟩:Flt)]) h2)) ⟨AvLe.of_eq rfl,⟨AvLe.of_eq rfl,⟨Yl,⟨AvLe.of_eq rfl,trivial⟩⟩⟩⟩),rfl,hc0,hc1,hc2,hc3,rfl,trivial⟩ (AvLe.of_eq (by rw [h]; try rfl))
     · have h:=h.2 (ne_of_beq_false hc2)
       exact p17_start_3 hE ⟨(u42 (Xv )),(Yc (fv':=.clos 19 [] []) (args':=[.agg [.rsl (Qc exC.blocks) 0 exC.blocks.length,.rsl (rowI exC.cars) 0 exC.cars.length],.int .i64 6,.rsl [.int .i64 0,.int .i64 3,.int .i64 0] 0 1,.nilSl]) (o1:=[]) (o2:=[0=0]) (by kernel_rfl) trivial (by kernel_rfl) ⟨rfl,trivial⟩ (Ql.le (args:=[.agg [.rsl (Qc exC.blocks) 0 exC.blocks.length,.rsl (rowI exC.cars) 0 exC.cars.length],.int .i64 6,.rsl (Qs ([(⟨0,3,0⟩:Prs)])) 0 (([(⟨0,3,0⟩:Prs)]).length),.rsl (Qi ([]:List Flt)) 0 (([]:List Flt).length)]) (u19 (yi exC 6 ([(⟨0,3,0⟩:Prs)]) ([]:List Flt) h1)) ⟨AvLe.of_eq rfl,⟨AvLe.of_eq rfl,⟨AvLe.of_eq rfl,⟨Yl,trivial⟩⟩⟩⟩)),(u42 (Xv )),(Ql.le (args:=[.agg [.rsl (Qc exC.blocks) 0 exC.blocks.length,.rsl (rowI exC.cars) 0 exC.cars.length],.int .i64 3,.rsl (Qs ([]:List Prs)) 0 (([]:List Prs).length),.rsl (Qi ([(⟨2,1,0,1,1⟩:Flt)])) 0 (([(⟨2,1,0,1,1⟩:Flt)]).length)]) (u23 (WP exC 3 ([]:List Prs) ([(⟨2,1,0,1,1⟩:Flt)]) h2)) ⟨AvLe.of_eq rfl,⟨AvLe.of_eq rfl,⟨Yl,⟨AvLe.of_eq rfl,trivial⟩⟩⟩⟩),rfl,hc0,hc1,hc2,rfl,rfl,trivial⟩ (AvLe.of_eq (by rw [h]; try rfl))
   · have h:=h.2 (ne_of_beq_false hc1)
     exact p17_start_4 hE ⟨(u42 (Xv )),(Yc (fv':=.clos 19 [] []) (args':=[.agg [.rsl (Qc exC.blocks) 0 exC.blocks.length,.rsl (rowI exC.cars) 0 exC.cars.length],.int .i64 6,.rsl [.int .i64 0,.int .i64 3,.int .i64 0] 0 1,.nilSl]) (o1:=[]) (o2:=[0=0]) (by kernel_rfl) trivial (by kernel_rfl) ⟨rfl,trivial⟩ (Ql.le (args:=[.agg [.rsl (Qc exC.blocks) 0 exC.blocks.length,.rsl (rowI exC.cars) 0 exC.cars.length],.int .i64 6,.rsl (Qs ([(⟨0,3,0⟩:Prs)])) 0 (([(⟨0,3,0⟩:Prs)]).length),.rsl (Qi ([]:List Flt)) 0 (([]:List Flt).length)]) (u19 (yi exC 6 ([(⟨0,3,0⟩:Prs)]) ([]:List Flt) h1)) ⟨AvLe.of_eq rfl,⟨AvLe.of_eq rfl,⟨AvLe.of_eq rfl,⟨Yl,trivial⟩⟩⟩⟩)),(u42 (Xv )),(Ql.le (args:=[.agg [.rsl (Qc exC.blocks) 0 exC.blocks.length,.rsl (rowI exC.cars) 0 exC.cars.length],.int .i64 3,.rsl (Qs ([]:List Prs)) 0 (([]:List Prs).length),.rsl (Qi ([(⟨2,1,0,1,1⟩:Flt)])) 0 (([(⟨2,1,0,1,1⟩:Flt)]).length)]) (u23 (WP exC 3 ([]:List Prs) ([(⟨2,1,0,1,1⟩:Flt)]) h2)) ⟨AvLe.of_eq rfl,⟨AvLe.of_eq rfl,⟨Yl,⟨AvLe.of_eq rfl,trivial⟩⟩⟩⟩),rfl,hc0,hc1,rfl,rfl,rfl,trivial⟩ (AvLe.of_eq (by rw [h]; try rfl))
 · have h:=h.2 (ne_of_beq_false hc0)
   exact p17_start_5 hE ⟨(u42 (Xv )),(Yc (fv':=.clos 19 [] []) (args':=[.agg [.rsl (Qc exC.blocks) 0 exC.blocks.length,.rsl (rowI exC.cars) 0 exC.cars.length],.int .i64 6,.rsl [.int .i64 0,.int .i64 3,.int .i64 0] 0 1,.nilSl]) (o1:=[]) (o2:=[0=0]) (by kernel_rfl) trivial (by kernel_rfl) ⟨rfl,trivial⟩ (Ql.le (args:=[.agg [.rsl (Qc exC.blocks) 0 exC.blocks.length,.rsl (rowI exC.cars) 0 exC.cars.length],.int .i64 6,.rsl (Qs ([(⟨0,3,0⟩:Prs)])) 0 (([(⟨0,3,0⟩:Prs)]).length),.rsl (Qi ([]:List Flt)) 0 (([]:List Flt).length)]) (u19 (yi exC 6 ([(⟨0,3,0⟩:Prs)]) ([]:List Flt) h1)) ⟨AvLe.of_eq rfl,⟨AvLe.of_eq rfl,⟨AvLe.of_eq rfl,⟨Yl,trivial⟩⟩⟩⟩)),(u42 (Xv )),(Ql.le (args:=[.agg [.rsl (Qc exC.blocks) 0 exC.blocks.length,.rsl (rowI exC.cars) 0 exC.cars.length],.int .i64 3,.rsl (Qs ([]:List Prs)) 0 (([]:List Prs).length),.rsl (Qi ([(⟨2,1,0,1,1⟩:Flt)])) 0 (([(⟨2,1,0,1,1⟩:Flt)]).length)]) (u23 (WP exC 3 ([]:List Prs) ([(⟨2,1,0,1,1⟩:Flt)]) h2)) ⟨AvLe.of_eq rfl,⟨AvLe.of_eq rfl,⟨Yl,⟨AvLe.of_eq rfl,trivial⟩⟩⟩⟩),rfl,hc0,rfl,rfl,rfl,rfl,trivial⟩ (AvLe.of_eq (by rw [h]; try rfl))
theorem Qbn:Pure Try.prog 17 [] (.bool true):=QN Try.func17 f17b fun E hE=>by
 have e1:(XH exC 6 ([(⟨0,3,0⟩:Prs)]) ([]:List Flt)).2=0:=by kernel_rfl
 have e2:(Vb exC 3 ([]:List Prs) ([(⟨2,1,0,1,1⟩:Flt)])).2=0:=by kernel_rfl
 have e3:(Vb exC 3 ([]:List Prs) ([(⟨2,1,0,1,1⟩:Flt)])).1=2:=by kernel_rfl
 have e4:(XH exC 6 ([(⟨0,3,0⟩:Prs)]) ([]:List Flt)).1.length=6:=by kernel_rfl
 have e5:((XH exC 6 ([(⟨0,3,0⟩:Prs)]) ([]:List Flt)).1.getD 3 []).length=2:=by kernel_rfl
 have e6:((XH exC 6 ([(⟨0,3,0⟩:Prs)]) ([]:List Flt)).1.getD 3 []).getD 0 dS=⟨1,0,false⟩:=by kernel_rfl
 refine f17W (rv:=true) hE ⟨⟨⟨by decide,by decide⟩,by decide,by decide⟩,⟨⟨by decide,by decide⟩,by decide,by decide⟩,fun _=>⟨fun _=>⟨fun _=>⟨fun _=>⟨_,getD_some (d:=[]) (by rw [e4]; decide),fun _=>⟨_,getD_some (d:=dS) (by rw [e5]; decide),by rw [e6]; rfl⟩,fun h=>?_⟩,fun h=>?_⟩,fun h=>?_⟩,fun h=>?_⟩,fun h=>?_⟩
 · exact absurd (by rw [e5]; rfl) h
 · exact absurd (by rw [e4]; rfl) h
 · exact absurd e3 h
 · exact absurd e2 h
 · exact absurd e1 h
theorem dInts (W:World):Dec Try.prog W 23 (List Int) (fun a=>[.rsl (rowI a) 0 a.length]) (fun a=>a.length≤9223372036854775807):=by
 refine Dec.map (dec_slice Try.underlying23 (n:=1) (by kernel_rfl) (by decide) (fun _=>rfl) (fun _=>rfl) (dec_i64 Try.underlying3)) (fun x=>x) ?_ ?_
 · exact fun _=>rfl
 · exact fun _ h=>h.1
theorem dBk (W:World):Dec Try.prog W 45 Bk cBk (fun a=>True):=by
 refine Dec.map (Qbb Try.underlying45 rfl (tot:=4) (by kernel_rfl) (Vi (n:=1) (tot:=4) (by kernel_rfl) rfl (dec_i64 Try.underlying3) (Vi (n:=1) (tot:=4) (by kernel_rfl) rfl (dec_bool Try.underlying4) (Vi (n:=1) (tot:=4) (by kernel_rfl) rfl (dec_i64 Try.underlying3) (Vi (n:=1) (tot:=4) (by kernel_rfl) rfl (dec_bool Try.underlying4) decFs_nil (by decide)) (by decide)) (by decide)) (by decide))) (fun x=>(⟨x.1,x.2.1,x.2.2.1,x.2.2.2.1⟩:Bk)) ?_ ?_
 · exact fun _=>rfl
 · exact fun _ _=>trivial
theorem dBks (W:World):Dec Try.prog W 22 (List Bk) (fun a=>[.rsl (Qc a) 0 a.length]) (fun a=>a.length≤9223372036854775807):=by
 refine Dec.map (dec_slice Try.underlying22 (n:=4) (by kernel_rfl) (by decide) (fun _=>rfl) (fun _=>rfl) (dBk W)) (fun x=>x) ?_ ?_
 · exact fun _=>rfl
 · exact fun _ h=>h.1
theorem dCir (W:World):Dec Try.prog W 25 Cir (fun a=>[.rsl (Qc a.blocks) 0 a.blocks.length,.rsl (rowI a.cars) 0 a.cars.length]) (fun a=>a.blocks.length≤9223372036854775807∧a.cars.length≤9223372036854775807):=by
 refine Dec.map (Qbb Try.underlying25 rfl (tot:=2) (by kernel_rfl) (Vi (n:=1) (tot:=2) (by kernel_rfl) rfl (dBks W) (Vi (n:=1) (tot:=2) (by kernel_rfl) rfl (dInts W) decFs_nil (by decide)) (by decide))) (fun x=>(⟨x.1,x.2.1⟩:Cir)) ?_ ?_
 · exact fun _=>rfl
 · exact fun _ h=>⟨h.1,h.2.1⟩
def CirQ (c:Cir):Prop:=c.blocks.length≤9223372036854775807∧c.cars.length≤9223372036854775807
theorem far_in {c:Cir} (h:farB c=false):c.blocks.length≤15∧c.cars.length≤12:=by
 simp only [farB,Bool.or_eq_false_iff,decide_eq_false_iff_not] at h; omega
end Go.Proofs.Ytgdfkjjgdkejfaa
namespace Go.Proofs.Ytgdfkjjgdkejfaa
open Go Ax
open Go.Proofs
def spotOk (c:Cir) (x:Spt):Bool:=Qh x.block 0 (c.blocks.length - 1) && Qh x.ran 0 (bkAt c x.block).time
end Go.Proofs.Ytgdfkjjgdkejfaa
namespace Go.Proofs.Ytgdfkjjgdkejfaa
open Go Ax
open Go.Proofs
/-! ### What the switches say,if nothing is split -/
theorem b2i_one {b:Bool}:(b2i b == 1)=b:=by cases b <;> rfl
theorem b2i_zero {b:Bool}:(b2i b == 0)=!b:=by cases b <;> rfl
theorem said_true {T:Trk} (h1:T.faults.length≤1) {k b:Int} (hs:Qy (Xc T k b)=false):(Xc T k b).a=b2i (isI T.c T.cars k b)∧(Xc T k b).b=b2i (isI T.c T.cars k b):=by
 simp only [Xc,saysV] at hs ⊢
 cases hf:T.faults with
 | nil=>simp
 | cons f l =>
  have:l=[]:=by rw [hf] at h1; exact List.eq_nil_of_length_eq_zero (by simpa using h1)
  subst this
  rw [hf] at hs
  simp only [List.foldl_cons,List.foldl_nil,Xa,Qy] at hs ⊢
  split at hs
  · rename_i h
    rw [if_pos h]
    split at hs
    · rename_i hc; rw [if_pos hc]; simp only at hs ⊢; exact ⟨by simpa using hs,trivial⟩
    · rename_i hc; rw [if_neg hc]; simp only at hs ⊢; exact ⟨trivial,(show b2i (isI T.c T.cars k b)=f.val by simpa using hs).symm⟩
  · rename_i h; rw [if_neg h]; exact ⟨rfl,rfl⟩
theorem Qbw {T:Trk} (h:QL (Qj T)=false) {k b:Nat} (hk:k<3) (hb:b<T.c.blocks.length):Qy (Xc T ((k+1:Nat):Int) (b:Int))=false:=by
 rw [Qy,Ko h hk hb]; simp
theorem Qbp {T:Trk} (h1:T.faults.length≤1) (h:QL (Qj T)=false) {k b:Nat} (hk:k<3) (hb:b<T.c.blocks.length):(Xc T ((k+1:Nat):Int) (b:Int)).a=b2i (isI T.c T.cars ((k+1:Nat):Int) (b:Int)) :=
 (said_true h1 (Qbw h hk hb)).1
theorem free_true {T:Trk} (h1:T.faults.length≤1) (hsp:QL (Qj T)=false) (hn:0<T.c.blocks.length) {ops:List Bool} {b:Nat} (hb:b<T.c.blocks.length) :
 VX T.c (Qj T) ops b=(isI T.c T.cars 2 b && isI T.c T.cars 3 b && !(ops.getD b false) && !(isI T.c T.cars 1 (Xg T.c b:Nat))):=by
 have e1:(Xc T 2 b).a=b2i (isI T.c T.cars 2 b):=Qbp h1 hsp (k:=1) (by omega) hb
 have e2:(Xc T 3 b).a=b2i (isI T.c T.cars 3 b):=Qbp h1 hsp (k:=2) (by omega) hb
 have e3:(Xc T 1 (Xg T.c b:Nat)).a=b2i (isI T.c T.cars 1 (Xg T.c b:Nat)):=Qbp h1 hsp (k:=0) (by omega) (Nat.mod_lt _ hn)
 rw [free_a hsp hn hb,e1,e2,e3,b2i_one,b2i_one,b2i_zero]
theorem open_true {T:Trk} (h1:T.faults.length≤1) (hsp:QL (Qj T)=false) {p:Prs} (hp:InC T.c p.block) (ho:Wh T.c (Qj T) p=true):isI T.c T.cars 2 p.block=true:=by
 have e:((Int.toNat p.block:Nat):Int)=p.block:=by have:=hp.1; omega
 have e1:=Qbp h1 hsp (k:=1) (by omega) hp.2
 rw [e] at e1
 have e1:(Xc T 2 p.block).a=b2i (isI T.c T.cars 2 p.block):=e1
 rw [open_a hsp hp,e1,b2i_one] at ho
 simp only [Bool.and_eq_true] at ho
 exact ho.1.2
/-! ### The brake,car by car -/
def mvC (c:Cir) (x:Car):Car:=⟨⟨(Xg c (Int.toNat x.spot.block):Nat),0,x.spot.opn⟩,0⟩
def goS (c:Cir) (rd:Rd4) (ops:List Bool) (s0:Brk) (i:Nat):Bool:=VX c rd ops (Int.toNat (s0.cars.getD i dC).spot.block) && !(YF c s0 (Int.toNat (s0.cars.getD i dC).spot.block) i)
theorem Qbe {cars:List Car} (hn:QP cars) {i b:Nat} (hi:i<cars.length) (hb:(cars.getD i dC).spot.block=(b:Int)):Vv cars b cars.length=some i :=
 Yu hi (by simpa using hb) fun j hj=>by
  have:=hn j i hj hi
  rw [hb] at this
  exact beq_eq_false_iff_ne.2 this
theorem Vj {c:Cir} {rd:Rd4} {ops:List Bool} {s0:Brk} (hn:QP s0.cars) (hin:∀ x ∈ s0.cars,InC c x.spot.block) (hg:s0.gos.length=c.blocks.length):∀ {b:Nat},b≤c.blocks.length →
 ((Qw c rd ops s0.cars b s0).cars.length=s0.cars.length∧(∀ i,i<s0.cars.length→(Qw c rd ops s0.cars b s0).cars.getD i dC=if Int.toNat (s0.cars.getD i dC).spot.block<b∧goS c rd ops s0 i=true then mvC c (s0.cars.getD i dC) else s0.cars.getD i dC) ∧
   (∀ j,b≤j→(Qw c rd ops s0.cars b s0).gos.getD j false=s0.gos.getD j false))
 | 0,_=>⟨rfl,fun i hi=>by rw [if_neg (by omega)]; rfl,fun j _=>rfl⟩
 | b+1,hb=>by
  obtain ⟨h1,h2,h3⟩:=Vj hn hin hg (rd:=rd) (ops:=ops) (b:=b) (by omega)
  simp only [Qw]
  generalize Qw c rd ops s0.cars b s0=s at h1 h2 h3
  have same:(∀ i,i<s0.cars.length→Int.toNat (s0.cars.getD i dC).spot.block=b→goS c rd ops s0 i=false)→s.cars.length=s0.cars.length∧(∀ i,i<s0.cars.length→s.cars.getD i dC=if Int.toNat (s0.cars.getD i dC).spot.block<b+1∧goS c rd ops s0 i=true then mvC c (s0.cars.getD i dC) else s0.cars.getD i dC)∧(∀ j,b+1≤j→s.gos.getD j false=s0.gos.getD j false):=fun hh=>by
   refine ⟨h1,fun i hi=>?_,fun j hj=>h3 j (by omega)⟩
   rw [h2 i hi]
   by_cases hbi:Int.toNat (s0.cars.getD i dC).spot.block=b
   · rw [if_neg (by omega),if_neg (by rw [hh i hi hbi]; simp)]
   · by_cases hlt:Int.toNat (s0.cars.getD i dC).spot.block<b∧goS c rd ops s0 i=true
     · rw [if_pos hlt,if_pos ⟨by omega,hlt.2⟩]
     · rw [if_neg hlt,if_neg fun h=>hlt ⟨by omega,h.2⟩]
  have inI:∀ i,i<s0.cars.length→((Int.toNat (s0.cars.getD i dC).spot.block:Nat):Int)=(s0.cars.getD i dC).spot.block:=fun i hi=>by
   have:=(hin _ (List.mem_of_getElem? (getD_some (d:=dC) hi))).1
   omega
  unfold Xz
  split
  · rename_i hfree
    cases hc:Vv s0.cars b s0.cars.length with
    | none =>
     simp only
     refine same fun i hi hbi=>?_
     have:=Qbe hn hi (b:=b) (by rw [← inI i hi,hbi])
     rw [hc] at this; cases this
    | some i =>
     simp only
     obtain ⟨hi,hib,-⟩:=QS hc
     have hib:(s0.cars.getD i dC).spot.block=(b:Int):=by simpa using hib
     have hibn:Int.toNat (s0.cars.getD i dC).spot.block=b:=by omega
     have hsi:s.cars.getD i dC=s0.cars.getD i dC:=by rw [h2 i hi,if_neg (by omega)]
     have hw:YF c s b i=YF c s0 b i:=by simp only [YF,hsi,h3 b (Nat.le_refl b)]
     have only:∀ k,k<s0.cars.length→Int.toNat (s0.cars.getD k dC).spot.block=b→k=i:=fun k hk hkb=>hn.uniq hk hi (by rw [← inI k hk,hkb,hib])
     split
     · rename_i hwt
       refine same fun k hk hkb=>?_
       have:=only k hk hkb
       subst this
       rw [goS,hkb,← hw,hwt]; simp
     · rename_i hwt
       have hgo:goS c rd ops s0 i=true:=by rw [goS,hibn,hfree,← hw,Bool.eq_false_iff.2 hwt]; rfl
       refine ⟨by simp [goB,h1],fun k hk=>?_,fun j hj=>?_⟩
       · simp only [goB]
         rw [List.getD_eq_getElem?_getD,List.getElem?_set]
         by_cases hki:i=k
         · subst hki
           rw [if_pos rfl,if_pos (by rw [h1]; exact hk),if_pos ⟨by omega,hgo⟩,hsi]
           simp only [mvC,hibn,Option.getD_some]
         · rw [if_neg hki,← List.getD_eq_getElem?_getD,h2 k hk]
           have hne:Int.toNat (s0.cars.getD k dC).spot.block ≠ b:=fun h=>hki (only k hk h).symm
           by_cases hlt:Int.toNat (s0.cars.getD k dC).spot.block<b∧goS c rd ops s0 k=true
           · rw [if_pos hlt,if_pos ⟨by omega,hlt.2⟩]
           · rw [if_neg hlt,if_neg fun h=>hlt ⟨by omega,h.2⟩]
       · simp only [goB]
         rw [List.getD_eq_getElem?_getD,List.getElem?_set,if_neg (by omega),← List.getD_eq_getElem?_getD]
         exact h3 j (by omega)
  · rename_i hfree
    refine same fun i hi hbi=>?_
    rw [goS,hbi,Bool.eq_false_iff.2 hfree]; rfl
/-! ### What is pressed,car by car -/
structure Prd (c:Cir) (r:List Car) (s:List Car × List Bool × List Bool):Prop where
 len:s.1.length=r.length
 same:∀ i,i<r.length→(s.1.getD i dC).spot.block=(r.getD i dC).spot.block∧(s.1.getD i dC).spot.ran=(r.getD i dC).spot.ran∧(s.1.getD i dC).stood=(r.getD i dC).stood
 opn:∀ i,i<r.length→(s.1.getD i dC).spot.opn=true→(r.getD i dC).spot.opn=true ∨ (s.2.2.getD (Int.toNat (r.getD i dC).spot.block) false=true∧Xp c (r.getD i dC)=true)
theorem isI_car {c:Cir} {cars:List Car} (hn:QP cars) {i:Nat} (hi:i<cars.length):isI c cars 2 (cars.getD i dC).spot.block=Xp c (cars.getD i dC):=by
 have hm:=List.mem_of_getElem? (getD_some (d:=dC) hi)
 rw [isI,if_neg (by omega),if_pos rfl,Bool.eq_iff_iff,Wu]
 constructor
 · rintro ⟨j,hj,hp⟩
   simp only [Bool.and_eq_true,beq_iff_eq] at hp
   have:=hn.uniq hj hi hp.1
   rw [← this]; exact hp.2
 · intro h
   exact ⟨i,hi,by rw [beq_self_eq_true,h]; rfl⟩
theorem Prd.press {T:Trk} (h1:T.faults.length≤1) (hsp:QL (Qj T)=false) (hn:QP T.cars) {s:List Car × List Bool × List Bool} {p:Prs} (hp:InC T.c p.block) (h:Prd T.c T.cars s) (hlo:s.2.2.length=T.c.blocks.length):Prd T.c T.cars (QT T.c (Qj T) p s):=by
 unfold QT
 split
 · exact ⟨h.len,h.same,h.opn⟩
 · refine ⟨by simp [h.len],fun i hi=>?_,fun i hi ho=>?_⟩
   · rw [Xe (d:=dC) (by rw [h.len]; exact hi)]
     have:=h.same i hi
     unfold XY
     split
     · exact this
     · exact this
   · rw [Xe (d:=dC) (by rw [h.len]; exact hi)] at ho
     have hsm:=h.same i hi
     have grow:∀ j,s.2.2.getD j false=true→(opsP (Wh T.c (Qj T) p) p s.1 s.2.2).getD j false=true:=fun j hj=>by
      have hjl:j<s.2.2.length:=by
       rcases Nat.lt_or_ge j s.2.2.length with q | q
       · exact q
       · rw [List.getD_eq_getElem?_getD,List.getElem?_eq_none q] at hj; cases hj
      rw [opsP,List.getD_eq_getElem?_getD,List.getElem?_set]
      split
      · rename_i e; subst e; rw [if_pos hjl,hj]; rfl
      · rw [← List.getD_eq_getElem?_getD]; exact hj
     unfold XY at ho
     split at ho
     · rename_i hh
       simp only at ho
       have hk:p.kind=1:=by simpa using ho
       have hhit:=hh
       simp only [hitP,Bool.and_eq_true,beq_iff_eq,Bool.or_eq_true] at hh
       have hop:Wh T.c (Qj T) p=true:=by rcases hh.2 with h | h; omega; exact h
       have hrest:=open_true h1 hsp hp hop
       have hb:(T.cars.getD i dC).spot.block=p.block:=by rw [← hsm.1]; exact hh.1
       rw [← hb,isI_car hn hi] at hrest
       refine .inr ⟨?_,hrest⟩
       have hany:s.1.any (hitP (Wh T.c (Qj T) p) p)=true:=Wu.2 ⟨i,by rw [h.len]; exact hi,hhit⟩
       rw [hb,opsP,List.getD_eq_getElem?_getD,List.getElem?_set,if_pos rfl,if_pos (by rw [hlo]; exact hp.2),hany,show (p.kind == 1)=true by simpa using hk]
       simp
     · rcases h.opn i hi ho with q | ⟨q1,q2⟩
       · exact .inl q
       · exact .inr ⟨grow _ q1,q2⟩
theorem Prd.fold {T:Trk} (h1:T.faults.length≤1) (hsp:QL (Qj T)=false) (hn:QP T.cars):∀ {l:List Prs} {s:List Car × List Bool × List Bool},Qaq T.c l→Prd T.c T.cars s→s.2.2.length=T.c.blocks.length→Prd T.c T.cars (l.foldl (Xs T.c (Qj T) T.tick) s)
 | [],s,_,h,_=>h
 | p :: l,s,hp,h,hl=>by
  simp only [List.foldl_cons]
  have hpp:=hp p (by simp)
  refine Prd.fold h1 hsp hn (fun q hq=>hp q (by simp [hq])) ?_ ?_
  · unfold Xs
    split
    · exact Prd.press h1 hsp hn hpp.1 h hl
    · exact h
  · unfold Xs
    split
    · rw [QaN]; exact hl
    · exact hl
end Go.Proofs.Ytgdfkjjgdkejfaa
namespace Go.Proofs.Ytgdfkjjgdkejfaa
open Go Ax
open Go.Proofs
theorem wreck_no {c:Cir} {cars:List Car} (hn:QP cars) (hr:∀ x ∈ cars,x.spot.opn=true→Xp c x=true):XU c (cars.map Car.spot)=false:=by
 rw [XU]
 refine XG fun i hi=>?_
 rw [List.length_map] at hi
 rw [Bool.or_eq_false_iff]
 refine ⟨?_,XG fun k hk=>?_⟩
 · rw [qm,QO hi]
   have:=hr _ (List.mem_of_getElem? (getD_some (d:=dC) hi))
   cases ho:(cars.getD i dC).spot.opn with
   | false=>rfl
   | true =>
    have:=this ho
    have e:Vg c (cars.getD i dC).spot=true:=this
    rw [e]; rfl
 · rw [QO hi,QO (by omega)]
   exact beq_eq_false_iff_ne.2 (hn k i hk hi)
theorem next_inj {n a b:Nat} (ha:a<n) (hb:b<n) (h:(a+1) % n=(b+1) % n):a=b:=by
 rcases Nat.lt_or_ge (a+1) n with h1 | h1 <;> rcases Nat.lt_or_ge (b+1) n with h2 | h2
 · rw [Nat.mod_eq_of_lt h1,Nat.mod_eq_of_lt h2] at h; omega
 · rw [Nat.mod_eq_of_lt h1,show b+1=n by omega,Nat.mod_self] at h; omega
 · rw [Nat.mod_eq_of_lt h2,show a+1=n by omega,Nat.mod_self] at h; omega
 · omega
structure Inv (T:Trk) (B:Int):Prop where
 tok:TOk T B
 tt:TT T
 w:T.wrecked=false
 rest:∀ x ∈ T.cars,x.spot.opn=true→Xp T.c x=true
 f1:T.faults.length≤1
theorem Inv.ns {T:Trk} {B:Int} (h:Inv T B):QP T.cars:=h.tok.ns h.w
theorem roll_rest {T:Trk} (h:∀ x ∈ T.cars,x.spot.opn=true→Xp T.c x=true):∀ x ∈ QM T,x.spot.opn=true→Xp T.c x=true:=by
 unfold QM
 split
 · intro x hx
   obtain ⟨y,hy,rfl⟩:=List.mem_map.1 hx
   have:=h y hy
   unfold Qo
   split
   · rename_i hr; exact fun _=>hr
   · rename_i hr; exact fun ho=>absurd (this ho) hr
 · exact h
theorem Inv.nosplit {T:Trk} {B:Int} (h:Inv T B) (hs:Yf T<0):QL (Qj (midT T))=false:=by
 have:=h.tok.tk
 unfold Yf at hs
 split at hs
 · split at hs
   · omega
   · rename_i hh; exact Bool.eq_false_iff.2 hh
 · rename_i h0; exact absurd hs h0
/-- Cars that move: each into a block that was free. -/
structure Moved (c:Cir) (r s r':List Car) (go:Nat→Bool):Prop where
 len:s.length=r.length
 len':r'.length=r.length
 each:∀ i,i<r.length→r'.getD i dC=if go i=true then mvC c (s.getD i dC) else s.getD i dC
 same:∀ i,i<r.length→(s.getD i dC).spot.block=(r.getD i dC).spot.block∧(s.getD i dC).spot.ran=(r.getD i dC).spot.ran
 free:∀ i,i<r.length→go i=true→(∀ j,j<r.length→(r.getD j dC).spot.block ≠ (Xg c (Int.toNat (r.getD i dC).spot.block):Nat))∧(s.getD i dC).spot.opn=false
 opn:∀ i,i<r.length→(s.getD i dC).spot.opn=true→(r.getD i dC).spot.opn=true ∨ Xp c (r.getD i dC)=true
theorem act_moved {T:Trk} {B:Int} {l:List Prs} (h:Inv T B) (hpr:Qaq T.c l) (hs:Yf T<0):∃ s go,Moved T.c (QM T) s (actT T l).cars go:=by
 have hsp:=h.nosplit hs
 have hn:=YN h.ns
 have hcar:=Yi h.tok
 have hf1:(midT T).faults.length≤1:=h.f1
 have hprd:Prd T.c (QM T) (QI T l):=Prd.fold (T:=midT T) hf1 hsp hn hpr ⟨rfl,fun i hi=>⟨rfl,rfl,rfl⟩,fun i hi ho=>.inl ho⟩ (by simp [midT])
 have hp:=qx (l:=l) h.tok h.w
 have e:actT T l=Ve T l:=by unfold actT; rw [if_pos hs]
 have hbr:=Vj (c:=T.c) (rd:=Qj (midT T)) (ops:=(QI T l).2.2) (s0:=⟨(QI T l).1,(QI T l).2.1,T.rounds,T.gone⟩) hp.ns (fun x hx=>(hp.car x hx).inC) hp.lg (b:=T.c.blocks.length) (Nat.le_refl _)
 simp only at hbr
 have hl:=hprd.len
 refine ⟨(QI T l).1,fun i=>goS T.c (Qj (midT T)) (QI T l).2.2 ⟨(QI T l).1,(QI T l).2.1,T.rounds,T.gone⟩ i,hl,?_,fun i hi=>?_,fun i hi=>⟨(hprd.same i hi).1,(hprd.same i hi).2.1⟩,fun i hi hgo=>?_,fun i hi ho=>?_⟩
 · rw [e]; show (Qw _ _ _ _ _ _).cars.length=_; rw [hbr.1]; exact hl
 · rw [e]
   show (Qw _ _ _ _ _ _).cars.getD i dC=_
   rw [hbr.2.1 i (by rw [hl]; exact hi)]
   have hb:Int.toNat ((QI T l).1.getD i dC).spot.block<T.c.blocks.length:=(hp.car _ (List.mem_of_getElem? (getD_some (d:=dC) (by rw [hl]; exact hi)))).inC.2
   by_cases hg:goS T.c (Qj (midT T)) (QI T l).2.2 ⟨(QI T l).1,(QI T l).2.1,T.rounds,T.gone⟩ i=true
   · rw [if_pos ⟨hb,hg⟩,if_pos hg]
   · rw [if_neg (fun h=>hg h.2),if_neg hg]
 · have hb:=(hcar _ (List.mem_of_getElem? (getD_some (d:=dC) hi))).inC
   rw [goS] at hgo
   simp only [(hprd.same i hi).1] at hgo
   have hfr:=free_true (T:=midT T) hf1 hsp h.tok.nb.1 (ops:=(QI T l).2.2) hb.2
   have hfr':VX T.c (Qj (midT T)) (QI T l).2.2 (Int.toNat ((QM T).getD i dC).spot.block)=true:=by
    simp only [Bool.and_eq_true] at hgo; exact hgo.1
   have hfr:VX T.c (Qj (midT T)) (QI T l).2.2 (Int.toNat ((QM T).getD i dC).spot.block)=(isI T.c (QM T) 2 (Int.toNat ((QM T).getD i dC).spot.block:Nat) && isI T.c (QM T) 3 (Int.toNat ((QM T).getD i dC).spot.block:Nat) && !((QI T l).2.2.getD (Int.toNat ((QM T).getD i dC).spot.block) false) && !(isI T.c (QM T) 1 (Xg T.c (Int.toNat ((QM T).getD i dC).spot.block):Nat))):=hfr
   rw [hfr'] at hfr
   have hfr:=hfr.symm
   simp only [Bool.and_eq_true,Bool.not_eq_true'] at hfr
   obtain ⟨⟨⟨-,q2⟩,q3⟩,q4⟩:=hfr
   have hbi:((Int.toNat ((QM T).getD i dC).spot.block:Nat):Int)=((QM T).getD i dC).spot.block:=by have:=hb.1; omega
   refine ⟨fun j hj hjb=>?_,?_⟩
   · rw [isI,if_pos rfl] at q4
     have:=(Wu (p:=fun x:Car=>x.spot.block == ((Xg T.c (Int.toNat ((QM T).getD i dC).spot.block):Nat):Int))).2 ⟨j,hj,by simp only [beq_iff_eq]; exact hjb⟩
     rw [q4] at this; cases this
   · rw [Bool.eq_false_iff]
     intro ho
     rcases hprd.opn i hi ho with w | ⟨w,-⟩
     · rw [isI,if_neg (by omega),if_neg (by omega),hbi,Bool.not_eq_true'] at q2
       have:=(Wu (p:=fun x:Car=>x.spot.block == ((QM T).getD i dC).spot.block && x.spot.opn)).2 ⟨i,hi,by simp only [beq_self_eq_true,w]; rfl⟩
       rw [q2] at this; cases this
     · rw [q3] at w; cases w
 · rcases hprd.opn i hi ho with w | w
   · exact .inl w
   · exact .inr w.2
theorem Moved.ns {c:Cir} {r s r':List Car} {go:Nat→Bool} (h:Moved c r s r' go) (hn:QP r) (hin:∀ x ∈ r,InC c x.spot.block):QP r':=by
 have blk:∀ i,i<r.length→(r'.getD i dC).spot.block=if go i=true then ((Xg c (Int.toNat (r.getD i dC).spot.block):Nat):Int) else (r.getD i dC).spot.block:=fun i hi=>by
  rw [h.each i hi]
  split
  · simp only [mvC,(h.same i hi).1]
  · exact (h.same i hi).1
 intro i j hij hj
 rw [h.len'] at hj
 have hi:i<r.length:=by omega
 rw [blk i hi,blk j hj]
 have h1:=hin _ (List.mem_of_getElem? (getD_some (d:=dC) hi))
 have h2:=hin _ (List.mem_of_getElem? (getD_some (d:=dC) hj))
 split
 · rename_i gi
   split
   · intro e
     have:=next_inj h1.2 h2.2 (by simp only [Xg] at e; omega)
     exact hn i j hij hj (by have:=h1.1; have:=h2.1; omega)
   · exact fun e=>(h.free i hi gi).1 j hj e.symm
 · split
   · rename_i gj
     exact (h.free j hj gj).1 i hi
   · exact hn i j hij hj
theorem Moved.rest {c:Cir} {r s r':List Car} {go:Nat→Bool} (h:Moved c r s r' go) (hr:∀ x ∈ r,x.spot.opn=true→Xp c x=true):∀ x ∈ r',x.spot.opn=true→Xp c x=true:=fun x hx ho=>by
 obtain ⟨i,hi⟩:=List.getElem?_of_mem hx
 have hil:i<r.length:=by rw [← h.len']; exact (List.getElem?_eq_some_iff.1 hi).1
 have e:r'.getD i dC=x:=getD_of hi
 rw [← e,h.each i hil] at ho ⊢
 split at ho
 · rename_i hg
   have:=(h.free i hil hg).2
   simp only [mvC,this] at ho; cases ho
 · rename_i hg
   rw [if_neg hg]
   have hs:=h.same i hil
   have:Xp c (s.getD i dC)=Xp c (r.getD i dC):=by simp only [Xp,hs.1,hs.2]
   rw [this]
   rcases h.opn i hil ho with w | w
   · exact hr _ (List.mem_of_getElem? (getD_some (d:=dC) hil)) w
   · exact w
theorem Inv.act {T:Trk} {B:Int} {l:List Prs} (h:Inv T B) (hpr:Qaq T.c l):QP (actT T l).cars∧(∀ x ∈ (actT T l).cars,x.spot.opn=true→Xp T.c x=true)∧(actT T l).cars.length=T.cars.length:=by
 by_cases hs:Yf T<0
 · obtain ⟨s,go,hm⟩:=act_moved h hpr hs
   exact ⟨hm.ns (YN h.ns) fun x hx=>(Yi h.tok x hx).inC,hm.rest (roll_rest h.rest),by rw [hm.len',QX]⟩
 · have e:actT T l=⟨QM T,T.gos,T.rounds,T.gone⟩:=by unfold actT; rw [if_neg hs]
   rw [e]
   exact ⟨YN h.ns,roll_rest h.rest,QX⟩
theorem Inv.eq {T:Trk} {B:Int} {l:List Prs} (h:Inv T B):Qu T l=⟨T.c,T.faults,(actT T l).cars,(actT T l).gos,T.tick+1,Yf T,YZ T.c (actT T l).cars,(actT T l).rounds,(actT T l).gone⟩:=by
 unfold Qu; rw [if_neg (by rw [h.w]; simp)]
theorem Inv.step {T:Trk} {B:Int} {l:List Prs} (h:Inv T B) (hpr:Qaq T.c l):Inv (Qu T l) (B+1):=by
 obtain ⟨a1,a2,a3⟩:=h.act hpr
 have htt:=step_tt (l:=l) h.tt h.tok
 refine ⟨step_tok h.tok,htt,?_,?_,by rw [step_f]; exact h.f1⟩
 · rw [htt.wr,Vt htt.ct]
   refine wreck_no ?_ ?_
   · rw [h.eq]; exact a1
   · rw [h.eq]; exact a2
 · rw [h.eq]; exact a2
theorem Inv.run {T:Trk} {B:Int} {l:Nat→List Prs} (h:Inv T B) (hpr:∀ n,Qaq T.c (l n)):∀ {n:Nat},Inv (runT T l n) (B+n)
 | 0=>by rw [show B+((0:Nat):Int)=B by omega]; exact h
 | n+1=>by
  have:=(Inv.run h hpr (n:=n)).step (l:=l n) (by rw [run_c]; exact hpr n)
  rw [show B+((n+1:Nat):Int)=B+n+1 by omega]
  exact this
theorem new_inv {c:Cir} {f:List Flt} (hk:ChkIn c) (hf:f.length≤1) (hc:∀ x ∈ f,x.chan=0 ∨ x.chan=1):Inv (newT c f) 30:=by
 refine ⟨new_tok hk (by omega) hc,new_tt hk (new_ns hk),rfl,fun x hx ho=>?_,hf⟩
 obtain ⟨b,hb,rfl⟩:=List.mem_map.1 hx
 cases ho
end Go.Proofs.Ytgdfkjjgdkejfaa
namespace Go.Proofs.Ytgdfkjjgdkejfaa
open Go Ax
open Go.Proofs
/-! ### A nil slice,handed on with blocks of the caller's own -/
def LeC (a b:AV):Prop:=∀ (Z:Nat→Prop) (w:World) (C:Ctx) (c:Value),VR Z w C a c→VR Z w C b c
def LesC:List AV→List AV→Prop
 | [],[]=>True
 | a :: as',b :: bs=>LeC a b∧LesC as' bs
 | _,_=>False
theorem WH {a:AV}:LeC a a:=fun _ _ _ _ h=>h
theorem QbD {row:List AV} {off:Nat}:LeC .nilSl (.rsl row off 0):=fun _ _ _ _ h=>by cases h; exact .rsl0
theorem LesC.vrs {Z:Nat→Prop} {w:World} {C:Ctx}:∀ {as' bs:List AV} {vs:List Value},LesC as' bs→VRs Z w C as' vs→VRs Z w C bs vs
 | [],[],vs,_,h=>h
 | a :: as',b :: bs,[],_,h=>by have:=h.1; simp at this
 | a :: as',b :: bs,v :: vs,hl,h=>by
  have h1:VR Z w C a v:=h.2 0 a v rfl rfl
  have h2:VRs Z w C as' vs:=⟨by have:=h.1; simpa using this,fun i c v p q=>h.2 (i+1) c v (by simpa using p) (by simpa using q)⟩
  have h3:=LesC.vrs hl.2 h2
  refine ⟨by simp [h3.1],fun i c x p q=>?_⟩
  cases i with
  | zero=>simp at p q; subst p; subst q; exact hl.1 _ _ _ _ h1
  | succ i=>exact h3.2 i c x (by simpa using p) (by simpa using q)
 | [],b :: bs,_,hl,_=>hl.elim
 | a :: as',[],_,hl,_=>hl.elim
theorem XT.leC {P:Program} {fv:AV} {args args':List AV} {bs bs2:List Blk} {res:AV} (h:XT P fv args bs res bs2) (hl:LesC args' args):XT P fv args' bs res bs2 :=
 fun Z w C cf cargs hm hf ha=>h Z w C cf cargs hm hf (hl.vrs ha)
def prsN (c:Cir) (tick:Int):Nat→List Prs
 | 0=>[]
 | b+1=>prsN c tick b++(if (bkAt c (b:Int)).station=true then [⟨tick,3,(b:Int)⟩] else [])
def prsI (c:Cir) (tick:Int):List Prs:=prsN c tick c.blocks.length
theorem Km {c:Cir} {tick:Int}:∀ {b:Nat},(prsN c tick b).length≤b
 | 0=>Nat.le_refl 0
 | b+1=>by
  have:=Km (c:=c) (tick:=tick) (b:=b)
  simp only [prsN,List.length_append]
  split <;> simp <;> omega
theorem yh {c:Cir} {tick:Int}:∀ {b:Nat},b≤c.blocks.length→Qaq c (prsN c tick b)
 | 0,_=>fun p hp=>by cases hp
 | b+1,h=>fun p hp=>by
  simp only [prsN] at hp
  rcases List.mem_append.1 hp with hp | hp
  · exact yh (by omega) p hp
  · split at hp
    · simp only [List.mem_singleton] at hp
      subst hp
      exact ⟨⟨by show (0:Int)≤(b:Int); omega,by show Int.toNat (b:Int)<_; omega⟩,.inr (.inr rfl)⟩
    · cases hp
theorem bk_nat {c:Cir} {b:Nat} (h:b<c.blocks.length):c.blocks[b]?=some (bkAt c (b:Int)):=by
 have:=yC (c:=c) (b:=(b:Int)) ⟨by omega,by simpa using h⟩
 rw [Int.toNat_natCast] at this
 exact this
def FullIn (R:Rn) (tick:Int):Prop:=RnIn R∧(1≤R.c.blocks.length∧R.c.blocks.length≤1000000)∧RunIn R tick (prsI R.c tick) []
def Yg (R:Rn) (tick:Int):Rn:=VO R tick (prsI R.c tick) []
def qA (R:Rn) (tick:Int):Bool:=match carO R.spots ((R.c.blocks.length:Int) - 1) with
 | some i=>((Yg R tick).spots.getD i dS).block == 0
 | none=>false
/-- The ride,with Go pressed in each tick. -/
def Qp (c:Cir) (n:Nat):Trk:=runT (newT c []) (fun t=>prsI c (t:Int)) n
theorem tick_len {T:Trk} {l:List Prs} (h:qp T l) (ht:TT T):(Qu T l).cars.length=T.cars.length:=by
 obtain ⟨B,h1,h2,h3,h4⟩:=h
 unfold Qu
 split
 · rfl
 · rename_i hw
   show (actT T l).cars.length=_
   unfold actT
   split
   · have hp:=qx (l:=l) h1 (Bool.eq_false_iff.2 hw)
     have hin:BrkIn T.c (QI T l).1 (1000000*B) ⟨(QI T l).1,(QI T l).2.1,T.rounds,T.gone⟩:=⟨rfl,hp.lg,by have:=h1.rd; simp only; omega,by have:=h1.gn; simp only; omega⟩
     have hall:=hin.all (rd:=Qj (midT T)) (ops:=(QI T l).2.2) (b:=T.c.blocks.length)
     show (Qw _ _ _ _ _ _).cars.length=_
     rw [hall.lc,hp.lc]
   · exact QX
/-! ### Rounds are counted where a car comes into the block 0 -/
def rndO (c:Cir) (cars:List Car) (q:Nat→Bool):Int:=match Vv cars (c.blocks.length - 1) cars.length with
 | some i=>if q i=true then 1 else 0
 | none=>0
theorem yS {c:Cir} {rd:Rd4} {ops:List Bool} {s0:Brk} (h2:2≤c.blocks.length) (hn:QP s0.cars) (hin:∀ x ∈ s0.cars,InC c x.spot.block) (hg:s0.gos.length=c.blocks.length):∀ {b:Nat},b≤c.blocks.length →
 (Qw c rd ops s0.cars b s0).rounds=s0.rounds+(if b=c.blocks.length then rndO c s0.cars (goS c rd ops s0) else 0)
 | 0,_=>by rw [if_neg (by omega)]; simp [Qw]
 | b+1,hb=>by
  have ih:=yS h2 hn hin hg (rd:=rd) (ops:=ops) (b:=b) (by omega)
  obtain ⟨h1,he,h3⟩:=Vj hn hin hg (rd:=rd) (ops:=ops) (b:=b) (by omega)
  rw [if_neg (by omega)] at ih
  simp only [Qw]
  generalize Qw c rd ops s0.cars b s0=s at ih h1 he h3
  by_cases hlast:b+1=c.blocks.length
  · rw [if_pos hlast]
    have hb1:c.blocks.length - 1=b:=by omega
    have hnx:Xg c b=0:=by rw [Xg,hlast,Nat.mod_self]
    unfold Xz rndO
    rw [hb1]
    cases hc:Vv s0.cars b s0.cars.length with
    | none =>
     simp only
     split
     · omega
     · omega
    | some i =>
     simp only
     obtain ⟨hi,hib,-⟩:=QS hc
     have hib:(s0.cars.getD i dC).spot.block=(b:Int):=by simpa using hib
     have hibn:Int.toNat (s0.cars.getD i dC).spot.block=b:=by omega
     have hsi:s.cars.getD i dC=s0.cars.getD i dC:=by rw [he i hi,if_neg (by omega)]
     have hw:YF c s b i=YF c s0 b i:=by simp only [YF,hsi,h3 b (Nat.le_refl b)]
     have hgo:goS c rd ops s0 i=(VX c rd ops b && !(YF c s b i)):=by rw [goS,hibn,hw]
     rw [hgo]
     split
     · rename_i hf
       split
       · rename_i hwt; rw [if_neg (by rw [hwt]; simp)]; omega
       · rename_i hwt
         rw [if_pos (by rw [hf,Bool.eq_false_iff.2 hwt]; rfl)]
         simp only [goB]
         rw [if_pos hnx]; omega
     · rename_i hf; rw [if_neg (by rw [Bool.eq_false_iff.2 hf]; simp)]; omega
  · rw [if_neg hlast]
    have hnx:Xg c b ≠ 0:=by rw [Xg,Nat.mod_eq_of_lt (by omega)]; omega
    unfold Xz
    split
    · split
      · omega
      · split
        · omega
        · simp only [goB]; rw [if_neg hnx]; omega
    · omega
theorem carAt_congr {a b:List Car} {k:Nat} (hl:a.length=b.length) (h:∀ i,i<a.length→(a.getD i dC).spot.block=(b.getD i dC).spot.block):Vv a k a.length=Vv b k b.length:=by
 rw [Vv,Vv,← hl]
 exact WK fun i hi=>by rw [h i hi]
theorem KL {T:Trk} {B:Int} {l:List Prs} (h:Inv T B) (hpr:Qaq T.c l) (h2:2≤T.c.blocks.length) :
 (Qu T l).rounds=T.rounds+rndO T.c T.cars (fun i=>((Qu T l).cars.getD i dC).spot.block == 0):=by
 have hrb:∀ i,i<T.cars.length→((QM T).getD i dC).spot.block=(T.cars.getD i dC).spot.block:=fun i hi=>by
  unfold QM
  split
  · rw [Xe (d:=dC) hi,yg]
  · rfl
 rw [h.eq]
 dsimp only
 by_cases hs:Yf T<0
 · have hsp:=h.nosplit hs
   have hprd:Prd T.c (QM T) (QI T l):=Prd.fold (T:=midT T) h.f1 hsp (YN h.ns) hpr ⟨rfl,fun i hi=>⟨rfl,rfl,rfl⟩,fun i hi ho=>.inl ho⟩ (by simp [midT])
   have hp:=qx (l:=l) h.tok h.w
   have e:actT T l=Ve T l:=by unfold actT; rw [if_pos hs]
   have hns:QP (⟨(QI T l).1,(QI T l).2.1,T.rounds,T.gone⟩:Brk).cars:=hp.ns
   have hin:∀ x ∈ (⟨(QI T l).1,(QI T l).2.1,T.rounds,T.gone⟩:Brk).cars,InC T.c x.spot.block:=fun x hx=>(hp.car x hx).inC
   have hbr:=(Vj (c:=T.c) (rd:=Qj (midT T)) (ops:=(QI T l).2.2) hns hin hp.lg (b:=T.c.blocks.length) (Nat.le_refl _)).2.1
   have hrn:=yS (c:=T.c) (rd:=Qj (midT T)) (ops:=(QI T l).2.2) h2 hns hin hp.lg (b:=T.c.blocks.length) (Nat.le_refl _)
   rw [if_pos rfl] at hrn
   rw [e]
   show (Qw _ _ _ _ _ _).rounds=_
   rw [hrn]
   dsimp only
   congr 1
   have hlen:(QI T l).1.length=T.cars.length:=by rw [hprd.len,QX]
   have hbk:∀ i,i<(QI T l).1.length→((QI T l).1.getD i dC).spot.block=(T.cars.getD i dC).spot.block:=fun i hi=>by
    have hi':i<(QM T).length:=by rw [← hprd.len]; exact hi
    rw [(hprd.same i hi').1,hrb i (by rw [← hlen]; exact hi)]
   unfold rndO
   rw [carAt_congr hlen hbk]
   cases hc:Vv T.cars (T.c.blocks.length - 1) T.cars.length with
   | none=>rfl
   | some i =>
    simp only
    obtain ⟨hi,hib,-⟩:=QS hc
    have hib:(T.cars.getD i dC).spot.block=((T.c.blocks.length - 1:Nat):Int):=by simpa using hib
    have hbi:=hbk i (by rw [hlen]; exact hi)
    have hci:=hbr i (by rw [hlen]; exact hi)
    dsimp only at hci
    have hcars:((Ve T l).cars.getD i dC)=if Int.toNat ((QI T l).1.getD i dC).spot.block<T.c.blocks.length∧goS T.c (Qj (midT T)) (QI T l).2.2 ⟨(QI T l).1,(QI T l).2.1,T.rounds,T.gone⟩ i=true then mvC T.c ((QI T l).1.getD i dC) else (QI T l).1.getD i dC:=hci
    by_cases hg:goS T.c (Qj (midT T)) (QI T l).2.2 ⟨(QI T l).1,(QI T l).2.1,T.rounds,T.gone⟩ i=true
    · rw [if_pos hg,if_pos]
      rw [hcars,if_pos ⟨by rw [hbi,hib]; omega,hg⟩]
      simp only [mvC,hbi,hib,Xg]
      rw [show Int.toNat ((T.c.blocks.length - 1:Nat):Int)+1=T.c.blocks.length by omega,Nat.mod_self]; rfl
    · rw [if_neg hg,if_neg]
      rw [hcars,if_neg (fun h=>hg h.2),hbi,hib]
      simp only [beq_iff_eq]; omega
 · have e:actT T l=⟨QM T,T.gos,T.rounds,T.gone⟩:=by unfold actT; rw [if_neg hs]
   rw [e]
   dsimp only
   unfold rndO
   cases hc:Vv T.cars (T.c.blocks.length - 1) T.cars.length with
   | none=>simp
   | some i =>
    simp only
    obtain ⟨hi,hib,-⟩:=QS hc
    have hib:(T.cars.getD i dC).spot.block=((T.c.blocks.length - 1:Nat):Int):=by simpa using hib
    rw [if_neg (show ¬ (((QM T).getD i dC).spot.block == 0)=true by rw [hrb i hi,hib]; simp only [beq_iff_eq]; omega)]; simp
theorem Yp {c:Cir} (h:ChkIn c) {n:Nat}:Inv (Qp c n) (30+n):=(new_inv h (by simp) (by simp)).run fun t=>yh (Nat.le_refl _)
theorem YI {c:Cir} {n:Nat}:(Qp c n).c=c:=run_c
theorem full_f {c:Cir} {n:Nat}:(Qp c n).faults=[]:=run_f
theorem qQ {c:Cir} {n:Nat}:(Qp c n).tick=(n:Int):=by rw [Qp,run_t]; simp [newT]
theorem KZ {c:Cir} (h:ChkIn c) {n:Nat} (hn:n≤90000):qp (Qp c n) (prsI c (n:Int)):=⟨30+n,(Yp h).tok,by omega,by rw [YI]; exact yh (Nat.le_refl _),by have:=Km (c:=c) (tick:=(n:Int)) (b:=c.blocks.length); have:=h.nb; unfold prsI; omega⟩
theorem full_next {c:Cir} (h:ChkIn c) {n:Nat} (hn:n≤90000):FullIn (Xd (Qp c n)) (n:Int)∧Yg (Xd (Qp c n)) (n:Int)=Xd (Qp c (n+1))∧(Qp c (n+1)).rounds=(Qp c n).rounds+(if qA (Xd (Qp c n)) (n:Int)=true then 1 else 0):=by
 have hinv:=Yp h (n:=n)
 have hc:(Xd (Qp c n)).c=c:=YI
 have h1:=runIn_of (KZ h hn) hinv.tt
 have h2:=tickR_run (l:=prsI c (n:Int)) hinv.tt (by rw [qQ]; omega)
 rw [qQ,full_f] at h1 h2
 have hnb:=h.nb
 have e2:Yg (Xd (Qp c n)) (n:Int)=Xd (Qp c (n+1)):=by rw [Yg,hc]; exact h2
 refine ⟨⟨⟨by simp only [Xd,List.length_map]; exact hinv.tok.lc,fun x hx=>?_⟩,by rw [hc]; omega,by rw [hc]; exact h1⟩,e2,?_⟩
 · obtain ⟨y,hy,rfl⟩:=List.mem_map.1 hx
   exact (hinv.tok.car y hy).inC
 · have:=KL (l:=prsI c (n:Int)) hinv (by rw [YI]; exact yh (Nat.le_refl _)) (by rw [YI]; omega)
   rw [show Qp c (n+1)=Qu (Qp c n) (prsI c (n:Int)) from rfl,this]
   congr 1
   unfold qA rndO
   rw [e2,hc,YI]
   rw [show ((c.blocks.length:Int) - 1)=((c.blocks.length - 1:Nat):Int) by omega]
   rw [show (Xd (Qp c n)).spots=(Qp c n).cars.map Car.spot from rfl,carO_map]
   cases hcr:Vv (Qp c n).cars (c.blocks.length - 1) (Qp c n).cars.length with
   | none=>rfl
   | some i =>
    simp only
    have hi:=(QS hcr).1
    have hl:(Qp c (n+1)).cars.length=(Qp c n).cars.length:=by
     show (Qu (Qp c n) (prsI c (n:Int))).cars.length=_
     rw [hinv.eq]
     exact (hinv.act (l:=prsI c (n:Int)) (by rw [YI]; exact yh (Nat.le_refl _))).2.2
    have hs:(Xd (Qp c (n+1))).spots.getD i dS=((Qp c (n+1)).cars.getD i dC).spot:=QO (by rw [hl]; exact hi)
    simp only [hs]
    rfl
theorem f55b:Try.f55.body=some (Qf Try.prog 55):=by kernel_rfl
theorem u55 {a c k:List AV} {r:AV} (h:Pure Try.prog 55 (a++c++k) r):Ql Try.prog (.clos 55 a k) c r:=QJ Try.func55 (by kernel_rfl) f55b h
def f55K0 (P:Program):List Item:=kAt 400 [.code (Qf P 55)] [.stop]
def f55S0 (c:Cir) (tick:Int) (v1:List Prs) (i:Nat) (g1:Nat):St:=⟨([J,.int .i64 tick,J,J,.sl 1 g1 0 v1.length 3,J,J,J,.rsl (Qc c.blocks) 0 c.blocks.length,.int .i64 (c.blocks.length:Int),.int .i64 (i:Int)]++Js 14),[⟨true,0,1,true,[.rsl (Qc c.blocks) 0 c.blocks.length,.rsl (rowI c.cars) 0 c.cars.length],false⟩,⟨true,g1,3,true,(Qs v1),true⟩]⟩
def f55G0 (E:Env) (c:Cir) (tick:Int) (v1:List Prs) (i:Nat):Prop:=∀ g1:Nat,G Try.prog E (f55K0 Try.prog) (f55S0 c tick v1 i g1)
abbrev z55_1 (c:Cir):List AV:=[.rsl (Qc c.blocks) 0 c.blocks.length,.rsl (rowI c.cars) 0 c.cars.length]
abbrev z55_2 (be:Bk):List AV:=[.int .i64 be.time,.bool be.station,.int .i64 be.hold,.bool be.walk]
theorem p55_start_0 (c:Cir) (tick:Int) {E:Env} {rv:AV} (hE:Qn Try.prog 55 rv E) (ho:AllP [])
 (hg:G Try.prog E (f55K0 Try.prog) ⟨([J,.int .i64 tick,J,J,.sl 1 0 0 0 3,J,J,J,.rsl (Qc c.blocks) 0 c.blocks.length,.int .i64 (c.blocks.length:Int),.int .i64 0]++Js 14),[⟨true,0,1,true,(z55_1 c),false⟩,⟨true,0,3,true,[],true⟩]⟩):G Try.prog E [.code (Qf Try.prog 55)] ⟨[.agg (z55_1 c),.int .i64 tick]++unds (Try.f55.ntmps - 2),[]⟩ :=
 Qa (n:=400) (ds:=[(4,3)]) (cs:=[]) (live:=[1,4,8,9,10]) (m:=2) (evs:=[.stop]) (obs:=_) hE.2.1 (hE.nogh _) Qm (by kernel_rfl) ho hg
theorem f55W (c:Cir) (tick:Int) {E:Env} {rv:(List Prs)} (hE:Qn Try.prog 55 (.rsl (Qs rv) 0 rv.length) E)
 (h:f55G0 E c tick ([]) 0):G Try.prog E [.code (Qf Try.prog 55)] ⟨[.agg [.rsl (Qc c.blocks) 0 c.blocks.length,.rsl (rowI c.cars) 0 c.cars.length],.int .i64 tick]++unds (Try.f55.ntmps - 2),[]⟩:=by
 exact p55_start_0 c tick hE trivial (h 0)
theorem p55_0_0 (c:Cir) (tick:Int) (v1:List Prs) (i:Nat) (g1:Nat) (be:Bk) {E:Env} {rv:AV} (hE:Qn Try.prog 55 rv E) (ho:AllP [(decide ((i:Int)<(c.blocks.length:Int)))=true,0≤(i:Int)∧(i:Int)<(c.blocks.length:Int),((Qc c.blocks).drop (0+(Int.toNat (i:Int))*4)).take 4=(z55_2 be),4≤4,be.station=true,g1=g1,(0+(v1.length*3))=(Qs v1).length,(v1.length+1)≤2147483648,0=0,InR .i64 ((i:Int)+1)])
 (hg:G Try.prog E (f55K0 Try.prog) ⟨([J,.int .i64 tick,J,J,.sl 1 (g1+1) 0 (v1.length+1) 3,J,J,J,.rsl (Qc c.blocks) 0 c.blocks.length,.int .i64 (c.blocks.length:Int),.int .i64 ((i:Int)+1)]++Js 14),[⟨true,0,1,true,(z55_1 c),false⟩,⟨true,(g1+1),3,true,((Qs v1)++[.int .i64 tick,.int .i64 3,.int .i64 (i:Int)]),true⟩]⟩):G Try.prog E (f55K0 Try.prog) (f55S0 c tick v1 i g1) :=
 Qa (n:=400) (ds:=[]) (cs:=[]) (live:=[1,4,8,9,10]) (m:=2) (evs:=[.b true,.ld (.agg (z55_2 be)),.b true,.stop]) (obs:=_) hE.2.1 (hE.nogh _) Qm (by kernel_rfl) ho hg
theorem p55_0_1 (c:Cir) (tick:Int) (v1:List Prs) (i:Nat) (g1:Nat) (be:Bk) {E:Env} {rv:AV} (hE:Qn Try.prog 55 rv E) (ho:AllP [(decide ((i:Int)<(c.blocks.length:Int)))=true,0≤(i:Int)∧(i:Int)<(c.blocks.length:Int),((Qc c.blocks).drop (0+(Int.toNat (i:Int))*4)).take 4=(z55_2 be),4≤4,be.station=false,InR .i64 ((i:Int)+1)])
 (hg:G Try.prog E (f55K0 Try.prog) ⟨([J,.int .i64 tick,J,J,.sl 1 g1 0 v1.length 3,J,J,J,.rsl (Qc c.blocks) 0 c.blocks.length,.int .i64 (c.blocks.length:Int),.int .i64 ((i:Int)+1)]++Js 14),[⟨true,0,1,true,(z55_1 c),false⟩,⟨true,g1,3,true,(Qs v1),true⟩]⟩):G Try.prog E (f55K0 Try.prog) (f55S0 c tick v1 i g1) :=
 Qa (n:=400) (ds:=[]) (cs:=[]) (live:=[1,4,8,9,10]) (m:=2) (evs:=[.b true,.ld (.agg (z55_2 be)),.b false,.stop]) (obs:=_) hE.2.1 (hE.nogh _) Qm (by kernel_rfl) ho hg
theorem p55_0_2 (c:Cir) (tick:Int) (v1:List Prs) (i:Nat) (g1:Nat) {E:Env} {res:AV} (hE:Qn Try.prog 55 res E) (ho:AllP [(decide ((i:Int)<(c.blocks.length:Int)))=false,g1=g1])
 (hr:AvLe (.rsl (Qs v1) 0 v1.length) res):G Try.prog E (f55K0 Try.prog) (f55S0 c tick v1 i g1) :=
 Qk (n:=400) (evs:=[.b false]) (obs:=_) hE Try.func55 Qm (by kernel_rfl) ho hr
theorem f55W0 (c:Cir) (tick:Int) (v1:List Prs) (i:Nat) {E:Env} {rv:(List Prs)} (hE:Qn Try.prog 55 (.rsl (Qs rv) 0 rv.length) E)
 (h:(((i:Int)<(c.blocks.length:Int)→(∃ be:Bk,c.blocks[i]?=some be∧((be.station=true→((v1.length+1)≤2147483648∧((I6 ((i:Int)+1))∧f55G0 E c tick (v1++[(⟨tick,3,(i:Int)⟩:Prs)]) (i+1))))∧(be.station=false→((I6 ((i:Int)+1))∧f55G0 E c tick v1 (i+1))))))∧(¬ ((i:Int)<(c.blocks.length:Int))→rv=v1))):f55G0 E c tick v1 i:=by
 intro g1
 rcases bft (decide ((i:Int)<(c.blocks.length:Int))) with hc0 | hc0
 · have h:=h.1 (odt hc0)
   obtain ⟨be,h1,h⟩:=h
   rcases bft be.station with hc1 | hc1
   · have h:=h.1 hc1
     obtain ⟨h2,h⟩:=h
     obtain ⟨q10_2,h⟩:=h
     refine p55_0_0 c tick v1 i g1 be hE ⟨hc0,(Qe h1),(rp cBk 4 0 4 h1),(by decide),hc1,rfl,(by have hx:=XO cPrs (s:=3) (fun _=>rfl) v1; simp only [Qs] at hx ⊢; rw [hx]; simp),h2,rfl,q10_2,trivial⟩ ?_
     rw [(show Qs v1++[.int .i64 tick,.int .i64 3,.int .i64 (i:Int)]=Qs (v1++[(⟨tick,3,(i:Int)⟩:Prs)]) from (YV cPrs v1 [(⟨tick,3,(i:Int)⟩:Prs)]).symm)]; rw [(show (v1.length+1)=(v1++[(⟨tick,3,(i:Int)⟩:Prs)]).length from by simp)]; exact (h (g1+1))
   · have h:=h.2 hc1
     obtain ⟨q6_2,h⟩:=h
     exact p55_0_1 c tick v1 i g1 be hE ⟨hc0,(Qe h1),(rp cBk 4 0 4 h1),(by decide),hc1,q6_2,trivial⟩ (h g1)
 · have h:=h.2 (odf hc0)
   exact p55_0_2 c tick v1 i g1 hE ⟨hc0,rfl,trivial⟩ (AvLe.of_eq (by rw [h]; try rfl))
theorem f84b:Try.f84.body=some (Qf Try.prog 84):=by kernel_rfl
theorem u84 {a c k:List AV} {r:AV} (h:Pure Try.prog 84 (a++c++k) r):Ql Try.prog (.clos 84 a k) c r:=QJ Try.func84 (by kernel_rfl) f84b h
def f84K0 (P:Program):List Item:=kAt 400 [.code (Qf P 84)] [.stop]
def f84S0 (c:Cir) (tick:Int) (v1:List Prs) (b:Nat) (g1:Nat):St:=⟨([J,.int .i64 tick,.ptr 0 0 0,J,J,.sl 1 g1 0 v1.length 3,.int .i64 (b:Int)]++Js 20),[⟨true,0,1,true,[.rsl (Qc c.blocks) 0 c.blocks.length,.rsl (rowI c.cars) 0 c.cars.length],false⟩,⟨true,g1,3,true,(Qs v1),true⟩]⟩
def f84G0 (E:Env) (c:Cir) (tick:Int) (v1:List Prs) (b:Nat):Prop:=∀ g1:Nat,G Try.prog E (f84K0 Try.prog) (f84S0 c tick v1 b g1)
abbrev z84_1 (c:Cir):List AV:=[.rsl (Qc c.blocks) 0 c.blocks.length,.rsl (rowI c.cars) 0 c.cars.length]
theorem p84_start_0 (c:Cir) (tick:Int) {E:Env} {rv:AV} (hE:Qn Try.prog 84 rv E) (ho:AllP [])
 (hg:G Try.prog E (f84K0 Try.prog) ⟨([J,.int .i64 tick,.ptr 0 0 0,J,J,.sl 1 0 0 0 3,.int .i64 0]++Js 20),[⟨true,0,1,true,(z84_1 c),false⟩,⟨true,0,3,true,[],true⟩]⟩):G Try.prog E [.code (Qf Try.prog 84)] ⟨[.agg (z84_1 c),.int .i64 tick]++unds (Try.f84.ntmps - 2),[]⟩ :=
 Qa (n:=400) (ds:=[(5,3)]) (cs:=[]) (live:=[1,2,5,6]) (m:=2) (evs:=[.stop]) (obs:=_) hE.2.1 (hE.nogh _) Qm (by kernel_rfl) ho hg
theorem f84W (c:Cir) (tick:Int) {E:Env} {rv:(List Prs)} (hE:Qn Try.prog 84 (.rsl (Qs rv) 0 rv.length) E)
 (h:f84G0 E c tick ([]) 0):G Try.prog E [.code (Qf Try.prog 84)] ⟨[.agg [.rsl (Qc c.blocks) 0 c.blocks.length,.rsl (rowI c.cars) 0 c.cars.length],.int .i64 tick]++unds (Try.f84.ntmps - 2),[]⟩:=by
 exact p84_start_0 c tick hE trivial (h 0)
theorem p84_0_0 (c:Cir) (tick:Int) (v1:List Prs) (b:Nat) (g1:Nat) (be:Bk) {E:Env} {rv:AV} (hE:Qn Try.prog 84 rv E) (ho:AllP [(decide ((b:Int)<(c.blocks.length:Int)))=true,0≤(b:Int)∧(b:Int)<(c.blocks.length:Int),((Qc c.blocks).drop ((0+(Int.toNat (b:Int))*4)+1)).take 1=[.bool be.station],be.station=true,g1=g1,(0+(v1.length*3))=(Qs v1).length,(v1.length+1)≤2147483648,0=0,InR .i64 ((b:Int)+1)])
 (hg:G Try.prog E (f84K0 Try.prog) ⟨([J,.int .i64 tick,.ptr 0 0 0,J,J,.sl 1 (g1+1) 0 (v1.length+1) 3,.int .i64 ((b:Int)+1)]++Js 20),[⟨true,0,1,true,(z84_1 c),false⟩,⟨true,(g1+1),3,true,((Qs v1)++[.int .i64 tick,.int .i64 3,.int .i64 (b:Int)]),true⟩]⟩):G Try.prog E (f84K0 Try.prog) (f84S0 c tick v1 b g1) :=
 Qa (n:=400) (ds:=[]) (cs:=[]) (live:=[1,2,5,6]) (m:=2) (evs:=[.b true,.auto,.ld (.bool be.station),.b true,.stop]) (obs:=_) hE.2.1 (hE.nogh _) Qm (by kernel_rfl) ho hg
theorem p84_0_1 (c:Cir) (tick:Int) (v1:List Prs) (b:Nat) (g1:Nat) (be:Bk) {E:Env} {rv:AV} (hE:Qn Try.prog 84 rv E) (ho:AllP [(decide ((b:Int)<(c.blocks.length:Int)))=true,0≤(b:Int)∧(b:Int)<(c.blocks.length:Int),((Qc c.blocks).drop ((0+(Int.toNat (b:Int))*4)+1)).take 1=[.bool be.station],be.station=false,InR .i64 ((b:Int)+1)])
 (hg:G Try.prog E (f84K0 Try.prog) ⟨([J,.int .i64 tick,.ptr 0 0 0,J,J,.sl 1 g1 0 v1.length 3,.int .i64 ((b:Int)+1)]++Js 20),[⟨true,0,1,true,(z84_1 c),false⟩,⟨true,g1,3,true,(Qs v1),true⟩]⟩):G Try.prog E (f84K0 Try.prog) (f84S0 c tick v1 b g1) :=
 Qa (n:=400) (ds:=[]) (cs:=[]) (live:=[1,2,5,6]) (m:=2) (evs:=[.b true,.auto,.ld (.bool be.station),.b false,.stop]) (obs:=_) hE.2.1 (hE.nogh _) Qm (by kernel_rfl) ho hg
theorem p84_0_2 (c:Cir) (tick:Int) (v1:List Prs) (b:Nat) (g1:Nat) {E:Env} {res:AV} (hE:Qn Try.prog 84 res E) (ho:AllP [(decide ((b:Int)<(c.blocks.length:Int)))=false,g1=g1])
 (hr:AvLe (.rsl (Qs v1) 0 v1.length) res):G Try.prog E (f84K0 Try.prog) (f84S0 c tick v1 b g1) :=
 Qk (n:=400) (evs:=[.b false]) (obs:=_) hE Try.func84 Qm (by kernel_rfl) ho hr
theorem f84W0 (c:Cir) (tick:Int) (v1:List Prs) (b:Nat) {E:Env} {rv:(List Prs)} (hE:Qn Try.prog 84 (.rsl (Qs rv) 0 rv.length) E)
 (h:(((b:Int)<(c.blocks.length:Int)→(∃ be:Bk,c.blocks[b]?=some be∧((be.station=true→((v1.length+1)≤2147483648∧((I6 ((b:Int)+1))∧f84G0 E c tick (v1++[(⟨tick,3,(b:Int)⟩:Prs)]) (b+1))))∧(be.station=false→((I6 ((b:Int)+1))∧f84G0 E c tick v1 (b+1))))))∧(¬ ((b:Int)<(c.blocks.length:Int))→rv=v1))):f84G0 E c tick v1 b:=by
 intro g1
 rcases bft (decide ((b:Int)<(c.blocks.length:Int))) with hc0 | hc0
 · have h:=h.1 (odt hc0)
   obtain ⟨be,h1,h⟩:=h
   rcases bft be.station with hc1 | hc1
   · have h:=h.1 hc1
     obtain ⟨h2,h⟩:=h
     obtain ⟨q9_2,h⟩:=h
     refine p84_0_0 c tick v1 b g1 be hE ⟨hc0,(Qe h1),(rp cBk 4 1 1 h1),hc1,rfl,(by have hx:=XO cPrs (s:=3) (fun _=>rfl) v1; simp only [Qs] at hx ⊢; rw [hx]; simp),h2,rfl,q9_2,trivial⟩ ?_
     rw [(show Qs v1++[.int .i64 tick,.int .i64 3,.int .i64 (b:Int)]=Qs (v1++[(⟨tick,3,(b:Int)⟩:Prs)]) from (YV cPrs v1 [(⟨tick,3,(b:Int)⟩:Prs)]).symm)]; rw [(show (v1.length+1)=(v1++[(⟨tick,3,(b:Int)⟩:Prs)]).length from by simp)]; exact (h (g1+1))
   · have h:=h.2 hc1
     obtain ⟨q5_2,h⟩:=h
     exact p84_0_1 c tick v1 b g1 be hE ⟨hc0,(Qe h1),(rp cBk 4 1 1 h1),hc1,q5_2,trivial⟩ (h g1)
 · have h:=h.2 (odf hc0)
   exact p84_0_2 c tick v1 b g1 hE ⟨hc0,rfl,trivial⟩ (AvLe.of_eq (by rw [h]; try rfl))
theorem pressed_ok (c:Cir) (tick:Int) (h:c.blocks.length≤1000000):Pure Try.prog 55 [.agg [.rsl (Qc c.blocks) 0 c.blocks.length,.rsl (rowI c.cars) 0 c.cars.length],.int .i64 tick] (.rsl (Qs (prsI c tick)) 0 (prsI c tick).length):=QN Try.func55 f55b fun E hE=>by
 have key:∀ (d b:Nat),b+d=c.blocks.length→f55G0 E c tick (prsN c tick b) b:=by
  intro d
  induction d with
  | zero =>
   intro b hb
   refine f55W0 c tick _ b (rv:=prsI c tick) hE ⟨fun h=>by omega,fun _=>?_⟩
   rw [prsI,show c.blocks.length=b by omega]
  | succ d ih =>
   intro b hb
   have hx:=bk_nat (c:=c) (b:=b) (by omega)
   have nx:=ih (b+1) (by omega)
   have hl:=Km (c:=c) (tick:=tick) (b:=b)
   refine f55W0 c tick _ b (rv:=prsI c tick) hE ⟨fun _=>⟨_,hx,fun hs=>⟨by omega,by omega,?_⟩,fun hs=>⟨by omega,?_⟩⟩,fun h=>by omega⟩
   · rw [prsN,if_pos hs] at nx; exact nx
   · rw [prsN,if_neg (by rw [hs]; simp),List.append_nil] at nx; exact nx
 exact f55W c tick (rv:=prsI c tick) hE (key c.blocks.length 0 (by omega))
theorem KN (c:Cir) (tick:Int) (h:c.blocks.length≤1000000):Pure Try.prog 84 [.agg [.rsl (Qc c.blocks) 0 c.blocks.length,.rsl (rowI c.cars) 0 c.cars.length],.int .i64 tick] (.rsl (Qs (prsI c tick)) 0 (prsI c tick).length):=QN Try.func84 f84b fun E hE=>by
 have key:∀ (d b:Nat),b+d=c.blocks.length→f84G0 E c tick (prsN c tick b) b:=by
  intro d
  induction d with
  | zero =>
   intro b hb
   refine f84W0 c tick _ b (rv:=prsI c tick) hE ⟨fun h=>by omega,fun _=>?_⟩
   rw [prsI,show c.blocks.length=b by omega]
  | succ d ih =>
   intro b hb
   have hx:=bk_nat (c:=c) (b:=b) (by omega)
   have nx:=ih (b+1) (by omega)
   have hl:=Km (c:=c) (tick:=tick) (b:=b)
   refine f84W0 c tick _ b (rv:=prsI c tick) hE ⟨fun _=>⟨_,hx,fun hs=>⟨by omega,by omega,?_⟩,fun hs=>⟨by omega,?_⟩⟩,fun h=>by omega⟩
   · rw [prsN,if_pos hs] at nx; exact nx
   · rw [prsN,if_neg (by rw [hs]; simp),List.append_nil] at nx; exact nx
 exact f84W c tick (rv:=prsI c tick) hE (key c.blocks.length 0 (by omega))
theorem f57b:Try.f57.body=some (Qf Try.prog 57):=by kernel_rfl
abbrev Qbk (c:Cir) (spots:List Spt) (stood:List Int) (go:List Bool) (stp:Bool) (tick:Int):=VO (⟨c,spots,stood,go,stp⟩:Rn) tick (prsI c tick) ([]:List Flt)
abbrev z57_1 (c:Cir) (g1:Nat) (spots:List Spt) (stood:List Int) (go:List Bool) (stp:Bool) (tick:Int) (g2:Nat) (g3:Nat):List Blk:=[⟨true,0,1,false,[.rsl (Qc c.blocks) 0 c.blocks.length,.rsl (rowI c.cars) 0 c.cars.length,.sl 1 g1 0 ((Qbk c spots stood go stp tick).spots.length) 3,.sl 2 g2 0 ((Qbk c spots stood go stp tick).stood.length) 1,.sl 3 g3 0 ((Qbk c spots stood go stp tick).go.length) 1,.bool ((Qbk c spots stood go stp tick).stp)],false⟩,⟨true,g1,3,true,(Qg (Qbk c spots stood go stp tick).spots),true⟩,⟨true,g2,1,true,(rowI (Qbk c spots stood go stp tick).stood),true⟩,⟨true,g3,1,true,(rowB (Qbk c spots stood go stp tick).go),true⟩]
abbrev z57_2 (c:Cir) (g1:Nat) (spots:List Spt) (g2:Nat) (stood:List Int) (g3:Nat) (go:List Bool) (stp:Bool):List Blk:=[⟨true,0,1,false,[.rsl (Qc c.blocks) 0 c.blocks.length,.rsl (rowI c.cars) 0 c.cars.length,.sl 1 g1 0 spots.length 3,.sl 2 g2 0 stood.length 1,.sl 3 g3 0 go.length 1,.bool stp],false⟩,⟨true,g1,3,true,(Qg spots),true⟩,⟨true,g2,1,true,(rowI stood),true⟩,⟨true,g3,1,true,(rowB go),true⟩]
abbrev z57_4 (c:Cir) (spots:List Spt) (stood:List Int) (go:List Bool) (stp:Bool):List AV:=[.rptr [.rsl (Qc c.blocks) 0 c.blocks.length,.rsl (rowI c.cars) 0 c.cars.length,.rsl (Qg spots) 0 spots.length,.rsl (rowI stood) 0 stood.length,.rsl (rowB go) 0 go.length,.bool stp] 0,.int .i64 ((c.blocks.length:Int) - 1)]
theorem p57_start_0 (tick:Int) (c:Cir) (spots:List Spt) (stood:List Int) (go:List Bool) (stp:Bool) (g1 g2 g3:Nat) (se:Spt) {E:Env} {res:AV} {bs2:List Blk} (hE:LentE Try.prog 57 [.sl 3 g3 0 0 1] res bs2 E) (ho:AllP [InR .i64 ((c.blocks.length:Int) - 1),Ql Try.prog (.clos 82 [] []) (z57_4 c spots stood go stp) (.int .i64 (carS (⟨c,spots,stood,go,stp⟩:Rn).spots ((c.blocks.length:Int) - 1))),g1=g1,g2=g2,g3=g3,Ql Try.prog (.clos 84 [] []) [.agg [.rsl (Qc c.blocks) 0 c.blocks.length,.rsl (rowI c.cars) 0 c.cars.length],.int .i64 tick] (.rsl (Qs (prsI c tick)) 0 ((prsI c tick).length)),XT Try.prog (.clos 49 [] []) [.ptr 0 0 0,.int .i64 tick,.rsl (Qs (prsI c tick)) 0 ((prsI c tick).length),.nilSl] (z57_2 c g1 spots g2 stood g3 go stp) (.tup []) (z57_1 c g1 spots stood go stp tick g2 g3),(decide ((carS (⟨c,spots,stood,go,stp⟩:Rn).spots ((c.blocks.length:Int) - 1))≥0))=true,0≤(carS (⟨c,spots,stood,go,stp⟩:Rn).spots ((c.blocks.length:Int) - 1))∧(carS (⟨c,spots,stood,go,stp⟩:Rn).spots ((c.blocks.length:Int) - 1))<(((Qbk c spots stood go stp tick).spots.length:Nat):Int),g1=g1,g1=g1,g1=g1,((Qg (Qbk c spots stood go stp tick).spots).drop ((0+(Int.toNat (carS (⟨c,spots,stood,go,stp⟩:Rn).spots ((c.blocks.length:Int) - 1)))*3)+0)).take 1=[.int .i64 se.block]])
 (hr:(.bool (se.block == 0))=res) (hb:(z57_1 c g1 spots stood go stp tick g2 g3)=bs2):G Try.prog E [.code (Qf Try.prog 57)] ⟨[.ptr 0 0 0,.int .i64 tick]++unds (Try.f57.ntmps - 2),(z57_2 c g1 spots g2 stood g3 go stp)⟩ :=
 Xb (n:=400) (live:=[4]) (m:=4) (evs:=[.v (.int .i64 (carS (⟨c,spots,stood,go,stp⟩:Rn).spots ((c.blocks.length:Int) - 1))),.v (.rsl (Qs (prsI c tick)) 0 ((prsI c tick).length)),.lent [0,1,2,3] (.tup []) (z57_1 c g1 spots stood go stp tick g2 g3),.b true,.auto,.ld (.int .i64 se.block)]) (obs:=_) hE (hE.nogh (by kernel_rfl)) Try.func57 Qm (by kernel_rfl) ho hr hb
theorem p57_start_1 (tick:Int) (c:Cir) (spots:List Spt) (stood:List Int) (go:List Bool) (stp:Bool) (g1 g2 g3:Nat) {E:Env} {res:AV} {bs2:List Blk} (hE:LentE Try.prog 57 [.sl 3 g3 0 0 1] res bs2 E) (ho:AllP [InR .i64 ((c.blocks.length:Int) - 1),Ql Try.prog (.clos 82 [] []) (z57_4 c spots stood go stp) (.int .i64 (carS (⟨c,spots,stood,go,stp⟩:Rn).spots ((c.blocks.length:Int) - 1))),g1=g1,g2=g2,g3=g3,Ql Try.prog (.clos 84 [] []) [.agg [.rsl (Qc c.blocks) 0 c.blocks.length,.rsl (rowI c.cars) 0 c.cars.length],.int .i64 tick] (.rsl (Qs (prsI c tick)) 0 ((prsI c tick).length)),XT Try.prog (.clos 49 [] []) [.ptr 0 0 0,.int .i64 tick,.rsl (Qs (prsI c tick)) 0 ((prsI c tick).length),.nilSl] (z57_2 c g1 spots g2 stood g3 go stp) (.tup []) (z57_1 c g1 spots stood go stp tick g2 g3),(decide ((carS (⟨c,spots,stood,go,stp⟩:Rn).spots ((c.blocks.length:Int) - 1))≥0))=false])
 (hr:(.bool false)=res) (hb:(z57_1 c g1 spots stood go stp tick g2 g3)=bs2):G Try.prog E [.code (Qf Try.prog 57)] ⟨[.ptr 0 0 0,.int .i64 tick]++unds (Try.f57.ntmps - 2),(z57_2 c g1 spots g2 stood g3 go stp)⟩ :=
 Xb (n:=400) (live:=[4]) (m:=4) (evs:=[.v (.int .i64 (carS (⟨c,spots,stood,go,stp⟩:Rn).spots ((c.blocks.length:Int) - 1))),.v (.rsl (Qs (prsI c tick)) 0 ((prsI c tick).length)),.lent [0,1,2,3] (.tup []) (z57_1 c g1 spots stood go stp tick g2 g3),.b false]) (obs:=_) hE (hE.nogh (by kernel_rfl)) Try.func57 Qm (by kernel_rfl) ho hr hb
theorem f57W (tick:Int) (c:Cir) (spots:List Spt) (stood:List Int) (go:List Bool) (stp:Bool) (g1 g2 g3:Nat) {E:Env} {rv:Bool} {stp2:Bool} {spots2:List Spt} {stood2:List Int} {go2:List Bool} (hE:LentE Try.prog 57 [.sl 3 g3 0 0 1] (.bool rv) [⟨true,0,1,false,[.rsl (Qc c.blocks) 0 c.blocks.length,.rsl (rowI c.cars) 0 c.cars.length,.sl 1 g1 0 spots2.length 3,.sl 2 g2 0 stood2.length 1,.sl 3 g3 0 go2.length 1,.bool stp2],false⟩,⟨true,g1,3,true,(Qg spots2),true⟩,⟨true,g2,1,true,(rowI stood2),true⟩,⟨true,g3,1,true,(rowB go2),true⟩] E)
 (h:((I6 ((c.blocks.length:Int) - 1))∧((RnIn (⟨c,spots,stood,go,stp⟩:Rn))∧((c.blocks.length≤1000000)∧((RunIn (⟨c,spots,stood,go,stp⟩:Rn) tick (prsI c tick) ([]:List Flt))∧(((carS (⟨c,spots,stood,go,stp⟩:Rn).spots ((c.blocks.length:Int) - 1))≥0→(0≤(carS (⟨c,spots,stood,go,stp⟩:Rn).spots ((c.blocks.length:Int) - 1))∧(∃ se:Spt,((VO (⟨c,spots,stood,go,stp⟩:Rn) tick (prsI c tick) ([]:List Flt)).spots)[Int.toNat (carS (⟨c,spots,stood,go,stp⟩:Rn).spots ((c.blocks.length:Int) - 1))]?=some se∧rv=(se.block == 0)∧stp2=(VO (⟨c,spots,stood,go,stp⟩:Rn) tick (prsI c tick) ([]:List Flt)).stp∧spots2=(VO (⟨c,spots,stood,go,stp⟩:Rn) tick (prsI c tick) ([]:List Flt)).spots∧stood2=(VO (⟨c,spots,stood,go,stp⟩:Rn) tick (prsI c tick) ([]:List Flt)).stood∧go2=(VO (⟨c,spots,stood,go,stp⟩:Rn) tick (prsI c tick) ([]:List Flt)).go)))∧(¬ ((carS (⟨c,spots,stood,go,stp⟩:Rn).spots ((c.blocks.length:Int) - 1))≥0)→rv=false∧stp2=(VO (⟨c,spots,stood,go,stp⟩:Rn) tick (prsI c tick) ([]:List Flt)).stp∧spots2=(VO (⟨c,spots,stood,go,stp⟩:Rn) tick (prsI c tick) ([]:List Flt)).spots∧stood2=(VO (⟨c,spots,stood,go,stp⟩:Rn) tick (prsI c tick) ([]:List Flt)).stood∧go2=(VO (⟨c,spots,stood,go,stp⟩:Rn) tick (prsI c tick) ([]:List Flt)).go))))))):G Try.prog E [.code (Qf Try.prog 57)] ⟨[.ptr 0 0 0,.int .i64 tick]++unds (Try.f57.ntmps - 2),[⟨true,0,1,false,[.rsl (Qc c.blocks) 0 c.blocks.length,.rsl (rowI c.cars) 0 c.cars.length,.sl 1 g1 0 spots.length 3,.sl 2 g2 0 stood.length 1,.sl 3 g3 0 go.length 1,.bool stp],false⟩,⟨true,g1,3,true,(Qg spots),true⟩,⟨true,g2,1,true,(rowI stood),true⟩,⟨true,g3,1,true,(rowB go),true⟩]⟩:=by
 obtain ⟨q0_0,h⟩:=h
 obtain ⟨h1,h⟩:=h
 obtain ⟨h2,h⟩:=h
 obtain ⟨h3,h⟩:=h
 rcases bft (decide ((carS (⟨c,spots,stood,go,stp⟩:Rn).spots ((c.blocks.length:Int) - 1))≥0)) with hc0 | hc0
 · have h:=h.1 (odt hc0)
   obtain ⟨h5,h⟩:=h
   obtain ⟨se,h4,h⟩:=h
   obtain ⟨qe0,qe1,qe2,qe3,qe4⟩:=h
   exact p57_start_0 tick c spots stood go stp g1 g2 g3 se hE ⟨q0_0,(u82 (XJ (⟨c,spots,stood,go,stp⟩:Rn) ((c.blocks.length:Int) - 1) h1)),rfl,rfl,rfl,(u84 (KN c tick h2)),(XT.leC (args:=[.ptr 0 0 0,.int .i64 tick,.rsl (Qs (prsI c tick)) 0 ((prsI c tick).length),.rsl (Qi ([]:List Flt)) 0 (([]:List Flt).length)]) (Xl Try.func49 (by kernel_rfl) f49b (tickR_ok tick (prsI c tick) ([]:List Flt) c spots stood go stp g1 g2 g3 h3)) ⟨WH,⟨WH,⟨WH,⟨QbD,trivial⟩⟩⟩⟩),hc0,(Qq h5 h4),rfl,rfl,rfl,(rp cSpt 3 0 1 h4),trivial⟩ (by rw [qe0]; try rfl) (by rw [qe1,qe2,qe3,qe4]; all_goals (first | rfl | (simp only [List.length_set]; done) | (simp only [List.length_set]; rfl)))
 · have h:=h.2 (odf hc0)
   obtain ⟨qe0,qe1,qe2,qe3,qe4⟩:=h
   exact p57_start_1 tick c spots stood go stp g1 g2 g3 hE ⟨q0_0,(u82 (XJ (⟨c,spots,stood,go,stp⟩:Rn) ((c.blocks.length:Int) - 1) h1)),rfl,rfl,rfl,(u84 (KN c tick h2)),(XT.leC (args:=[.ptr 0 0 0,.int .i64 tick,.rsl (Qs (prsI c tick)) 0 ((prsI c tick).length),.rsl (Qi ([]:List Flt)) 0 (([]:List Flt).length)]) (Xl Try.func49 (by kernel_rfl) f49b (tickR_ok tick (prsI c tick) ([]:List Flt) c spots stood go stp g1 g2 g3 h3)) ⟨WH,⟨WH,⟨WH,⟨QbD,trivial⟩⟩⟩⟩),hc0,trivial⟩ (by rw [qe0]; try rfl) (by rw [qe1,qe2,qe3,qe4]; all_goals (first | rfl | (simp only [List.length_set]; done) | (simp only [List.length_set]; rfl)))
theorem full_ok (tick:Int) (c:Cir) (spots:List Spt) (stood:List Int) (go:List Bool) (stp:Bool) (g1 g2 g3:Nat) (h:FullIn (⟨c,spots,stood,go,stp⟩:Rn) tick) :
 Lent Try.prog 57 [.ptr 0 0 0,.int .i64 tick] [⟨true,0,1,false,[.rsl (Qc c.blocks) 0 c.blocks.length,.rsl (rowI c.cars) 0 c.cars.length,.sl 1 g1 0 spots.length 3,.sl 2 g2 0 stood.length 1,.sl 3 g3 0 go.length 1,.bool stp],false⟩,⟨true,g1,3,true,(Qg spots),true⟩,⟨true,g2,1,true,(rowI stood),true⟩,⟨true,g3,1,true,(rowB go),true⟩] (.bool (qA (⟨c,spots,stood,go,stp⟩:Rn) tick)) [⟨true,0,1,false,[.rsl (Qc c.blocks) 0 c.blocks.length,.rsl (rowI c.cars) 0 c.cars.length,.sl 1 g1 0 (Yg (⟨c,spots,stood,go,stp⟩:Rn) tick).spots.length 3,.sl 2 g2 0 (Yg (⟨c,spots,stood,go,stp⟩:Rn) tick).stood.length 1,.sl 3 g3 0 (Yg (⟨c,spots,stood,go,stp⟩:Rn) tick).go.length 1,.bool (Yg (⟨c,spots,stood,go,stp⟩:Rn) tick).stp],false⟩,⟨true,g1,3,true,(Qg (Yg (⟨c,spots,stood,go,stp⟩:Rn) tick).spots),true⟩,⟨true,g2,1,true,(rowI (Yg (⟨c,spots,stood,go,stp⟩:Rn) tick).stood),true⟩,⟨true,g3,1,true,(rowB (Yg (⟨c,spots,stood,go,stp⟩:Rn) tick).go),true⟩]:=ym _ Try.func57 f57b rfl rfl fun E hE=>by
 obtain ⟨h1,h2,h3⟩:=h
 have hc1:1≤c.blocks.length:=h2.1
 have hc2:c.blocks.length≤1000000:=h2.2
 refine f57W tick c spots stood go stp g1 g2 g3 (rv:=qA (⟨c,spots,stood,go,stp⟩:Rn) tick) hE ⟨by omega,h1,hc2,h3,fun hp=>?_,fun hp=>?_⟩
 · cases hc:carO spots ((c.blocks.length:Int) - 1) with
   | none =>
    have e:carS spots ((c.blocks.length:Int) - 1)=-1:=by rw [carS,hc]
    have hp:carS spots ((c.blocks.length:Int) - 1)≥0:=hp
    omega
   | some i =>
    have e:carS spots ((c.blocks.length:Int) - 1)=(i:Int):=by rw [carS,hc]
    have hi:=(Wb hc).1
    have hl:i<(VO (⟨c,spots,stood,go,stp⟩:Rn) tick (prsI c tick) []).spots.length:=by
     have hrt:=run_trk (R:=(⟨c,spots,stood,go,stp⟩:Rn)) (tick:=tick) (f:=[]) h3.1
     have hcl:=tick_len h3.2.1 h3.2.2 (l:=prsI c tick)
     have e5:(Qay (⟨c,spots,stood,go,stp⟩:Rn) tick []).cars.length=spots.length:=by
      have:=congrArg (fun R=>R.spots.length) hrt
      simp only [Xd,List.length_map] at this
      exact this
     show i<((Qu _ _).cars.map Car.spot).length
     rw [List.length_map,hcl,e5]; exact hi
    refine ⟨hp,(VO (⟨c,spots,stood,go,stp⟩:Rn) tick (prsI c tick) []).spots.getD i dS,?_,?_,rfl,rfl,rfl,rfl⟩
    · have e2:Int.toNat (carS spots ((c.blocks.length:Int) - 1))=i:=by omega
      rw [show Int.toNat (carS (⟨c,spots,stood,go,stp⟩:Rn).spots ((c.blocks.length:Int) - 1))=i from e2]; exact getD_some hl
    · unfold qA; simp only [hc]; rfl
 · refine ⟨?_,rfl,rfl,rfl,rfl⟩
   cases hc:carO spots ((c.blocks.length:Int) - 1) with
   | none=>unfold qA; simp only [hc]
   | some i =>
    have e:carS spots ((c.blocks.length:Int) - 1)=(i:Int):=by rw [carS,hc]
    have hp:¬ carS spots ((c.blocks.length:Int) - 1)≥0:=hp
    omega
end Go.Proofs.Ytgdfkjjgdkejfaa
namespace Go.Proofs.Ytgdfkjjgdkejfaa
open Go Ax
open Go.Proofs
/-- A row of a safe ride. -/
structure RowOk (c:Cir) (r:List Spt):Prop where
 len:r.length=c.cars.length
 ok:∀ x ∈ r,spotOk c x=true
 rest:∀ x ∈ r,x.opn=true→x.ran=(bkAt c x.block).time
 ns:∀ i j,i<j→j<r.length→(r.getD i dS).block ≠ (r.getD j dS).block
/-! ### When the ride is stopped -/
/-! ### A fault that is never seen -/
theorem said_none {T:Trk} (h:T.faults=[]) {k b:Int}:Qy (Xc T k b)=false:=by simp [Qy,Xc,saysV,h]
theorem nosplit_none {T:Trk} (h:T.faults=[]):QL (Qj T)=false:=by
 have e:=Qbx (T:=T) (stp:=false)
 rw [Bool.false_or] at e
 rw [← e,splM,Bool.false_or]
 refine List.any_eq_false.2 fun j _=>?_
 rw [Kb,said_none h]; simp
structure Sim (T T':Trk):Prop where
 c:T.c=T'.c
 cars:T.cars=T'.cars
 gos:T.gos=T'.gos
 tick:T.tick=T'.tick
 wr:T.wrecked=T'.wrecked
 s:T.stopped<0
 s':T'.stopped<0
theorem said_val {T:Trk} (h1:T.faults.length≤1) {k b:Int} (hs:Qy (Xc T k b)=false):Xc T k b=⟨b2i (isI T.c T.cars k b),b2i (isI T.c T.cars k b)⟩:=by
 have a:=said_true h1 hs
 cases h:Xc T k b with
 | mk x y=>rw [h] at a; simp only at a; rw [a.1,a.2]
theorem said_sound {T T':Trk} (h1:T.faults.length≤1) (h1':T'.faults.length≤1) (hs:QL (Qj T)=false) (hs':QL (Qj T')=false) (hc:T.c=T'.c) (hx:T.cars=T'.cars):Qj T=Qj T':=by
 have key:∀ k,k<3→QK T ((k+1:Nat):Int)=QK T' ((k+1:Nat):Int):=fun k hk=>by
  rw [QK,QK,← hc]
  refine List.map_congr_left fun b hb=>?_
  have hb:=List.mem_range.1 hb
  rw [said_val h1 (Qbw hs hk hb),said_val h1' (Qbw hs' hk (b:=b) (by rw [← hc]; exact hb)),hc,hx]
 rw [Qj,Qj]
 have k1:=key 0 (by omega)
 have k2:=key 1 (by omega)
 have k3:=key 2 (by omega)
 have k1:QK T 1=QK T' 1:=k1
 have k2:QK T 2=QK T' 2:=k2
 have k3:QK T 3=QK T' 3:=k3
 rw [k1,k2,k3]
theorem Sim.step {T T':Trk} {l:List Prs} (h:Sim T T') (h1:T.faults.length≤1) (h1':T'.faults.length≤1) (ht:0≤T.tick) (hs:(Qu T l).stopped<0) (hs':(Qu T' l).stopped<0):Sim (Qu T l) (Qu T' l):=by
 have ht':0≤T'.tick:=by rw [← h.tick]; exact ht
 by_cases hw:T.wrecked=true
 · have e:Qu T l=⟨T.c,T.faults,T.cars,T.gos,T.tick+1,T.stopped,T.wrecked,T.rounds,T.gone⟩:=by unfold Qu; rw [if_pos hw]
   have e':Qu T' l=⟨T'.c,T'.faults,T'.cars,T'.gos,T'.tick+1,T'.stopped,T'.wrecked,T'.rounds,T'.gone⟩:=by unfold Qu; rw [if_pos (by rw [← h.wr]; exact hw)]
   rw [e,e']
   exact ⟨h.c,h.cars,h.gos,by simp only; rw [h.tick],h.wr,h.s,h.s'⟩
 · have e:Qu T l=⟨T.c,T.faults,(actT T l).cars,(actT T l).gos,T.tick+1,Yf T,YZ T.c (actT T l).cars,(actT T l).rounds,(actT T l).gone⟩:=by unfold Qu; rw [if_neg hw]
   have e':Qu T' l=⟨T'.c,T'.faults,(actT T' l).cars,(actT T' l).gos,T'.tick+1,Yf T',YZ T'.c (actT T' l).cars,(actT T' l).rounds,(actT T' l).gone⟩:=by unfold Qu; rw [if_neg (by rw [← h.wr]; exact hw)]
   have s1:Yf T<0:=by rw [e] at hs; exact hs
   have s2:Yf T'<0:=by rw [e'] at hs'; exact hs'
   have sp:∀ {T:Trk},Yf T<0→0≤T.tick→QL (Qj (midT T))=false:=fun {T} q q'=>by
    unfold Yf at q
    split at q
    · split at q
      · omega
      · rename_i hh; exact Bool.eq_false_iff.2 hh
    · rename_i h0; exact absurd q h0
   have hr:QM T=QM T':=by simp only [QM,h.c,h.cars,h.tick]
   have hrd:Qj (midT T)=Qj (midT T'):=said_sound (T:=midT T) (T':=midT T') h1 h1' (sp s1 ht) (sp s2 ht') h.c hr
   have hp:QI T l=QI T' l:=by unfold QI; rw [hrd,hr,h.c,h.tick,h.gos]
   have hact:(actT T l).cars=(actT T' l).cars∧(actT T l).gos=(actT T' l).gos:=by
    unfold actT
    rw [if_pos s1,if_pos s2]
    unfold Ve
    rw [hrd,hp,h.c]
    exact yA (s:=⟨(QI T' l).1,(QI T' l).2.1,T.rounds,T.gone⟩) (s':=⟨(QI T' l).1,(QI T' l).2.1,T'.rounds,T'.gone⟩) rfl rfl
   rw [e,e']
   exact ⟨h.c,hact.1,hact.2,by simp only; rw [h.tick],by simp only; rw [hact.1,h.c],s1,s2⟩
end Go.Proofs.Ytgdfkjjgdkejfaa
namespace Go.Proofs.Ytgdfkjjgdkejfaa
open Go Ax
open Go.Proofs
def cyc (n x y:Int):Int:=Int.tmod ((y - x)+n) n
def Cyc (n x y D:Int):Prop:=0≤D∧D<n∧(D=y - x ∨ D=y - x+n)
theorem cyc_spec {n x y:Int} (hx:0≤x∧x<n) (hy:0≤y∧y<n):Cyc n x y (cyc n x y):=by
 unfold cyc Cyc
 rw [Int.tmod_eq_emod_of_nonneg (by omega)]
 refine ⟨Int.emod_nonneg _ (by omega),Int.emod_lt_of_pos _ (by omega),?_⟩
 rcases Int.lt_or_le y x with h | h
 · right; rw [Int.emod_eq_of_lt (by omega) (by omega)]
 · left; rw [Int.add_emod_right,Int.emod_eq_of_lt (by omega) (by omega)]
def Mv (n p q m:Int):Prop:=(m=0∧q=p) ∨ (m=1∧((q=p+1∧p+1<n) ∨ (q=0∧p+1=n)))
theorem dist_step {n pi pk qi qk mi mk D D':Int} (hD:Cyc n pi pk D) (hD':Cyc n qi qk D') (hi:Mv n pi qi mi) (hk:Mv n pk qk mk) (ri:0≤pi∧pi<n) (rk:0≤pk∧pk<n) (ne:pi ≠ pk) (fi:mi=1→qi ≠ pk) (fk:mk=1→qk ≠ pi):D'=D+mk - mi:=by
 unfold Cyc at hD hD'
 unfold Mv at hi hk
 rcases hi with ⟨rfl,rfl⟩ | ⟨rfl,hi⟩ <;> rcases hk with ⟨rfl,rfl⟩ | ⟨rfl,hk⟩
 · omega
 · have:=fk rfl; omega
 · have:=fi rfl; omega
 · have:=fk rfl; have:=fi rfl; omega
end Go.Proofs.Ytgdfkjjgdkejfaa