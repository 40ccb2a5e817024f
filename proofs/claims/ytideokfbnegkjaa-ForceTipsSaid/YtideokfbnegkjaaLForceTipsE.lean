/- A part of the proof: several texts, one behind the other. -/
import Derived.Test.YtideokfbnegkjaaLForceTipsD
set_option linter.unusedVariables false
set_option linter.unusedSimpArgs false
set_option maxRecDepth 100000
namespace Go.Proofs.Ytideokfbnegkjaa
open Go Ax
open Go.Proofs
/-- The reference: the first loading with so many full seats,beginning with some,whose moment is below 0. -/
def refD (M:List Bool→Int):Nat→List Bool→Int→List Bool × Bool
 | 0,b,many=>if many<0 then ([],false) else if many > 0 then ([],false) else (b,decide (M b<0))
 | d+1,b,many=>if many<0 then ([],false) else if many > ((d+1:Nat):Int) then ([],false) else
  if (refD M d (b++[true]) (many - 1)).2=true then ((refD M d (b++[true]) (many - 1)).1,true) else refD M d (b++[false]) many
theorem yU {M:List Bool→Int}:∀ {d:Nat} {b:List Bool} {many:Int},many<0→refD M d b many=([],false)
 | 0,b,many,h=>by simp only [refD,if_pos h]
 | d+1,b,many,h=>by simp only [refD,if_pos h]
/-! ### The best seats -/
theorem qZ {tk:Int→Int}:∀ {l:List Int} {y:Int} {n:Nat},(y :: l).Pairwise (fun a c=>tk c≤tk a)→n≤l.length→((l.take n).map tk).sum≤(((y :: l).take n).map tk).sum
 | l,y,0,_,_=>by simp
 | [],y,n+1,_,h=>by simp at h
 | z :: l,y,n+1,h,hn=>by
  obtain ⟨h1,h2⟩:=List.pairwise_cons.1 h
  have ih:=qZ (n:=n) h2 (by simpa using hn)
  have:=h1 z List.mem_cons_self
  simp only [List.take_succ_cons,List.map_cons,List.sum_cons] at ih ⊢
  omega
theorem take_ge {tk:Int→Int}:∀ {l:List Int} {x:Int} {n:Nat},l.Pairwise (fun a c=>tk c≤tk a)→x ∈ l→n+1≤l.length →
 tk x+(((l.erase x).take n).map tk).sum≤((l.take (n+1)).map tk).sum∧(((l.erase x).take n).map tk).sum≤((l.take n).map tk).sum
 | y :: l,x,n,h,hx,hn=>by
  obtain ⟨h1,h2⟩:=List.pairwise_cons.1 h
  by_cases e:y=x
  · subst e
    rw [List.erase_cons_head]
    refine ⟨by simp,qZ h (by simpa using hn)⟩
  · have hxl:x ∈ l:=by
     rcases List.mem_cons.1 hx with hx | hx
     · exact absurd hx.symm e
     · exact hx
    have hne:(y == x)=false:=by simpa using e
    rw [List.erase_cons]
    simp only [hne,Bool.false_eq_true,if_false]
    have hxy:=h1 x hxl
    cases n with
    | zero=>simp; omega
    | succ n =>
     have ih:=take_ge (n:=n) h2 hxl (by simpa using hn)
     simp only [List.take_succ_cons,List.map_cons,List.sum_cons]
     omega
theorem most_in {tk:Int→Int} {ord:List Int} {N:Nat} (h:Ord ord N) (hs:ord.Pairwise fun a c=>tk c≤tk a) {i n:Nat} (hi:i<N) (hn:n+1≤N - i) :
 tk i+QF tk ord n ((i:Int)+1)≤QF tk ord (n+1) i∧QF tk ord n ((i:Int)+1)≤QF tk ord n i:=by
 have hl:=Wn h (i:=i) (by omega)
 have him:(i:Int) ∈ ord.filter fun s=>decide ((i:Int)≤s):=by rw [List.mem_filter]; exact ⟨(h.mem _).2 (by omega),by simp⟩
 have:=take_ge (tk:=tk) (n:=n) (hs.filter fun s=>decide ((i:Int)≤s)) him (by omega)
 unfold QF
 rw [YW h.nd]
 exact this
theorem set_mid {b:List Bool} {d:Nat} {v:Bool}:(b++List.replicate (d+1) false).set b.length v=(b++[v])++List.replicate d false:=by
 rw [List.set_append_right (h:=Nat.le_refl _),Nat.sub_self,List.replicate_succ,List.set_cons_zero,List.append_assoc]; rfl
theorem VM {M:List Bool→Int} {tk:Int→Int} {ord:List Int} {N:Nat} (h:Ord ord N) (hs:ord.Pairwise fun a c=>tk c≤tk a)
 (hM:∀ (bs:List Bool) (i:Nat),bs.length=N→bs[i]?=some false→M (bs.set i true)=M bs - tk i):∀ (d:Nat) (b:List Bool) (many:Nat),b.length+d=N →
   ((M (b++List.replicate d false) - QF tk ord many b.length<0∧many≤d)→refD M d b many=(YH M tk ord N d b.length (b++List.replicate d false) many,true)) ∧
   (¬ (M (b++List.replicate d false) - QF tk ord many b.length<0∧many≤d)→(refD M d b many).2=false)
 | 0,b,many,hb=>by
  simp only [List.replicate_zero,List.append_nil,refD,YH]
  rw [if_neg (by omega)]
  by_cases c:many=0
  · subst c
    rw [YM,if_neg (by omega)]
    refine ⟨fun hc=>?_,fun hc=>?_⟩
    · have:M b<0:=by omega
      simp [this]
    · have:¬ M b<0:=fun h=>hc ⟨by omega,Nat.le_refl _⟩
      simp [this]
  · rw [if_pos (by omega)]
    exact ⟨fun hc=>absurd hc.2 (by omega),fun _=>rfl⟩
 | d+1,b,many,hb=>by
  have ef:b++List.replicate (d+1) false=(b++[false])++List.replicate d false:=by rw [List.replicate_succ,List.append_assoc]; rfl
  have lt:(b++[true]).length=b.length+1:=by simp
  have lf:(b++[false]).length=b.length+1:=by simp
  have lcast:((b.length+1:Nat):Int)=(b.length:Int)+1:=by omega
  have hlen:(b++List.replicate (d+1) false).length=N:=by simp; omega
  have hget:(b++List.replicate (d+1) false)[b.length]?=some false:=by
   rw [List.getElem?_append_right (Nat.le_refl _),Nat.sub_self]; simp
  have ihT:=fun n=>VM h hs hM d (b++[true]) n (by rw [lt]; omega)
  have ihF:=VM h hs hM d (b++[false]) many (by rw [lf]; omega)
  have hset:(b++List.replicate (d+1) false).set b.length true=(b++[true])++List.replicate d false:=set_mid
  have hback:((b++List.replicate (d+1) false).set b.length true).set b.length false=b++List.replicate (d+1) false:=by rw [List.set_set,ef,← set_mid]; rw [ef,← set_mid,List.set_set]
  have hMs:=hM _ _ hlen hget
  rw [← ef,lf,lcast] at ihF
  simp only [refD]
  rw [if_neg (by omega)]
  cases many with
  | zero =>
   rw [if_neg (by omega),yU (by omega)]
   simp only [Bool.false_eq_true,if_false]
   rw [YM] at ihF ⊢
   have e1:YH M tk ord N (d+1) b.length (b++List.replicate (d+1) false) 0=b++List.replicate (d+1) false:=by unfold YH; rw [if_pos rfl]
   have e2:YH M tk ord N d (b.length+1) (b++List.replicate (d+1) false) 0=b++List.replicate (d+1) false:=by
    cases d with
    | zero=>rfl
    | succ d=>unfold YH; rw [if_pos rfl]
   rw [e2] at ihF
   rw [e1]
   exact ⟨fun hc=>ihF.1 ⟨hc.1,by omega⟩,fun hc=>ihF.2 fun hh=>hc ⟨hh.1,by omega⟩⟩
  | succ n =>
   by_cases cm:n+1≤d+1
   · rw [if_neg (by omega),show ((n+1:Nat):Int) - 1=(n:Int) by omega]
     have ihT:=ihT n
     rw [lt,lcast,← hset] at ihT
     have hmi:=most_in h hs (i:=b.length) (n:=n) (by omega) (by omega)
     by_cases cT:M ((b++List.replicate (d+1) false).set b.length true) - QF tk ord n ((b.length:Int)+1)<0∧n≤d
     · rw [ihT.1 cT]
       simp only [if_true]
       refine ⟨fun _=>?_,fun hc=>absurd ⟨by omega,cm⟩ hc⟩
       have:YH M tk ord N (d+1) b.length (b++List.replicate (d+1) false) (n+1)=YH M tk ord N d (b.length+1) ((b++List.replicate (d+1) false).set b.length true) n:=by
        conv=>lhs; unfold YH
        rw [if_neg (by omega),if_pos ⟨by rw [Nat.add_sub_cancel]; exact cT.1,by omega⟩,Nat.add_sub_cancel]
       rw [this]
     · have e:YH M tk ord N (d+1) b.length (b++List.replicate (d+1) false) (n+1)=YH M tk ord N d (b.length+1) (b++List.replicate (d+1) false) (n+1):=by
        conv=>lhs; unfold YH
        rw [if_neg (by omega),if_neg (by rw [Nat.add_sub_cancel]; exact fun hh=>cT ⟨hh.1,by omega⟩),hback]
       rw [ihT.2 cT]
       simp only [Bool.false_eq_true,if_false]
       rw [e]
       by_cases cF:M (b++List.replicate (d+1) false) - QF tk ord (n+1) ((b.length:Int)+1)<0∧n+1≤d
       · have hmf:=most_in h hs (i:=b.length) (n:=n+1) (by omega) (by omega)
         exact ⟨fun _=>ihF.1 cF,fun hc=>absurd ⟨by omega,cm⟩ hc⟩
       · refine ⟨fun hc=>?_,fun _=>ihF.2 cF⟩
         exfalso
         have st:=few_step (tk:=tk) h (i:=b.length) (c:=M (b++List.replicate (d+1) false)) (left:=n+1) (by omega) (by omega) hc.1 (by omega)
         cases hf:VG tk ord N b.length (M (b++List.replicate (d+1) false),n+1) with
         | true =>
          have:=st.1 hf
          rw [Nat.add_sub_cancel] at this
          exact cT ⟨by omega,by omega⟩
         | false =>
          have:=st.2 hf
          exact cF ⟨this.1,by omega⟩
   · rw [if_pos (by omega)]
     exact ⟨fun hc=>absurd hc.2 cm,fun _=>rfl⟩
theorem leftF_min {M0:Int} {tk:Int→Int} {ord:List Int}:∀ (m l j:Nat),l≤j→j<qO M0 tk ord m l→M0 - QF tk ord j 0≥0
 | 0,l,j,h1,h2=>by simp only [qO] at h2; omega
 | m+1,l,j,h1,h2=>by
  simp only [qO] at h2
  split at h2
  · rename_i c
    rcases Nat.eq_or_lt_of_le h1 with e | e
    · subst e; exact c
    · exact leftF_min m (l+1) j (by omega) h2
  · omega
def refR (r:Rg) (b:List Bool) (many ph ln:Int):List Bool × Bool:=refD (Qs r ph ln) (r.seats.length - b.length) b many
def RecF (r:Rg) (b:List Bool) (many ph ln:Int):Prop:=Pure Try.prog 75 [.agg [.rsl (rowS r.seats) 0 r.seats.length,.rsl (rowP r.feet) 0 r.feet.length,.int .i64 r.frame,.int .i64 r.c.x,.int .i64 r.c.y,.int .i64 r.c.z,.int .i64 r.empty,.int .i64 r.full],.rsl (rowB b) 0 b.length,.int .i64 many,.int .i64 ph,.int .i64 ln] (.tup [.rsl (rowB (refR r b many ph ln).1) 0 (refR r b many ph ln).1.length,.bool (refR r b many ph ln).2])
theorem f75b:Try.f75.body=some (Qd Try.prog 75):=by kernel_rfl
theorem u75 {a c k:List AV} {r:AV} (h:Pure Try.prog 75 (a++c++k) r):Qb Try.prog (.clos 75 a k) c r:=Qo Try.func75 (by kernel_rfl) f75b h
theorem p75_start_0 (r:Rg) (b:(List Bool)) (many:Int) (ph:Int) (ln:Int) {E:Env} {res:AV} (hE:Qh Try.prog 75 res E) (ho:AllP [InR .i64 ((r.seats.length:Int) - (b.length:Int)),(decide (many<0))=true,true=true])
 (hr:AvLe (.tup [.nilSl,.bool false]) res):G Try.prog E [.code (Qd Try.prog 75)] ⟨[.agg [.rsl (rowS r.seats) 0 r.seats.length,.rsl (rowP r.feet) 0 r.feet.length,.int .i64 r.frame,.int .i64 r.c.x,.int .i64 r.c.y,.int .i64 r.c.z,.int .i64 r.empty,.int .i64 r.full],.rsl (rowB b) 0 b.length,.int .i64 many,.int .i64 ph,.int .i64 ln]++unds (Try.f75.ntmps - 5),[]⟩ :=
 Qg (n:=400) (evs:=[.b true,.b true]) (obs:=_) hE Try.func75 Qj (by kernel_rfl) ho hr
theorem p75_start_1 (r:Rg) (b:(List Bool)) (many:Int) (ph:Int) (ln:Int) {E:Env} {res:AV} (hE:Qh Try.prog 75 res E) (ho:AllP [InR .i64 ((r.seats.length:Int) - (b.length:Int)),(decide (many<0))=false,(decide (many > ((r.seats.length:Int) - (b.length:Int))))=true])
 (hr:AvLe (.tup [.nilSl,.bool false]) res):G Try.prog E [.code (Qd Try.prog 75)] ⟨[.agg [.rsl (rowS r.seats) 0 r.seats.length,.rsl (rowP r.feet) 0 r.feet.length,.int .i64 r.frame,.int .i64 r.c.x,.int .i64 r.c.y,.int .i64 r.c.z,.int .i64 r.empty,.int .i64 r.full],.rsl (rowB b) 0 b.length,.int .i64 many,.int .i64 ph,.int .i64 ln]++unds (Try.f75.ntmps - 5),[]⟩ :=
 Qg (n:=400) (evs:=[.b false,.b true]) (obs:=_) hE Try.func75 Qj (by kernel_rfl) ho hr
theorem p75_start_2 (r:Rg) (b:(List Bool)) (many:Int) (ph:Int) (ln:Int) {E:Env} {res:AV} (hE:Qh Try.prog 75 res E) (ho:AllP [InR .i64 ((r.seats.length:Int) - (b.length:Int)),(decide (many<0))=false,(decide (many > ((r.seats.length:Int) - (b.length:Int))))=false,(((r.seats.length:Int) - (b.length:Int)) == 0)=true,Qb Try.prog (.clos 60 [] []) [.agg [.rsl (rowS r.seats) 0 r.seats.length,.rsl (rowP r.feet) 0 r.feet.length,.int .i64 r.frame,.int .i64 r.c.x,.int .i64 r.c.y,.int .i64 r.c.z,.int .i64 r.empty,.int .i64 r.full],.rsl (rowB b) 0 b.length,.int .i64 ph,.int .i64 ln] (.int .i64 (Qs r ph ln b))])
 (hr:AvLe (.tup [.rsl (rowB b) 0 b.length,.bool (decide ((Qs r ph ln b)<0))]) res):G Try.prog E [.code (Qd Try.prog 75)] ⟨[.agg [.rsl (rowS r.seats) 0 r.seats.length,.rsl (rowP r.feet) 0 r.feet.length,.int .i64 r.frame,.int .i64 r.c.x,.int .i64 r.c.y,.int .i64 r.c.z,.int .i64 r.empty,.int .i64 r.full],.rsl (rowB b) 0 b.length,.int .i64 many,.int .i64 ph,.int .i64 ln]++unds (Try.f75.ntmps - 5),[]⟩ :=
 Qg (n:=400) (evs:=[.b false,.b false,.b true,.v (.int .i64 (Qs r ph ln b))]) (obs:=_) hE Try.func75 Qj (by kernel_rfl) ho hr
theorem p75_start_3 (r:Rg) (b:(List Bool)) (many:Int) (ph:Int) (ln:Int) {E:Env} {res:AV} (hE:Qh Try.prog 75 res E) (ho:AllP [InR .i64 ((r.seats.length:Int) - (b.length:Int)),(decide (many<0))=false,(decide (many > ((r.seats.length:Int) - (b.length:Int))))=false,(((r.seats.length:Int) - (b.length:Int)) == 0)=false,0=0,0=0,(0+b.length)≤2147483648,((rowB b).drop 0).take (b.length*1)=(rowB b),(rowB b).length=(b.length*1),noRefs (rowB b)=true,2=2,1=1,(0+((0+b.length)*1))=(rowB b).length,((0+b.length)+1)≤2147483648,0=0,InR .i64 (many - 1),Qb Try.prog (.clos 75 [] []) [.agg [.rsl (rowS r.seats) 0 r.seats.length,.rsl (rowP r.feet) 0 r.feet.length,.int .i64 r.frame,.int .i64 r.c.x,.int .i64 r.c.y,.int .i64 r.c.z,.int .i64 r.empty,.int .i64 r.full],.rsl ((rowB b)++[.bool true]) 0 ((0+b.length)+1),.int .i64 (many - 1),.int .i64 ph,.int .i64 ln] (.tup [.rsl (rowB ((refR r (b++[true]) (many - 1) ph ln).1)) 0 (((refR r (b++[true]) (many - 1) ph ln).1).length),.bool ((refR r (b++[true]) (many - 1) ph ln).2)]),((refR r (b++[true]) (many - 1) ph ln).2)=true])
 (hr:AvLe (.tup [.rsl (rowB ((refR r (b++[true]) (many - 1) ph ln).1)) 0 (((refR r (b++[true]) (many - 1) ph ln).1).length),.bool true]) res):G Try.prog E [.code (Qd Try.prog 75)] ⟨[.agg [.rsl (rowS r.seats) 0 r.seats.length,.rsl (rowP r.feet) 0 r.feet.length,.int .i64 r.frame,.int .i64 r.c.x,.int .i64 r.c.y,.int .i64 r.c.z,.int .i64 r.empty,.int .i64 r.full],.rsl (rowB b) 0 b.length,.int .i64 many,.int .i64 ph,.int .i64 ln]++unds (Try.f75.ntmps - 5),[]⟩ :=
 Qg (n:=400) (evs:=[.b false,.b false,.b false,.cs (rowB b),.fz,.v (.tup [.rsl (rowB ((refR r (b++[true]) (many - 1) ph ln).1)) 0 (((refR r (b++[true]) (many - 1) ph ln).1).length),.bool ((refR r (b++[true]) (many - 1) ph ln).2)]),.b true]) (obs:=_) hE Try.func75 Qj (by kernel_rfl) ho hr
theorem p75_start_4 (r:Rg) (b:(List Bool)) (many:Int) (ph:Int) (ln:Int) {E:Env} {res:AV} (hE:Qh Try.prog 75 res E) (ho:AllP [InR .i64 ((r.seats.length:Int) - (b.length:Int)),(decide (many<0))=false,(decide (many > ((r.seats.length:Int) - (b.length:Int))))=false,(((r.seats.length:Int) - (b.length:Int)) == 0)=false,0=0,0=0,(0+b.length)≤2147483648,((rowB b).drop 0).take (b.length*1)=(rowB b),(rowB b).length=(b.length*1),noRefs (rowB b)=true,2=2,1=1,(0+((0+b.length)*1))=(rowB b).length,((0+b.length)+1)≤2147483648,0=0,InR .i64 (many - 1),Qb Try.prog (.clos 75 [] []) [.agg [.rsl (rowS r.seats) 0 r.seats.length,.rsl (rowP r.feet) 0 r.feet.length,.int .i64 r.frame,.int .i64 r.c.x,.int .i64 r.c.y,.int .i64 r.c.z,.int .i64 r.empty,.int .i64 r.full],.rsl ((rowB b)++[.bool true]) 0 ((0+b.length)+1),.int .i64 (many - 1),.int .i64 ph,.int .i64 ln] (.tup [.rsl (rowB ((refR r (b++[true]) (many - 1) ph ln).1)) 0 (((refR r (b++[true]) (many - 1) ph ln).1).length),.bool ((refR r (b++[true]) (many - 1) ph ln).2)]),((refR r (b++[true]) (many - 1) ph ln).2)=false,0=0,0=0,(0+b.length)≤2147483648,((rowB b).drop 0).take (b.length*1)=(rowB b),(rowB b).length=(b.length*1),noRefs (rowB b)=true,2=2,1=1,(0+((0+b.length)*1))=(rowB b).length,((0+b.length)+1)≤2147483648,0=0,Qb Try.prog (.clos 75 [] []) [.agg [.rsl (rowS r.seats) 0 r.seats.length,.rsl (rowP r.feet) 0 r.feet.length,.int .i64 r.frame,.int .i64 r.c.x,.int .i64 r.c.y,.int .i64 r.c.z,.int .i64 r.empty,.int .i64 r.full],.rsl ((rowB b)++[.bool false]) 0 ((0+b.length)+1),.int .i64 many,.int .i64 ph,.int .i64 ln] (.tup [.rsl (rowB ((refR r (b++[false]) many ph ln).1)) 0 (((refR r (b++[false]) many ph ln).1).length),.bool ((refR r (b++[false]) many ph ln).2)])])
 (hr:AvLe (.tup [.rsl (rowB ((refR r (b++[false]) many ph ln).1)) 0 (((refR r (b++[false]) many ph ln).1).length),.bool ((refR r (b++[false]) many ph ln).2)]) res):G Try.prog E [.code (Qd Try.prog 75)] ⟨[.agg [.rsl (rowS r.seats) 0 r.seats.length,.rsl (rowP r.feet) 0 r.feet.length,.int .i64 r.frame,.int .i64 r.c.x,.int .i64 r.c.y,.int .i64 r.c.z,.int .i64 r.empty,.int .i64 r.full],.rsl (rowB b) 0 b.length,.int .i64 many,.int .i64 ph,.int .i64 ln]++unds (Try.f75.ntmps - 5),[]⟩ :=
 Qg (n:=400) (evs:=[.b false,.b false,.b false,.cs (rowB b),.fz,.v (.tup [.rsl (rowB ((refR r (b++[true]) (many - 1) ph ln).1)) 0 (((refR r (b++[true]) (many - 1) ph ln).1).length),.bool ((refR r (b++[true]) (many - 1) ph ln).2)]),.b false,.cs (rowB b),.fz,.v (.tup [.rsl (rowB ((refR r (b++[false]) many ph ln).1)) 0 (((refR r (b++[false]) many ph ln).1).length),.bool ((refR r (b++[false]) many ph ln).2)])]) (obs:=_) hE Try.func75 Qj (by kernel_rfl) ho hr
theorem f75W (r:Rg) (b:(List Bool)) (many:Int) (ph:Int) (ln:Int) {E:Env} {rv:((List Bool) × Bool)} (hE:Qh Try.prog 75 (.tup [.rsl (rowB rv.1) 0 rv.1.length,.bool rv.2]) E)
 (h:((I6 ((r.seats.length:Int) - (b.length:Int)))∧((many<0→rv=(([]:List Bool),false))∧(¬ (many<0)→((many > ((r.seats.length:Int) - (b.length:Int))→rv=(([]:List Bool),false))∧(¬ (many > ((r.seats.length:Int) - (b.length:Int)))→((((r.seats.length:Int) - (b.length:Int))=0→((Xq r ph ln∧b.length=r.seats.length)∧rv=(b,(decide ((Qs r ph ln b)<0)))))∧(¬ (((r.seats.length:Int) - (b.length:Int))=0)→((0+b.length)≤2147483648∧(((0+b.length)+1)≤2147483648∧((I6 (many - 1))∧((RecF r (b++[true]) (many - 1) ph ln)∧((((refR r (b++[true]) (many - 1) ph ln).2)=true→rv=(((refR r (b++[true]) (many - 1) ph ln).1),true))∧(((refR r (b++[true]) (many - 1) ph ln).2)=false→((0+b.length)≤2147483648∧(((0+b.length)+1)≤2147483648∧((RecF r (b++[false]) many ph ln)∧rv=(((refR r (b++[false]) many ph ln).1),(refR r (b++[false]) many ph ln).2)))))))))))))))))):G Try.prog E [.code (Qd Try.prog 75)] ⟨[.agg [.rsl (rowS r.seats) 0 r.seats.length,.rsl (rowP r.feet) 0 r.feet.length,.int .i64 r.frame,.int .i64 r.c.x,.int .i64 r.c.y,.int .i64 r.c.z,.int .i64 r.empty,.int .i64 r.full],.rsl (rowB b) 0 b.length,.int .i64 many,.int .i64 ph,.int .i64 ln]++unds (Try.f75.ntmps - 5),[]⟩:=by
 obtain ⟨q0_0,h⟩:=h
 rcases bft (decide (many<0)) with hc0 | hc0
 · have h:=h.1 (odt hc0)
   exact p75_start_0 r b many ph ln hE ⟨q0_0,hc0,rfl,trivial⟩ (by rw [h]; exact (WY ⟨VP,⟨AvLe.of_eq rfl,trivial⟩⟩))
 · have h:=h.2 (odf hc0)
   rcases bft (decide (many > ((r.seats.length:Int) - (b.length:Int)))) with hc1 | hc1
   · have h:=h.1 (odt hc1)
     exact p75_start_1 r b many ph ln hE ⟨q0_0,hc0,hc1,trivial⟩ (by rw [h]; exact (WY ⟨VP,⟨AvLe.of_eq rfl,trivial⟩⟩))
   · have h:=h.2 (odf hc1)
     rcases bft (((r.seats.length:Int) - (b.length:Int)) == 0) with hc2 | hc2
     · have h:=h.1 (eq_of_beq hc2)
       obtain ⟨h1,h⟩:=h
       exact p75_start_2 r b many ph ln hE ⟨q0_0,hc0,hc1,hc2,(u60 (Wk r b ph ln h1)),trivial⟩ (AvLe.of_eq (by rw [h]; try rfl))
     · have h:=h.2 (ne_of_beq_false hc2)
       obtain ⟨h1,h⟩:=h
       obtain ⟨h2,h⟩:=h
       obtain ⟨q15_3,h⟩:=h
       obtain ⟨h3,h⟩:=h
       rcases bft ((refR r (b++[true]) (many - 1) ph ln).2) with hc3 | hc3
       · have h:=h.1 hc3
         exact p75_start_3 r b many ph ln hE ⟨q0_0,hc0,hc1,hc2,rfl,rfl,h1,(by exact qf cB (fun _=>rfl) b),(by exact XH cB (fun _=>rfl) b),(by exact yd cB (fun _=>rfl) b),rfl,rfl,(by have hx:=XH cB (s:=1) (fun _=>rfl) b; simp only [rowB] at hx ⊢; rw [hx]; simp),h2,rfl,q15_3,(by rw [(show AV.rsl ((rowB b)++[.bool true]) 0 ((0+b.length)+1)=AV.rsl (rowB (b++[true])) 0 (b++[true]).length from by rw [(show rowB b++[.bool true]=rowB (b++[true]) from (VB cB b [true]).symm)]; rw [show ((0+b.length)+1)=(b++[true]).length from by simp])]; exact (u75 h3)),hc3,trivial⟩ (AvLe.of_eq (by rw [h]; try rfl))
       · have h:=h.2 hc3
         obtain ⟨h4,h⟩:=h
         obtain ⟨h5,h⟩:=h
         obtain ⟨h6,h⟩:=h
         exact p75_start_4 r b many ph ln hE ⟨q0_0,hc0,hc1,hc2,rfl,rfl,h1,(by exact qf cB (fun _=>rfl) b),(by exact XH cB (fun _=>rfl) b),(by exact yd cB (fun _=>rfl) b),rfl,rfl,(by have hx:=XH cB (s:=1) (fun _=>rfl) b; simp only [rowB] at hx ⊢; rw [hx]; simp),h2,rfl,q15_3,(by rw [(show AV.rsl ((rowB b)++[.bool true]) 0 ((0+b.length)+1)=AV.rsl (rowB (b++[true])) 0 (b++[true]).length from by rw [(show rowB b++[.bool true]=rowB (b++[true]) from (VB cB b [true]).symm)]; rw [show ((0+b.length)+1)=(b++[true]).length from by simp])]; exact (u75 h3)),hc3,rfl,rfl,h4,(by exact qf cB (fun _=>rfl) b),(by exact XH cB (fun _=>rfl) b),(by exact yd cB (fun _=>rfl) b),rfl,rfl,(by have hx:=XH cB (s:=1) (fun _=>rfl) b; simp only [rowB] at hx ⊢; rw [hx]; simp),h5,rfl,(by rw [(show AV.rsl ((rowB b)++[.bool false]) 0 ((0+b.length)+1)=AV.rsl (rowB (b++[false])) 0 (b++[false]).length from by rw [(show rowB b++[.bool false]=rowB (b++[false]) from (VB cB b [false]).symm)]; rw [show ((0+b.length)+1)=(b++[false]).length from by simp])]; exact (u75 h6)),trivial⟩ (AvLe.of_eq (by rw [h]; try rfl))
theorem few_ok {r:Rg} {ph ln:Int} (hm:Xq r ph ln):∀ (d:Nat) (b:List Bool) (many:Int),b.length+d=r.seats.length→-1≤many→many≤1000→RecF r b many ph ln
 | 0,b,many,hb,h1,h2=>Qw Try.func75 f75b fun E hE=>by
  have h20:=hm.1.ok.seats
  have e0:r.seats.length - b.length=0:=by omega
  refine f75W r b many ph ln (rv:=refR r b many ph ln) hE ⟨by omega,fun c=>?_,fun c=>⟨fun c2=>?_,fun c2=>⟨fun c3=>⟨⟨hm,by omega⟩,?_⟩,fun c3=>absurd (by omega) c3⟩⟩⟩
  · rw [refR,yU c]
  · rw [refR,e0,refD,if_neg c,if_pos (by omega)]
  · rw [refR,e0,refD,if_neg c,if_neg (by omega)]
 | d+1,b,many,hb,h1,h2=>Qw Try.func75 f75b fun E hE=>by
  have h20:=hm.1.ok.seats
  have e0:r.seats.length - b.length=d+1:=by omega
  have lt:∀ v,r.seats.length - (b++[v]).length=d:=fun v=>by simp; omega
  refine f75W r b many ph ln (rv:=refR r b many ph ln) hE ⟨by omega,fun c=>?_,fun c=>⟨fun c2=>?_,fun c2=>⟨fun c3=>absurd c3 (by omega),fun c3=>⟨by omega,by omega,by omega,few_ok hm d (b++[true]) (many - 1) (by simp; omega) (by omega) (by omega),fun c4=>?_,fun c4=>⟨by omega,by omega,few_ok hm d (b++[false]) many (by simp; omega) (by omega) (by omega),?_⟩⟩⟩⟩⟩
  · rw [refR,yU c]
  · rw [refR,e0,refD,if_neg c,if_pos (by omega)]
  · have e1:refR r b many ph ln=((refR r (b++[true]) (many - 1) ph ln).1,true):=by
     rw [refR,lt] at c4
     rw [refR,e0,refD,if_neg c,if_neg (by omega),if_pos c4,refR,lt]
    rw [e1]
  · have e1:refR r b many ph ln=refR r (b++[false]) many ph ln:=by
     rw [refR,lt] at c4
     rw [refR,e0,refD,if_neg c,if_neg (by omega),if_neg (by rw [c4]; exact Bool.false_ne_true),refR,lt]
    rw [e1]
theorem refR_low {r:Rg} {ph ln:Int} (h:Xq r ph ln∧Yd r ph ln<0) {many:Nat} (hl:many<WI r ph ln):(refR r [] many ph ln).2=false:=by
 have sp:=(VM (M:=Qs r ph ln) (Wi r ph ln) (yV r ph ln) (fun bs i hb hi=>VC hb hi) r.seats.length [] many (by simp)).2
 rw [refR]
 refine sp fun hc=>?_
 have:=leftF_min _ 0 many (by omega) hl
 have h1:=hc.1
 unfold YT at this
 simp only [List.nil_append,List.length_nil,Int.natCast_zero] at h1
 omega
theorem refR_hit {r:Rg} {ph ln:Int} (h:Xq r ph ln∧Yd r ph ln<0):refR r [] (WI r ph ln) ph ln=(QS r ph ln,true):=by
 obtain ⟨l1,l2⟩:=VQ h
 have:=pos_le r ph ln
 have sp:=(VM (M:=Qs r ph ln) (Wi r ph ln) (yV r ph ln) (fun bs i hb hi=>VC hb hi) r.seats.length [] (WI r ph ln) (by simp)).1
 rw [refR]
 exact sp ⟨l1,by omega⟩
theorem f42b:Try.f42.body=some (Qd Try.prog 42):=by kernel_rfl
theorem u42 {a c k:List AV} {r:AV} (h:Pure Try.prog 42 (a++c++k) r):Qb Try.prog (.clos 42 a k) c r:=Qo Try.func42 (by kernel_rfl) f42b h
def f42K0 (P:Program):List Item:=kAt 400 [.code (Qd P 42)] [.b false,.stop]
def f42S0 (r:Rg) (p:Nat):St:=⟨([J,.ptr 0 0 0]++jj 6 ([.int .i64 (p:Int)]++Js 50)),[⟨true,0,1,true,[.rsl (rowS r.seats) 0 r.seats.length,.rsl (rowP r.feet) 0 r.feet.length,.int .i64 r.frame,.int .i64 r.c.x,.int .i64 r.c.y,.int .i64 r.c.z,.int .i64 r.empty,.int .i64 r.full],false⟩]⟩
def f42G0 (E:Env) (r:Rg) (p:Nat):Prop:=G Try.prog E (f42K0 Try.prog) (f42S0 r p )
def f42K1 (P:Program):List Item:=kAt 400 [.code (Qd P 42)] [.b false,.b true,.stop]
def f42S1 (r:Rg) (k:Nat) (p:Nat):St:=⟨([J,.ptr 0 0 0]++jj 6 ([.int .i64 (p:Int),.int .i64 (k:Int)]++Js 49)),[⟨true,0,1,true,[.rsl (rowS r.seats) 0 r.seats.length,.rsl (rowP r.feet) 0 r.feet.length,.int .i64 r.frame,.int .i64 r.c.x,.int .i64 r.c.y,.int .i64 r.c.z,.int .i64 r.empty,.int .i64 r.full],false⟩]⟩
def f42G1 (E:Env) (r:Rg) (k:Nat) (p:Nat):Prop:=G Try.prog E (f42K1 Try.prog) (f42S1 r k p )
def f42K2 (P:Program):List Item:=kAt 400 [.code (Qd P 42)] [.b false,.b true,.b true,.b false,.stop]
def f42S2 (r:Rg) (k:Nat) (p:Nat) (many:Nat):St:=⟨([J,.ptr 0 0 0]++jj 6 ([.int .i64 (p:Int),.int .i64 (k:Int),.int .i64 (many:Int)]++Js 48)),[⟨true,0,1,true,[.rsl (rowS r.seats) 0 r.seats.length,.rsl (rowP r.feet) 0 r.feet.length,.int .i64 r.frame,.int .i64 r.c.x,.int .i64 r.c.y,.int .i64 r.c.z,.int .i64 r.empty,.int .i64 r.full],false⟩]⟩
def f42G2 (E:Env) (r:Rg) (k:Nat) (p:Nat) (many:Nat):Prop:=G Try.prog E (f42K2 Try.prog) (f42S2 r k p many )
theorem p42_start_0 (r:Rg) {E:Env} {res:AV} (hE:Qh Try.prog 42 res E) (ho:AllP [Qb Try.prog (.clos 34 [] []) [.agg [.rsl (rowS r.seats) 0 r.seats.length,.rsl (rowP r.feet) 0 r.feet.length,.int .i64 r.frame,.int .i64 r.c.x,.int .i64 r.c.y,.int .i64 r.c.z,.int .i64 r.empty,.int .i64 r.full]] (.int .i64 (Qf r)),((Qf r) != 0)=true])
 (hr:AvLe (.tup [.nilSl,.int .i64 0,.int .i64 0,.bool false,.int .i64 (Qf r)]) res):G Try.prog E [.code (Qd Try.prog 42)] ⟨[.agg [.rsl (rowS r.seats) 0 r.seats.length,.rsl (rowP r.feet) 0 r.feet.length,.int .i64 r.frame,.int .i64 r.c.x,.int .i64 r.c.y,.int .i64 r.c.z,.int .i64 r.empty,.int .i64 r.full]]++unds (Try.f42.ntmps - 1),[]⟩ :=
 Qg (n:=400) (evs:=[.v (.int .i64 (Qf r)),.b true]) (obs:=_) hE Try.func42 Qj (by kernel_rfl) ho hr
theorem p42_start_1 (r:Rg) {E:Env} {rv:AV} (hE:Qh Try.prog 42 rv E) (ho:AllP [Qb Try.prog (.clos 34 [] []) [.agg [.rsl (rowS r.seats) 0 r.seats.length,.rsl (rowP r.feet) 0 r.feet.length,.int .i64 r.frame,.int .i64 r.c.x,.int .i64 r.c.y,.int .i64 r.c.z,.int .i64 r.empty,.int .i64 r.full]] (.int .i64 (Qf r)),((Qf r) != 0)=false])
 (hg:G Try.prog E (f42K0 Try.prog) ⟨([J,.ptr 0 0 0]++jj 6 ([.int .i64 0]++Js 50)),[⟨true,0,1,true,[.rsl (rowS r.seats) 0 r.seats.length,.rsl (rowP r.feet) 0 r.feet.length,.int .i64 r.frame,.int .i64 r.c.x,.int .i64 r.c.y,.int .i64 r.c.z,.int .i64 r.empty,.int .i64 r.full],false⟩]⟩):G Try.prog E [.code (Qd Try.prog 42)] ⟨[.agg [.rsl (rowS r.seats) 0 r.seats.length,.rsl (rowP r.feet) 0 r.feet.length,.int .i64 r.frame,.int .i64 r.c.x,.int .i64 r.c.y,.int .i64 r.c.z,.int .i64 r.empty,.int .i64 r.full]]++unds (Try.f42.ntmps - 1),[]⟩ :=
 Qn (n:=400) (ds:=[]) (cs:=[]) (live:=[1,8]) (m:=1) (evs:=[.v (.int .i64 (Qf r)),.b false,.stop]) (obs:=_) hE.2.1 (hE.nogh _) Qj (by kernel_rfl) ho hg
theorem f42W (r:Rg) {E:Env} {rv:((List Bool) × Int × Int × Bool × Int)} (hE:Qh Try.prog 42 (.tup [.rsl (rowB rv.1) 0 rv.1.length,.int .i64 rv.2.1,.int .i64 rv.2.2.1,.bool rv.2.2.2.1,.int .i64 rv.2.2.2.2]) E)
 (h:((RigSmall r)∧((¬ ((Qf r)=0)→rv=(([]:List Bool),0,0,false,(Qf r)))∧((Qf r)=0→f42G0 E r 0)))):G Try.prog E [.code (Qd Try.prog 42)] ⟨[.agg [.rsl (rowS r.seats) 0 r.seats.length,.rsl (rowP r.feet) 0 r.feet.length,.int .i64 r.frame,.int .i64 r.c.x,.int .i64 r.c.y,.int .i64 r.c.z,.int .i64 r.empty,.int .i64 r.full]]++unds (Try.f42.ntmps - 1),[]⟩:=by
 obtain ⟨h1,h⟩:=h
 rcases bft ((Qf r) != 0) with hc0 | hc0
 · have h:=h.1 (bneT hc0)
   exact p42_start_0 r hE ⟨(u34 (WF r h1)),hc0,trivial⟩ (by rw [h]; exact (WY ⟨VP,⟨AvLe.of_eq rfl,⟨AvLe.of_eq rfl,⟨AvLe.of_eq rfl,⟨AvLe.of_eq rfl,trivial⟩⟩⟩⟩⟩))
 · have h:=h.2 (bneF hc0)
   exact p42_start_1 r hE ⟨(u34 (WF r h1)),hc0,trivial⟩ h
theorem p42_0_0 (r:Rg) (p:Nat) {E:Env} {rv:AV} (hE:Qh Try.prog 42 rv E) (ho:AllP [Qb Try.prog (.clos 59 [] []) [.agg [.rsl (rowS r.seats) 0 r.seats.length,.rsl (rowP r.feet) 0 r.feet.length,.int .i64 r.frame,.int .i64 r.c.x,.int .i64 r.c.y,.int .i64 r.c.z,.int .i64 r.empty,.int .i64 r.full]] (.int .i64 (XS r)),(decide ((p:Int)<(XS r)))=true])
 (hg:G Try.prog E (f42K1 Try.prog) ⟨([J,.ptr 0 0 0]++jj 6 ([.int .i64 (p:Int),.int .i64 0]++Js 49)),[⟨true,0,1,true,[.rsl (rowS r.seats) 0 r.seats.length,.rsl (rowP r.feet) 0 r.feet.length,.int .i64 r.frame,.int .i64 r.c.x,.int .i64 r.c.y,.int .i64 r.c.z,.int .i64 r.empty,.int .i64 r.full],false⟩]⟩):G Try.prog E (f42K0 Try.prog) (f42S0 r p ) :=
 Qn (n:=400) (ds:=[]) (cs:=[]) (live:=[1,8,9]) (m:=1) (evs:=[.v (.int .i64 (XS r)),.b true,.stop]) (obs:=_) hE.2.1 (hE.nogh _) Qj (by kernel_rfl) ho hg
theorem p42_0_1 (r:Rg) (p:Nat) {E:Env} {res:AV} (hE:Qh Try.prog 42 res E) (ho:AllP [Qb Try.prog (.clos 59 [] []) [.agg [.rsl (rowS r.seats) 0 r.seats.length,.rsl (rowP r.feet) 0 r.feet.length,.int .i64 r.frame,.int .i64 r.c.x,.int .i64 r.c.y,.int .i64 r.c.z,.int .i64 r.empty,.int .i64 r.full]] (.int .i64 (XS r)),(decide ((p:Int)<(XS r)))=false])
 (hr:AvLe (.tup [.nilSl,.int .i64 0,.int .i64 0,.bool false,.int .i64 0]) res):G Try.prog E (f42K0 Try.prog) (f42S0 r p ) :=
 Qg (n:=400) (evs:=[.v (.int .i64 (XS r)),.b false]) (obs:=_) hE Try.func42 Qj (by kernel_rfl) ho hr
theorem f42W0 (r:Rg) (p:Nat) {E:Env} {rv:((List Bool) × Int × Int × Bool × Int)} (hE:Qh Try.prog 42 (.tup [.rsl (rowB rv.1) 0 rv.1.length,.int .i64 rv.2.1,.int .i64 rv.2.2.1,.bool rv.2.2.2.1,.int .i64 rv.2.2.2.2]) E)
 (h:(((p:Int)<(XS r)→f42G1 E r 0 p)∧(¬ ((p:Int)<(XS r))→rv=(([]:List Bool),0,0,false,0)))):f42G0 E r p:=by
 rcases bft (decide ((p:Int)<(XS r))) with hc0 | hc0
 · have h:=h.1 (odt hc0)
   exact p42_0_0 r p hE ⟨(u59 (Phases_ok r)),hc0,trivial⟩ h
 · have h:=h.2 (odf hc0)
   exact p42_0_1 r p hE ⟨(u59 (Phases_ok r)),hc0,trivial⟩ (by rw [h]; exact (WY ⟨VP,⟨AvLe.of_eq rfl,⟨AvLe.of_eq rfl,⟨AvLe.of_eq rfl,⟨AvLe.of_eq rfl,trivial⟩⟩⟩⟩⟩))
theorem p42_1_0 (r:Rg) (k:Nat) (p:Nat) {E:Env} {rv:AV} (hE:Qh Try.prog 42 rv E) (ho:AllP [(decide ((k:Int)<(r.feet.length:Int)))=true,Qb Try.prog (.clos 62 [] []) [.agg [.rsl (rowS r.seats) 0 r.seats.length,.rsl (rowP r.feet) 0 r.feet.length,.int .i64 r.frame,.int .i64 r.c.x,.int .i64 r.c.y,.int .i64 r.c.z,.int .i64 r.empty,.int .i64 r.full],.int .i64 (p:Int),.int .i64 (k:Int)] (.rsl (rowB (QN r (p:Int) (k:Int))) 0 ((QN r (p:Int) (k:Int)).length)),Qb Try.prog (.clos 60 [] []) [.agg [.rsl (rowS r.seats) 0 r.seats.length,.rsl (rowP r.feet) 0 r.feet.length,.int .i64 r.frame,.int .i64 r.c.x,.int .i64 r.c.y,.int .i64 r.c.z,.int .i64 r.empty,.int .i64 r.full],.rsl (rowB (QN r (p:Int) (k:Int))) 0 ((QN r (p:Int) (k:Int)).length),.int .i64 (p:Int),.int .i64 (k:Int)] (.int .i64 (Qs r (p:Int) (k:Int) (QN r (p:Int) (k:Int)))),(decide ((Qs r (p:Int) (k:Int) (QN r (p:Int) (k:Int)))≥0))=true,InR .i64 ((k:Int)+1)])
 (hg:G Try.prog E (f42K1 Try.prog) ⟨([J,.ptr 0 0 0]++jj 6 ([.int .i64 (p:Int),.int .i64 ((k:Int)+1)]++Js 49)),[⟨true,0,1,true,[.rsl (rowS r.seats) 0 r.seats.length,.rsl (rowP r.feet) 0 r.feet.length,.int .i64 r.frame,.int .i64 r.c.x,.int .i64 r.c.y,.int .i64 r.c.z,.int .i64 r.empty,.int .i64 r.full],false⟩]⟩):G Try.prog E (f42K1 Try.prog) (f42S1 r k p ) :=
 Qn (n:=400) (ds:=[]) (cs:=[]) (live:=[1,8,9]) (m:=1) (evs:=[.b true,.v (.rsl (rowB (QN r (p:Int) (k:Int))) 0 ((QN r (p:Int) (k:Int)).length)),.v (.int .i64 (Qs r (p:Int) (k:Int) (QN r (p:Int) (k:Int)))),.b true,.stop]) (obs:=_) hE.2.1 (hE.nogh _) Qj (by kernel_rfl) ho hg
theorem p42_1_1 (r:Rg) (k:Nat) (p:Nat) {E:Env} {rv:AV} (hE:Qh Try.prog 42 rv E) (ho:AllP [(decide ((k:Int)<(r.feet.length:Int)))=true,Qb Try.prog (.clos 62 [] []) [.agg [.rsl (rowS r.seats) 0 r.seats.length,.rsl (rowP r.feet) 0 r.feet.length,.int .i64 r.frame,.int .i64 r.c.x,.int .i64 r.c.y,.int .i64 r.c.z,.int .i64 r.empty,.int .i64 r.full],.int .i64 (p:Int),.int .i64 (k:Int)] (.rsl (rowB (QN r (p:Int) (k:Int))) 0 ((QN r (p:Int) (k:Int)).length)),Qb Try.prog (.clos 60 [] []) [.agg [.rsl (rowS r.seats) 0 r.seats.length,.rsl (rowP r.feet) 0 r.feet.length,.int .i64 r.frame,.int .i64 r.c.x,.int .i64 r.c.y,.int .i64 r.c.z,.int .i64 r.empty,.int .i64 r.full],.rsl (rowB (QN r (p:Int) (k:Int))) 0 ((QN r (p:Int) (k:Int)).length),.int .i64 (p:Int),.int .i64 (k:Int)] (.int .i64 (Qs r (p:Int) (k:Int) (QN r (p:Int) (k:Int)))),(decide ((Qs r (p:Int) (k:Int) (QN r (p:Int) (k:Int)))≥0))=false])
 (hg:G Try.prog E (f42K2 Try.prog) ⟨([J,.ptr 0 0 0]++jj 6 ([.int .i64 (p:Int),.int .i64 (k:Int),.int .i64 0]++Js 48)),[⟨true,0,1,true,[.rsl (rowS r.seats) 0 r.seats.length,.rsl (rowP r.feet) 0 r.feet.length,.int .i64 r.frame,.int .i64 r.c.x,.int .i64 r.c.y,.int .i64 r.c.z,.int .i64 r.empty,.int .i64 r.full],false⟩]⟩):G Try.prog E (f42K1 Try.prog) (f42S1 r k p ) :=
 Qn (n:=400) (ds:=[]) (cs:=[]) (live:=[1,8,9,10]) (m:=1) (evs:=[.b true,.v (.rsl (rowB (QN r (p:Int) (k:Int))) 0 ((QN r (p:Int) (k:Int)).length)),.v (.int .i64 (Qs r (p:Int) (k:Int) (QN r (p:Int) (k:Int)))),.b false,.stop]) (obs:=_) hE.2.1 (hE.nogh _) Qj (by kernel_rfl) ho hg
theorem p42_1_2 (r:Rg) (k:Nat) (p:Nat) {E:Env} {rv:AV} (hE:Qh Try.prog 42 rv E) (ho:AllP [(decide ((k:Int)<(r.feet.length:Int)))=false,InR .i64 ((p:Int)+1)])
 (hg:G Try.prog E (f42K0 Try.prog) ⟨([J,.ptr 0 0 0]++jj 6 ([.int .i64 ((p:Int)+1)]++Js 50)),[⟨true,0,1,true,[.rsl (rowS r.seats) 0 r.seats.length,.rsl (rowP r.feet) 0 r.feet.length,.int .i64 r.frame,.int .i64 r.c.x,.int .i64 r.c.y,.int .i64 r.c.z,.int .i64 r.empty,.int .i64 r.full],false⟩]⟩):G Try.prog E (f42K1 Try.prog) (f42S1 r k p ) :=
 Qn (n:=400) (ds:=[]) (cs:=[]) (live:=[1,8]) (m:=1) (evs:=[.b false,.stop]) (obs:=_) hE.2.1 (hE.nogh _) Qj (by kernel_rfl) ho hg
theorem f42W1 (r:Rg) (k:Nat) (p:Nat) {E:Env} {rv:((List Bool) × Int × Int × Bool × Int)} (hE:Qh Try.prog 42 (.tup [.rsl (rowB rv.1) 0 rv.1.length,.int .i64 rv.2.1,.int .i64 rv.2.2.1,.bool rv.2.2.2.1,.int .i64 rv.2.2.2.2]) E)
 (h:(((k:Int)<(r.feet.length:Int)→((Xq r (p:Int) (k:Int))∧((Xq r (p:Int) (k:Int)∧(QN r (p:Int) (k:Int)).length=r.seats.length)∧(((Qs r (p:Int) (k:Int) (QN r (p:Int) (k:Int)))≥0→((I6 ((k:Int)+1))∧f42G1 E r (k+1) p))∧(¬ ((Qs r (p:Int) (k:Int) (QN r (p:Int) (k:Int)))≥0)→f42G2 E r k p 0)))))∧(¬ ((k:Int)<(r.feet.length:Int))→((I6 ((p:Int)+1))∧f42G0 E r (p+1))))):f42G1 E r k p:=by
 rcases bft (decide ((k:Int)<(r.feet.length:Int))) with hc0 | hc0
 · have h:=h.1 (odt hc0)
   obtain ⟨h1,h⟩:=h
   obtain ⟨h2,h⟩:=h
   rcases bft (decide ((Qs r (p:Int) (k:Int) (QN r (p:Int) (k:Int)))≥0)) with hc1 | hc1
   · have h:=h.1 (odt hc1)
     obtain ⟨q4_2,h⟩:=h
     exact p42_1_0 r k p hE ⟨hc0,(u62 (qX r (p:Int) (k:Int) h1)),(u60 (Wk r (QN r (p:Int) (k:Int)) (p:Int) (k:Int) h2)),hc1,q4_2,trivial⟩ h
   · have h:=h.2 (odf hc1)
     exact p42_1_1 r k p hE ⟨hc0,(u62 (qX r (p:Int) (k:Int) h1)),(u60 (Wk r (QN r (p:Int) (k:Int)) (p:Int) (k:Int) h2)),hc1,trivial⟩ h
 · have h:=h.2 (odf hc0)
   obtain ⟨q1_1,h⟩:=h
   exact p42_1_2 r k p hE ⟨hc0,q1_1,trivial⟩ h
theorem p42_2_0 (r:Rg) (k:Nat) (p:Nat) (many:Nat) {E:Env} {res:AV} (hE:Qh Try.prog 42 res E) (ho:AllP [(decide ((many:Int)≤(r.seats.length:Int)))=true,Qb Try.prog (.clos 75 [] []) [.agg [.rsl (rowS r.seats) 0 r.seats.length,.rsl (rowP r.feet) 0 r.feet.length,.int .i64 r.frame,.int .i64 r.c.x,.int .i64 r.c.y,.int .i64 r.c.z,.int .i64 r.empty,.int .i64 r.full],.nilSl,.int .i64 (many:Int),.int .i64 (p:Int),.int .i64 (k:Int)] (.tup [.rsl (rowB ((refR r ([]:List Bool) (many:Int) (p:Int) (k:Int)).1)) 0 (((refR r ([]:List Bool) (many:Int) (p:Int) (k:Int)).1).length),.bool ((refR r ([]:List Bool) (many:Int) (p:Int) (k:Int)).2)]),((refR r ([]:List Bool) (many:Int) (p:Int) (k:Int)).2)=true])
 (hr:AvLe (.tup [.rsl (rowB ((refR r ([]:List Bool) (many:Int) (p:Int) (k:Int)).1)) 0 (((refR r ([]:List Bool) (many:Int) (p:Int) (k:Int)).1).length),.int .i64 (p:Int),.int .i64 (k:Int),.bool true,.int .i64 0]) res):G Try.prog E (f42K2 Try.prog) (f42S2 r k p many ) :=
 Qg (n:=400) (evs:=[.b true,.v (.tup [.rsl (rowB ((refR r ([]:List Bool) (many:Int) (p:Int) (k:Int)).1)) 0 (((refR r ([]:List Bool) (many:Int) (p:Int) (k:Int)).1).length),.bool ((refR r ([]:List Bool) (many:Int) (p:Int) (k:Int)).2)]),.b true]) (obs:=_) hE Try.func42 Qj (by kernel_rfl) ho hr
theorem p42_2_1 (r:Rg) (k:Nat) (p:Nat) (many:Nat) {E:Env} {rv:AV} (hE:Qh Try.prog 42 rv E) (ho:AllP [(decide ((many:Int)≤(r.seats.length:Int)))=true,Qb Try.prog (.clos 75 [] []) [.agg [.rsl (rowS r.seats) 0 r.seats.length,.rsl (rowP r.feet) 0 r.feet.length,.int .i64 r.frame,.int .i64 r.c.x,.int .i64 r.c.y,.int .i64 r.c.z,.int .i64 r.empty,.int .i64 r.full],.nilSl,.int .i64 (many:Int),.int .i64 (p:Int),.int .i64 (k:Int)] (.tup [.rsl (rowB ((refR r ([]:List Bool) (many:Int) (p:Int) (k:Int)).1)) 0 (((refR r ([]:List Bool) (many:Int) (p:Int) (k:Int)).1).length),.bool ((refR r ([]:List Bool) (many:Int) (p:Int) (k:Int)).2)]),((refR r ([]:List Bool) (many:Int) (p:Int) (k:Int)).2)=false,InR .i64 ((many:Int)+1)])
 (hg:G Try.prog E (f42K2 Try.prog) ⟨([J,.ptr 0 0 0]++jj 6 ([.int .i64 (p:Int),.int .i64 (k:Int),.int .i64 ((many:Int)+1)]++Js 48)),[⟨true,0,1,true,[.rsl (rowS r.seats) 0 r.seats.length,.rsl (rowP r.feet) 0 r.feet.length,.int .i64 r.frame,.int .i64 r.c.x,.int .i64 r.c.y,.int .i64 r.c.z,.int .i64 r.empty,.int .i64 r.full],false⟩]⟩):G Try.prog E (f42K2 Try.prog) (f42S2 r k p many ) :=
 Qn (n:=400) (ds:=[]) (cs:=[]) (live:=[1,8,9,10]) (m:=1) (evs:=[.b true,.v (.tup [.rsl (rowB ((refR r ([]:List Bool) (many:Int) (p:Int) (k:Int)).1)) 0 (((refR r ([]:List Bool) (many:Int) (p:Int) (k:Int)).1).length),.bool ((refR r ([]:List Bool) (many:Int) (p:Int) (k:Int)).2)]),.b false,.stop]) (obs:=_) hE.2.1 (hE.nogh _) Qj (by kernel_rfl) ho hg
theorem p42_2_2 (r:Rg) (k:Nat) (p:Nat) (many:Nat) {E:Env} {rv:AV} (hE:Qh Try.prog 42 rv E) (ho:AllP [(decide ((many:Int)≤(r.seats.length:Int)))=false,InR .i64 ((k:Int)+1)])
 (hg:G Try.prog E (f42K1 Try.prog) ⟨([J,.ptr 0 0 0]++jj 6 ([.int .i64 (p:Int),.int .i64 ((k:Int)+1)]++Js 49)),[⟨true,0,1,true,[.rsl (rowS r.seats) 0 r.seats.length,.rsl (rowP r.feet) 0 r.feet.length,.int .i64 r.frame,.int .i64 r.c.x,.int .i64 r.c.y,.int .i64 r.c.z,.int .i64 r.empty,.int .i64 r.full],false⟩]⟩):G Try.prog E (f42K2 Try.prog) (f42S2 r k p many ) :=
 Qn (n:=400) (ds:=[]) (cs:=[]) (live:=[1,8,9]) (m:=1) (evs:=[.b false,.stop]) (obs:=_) hE.2.1 (hE.nogh _) Qj (by kernel_rfl) ho hg
theorem f42W2 (r:Rg) (k:Nat) (p:Nat) (many:Nat) {E:Env} {rv:((List Bool) × Int × Int × Bool × Int)} (hE:Qh Try.prog 42 (.tup [.rsl (rowB rv.1) 0 rv.1.length,.int .i64 rv.2.1,.int .i64 rv.2.2.1,.bool rv.2.2.2.1,.int .i64 rv.2.2.2.2]) E)
 (h:(((many:Int)≤(r.seats.length:Int)→((RecF r ([]:List Bool) (many:Int) (p:Int) (k:Int))∧((((refR r ([]:List Bool) (many:Int) (p:Int) (k:Int)).2)=true→rv=(((refR r ([]:List Bool) (many:Int) (p:Int) (k:Int)).1),(p:Int),(k:Int),true,0))∧(((refR r ([]:List Bool) (many:Int) (p:Int) (k:Int)).2)=false→((I6 ((many:Int)+1))∧f42G2 E r k p (many+1))))))∧(¬ ((many:Int)≤(r.seats.length:Int))→((I6 ((k:Int)+1))∧f42G1 E r (k+1) p)))):f42G2 E r k p many:=by
 rcases bft (decide ((many:Int)≤(r.seats.length:Int))) with hc0 | hc0
 · have h:=h.1 (odt hc0)
   obtain ⟨h1,h⟩:=h
   rcases bft ((refR r ([]:List Bool) (many:Int) (p:Int) (k:Int)).2) with hc1 | hc1
   · have h:=h.1 hc1
     exact p42_2_0 r k p many hE ⟨hc0,(Qb.le (args:=[.agg [.rsl (rowS r.seats) 0 r.seats.length,.rsl (rowP r.feet) 0 r.feet.length,.int .i64 r.frame,.int .i64 r.c.x,.int .i64 r.c.y,.int .i64 r.c.z,.int .i64 r.empty,.int .i64 r.full],.rsl (rowB ([]:List Bool)) 0 (([]:List Bool).length),.int .i64 (many:Int),.int .i64 (p:Int),.int .i64 (k:Int)]) (u75 h1) ⟨AvLe.of_eq rfl,⟨VP,⟨AvLe.of_eq rfl,⟨AvLe.of_eq rfl,⟨AvLe.of_eq rfl,trivial⟩⟩⟩⟩⟩),hc1,trivial⟩ (AvLe.of_eq (by rw [h]; try rfl))
   · have h:=h.2 hc1
     obtain ⟨q3_2,h⟩:=h
     exact p42_2_1 r k p many hE ⟨hc0,(Qb.le (args:=[.agg [.rsl (rowS r.seats) 0 r.seats.length,.rsl (rowP r.feet) 0 r.feet.length,.int .i64 r.frame,.int .i64 r.c.x,.int .i64 r.c.y,.int .i64 r.c.z,.int .i64 r.empty,.int .i64 r.full],.rsl (rowB ([]:List Bool)) 0 (([]:List Bool).length),.int .i64 (many:Int),.int .i64 (p:Int),.int .i64 (k:Int)]) (u75 h1) ⟨AvLe.of_eq rfl,⟨VP,⟨AvLe.of_eq rfl,⟨AvLe.of_eq rfl,⟨AvLe.of_eq rfl,trivial⟩⟩⟩⟩⟩),hc1,q3_2,trivial⟩ h
 · have h:=h.2 (odf hc0)
   obtain ⟨q1_1,h⟩:=h
   exact p42_2_2 r k p many hE ⟨hc0,q1_1,trivial⟩ h
theorem f43b:Try.f43.body=some (Qd Try.prog 43):=by kernel_rfl
theorem u43 {a c k:List AV} {r:AV} (h:Pure Try.prog 43 (a++c++k) r):Qb Try.prog (.clos 43 a k) c r:=Qo Try.func43 (by kernel_rfl) f43b h
def f43K0 (P:Program):List Item:=kAt 400 [.code (Qd P 43)] [.b false,.stop]
def f43S0 (a:(List Bool)) (b:(List Bool)) (i:Nat):St:=⟨([.rsl (rowB a) 0 a.length,.rsl (rowB b) 0 b.length,J,J,J,.int .i64 (i:Int)]++Js 20),[]⟩
def f43G0 (E:Env) (a:(List Bool)) (b:(List Bool)) (i:Nat):Prop:=G Try.prog E (f43K0 Try.prog) (f43S0 a b i )
theorem p43_start_0 (a:(List Bool)) (b:(List Bool)) {E:Env} {res:AV} (hE:Qh Try.prog 43 res E) (ho:AllP [((a.length:Int) != (b.length:Int))=true])
 (hr:AvLe (.bool false) res):G Try.prog E [.code (Qd Try.prog 43)] ⟨[.rsl (rowB a) 0 a.length,.rsl (rowB b) 0 b.length]++unds (Try.f43.ntmps - 2),[]⟩ :=
 Qg (n:=400) (evs:=[.b true]) (obs:=_) hE Try.func43 Qj (by kernel_rfl) ho hr
theorem p43_start_1 (a:(List Bool)) (b:(List Bool)) {E:Env} {rv:AV} (hE:Qh Try.prog 43 rv E) (ho:AllP [((a.length:Int) != (b.length:Int))=false])
 (hg:G Try.prog E (f43K0 Try.prog) ⟨([.rsl (rowB a) 0 a.length,.rsl (rowB b) 0 b.length,J,J,J,.int .i64 0]++Js 20),[]⟩):G Try.prog E [.code (Qd Try.prog 43)] ⟨[.rsl (rowB a) 0 a.length,.rsl (rowB b) 0 b.length]++unds (Try.f43.ntmps - 2),[]⟩ :=
 Qn (n:=400) (ds:=[]) (cs:=[]) (live:=[0,1,5]) (m:=0) (evs:=[.b false,.stop]) (obs:=_) hE.2.1 (hE.nogh _) Qj (by kernel_rfl) ho hg
theorem f43W (a:(List Bool)) (b:(List Bool)) {E:Env} {rv:Bool} (hE:Qh Try.prog 43 (.bool rv) E)
 (h:((¬ ((a.length:Int)=(b.length:Int))→rv=false)∧((a.length:Int)=(b.length:Int)→f43G0 E a b 0))):G Try.prog E [.code (Qd Try.prog 43)] ⟨[.rsl (rowB a) 0 a.length,.rsl (rowB b) 0 b.length]++unds (Try.f43.ntmps - 2),[]⟩:=by
 rcases bft ((a.length:Int) != (b.length:Int)) with hc0 | hc0
 · have h:=h.1 (bneT hc0)
   exact p43_start_0 a b hE ⟨hc0,trivial⟩ (AvLe.of_eq (by rw [h]; try rfl))
 · have h:=h.2 (bneF hc0)
   exact p43_start_1 a b hE ⟨hc0,trivial⟩ h
theorem p43_0_0 (a:(List Bool)) (b:(List Bool)) (i:Nat) (eb:Bool) (eb1:Bool) {E:Env} {res:AV} (hE:Qh Try.prog 43 res E) (ho:AllP [(decide ((i:Int)<(a.length:Int)))=true,0≤(i:Int)∧(i:Int)<(a.length:Int),((rowB a).drop (0+(Int.toNat (i:Int))*1)).take 1=[.bool eb],0≤(i:Int)∧(i:Int)<(b.length:Int),((rowB b).drop (0+(Int.toNat (i:Int))*1)).take 1=[.bool eb1],(!(eb == eb1))=true])
 (hr:AvLe (.bool false) res):G Try.prog E (f43K0 Try.prog) (f43S0 a b i ) :=
 Qg (n:=400) (evs:=[.b true,.ld (.bool eb),.ld (.bool eb1),.b true]) (obs:=_) hE Try.func43 Qj (by kernel_rfl) ho hr
theorem p43_0_1 (a:(List Bool)) (b:(List Bool)) (i:Nat) (eb:Bool) (eb1:Bool) {E:Env} {rv:AV} (hE:Qh Try.prog 43 rv E) (ho:AllP [(decide ((i:Int)<(a.length:Int)))=true,0≤(i:Int)∧(i:Int)<(a.length:Int),((rowB a).drop (0+(Int.toNat (i:Int))*1)).take 1=[.bool eb],0≤(i:Int)∧(i:Int)<(b.length:Int),((rowB b).drop (0+(Int.toNat (i:Int))*1)).take 1=[.bool eb1],(!(eb == eb1))=false,InR .i64 ((i:Int)+1)])
 (hg:G Try.prog E (f43K0 Try.prog) ⟨([.rsl (rowB a) 0 a.length,.rsl (rowB b) 0 b.length,J,J,J,.int .i64 ((i:Int)+1)]++Js 20),[]⟩):G Try.prog E (f43K0 Try.prog) (f43S0 a b i ) :=
 Qn (n:=400) (ds:=[]) (cs:=[]) (live:=[0,1,5]) (m:=0) (evs:=[.b true,.ld (.bool eb),.ld (.bool eb1),.b false,.stop]) (obs:=_) hE.2.1 (hE.nogh _) Qj (by kernel_rfl) ho hg
theorem p43_0_2 (a:(List Bool)) (b:(List Bool)) (i:Nat) {E:Env} {res:AV} (hE:Qh Try.prog 43 res E) (ho:AllP [(decide ((i:Int)<(a.length:Int)))=false])
 (hr:AvLe (.bool true) res):G Try.prog E (f43K0 Try.prog) (f43S0 a b i ) :=
 Qg (n:=400) (evs:=[.b false]) (obs:=_) hE Try.func43 Qj (by kernel_rfl) ho hr
theorem f43W0 (a:(List Bool)) (b:(List Bool)) (i:Nat) {E:Env} {rv:Bool} (hE:Qh Try.prog 43 (.bool rv) E)
 (h:(((i:Int)<(a.length:Int)→(∃ eb:Bool,a[i]?=some eb∧(∃ eb1:Bool,b[i]?=some eb1∧((¬ (eb=eb1)→rv=false)∧(eb=eb1→((I6 ((i:Int)+1))∧f43G0 E a b (i+1)))))))∧(¬ ((i:Int)<(a.length:Int))→rv=true))):f43G0 E a b i:=by
 rcases bft (decide ((i:Int)<(a.length:Int))) with hc0 | hc0
 · have h:=h.1 (odt hc0)
   obtain ⟨eb,h1,h⟩:=h
   obtain ⟨eb1,h2,h⟩:=h
   rcases bft (!(eb == eb1)) with hc1 | hc1
   · have h:=h.1 (ne_of_beq_false (bnT hc1))
     exact p43_0_0 a b i eb eb1 hE ⟨hc0,(QJ h1),(rp cB 1 0 1 h1),(QJ h2),(rp cB 1 0 1 h2),hc1,trivial⟩ (AvLe.of_eq (by rw [h]; try rfl))
   · have h:=h.2 (eq_of_beq (bnF hc1))
     obtain ⟨q8_2,h⟩:=h
     exact p43_0_1 a b i eb eb1 hE ⟨hc0,(QJ h1),(rp cB 1 0 1 h1),(QJ h2),(rp cB 1 0 1 h2),hc1,q8_2,trivial⟩ h
 · have h:=h.2 (odf hc0)
   exact p43_0_2 a b i hE ⟨hc0,trivial⟩ (AvLe.of_eq (by rw [h]; try rfl))
theorem QH (a b:List Bool) (h:a=b∧a.length≤1000000):Pure Try.prog 43 [.rsl (rowB a) 0 a.length,.rsl (rowB b) 0 b.length] (.bool true):=Qw Try.func43 f43b fun E hE=>by
 obtain ⟨rfl,hl⟩:=h
 have key:∀ (d i:Nat),i+d=a.length→f43G0 E a a i:=by
  intro d
  induction d with
  | zero=>intro i hi; exact f43W0 a a i (rv:=true) hE ⟨fun h=>by omega,fun _=>rfl⟩
  | succ d ih =>
   intro i hi
   have hx:a[i]?=some (a[i]'(by omega)):=List.getElem?_eq_getElem (by omega)
   exact f43W0 a a i (rv:=true) hE ⟨fun _=>⟨_,hx,_,hx,fun h=>absurd rfl h,fun _=>⟨by omega,ih (i+1) (by omega)⟩⟩,fun h=>by omega⟩
 exact f43W a a (rv:=true) hE ⟨fun h=>absurd rfl h,fun _=>key a.length 0 (by omega)⟩
def tipsQ (r:Rg) (o:Option (Nat × Nat)):(List Bool) × Int × Int × Bool × Int:=match o with
 | some x=>(QS r (x.1:Int) (x.2:Int),(x.1:Int),(x.2:Int),true,0)
 | none=>([],0,0,false,0)
theorem tipsR_many {E:Env} {r:Rg} {rv:(List Bool) × Int × Int × Bool × Int} (hE:Qh Try.prog 42 (.tup [.rsl (rowB rv.1) 0 rv.1.length,.int .i64 rv.2.1,.int .i64 rv.2.2.1,.bool rv.2.2.2.1,.int .i64 rv.2.2.2.2]) E) (hm:RigMade r) {p k:Nat} (hp:p<phN r) (hk:k<r.feet.length) (hneg:QK r (p,k)<0) (hr:rv=tipsQ r (some (p,k))) :
 ∀ (d many:Nat),many+d=WI r p k→f42G2 E r k p many:=by
 have hmo:Xq r p k:=⟨hm,by omega,by omega,by omega,by omega⟩
 have hb:Xq r p k∧Yd r p k<0:=⟨hmo,hneg⟩
 obtain ⟨-,l2⟩:=VQ hb
 have h20:=hm.ok.seats
 have hple:=pos_le r p k
 intro d
 induction d with
 | zero =>
  intro many hd
  have e:many=WI r p k:=by omega
  subst e
  refine f42W2 r k p _ hE ⟨fun _=>⟨few_ok hmo r.seats.length [] _ (by simp) (by omega) (by omega),?_⟩,fun h=>by omega⟩
  rw [refR_hit hb]
  exact ⟨fun _=>hr,fun h=>absurd h (by simp)⟩
 | succ d ih =>
  intro many hd
  refine f42W2 r k p many hE ⟨fun _=>⟨few_ok hmo r.seats.length [] _ (by simp) (by omega) (by omega),fun h=>?_,fun _=>⟨by omega,ih (many+1) (by omega)⟩⟩,fun h=>by omega⟩
  rw [refR_low hb (by omega)] at h
  cases h
theorem tipsR_k {E:Env} {r:Rg} {rv:(List Bool) × Int × Int × Bool × Int} (hE:Qh Try.prog 42 (.tup [.rsl (rowB rv.1) 0 rv.1.length,.int .i64 rv.2.1,.int .i64 rv.2.2.1,.bool rv.2.2.2.1,.int .i64 rv.2.2.2.2]) E) (hm:RigMade r) {p:Nat} (hp:p<phN r) {R:List (Nat × Nat)}
 (hg:rv=tipsQ r (R.find? fun x=>decide (QK r x<0))→f42G0 E r (p+1)) :
 ∀ (d k:Nat),k+d=r.feet.length→rv=tipsQ r ((wlV r.feet.length p k d++R).find? fun x=>decide (QK r x<0))→f42G1 E r k p
 | 0,k,hd,hr=>by
  have h60:=hm.le
  refine f42W1 r k p hE ⟨fun h=>by omega,fun _=>⟨by omega,hg hr⟩⟩
 | d+1,k,hd,hr=>by
  have h8:=hm.ok.feet1
  have hcons:wlV r.feet.length p k (d+1)=(p,k) :: wlV r.feet.length p (k+1) d:=by simp [wlV,List.range'_succ]
  rw [hcons,List.cons_append,List.find?_cons] at hr
  have hmo:Xq r p k:=⟨hm,by omega,by omega,by omega,by omega⟩
  have hlen:(QN r p k).length=r.seats.length:=by simp [QN]
  have hv:Qs r p k (QN r p k)=QK r (p,k):=yZ r p k
  refine f42W1 r k p hE ⟨fun _=>⟨hmo,⟨hmo,hlen⟩,?_⟩,fun h=>by omega⟩
  rw [hv]
  refine ⟨fun hc=>⟨by omega,?_⟩,fun hc=>?_⟩
  · have hd0:decide (QK r (p,k)<0)=false:=decide_eq_false (by omega)
    rw [hd0] at hr
    exact tipsR_k hE hm hp hg d (k+1) (by omega) hr
  · have hd1:decide (QK r (p,k)<0)=true:=decide_eq_true (by omega)
    rw [hd1] at hr
    exact tipsR_many hE hm hp (by omega) (by omega) hr (WI r p k) 0 (by omega)
theorem tipsR_p {E:Env} {r:Rg} {rv:(List Bool) × Int × Int × Bool × Int} (hE:Qh Try.prog 42 (.tup [.rsl (rowB rv.1) 0 rv.1.length,.int .i64 rv.2.1,.int .i64 rv.2.2.1,.bool rv.2.2.2.1,.int .i64 rv.2.2.2.2]) E) (hm:RigMade r) :
 ∀ (d p:Nat),p+d=phN r→rv=tipsQ r ((wlP r.feet.length p d).find? fun x=>decide (QK r x<0))→f42G0 E r p
 | 0,p,hd,hr=>by
  have he:=yh hm
  have he2:=hm.ph
  exact f42W0 r p hE ⟨fun h=>by omega,fun _=>hr⟩
 | d+1,p,hd,hr=>by
  have he:=yh hm
  have he2:=hm.ph
  have hcons:wlP r.feet.length p (d+1)=wlV r.feet.length p 0 r.feet.length++wlP r.feet.length (p+1) d:=by simp [wlP,List.range'_succ,List.flatMap_cons]
  rw [hcons] at hr
  exact f42W0 r p hE ⟨fun _=>tipsR_k hE hm (by omega) (R:=wlP r.feet.length (p+1) d) (fun hr2=>tipsR_p hE hm d (p+1) (by omega) hr2) r.feet.length 0 (by omega) hr,fun h=>by omega⟩
theorem TipsR_ok (r:Rg) (hs:RigSmall r):Pure Try.prog 42 [.agg [.rsl (rowS r.seats) 0 r.seats.length,.rsl (rowP r.feet) 0 r.feet.length,.int .i64 r.frame,.int .i64 r.c.x,.int .i64 r.c.y,.int .i64 r.c.z,.int .i64 r.empty,.int .i64 r.full]] (.tup [.rsl (rowB (XU r).1) 0 (XU r).1.length,.int .i64 (XU r).2.1,.int .i64 (XU r).2.2.1,.bool (XU r).2.2.2.1,.int .i64 (XU r).2.2.2.2]):=Qw Try.func42 f42b fun E hE=>by
 refine f42W r (rv:=XU r) hE ⟨hs,fun h=>?_,fun h=>?_⟩
 · have h':¬ Xw r=true:=fun h'=>h (by simp [Qf,h'])
   rw [XU,if_neg h']; simp [Qf,h']
 have h:=check_made h
 have hm:=Yh h
 refine tipsR_p hE hm (phN r) 0 (by omega) ?_
 rw [XU,if_pos h]; rfl
theorem QQ (r:Rg) (hs:RigSmall r) (hf:XD r=true):Pure Try.prog 42 [.agg [.rsl (rowS r.seats) 0 r.seats.length,.rsl (rowP r.feet) 0 r.feet.length,.int .i64 r.frame,.int .i64 r.c.x,.int .i64 r.c.y,.int .i64 r.c.z,.int .i64 r.empty,.int .i64 r.full]] (.tup [.rsl (rowB (Qk r)) 0 (Qk r).length,.int .i64 (((Ql r).1:Nat):Int),.int .i64 (((Ql r).2:Nat):Int),.bool true,.int .i64 0]):=by
 have h:=TipsR_ok r hs
 obtain ⟨h1,h2⟩:=qY hf
 have e:XU r=(Qk r,(((Ql r).1:Nat):Int),(((Ql r).2:Nat):Int),true,0):=by
  rw [XU,if_pos h1,h2]; rfl
 rw [e] at h; exact h
theorem QZ (r:Rg) (hs:RigSmall r) (hf:XD r=false):Pure Try.prog 42 [.agg [.rsl (rowS r.seats) 0 r.seats.length,.rsl (rowP r.feet) 0 r.feet.length,.int .i64 r.frame,.int .i64 r.c.x,.int .i64 r.c.y,.int .i64 r.c.z,.int .i64 r.empty,.int .i64 r.full]] (.tup [.rsl [] 0 0,.int .i64 0,.int .i64 0,.bool false,.int .i64 (Qf r)]):=by
 have h:=TipsR_ok r hs
 have e:XU r=([],0,0,false,Qf r):=by
  rw [XU]
  cases hr:Xw r with
  | false=>simp [Qf,hr]
  | true =>
   rw [if_pos rfl]
   cases hx:VZ r with
   | some x=>simp [XD,hr,hx] at hf
   | none=>simp [Qf,hr]
 rw [e] at h; exact h
theorem f13b:Try.f13.body=some (Qd Try.prog 13):=by kernel_rfl
theorem p13_start_0 (r:Rg) {E:Env} {res:AV} (hE:Qh Try.prog 13 res E) (ho:AllP [Qb Try.prog (.clos 22 [] []) [.agg [.rsl (rowS r.seats) 0 r.seats.length,.rsl (rowP r.feet) 0 r.feet.length,.int .i64 r.frame,.int .i64 r.c.x,.int .i64 r.c.y,.int .i64 r.c.z,.int .i64 r.empty,.int .i64 r.full]] (.bool (farB r)),(farB r)=true,true=true,Qb Try.prog (.clos 15 [] []) [] (.bool true)])
 (hr:AvLe (.bool true) res):G Try.prog E [.code (Qd Try.prog 13)] ⟨[.agg [.rsl (rowS r.seats) 0 r.seats.length,.rsl (rowP r.feet) 0 r.feet.length,.int .i64 r.frame,.int .i64 r.c.x,.int .i64 r.c.y,.int .i64 r.c.z,.int .i64 r.empty,.int .i64 r.full]]++unds (Try.f13.ntmps - 1),[]⟩ :=
 Qg (n:=400) (evs:=[.v (.bool (farB r)),.b true,.b true,.v (.bool true)]) (obs:=_) hE Try.func13 Qj (by kernel_rfl) ho hr
theorem p13_start_1 (r:Rg) {E:Env} {res:AV} (hE:Qh Try.prog 13 res E) (ho:AllP [Qb Try.prog (.clos 22 [] []) [.agg [.rsl (rowS r.seats) 0 r.seats.length,.rsl (rowP r.feet) 0 r.feet.length,.int .i64 r.frame,.int .i64 r.c.x,.int .i64 r.c.y,.int .i64 r.c.z,.int .i64 r.empty,.int .i64 r.full]] (.bool (farB r)),(farB r)=false,(decide ((r.seats.length:Int) > 10))=true,(decide ((r.seats.length:Int)≤20))=true,Qb Try.prog (.clos 15 [] []) [] (.bool true)])
 (hr:AvLe (.bool true) res):G Try.prog E [.code (Qd Try.prog 13)] ⟨[.agg [.rsl (rowS r.seats) 0 r.seats.length,.rsl (rowP r.feet) 0 r.feet.length,.int .i64 r.frame,.int .i64 r.c.x,.int .i64 r.c.y,.int .i64 r.c.z,.int .i64 r.empty,.int .i64 r.full]]++unds (Try.f13.ntmps - 1),[]⟩ :=
 Qg (n:=400) (evs:=[.v (.bool (farB r)),.b false,.b true,.b true,.v (.bool true)]) (obs:=_) hE Try.func13 Qj (by kernel_rfl) ho hr
theorem p13_start_2 (r:Rg) {E:Env} {res:AV} (hE:Qh Try.prog 13 res E) (ho:AllP [Qb Try.prog (.clos 22 [] []) [.agg [.rsl (rowS r.seats) 0 r.seats.length,.rsl (rowP r.feet) 0 r.feet.length,.int .i64 r.frame,.int .i64 r.c.x,.int .i64 r.c.y,.int .i64 r.c.z,.int .i64 r.empty,.int .i64 r.full]] (.bool (farB r)),(farB r)=false,(decide ((r.seats.length:Int) > 10))=true,(decide ((r.seats.length:Int)≤20))=false,Qb Try.prog (.clos 24 [] []) [.agg [.rsl (rowS r.seats) 0 r.seats.length,.rsl (rowP r.feet) 0 r.feet.length,.int .i64 r.frame,.int .i64 r.c.x,.int .i64 r.c.y,.int .i64 r.c.z,.int .i64 r.empty,.int .i64 r.full]] (.agg [.rsl (rowS r.seats) 0 r.seats.length,.rsl (rowP r.feet) 0 r.feet.length,.int .i64 r.frame,.int .i64 r.c.x,.int .i64 r.c.y,.int .i64 r.c.z,.int .i64 r.empty,.int .i64 r.full]),Qb Try.prog (.clos 41 [] []) [.agg [.rsl (rowS r.seats) 0 r.seats.length,.rsl (rowP r.feet) 0 r.feet.length,.int .i64 r.frame,.int .i64 r.c.x,.int .i64 r.c.y,.int .i64 r.c.z,.int .i64 r.empty,.int .i64 r.full]] (.tup [.rsl (rowB (Qk r)) 0 ((Qk r).length),.int .i64 (((Ql r).1:Nat):Int),.int .i64 (((Ql r).2:Nat):Int),.bool true,.int .i64 0]),Qb Try.prog (.clos 42 [] []) [.agg [.rsl (rowS r.seats) 0 r.seats.length,.rsl (rowP r.feet) 0 r.feet.length,.int .i64 r.frame,.int .i64 r.c.x,.int .i64 r.c.y,.int .i64 r.c.z,.int .i64 r.empty,.int .i64 r.full]] (.tup [.rsl (rowB (Qk r)) 0 ((Qk r).length),.int .i64 (((Ql r).1:Nat):Int),.int .i64 (((Ql r).2:Nat):Int),.bool true,.int .i64 0]),Qb Try.prog (.clos 43 [] []) [.rsl (rowB (Qk r)) 0 ((Qk r).length),.rsl (rowB (Qk r)) 0 ((Qk r).length)] (.bool true),true=true,((((Ql r).1:Nat):Int) == (((Ql r).1:Nat):Int))=true,((((Ql r).2:Nat):Int) == (((Ql r).2:Nat):Int))=true,true=true,true=true,Qb Try.prog (.clos 15 [] []) [] (.bool true)])
 (hr:AvLe (.bool true) res):G Try.prog E [.code (Qd Try.prog 13)] ⟨[.agg [.rsl (rowS r.seats) 0 r.seats.length,.rsl (rowP r.feet) 0 r.feet.length,.int .i64 r.frame,.int .i64 r.c.x,.int .i64 r.c.y,.int .i64 r.c.z,.int .i64 r.empty,.int .i64 r.full]]++unds (Try.f13.ntmps - 1),[]⟩ :=
 Qg (n:=400) (evs:=[.v (.bool (farB r)),.b false,.b true,.b false,.v (.agg [.rsl (rowS r.seats) 0 r.seats.length,.rsl (rowP r.feet) 0 r.feet.length,.int .i64 r.frame,.int .i64 r.c.x,.int .i64 r.c.y,.int .i64 r.c.z,.int .i64 r.empty,.int .i64 r.full]),.v (.tup [.rsl (rowB (Qk r)) 0 ((Qk r).length),.int .i64 (((Ql r).1:Nat):Int),.int .i64 (((Ql r).2:Nat):Int),.bool true,.int .i64 0]),.v (.tup [.rsl (rowB (Qk r)) 0 ((Qk r).length),.int .i64 (((Ql r).1:Nat):Int),.int .i64 (((Ql r).2:Nat):Int),.bool true,.int .i64 0]),.v (.bool true),.b true,.b true,.b true,.b true,.b true,.v (.bool true)]) (obs:=_) hE Try.func13 Qj (by kernel_rfl) ho hr
theorem p13_start_3 (r:Rg) {E:Env} {res:AV} (hE:Qh Try.prog 13 res E) (ho:AllP [Qb Try.prog (.clos 22 [] []) [.agg [.rsl (rowS r.seats) 0 r.seats.length,.rsl (rowP r.feet) 0 r.feet.length,.int .i64 r.frame,.int .i64 r.c.x,.int .i64 r.c.y,.int .i64 r.c.z,.int .i64 r.empty,.int .i64 r.full]] (.bool (farB r)),(farB r)=false,(decide ((r.seats.length:Int) > 10))=true,(decide ((r.seats.length:Int)≤20))=false,Qb Try.prog (.clos 24 [] []) [.agg [.rsl (rowS r.seats) 0 r.seats.length,.rsl (rowP r.feet) 0 r.feet.length,.int .i64 r.frame,.int .i64 r.c.x,.int .i64 r.c.y,.int .i64 r.c.z,.int .i64 r.empty,.int .i64 r.full]] (.agg [.rsl (rowS r.seats) 0 r.seats.length,.rsl (rowP r.feet) 0 r.feet.length,.int .i64 r.frame,.int .i64 r.c.x,.int .i64 r.c.y,.int .i64 r.c.z,.int .i64 r.empty,.int .i64 r.full]),Qb Try.prog (.clos 41 [] []) [.agg [.rsl (rowS r.seats) 0 r.seats.length,.rsl (rowP r.feet) 0 r.feet.length,.int .i64 r.frame,.int .i64 r.c.x,.int .i64 r.c.y,.int .i64 r.c.z,.int .i64 r.empty,.int .i64 r.full]] (.tup [.rsl (rowB (Qk r)) 0 ((Qk r).length),.int .i64 (((Ql r).1:Nat):Int),.int .i64 (((Ql r).2:Nat):Int),.bool true,.int .i64 0]),Qb Try.prog (.clos 42 [] []) [.agg [.rsl (rowS r.seats) 0 r.seats.length,.rsl (rowP r.feet) 0 r.feet.length,.int .i64 r.frame,.int .i64 r.c.x,.int .i64 r.c.y,.int .i64 r.c.z,.int .i64 r.empty,.int .i64 r.full]] (.tup [.rsl (rowB (Qk r)) 0 ((Qk r).length),.int .i64 (((Ql r).1:Nat):Int),.int .i64 (((Ql r).2:Nat):Int),.bool true,.int .i64 0]),Qb Try.prog (.clos 43 [] []) [.rsl (rowB (Qk r)) 0 ((Qk r).length),.rsl (rowB (Qk r)) 0 ((Qk r).length)] (.bool true),true=true,((((Ql r).1:Nat):Int) == (((Ql r).1:Nat):Int))=true,((((Ql r).2:Nat):Int) == (((Ql r).2:Nat):Int))=false,false=false,false=false])
 (hr:AvLe (.bool false) res):G Try.prog E [.code (Qd Try.prog 13)] ⟨[.agg [.rsl (rowS r.seats) 0 r.seats.length,.rsl (rowP r.feet) 0 r.feet.length,.int .i64 r.frame,.int .i64 r.c.x,.int .i64 r.c.y,.int .i64 r.c.z,.int .i64 r.empty,.int .i64 r.full]]++unds (Try.f13.ntmps - 1),[]⟩ :=
 Qg (n:=400) (evs:=[.v (.bool (farB r)),.b false,.b true,.b false,.v (.agg [.rsl (rowS r.seats) 0 r.seats.length,.rsl (rowP r.feet) 0 r.feet.length,.int .i64 r.frame,.int .i64 r.c.x,.int .i64 r.c.y,.int .i64 r.c.z,.int .i64 r.empty,.int .i64 r.full]),.v (.tup [.rsl (rowB (Qk r)) 0 ((Qk r).length),.int .i64 (((Ql r).1:Nat):Int),.int .i64 (((Ql r).2:Nat):Int),.bool true,.int .i64 0]),.v (.tup [.rsl (rowB (Qk r)) 0 ((Qk r).length),.int .i64 (((Ql r).1:Nat):Int),.int .i64 (((Ql r).2:Nat):Int),.bool true,.int .i64 0]),.v (.bool true),.b true,.b true,.b false,.b false,.b false]) (obs:=_) hE Try.func13 Qj (by kernel_rfl) ho hr
theorem p13_start_4 (r:Rg) {E:Env} {res:AV} (hE:Qh Try.prog 13 res E) (ho:AllP [Qb Try.prog (.clos 22 [] []) [.agg [.rsl (rowS r.seats) 0 r.seats.length,.rsl (rowP r.feet) 0 r.feet.length,.int .i64 r.frame,.int .i64 r.c.x,.int .i64 r.c.y,.int .i64 r.c.z,.int .i64 r.empty,.int .i64 r.full]] (.bool (farB r)),(farB r)=false,(decide ((r.seats.length:Int) > 10))=true,(decide ((r.seats.length:Int)≤20))=false,Qb Try.prog (.clos 24 [] []) [.agg [.rsl (rowS r.seats) 0 r.seats.length,.rsl (rowP r.feet) 0 r.feet.length,.int .i64 r.frame,.int .i64 r.c.x,.int .i64 r.c.y,.int .i64 r.c.z,.int .i64 r.empty,.int .i64 r.full]] (.agg [.rsl (rowS r.seats) 0 r.seats.length,.rsl (rowP r.feet) 0 r.feet.length,.int .i64 r.frame,.int .i64 r.c.x,.int .i64 r.c.y,.int .i64 r.c.z,.int .i64 r.empty,.int .i64 r.full]),Qb Try.prog (.clos 41 [] []) [.agg [.rsl (rowS r.seats) 0 r.seats.length,.rsl (rowP r.feet) 0 r.feet.length,.int .i64 r.frame,.int .i64 r.c.x,.int .i64 r.c.y,.int .i64 r.c.z,.int .i64 r.empty,.int .i64 r.full]] (.tup [.rsl (rowB (Qk r)) 0 ((Qk r).length),.int .i64 (((Ql r).1:Nat):Int),.int .i64 (((Ql r).2:Nat):Int),.bool true,.int .i64 0]),Qb Try.prog (.clos 42 [] []) [.agg [.rsl (rowS r.seats) 0 r.seats.length,.rsl (rowP r.feet) 0 r.feet.length,.int .i64 r.frame,.int .i64 r.c.x,.int .i64 r.c.y,.int .i64 r.c.z,.int .i64 r.empty,.int .i64 r.full]] (.tup [.rsl (rowB (Qk r)) 0 ((Qk r).length),.int .i64 (((Ql r).1:Nat):Int),.int .i64 (((Ql r).2:Nat):Int),.bool true,.int .i64 0]),Qb Try.prog (.clos 43 [] []) [.rsl (rowB (Qk r)) 0 ((Qk r).length),.rsl (rowB (Qk r)) 0 ((Qk r).length)] (.bool true),true=true,((((Ql r).1:Nat):Int) == (((Ql r).1:Nat):Int))=false,false=false,false=false,false=false])
 (hr:AvLe (.bool false) res):G Try.prog E [.code (Qd Try.prog 13)] ⟨[.agg [.rsl (rowS r.seats) 0 r.seats.length,.rsl (rowP r.feet) 0 r.feet.length,.int .i64 r.frame,.int .i64 r.c.x,.int .i64 r.c.y,.int .i64 r.c.z,.int .i64 r.empty,.int .i64 r.full]]++unds (Try.f13.ntmps - 1),[]⟩ :=
 Qg (n:=400) (evs:=[.v (.bool (farB r)),.b false,.b true,.b false,.v (.agg [.rsl (rowS r.seats) 0 r.seats.length,.rsl (rowP r.feet) 0 r.feet.length,.int .i64 r.frame,.int .i64 r.c.x,.int .i64 r.c.y,.int .i64 r.c.z,.int .i64 r.empty,.int .i64 r.full]),.v (.tup [.rsl (rowB (Qk r)) 0 ((Qk r).length),.int .i64 (((Ql r).1:Nat):Int),.int .i64 (((Ql r).2:Nat):Int),.bool true,.int .i64 0]),.v (.tup [.rsl (rowB (Qk r)) 0 ((Qk r).length),.int .i64 (((Ql r).1:Nat):Int),.int .i64 (((Ql r).2:Nat):Int),.bool true,.int .i64 0]),.v (.bool true),.b true,.b false,.b false,.b false,.b false]) (obs:=_) hE Try.func13 Qj (by kernel_rfl) ho hr
theorem p13_start_5 (r:Rg) {E:Env} {res:AV} (hE:Qh Try.prog 13 res E) (ho:AllP [Qb Try.prog (.clos 22 [] []) [.agg [.rsl (rowS r.seats) 0 r.seats.length,.rsl (rowP r.feet) 0 r.feet.length,.int .i64 r.frame,.int .i64 r.c.x,.int .i64 r.c.y,.int .i64 r.c.z,.int .i64 r.empty,.int .i64 r.full]] (.bool (farB r)),(farB r)=false,(decide ((r.seats.length:Int) > 10))=true,(decide ((r.seats.length:Int)≤20))=false,Qb Try.prog (.clos 24 [] []) [.agg [.rsl (rowS r.seats) 0 r.seats.length,.rsl (rowP r.feet) 0 r.feet.length,.int .i64 r.frame,.int .i64 r.c.x,.int .i64 r.c.y,.int .i64 r.c.z,.int .i64 r.empty,.int .i64 r.full]] (.agg [.rsl (rowS r.seats) 0 r.seats.length,.rsl (rowP r.feet) 0 r.feet.length,.int .i64 r.frame,.int .i64 r.c.x,.int .i64 r.c.y,.int .i64 r.c.z,.int .i64 r.empty,.int .i64 r.full]),Qb Try.prog (.clos 41 [] []) [.agg [.rsl (rowS r.seats) 0 r.seats.length,.rsl (rowP r.feet) 0 r.feet.length,.int .i64 r.frame,.int .i64 r.c.x,.int .i64 r.c.y,.int .i64 r.c.z,.int .i64 r.empty,.int .i64 r.full]] (.tup [.rsl (rowB (Qk r)) 0 ((Qk r).length),.int .i64 (((Ql r).1:Nat):Int),.int .i64 (((Ql r).2:Nat):Int),.bool true,.int .i64 0]),Qb Try.prog (.clos 42 [] []) [.agg [.rsl (rowS r.seats) 0 r.seats.length,.rsl (rowP r.feet) 0 r.feet.length,.int .i64 r.frame,.int .i64 r.c.x,.int .i64 r.c.y,.int .i64 r.c.z,.int .i64 r.empty,.int .i64 r.full]] (.tup [.rsl (rowB (Qk r)) 0 ((Qk r).length),.int .i64 (((Ql r).1:Nat):Int),.int .i64 (((Ql r).2:Nat):Int),.bool true,.int .i64 0]),Qb Try.prog (.clos 43 [] []) [.rsl (rowB (Qk r)) 0 ((Qk r).length),.rsl (rowB (Qk r)) 0 ((Qk r).length)] (.bool true),true=false,false=false,false=false,false=false,false=false])
 (hr:AvLe (.bool false) res):G Try.prog E [.code (Qd Try.prog 13)] ⟨[.agg [.rsl (rowS r.seats) 0 r.seats.length,.rsl (rowP r.feet) 0 r.feet.length,.int .i64 r.frame,.int .i64 r.c.x,.int .i64 r.c.y,.int .i64 r.c.z,.int .i64 r.empty,.int .i64 r.full]]++unds (Try.f13.ntmps - 1),[]⟩ :=
 Qg (n:=400) (evs:=[.v (.bool (farB r)),.b false,.b true,.b false,.v (.agg [.rsl (rowS r.seats) 0 r.seats.length,.rsl (rowP r.feet) 0 r.feet.length,.int .i64 r.frame,.int .i64 r.c.x,.int .i64 r.c.y,.int .i64 r.c.z,.int .i64 r.empty,.int .i64 r.full]),.v (.tup [.rsl (rowB (Qk r)) 0 ((Qk r).length),.int .i64 (((Ql r).1:Nat):Int),.int .i64 (((Ql r).2:Nat):Int),.bool true,.int .i64 0]),.v (.tup [.rsl (rowB (Qk r)) 0 ((Qk r).length),.int .i64 (((Ql r).1:Nat):Int),.int .i64 (((Ql r).2:Nat):Int),.bool true,.int .i64 0]),.v (.bool true),.b false,.b false,.b false,.b false,.b false]) (obs:=_) hE Try.func13 Qj (by kernel_rfl) ho hr
theorem p13_start_6 (r:Rg) {E:Env} {res:AV} (hE:Qh Try.prog 13 res E) (ho:AllP [Qb Try.prog (.clos 22 [] []) [.agg [.rsl (rowS r.seats) 0 r.seats.length,.rsl (rowP r.feet) 0 r.feet.length,.int .i64 r.frame,.int .i64 r.c.x,.int .i64 r.c.y,.int .i64 r.c.z,.int .i64 r.empty,.int .i64 r.full]] (.bool (farB r)),(farB r)=false,(decide ((r.seats.length:Int) > 10))=true,(decide ((r.seats.length:Int)≤20))=false,Qb Try.prog (.clos 24 [] []) [.agg [.rsl (rowS r.seats) 0 r.seats.length,.rsl (rowP r.feet) 0 r.feet.length,.int .i64 r.frame,.int .i64 r.c.x,.int .i64 r.c.y,.int .i64 r.c.z,.int .i64 r.empty,.int .i64 r.full]] (.agg [.rsl (rowS r.seats) 0 r.seats.length,.rsl (rowP r.feet) 0 r.feet.length,.int .i64 r.frame,.int .i64 r.c.x,.int .i64 r.c.y,.int .i64 r.c.z,.int .i64 r.empty,.int .i64 r.full]),Qb Try.prog (.clos 41 [] []) [.agg [.rsl (rowS r.seats) 0 r.seats.length,.rsl (rowP r.feet) 0 r.feet.length,.int .i64 r.frame,.int .i64 r.c.x,.int .i64 r.c.y,.int .i64 r.c.z,.int .i64 r.empty,.int .i64 r.full]] (.tup [.rsl (rowB (Qk r)) 0 ((Qk r).length),.int .i64 (((Ql r).1:Nat):Int),.int .i64 (((Ql r).2:Nat):Int),.bool true,.int .i64 0]),Qb Try.prog (.clos 42 [] []) [.agg [.rsl (rowS r.seats) 0 r.seats.length,.rsl (rowP r.feet) 0 r.feet.length,.int .i64 r.frame,.int .i64 r.c.x,.int .i64 r.c.y,.int .i64 r.c.z,.int .i64 r.empty,.int .i64 r.full]] (.tup [.rsl [] 0 0,.int .i64 0,.int .i64 0,.bool false,.int .i64 (Qf r)]),Qb Try.prog (.clos 43 [] []) [.rsl (rowB (Qk r)) 0 ((Qk r).length),.rsl [] 0 0] (.bool true),true=true,((((Ql r).1:Nat):Int) == 0)=true,((((Ql r).2:Nat):Int) == 0)=true,false=false,false=false])
 (hr:AvLe (.bool false) res):G Try.prog E [.code (Qd Try.prog 13)] ⟨[.agg [.rsl (rowS r.seats) 0 r.seats.length,.rsl (rowP r.feet) 0 r.feet.length,.int .i64 r.frame,.int .i64 r.c.x,.int .i64 r.c.y,.int .i64 r.c.z,.int .i64 r.empty,.int .i64 r.full]]++unds (Try.f13.ntmps - 1),[]⟩ :=
 Qg (n:=400) (evs:=[.v (.bool (farB r)),.b false,.b true,.b false,.v (.agg [.rsl (rowS r.seats) 0 r.seats.length,.rsl (rowP r.feet) 0 r.feet.length,.int .i64 r.frame,.int .i64 r.c.x,.int .i64 r.c.y,.int .i64 r.c.z,.int .i64 r.empty,.int .i64 r.full]),.v (.tup [.rsl (rowB (Qk r)) 0 ((Qk r).length),.int .i64 (((Ql r).1:Nat):Int),.int .i64 (((Ql r).2:Nat):Int),.bool true,.int .i64 0]),.v (.tup [.rsl [] 0 0,.int .i64 0,.int .i64 0,.bool false,.int .i64 (Qf r)]),.v (.bool true),.b true,.b true,.b true,.b false,.b false]) (obs:=_) hE Try.func13 Qj (by kernel_rfl) ho hr
theorem p13_start_7 (r:Rg) {E:Env} {res:AV} (hE:Qh Try.prog 13 res E) (ho:AllP [Qb Try.prog (.clos 22 [] []) [.agg [.rsl (rowS r.seats) 0 r.seats.length,.rsl (rowP r.feet) 0 r.feet.length,.int .i64 r.frame,.int .i64 r.c.x,.int .i64 r.c.y,.int .i64 r.c.z,.int .i64 r.empty,.int .i64 r.full]] (.bool (farB r)),(farB r)=false,(decide ((r.seats.length:Int) > 10))=true,(decide ((r.seats.length:Int)≤20))=false,Qb Try.prog (.clos 24 [] []) [.agg [.rsl (rowS r.seats) 0 r.seats.length,.rsl (rowP r.feet) 0 r.feet.length,.int .i64 r.frame,.int .i64 r.c.x,.int .i64 r.c.y,.int .i64 r.c.z,.int .i64 r.empty,.int .i64 r.full]] (.agg [.rsl (rowS r.seats) 0 r.seats.length,.rsl (rowP r.feet) 0 r.feet.length,.int .i64 r.frame,.int .i64 r.c.x,.int .i64 r.c.y,.int .i64 r.c.z,.int .i64 r.empty,.int .i64 r.full]),Qb Try.prog (.clos 41 [] []) [.agg [.rsl (rowS r.seats) 0 r.seats.length,.rsl (rowP r.feet) 0 r.feet.length,.int .i64 r.frame,.int .i64 r.c.x,.int .i64 r.c.y,.int .i64 r.c.z,.int .i64 r.empty,.int .i64 r.full]] (.tup [.rsl (rowB (Qk r)) 0 ((Qk r).length),.int .i64 (((Ql r).1:Nat):Int),.int .i64 (((Ql r).2:Nat):Int),.bool true,.int .i64 0]),Qb Try.prog (.clos 42 [] []) [.agg [.rsl (rowS r.seats) 0 r.seats.length,.rsl (rowP r.feet) 0 r.feet.length,.int .i64 r.frame,.int .i64 r.c.x,.int .i64 r.c.y,.int .i64 r.c.z,.int .i64 r.empty,.int .i64 r.full]] (.tup [.rsl [] 0 0,.int .i64 0,.int .i64 0,.bool false,.int .i64 (Qf r)]),Qb Try.prog (.clos 43 [] []) [.rsl (rowB (Qk r)) 0 ((Qk r).length),.rsl [] 0 0] (.bool true),true=true,((((Ql r).1:Nat):Int) == 0)=true,((((Ql r).2:Nat):Int) == 0)=false,false=false,false=false])
 (hr:AvLe (.bool false) res):G Try.prog E [.code (Qd Try.prog 13)] ⟨[.agg [.rsl (rowS r.seats) 0 r.seats.length,.rsl (rowP r.feet) 0 r.feet.length,.int .i64 r.frame,.int .i64 r.c.x,.int .i64 r.c.y,.int .i64 r.c.z,.int .i64 r.empty,.int .i64 r.full]]++unds (Try.f13.ntmps - 1),[]⟩ :=
 Qg (n:=400) (evs:=[.v (.bool (farB r)),.b false,.b true,.b false,.v (.agg [.rsl (rowS r.seats) 0 r.seats.length,.rsl (rowP r.feet) 0 r.feet.length,.int .i64 r.frame,.int .i64 r.c.x,.int .i64 r.c.y,.int .i64 r.c.z,.int .i64 r.empty,.int .i64 r.full]),.v (.tup [.rsl (rowB (Qk r)) 0 ((Qk r).length),.int .i64 (((Ql r).1:Nat):Int),.int .i64 (((Ql r).2:Nat):Int),.bool true,.int .i64 0]),.v (.tup [.rsl [] 0 0,.int .i64 0,.int .i64 0,.bool false,.int .i64 (Qf r)]),.v (.bool true),.b true,.b true,.b false,.b false,.b false]) (obs:=_) hE Try.func13 Qj (by kernel_rfl) ho hr
theorem p13_start_8 (r:Rg) {E:Env} {res:AV} (hE:Qh Try.prog 13 res E) (ho:AllP [Qb Try.prog (.clos 22 [] []) [.agg [.rsl (rowS r.seats) 0 r.seats.length,.rsl (rowP r.feet) 0 r.feet.length,.int .i64 r.frame,.int .i64 r.c.x,.int .i64 r.c.y,.int .i64 r.c.z,.int .i64 r.empty,.int .i64 r.full]] (.bool (farB r)),(farB r)=false,(decide ((r.seats.length:Int) > 10))=true,(decide ((r.seats.length:Int)≤20))=false,Qb Try.prog (.clos 24 [] []) [.agg [.rsl (rowS r.seats) 0 r.seats.length,.rsl (rowP r.feet) 0 r.feet.length,.int .i64 r.frame,.int .i64 r.c.x,.int .i64 r.c.y,.int .i64 r.c.z,.int .i64 r.empty,.int .i64 r.full]] (.agg [.rsl (rowS r.seats) 0 r.seats.length,.rsl (rowP r.feet) 0 r.feet.length,.int .i64 r.frame,.int .i64 r.c.x,.int .i64 r.c.y,.int .i64 r.c.z,.int .i64 r.empty,.int .i64 r.full]),Qb Try.prog (.clos 41 [] []) [.agg [.rsl (rowS r.seats) 0 r.seats.length,.rsl (rowP r.feet) 0 r.feet.length,.int .i64 r.frame,.int .i64 r.c.x,.int .i64 r.c.y,.int .i64 r.c.z,.int .i64 r.empty,.int .i64 r.full]] (.tup [.rsl (rowB (Qk r)) 0 ((Qk r).length),.int .i64 (((Ql r).1:Nat):Int),.int .i64 (((Ql r).2:Nat):Int),.bool true,.int .i64 0]),Qb Try.prog (.clos 42 [] []) [.agg [.rsl (rowS r.seats) 0 r.seats.length,.rsl (rowP r.feet) 0 r.feet.length,.int .i64 r.frame,.int .i64 r.c.x,.int .i64 r.c.y,.int .i64 r.c.z,.int .i64 r.empty,.int .i64 r.full]] (.tup [.rsl [] 0 0,.int .i64 0,.int .i64 0,.bool false,.int .i64 (Qf r)]),Qb Try.prog (.clos 43 [] []) [.rsl (rowB (Qk r)) 0 ((Qk r).length),.rsl [] 0 0] (.bool true),true=true,((((Ql r).1:Nat):Int) == 0)=false,false=false,false=false,false=false])
 (hr:AvLe (.bool false) res):G Try.prog E [.code (Qd Try.prog 13)] ⟨[.agg [.rsl (rowS r.seats) 0 r.seats.length,.rsl (rowP r.feet) 0 r.feet.length,.int .i64 r.frame,.int .i64 r.c.x,.int .i64 r.c.y,.int .i64 r.c.z,.int .i64 r.empty,.int .i64 r.full]]++unds (Try.f13.ntmps - 1),[]⟩ :=
 Qg (n:=400) (evs:=[.v (.bool (farB r)),.b false,.b true,.b false,.v (.agg [.rsl (rowS r.seats) 0 r.seats.length,.rsl (rowP r.feet) 0 r.feet.length,.int .i64 r.frame,.int .i64 r.c.x,.int .i64 r.c.y,.int .i64 r.c.z,.int .i64 r.empty,.int .i64 r.full]),.v (.tup [.rsl (rowB (Qk r)) 0 ((Qk r).length),.int .i64 (((Ql r).1:Nat):Int),.int .i64 (((Ql r).2:Nat):Int),.bool true,.int .i64 0]),.v (.tup [.rsl [] 0 0,.int .i64 0,.int .i64 0,.bool false,.int .i64 (Qf r)]),.v (.bool true),.b true,.b false,.b false,.b false,.b false]) (obs:=_) hE Try.func13 Qj (by kernel_rfl) ho hr
theorem p13_start_9 (r:Rg) {E:Env} {res:AV} (hE:Qh Try.prog 13 res E) (ho:AllP [Qb Try.prog (.clos 22 [] []) [.agg [.rsl (rowS r.seats) 0 r.seats.length,.rsl (rowP r.feet) 0 r.feet.length,.int .i64 r.frame,.int .i64 r.c.x,.int .i64 r.c.y,.int .i64 r.c.z,.int .i64 r.empty,.int .i64 r.full]] (.bool (farB r)),(farB r)=false,(decide ((r.seats.length:Int) > 10))=true,(decide ((r.seats.length:Int)≤20))=false,Qb Try.prog (.clos 24 [] []) [.agg [.rsl (rowS r.seats) 0 r.seats.length,.rsl (rowP r.feet) 0 r.feet.length,.int .i64 r.frame,.int .i64 r.c.x,.int .i64 r.c.y,.int .i64 r.c.z,.int .i64 r.empty,.int .i64 r.full]] (.agg [.rsl (rowS r.seats) 0 r.seats.length,.rsl (rowP r.feet) 0 r.feet.length,.int .i64 r.frame,.int .i64 r.c.x,.int .i64 r.c.y,.int .i64 r.c.z,.int .i64 r.empty,.int .i64 r.full]),Qb Try.prog (.clos 41 [] []) [.agg [.rsl (rowS r.seats) 0 r.seats.length,.rsl (rowP r.feet) 0 r.feet.length,.int .i64 r.frame,.int .i64 r.c.x,.int .i64 r.c.y,.int .i64 r.c.z,.int .i64 r.empty,.int .i64 r.full]] (.tup [.rsl (rowB (Qk r)) 0 ((Qk r).length),.int .i64 (((Ql r).1:Nat):Int),.int .i64 (((Ql r).2:Nat):Int),.bool true,.int .i64 0]),Qb Try.prog (.clos 42 [] []) [.agg [.rsl (rowS r.seats) 0 r.seats.length,.rsl (rowP r.feet) 0 r.feet.length,.int .i64 r.frame,.int .i64 r.c.x,.int .i64 r.c.y,.int .i64 r.c.z,.int .i64 r.empty,.int .i64 r.full]] (.tup [.rsl [] 0 0,.int .i64 0,.int .i64 0,.bool false,.int .i64 (Qf r)]),Qb Try.prog (.clos 43 [] []) [.rsl (rowB (Qk r)) 0 ((Qk r).length),.rsl [] 0 0] (.bool true),true=false,false=false,false=false,false=false,false=false])
 (hr:AvLe (.bool false) res):G Try.prog E [.code (Qd Try.prog 13)] ⟨[.agg [.rsl (rowS r.seats) 0 r.seats.length,.rsl (rowP r.feet) 0 r.feet.length,.int .i64 r.frame,.int .i64 r.c.x,.int .i64 r.c.y,.int .i64 r.c.z,.int .i64 r.empty,.int .i64 r.full]]++unds (Try.f13.ntmps - 1),[]⟩ :=
 Qg (n:=400) (evs:=[.v (.bool (farB r)),.b false,.b true,.b false,.v (.agg [.rsl (rowS r.seats) 0 r.seats.length,.rsl (rowP r.feet) 0 r.feet.length,.int .i64 r.frame,.int .i64 r.c.x,.int .i64 r.c.y,.int .i64 r.c.z,.int .i64 r.empty,.int .i64 r.full]),.v (.tup [.rsl (rowB (Qk r)) 0 ((Qk r).length),.int .i64 (((Ql r).1:Nat):Int),.int .i64 (((Ql r).2:Nat):Int),.bool true,.int .i64 0]),.v (.tup [.rsl [] 0 0,.int .i64 0,.int .i64 0,.bool false,.int .i64 (Qf r)]),.v (.bool true),.b false,.b false,.b false,.b false,.b false]) (obs:=_) hE Try.func13 Qj (by kernel_rfl) ho hr
theorem p13_start_10 (r:Rg) {E:Env} {res:AV} (hE:Qh Try.prog 13 res E) (ho:AllP [Qb Try.prog (.clos 22 [] []) [.agg [.rsl (rowS r.seats) 0 r.seats.length,.rsl (rowP r.feet) 0 r.feet.length,.int .i64 r.frame,.int .i64 r.c.x,.int .i64 r.c.y,.int .i64 r.c.z,.int .i64 r.empty,.int .i64 r.full]] (.bool (farB r)),(farB r)=false,(decide ((r.seats.length:Int) > 10))=true,(decide ((r.seats.length:Int)≤20))=false,Qb Try.prog (.clos 24 [] []) [.agg [.rsl (rowS r.seats) 0 r.seats.length,.rsl (rowP r.feet) 0 r.feet.length,.int .i64 r.frame,.int .i64 r.c.x,.int .i64 r.c.y,.int .i64 r.c.z,.int .i64 r.empty,.int .i64 r.full]] (.agg [.rsl (rowS r.seats) 0 r.seats.length,.rsl (rowP r.feet) 0 r.feet.length,.int .i64 r.frame,.int .i64 r.c.x,.int .i64 r.c.y,.int .i64 r.c.z,.int .i64 r.empty,.int .i64 r.full]),Qb Try.prog (.clos 41 [] []) [.agg [.rsl (rowS r.seats) 0 r.seats.length,.rsl (rowP r.feet) 0 r.feet.length,.int .i64 r.frame,.int .i64 r.c.x,.int .i64 r.c.y,.int .i64 r.c.z,.int .i64 r.empty,.int .i64 r.full]] (.tup [.rsl [] 0 0,.int .i64 0,.int .i64 0,.bool false,.int .i64 (Qf r)]),Qb Try.prog (.clos 42 [] []) [.agg [.rsl (rowS r.seats) 0 r.seats.length,.rsl (rowP r.feet) 0 r.feet.length,.int .i64 r.frame,.int .i64 r.c.x,.int .i64 r.c.y,.int .i64 r.c.z,.int .i64 r.empty,.int .i64 r.full]] (.tup [.rsl (rowB (Qk r)) 0 ((Qk r).length),.int .i64 (((Ql r).1:Nat):Int),.int .i64 (((Ql r).2:Nat):Int),.bool true,.int .i64 0]),Qb Try.prog (.clos 43 [] []) [.rsl [] 0 0,.rsl (rowB (Qk r)) 0 ((Qk r).length)] (.bool true),true=true,(0 == (((Ql r).1:Nat):Int))=true,(0 == (((Ql r).2:Nat):Int))=true,false=false,false=false])
 (hr:AvLe (.bool false) res):G Try.prog E [.code (Qd Try.prog 13)] ⟨[.agg [.rsl (rowS r.seats) 0 r.seats.length,.rsl (rowP r.feet) 0 r.feet.length,.int .i64 r.frame,.int .i64 r.c.x,.int .i64 r.c.y,.int .i64 r.c.z,.int .i64 r.empty,.int .i64 r.full]]++unds (Try.f13.ntmps - 1),[]⟩ :=
 Qg (n:=400) (evs:=[.v (.bool (farB r)),.b false,.b true,.b false,.v (.agg [.rsl (rowS r.seats) 0 r.seats.length,.rsl (rowP r.feet) 0 r.feet.length,.int .i64 r.frame,.int .i64 r.c.x,.int .i64 r.c.y,.int .i64 r.c.z,.int .i64 r.empty,.int .i64 r.full]),.v (.tup [.rsl [] 0 0,.int .i64 0,.int .i64 0,.bool false,.int .i64 (Qf r)]),.v (.tup [.rsl (rowB (Qk r)) 0 ((Qk r).length),.int .i64 (((Ql r).1:Nat):Int),.int .i64 (((Ql r).2:Nat):Int),.bool true,.int .i64 0]),.v (.bool true),.b true,.b true,.b true,.b false,.b false]) (obs:=_) hE Try.func13 Qj (by kernel_rfl) ho hr
theorem p13_start_11 (r:Rg) {E:Env} {res:AV} (hE:Qh Try.prog 13 res E) (ho:AllP [Qb Try.prog (.clos 22 [] []) [.agg [.rsl (rowS r.seats) 0 r.seats.length,.rsl (rowP r.feet) 0 r.feet.length,.int .i64 r.frame,.int .i64 r.c.x,.int .i64 r.c.y,.int .i64 r.c.z,.int .i64 r.empty,.int .i64 r.full]] (.bool (farB r)),(farB r)=false,(decide ((r.seats.length:Int) > 10))=true,(decide ((r.seats.length:Int)≤20))=false,Qb Try.prog (.clos 24 [] []) [.agg [.rsl (rowS r.seats) 0 r.seats.length,.rsl (rowP r.feet) 0 r.feet.length,.int .i64 r.frame,.int .i64 r.c.x,.int .i64 r.c.y,.int .i64 r.c.z,.int .i64 r.empty,.int .i64 r.full]] (.agg [.rsl (rowS r.seats) 0 r.seats.length,.rsl (rowP r.feet) 0 r.feet.length,.int .i64 r.frame,.int .i64 r.c.x,.int .i64 r.c.y,.int .i64 r.c.z,.int .i64 r.empty,.int .i64 r.full]),Qb Try.prog (.clos 41 [] []) [.agg [.rsl (rowS r.seats) 0 r.seats.length,.rsl (rowP r.feet) 0 r.feet.length,.int .i64 r.frame,.int .i64 r.c.x,.int .i64 r.c.y,.int .i64 r.c.z,.int .i64 r.empty,.int .i64 r.full]] (.tup [.rsl [] 0 0,.int .i64 0,.int .i64 0,.bool false,.int .i64 (Qf r)]),Qb Try.prog (.clos 42 [] []) [.agg [.rsl (rowS r.seats) 0 r.seats.length,.rsl (rowP r.feet) 0 r.feet.length,.int .i64 r.frame,.int .i64 r.c.x,.int .i64 r.c.y,.int .i64 r.c.z,.int .i64 r.empty,.int .i64 r.full]] (.tup [.rsl (rowB (Qk r)) 0 ((Qk r).length),.int .i64 (((Ql r).1:Nat):Int),.int .i64 (((Ql r).2:Nat):Int),.bool true,.int .i64 0]),Qb Try.prog (.clos 43 [] []) [.rsl [] 0 0,.rsl (rowB (Qk r)) 0 ((Qk r).length)] (.bool true),true=true,(0 == (((Ql r).1:Nat):Int))=true,(0 == (((Ql r).2:Nat):Int))=false,false=false,false=false])
 (hr:AvLe (.bool false) res):G Try.prog E [.code (Qd Try.prog 13)] ⟨[.agg [.rsl (rowS r.seats) 0 r.seats.length,.rsl (rowP r.feet) 0 r.feet.length,.int .i64 r.frame,.int .i64 r.c.x,.int .i64 r.c.y,.int .i64 r.c.z,.int .i64 r.empty,.int .i64 r.full]]++unds (Try.f13.ntmps - 1),[]⟩ :=
 Qg (n:=400) (evs:=[.v (.bool (farB r)),.b false,.b true,.b false,.v (.agg [.rsl (rowS r.seats) 0 r.seats.length,.rsl (rowP r.feet) 0 r.feet.length,.int .i64 r.frame,.int .i64 r.c.x,.int .i64 r.c.y,.int .i64 r.c.z,.int .i64 r.empty,.int .i64 r.full]),.v (.tup [.rsl [] 0 0,.int .i64 0,.int .i64 0,.bool false,.int .i64 (Qf r)]),.v (.tup [.rsl (rowB (Qk r)) 0 ((Qk r).length),.int .i64 (((Ql r).1:Nat):Int),.int .i64 (((Ql r).2:Nat):Int),.bool true,.int .i64 0]),.v (.bool true),.b true,.b true,.b false,.b false,.b false]) (obs:=_) hE Try.func13 Qj (by kernel_rfl) ho hr
theorem p13_start_12 (r:Rg) {E:Env} {res:AV} (hE:Qh Try.prog 13 res E) (ho:AllP [Qb Try.prog (.clos 22 [] []) [.agg [.rsl (rowS r.seats) 0 r.seats.length,.rsl (rowP r.feet) 0 r.feet.length,.int .i64 r.frame,.int .i64 r.c.x,.int .i64 r.c.y,.int .i64 r.c.z,.int .i64 r.empty,.int .i64 r.full]] (.bool (farB r)),(farB r)=false,(decide ((r.seats.length:Int) > 10))=true,(decide ((r.seats.length:Int)≤20))=false,Qb Try.prog (.clos 24 [] []) [.agg [.rsl (rowS r.seats) 0 r.seats.length,.rsl (rowP r.feet) 0 r.feet.length,.int .i64 r.frame,.int .i64 r.c.x,.int .i64 r.c.y,.int .i64 r.c.z,.int .i64 r.empty,.int .i64 r.full]] (.agg [.rsl (rowS r.seats) 0 r.seats.length,.rsl (rowP r.feet) 0 r.feet.length,.int .i64 r.frame,.int .i64 r.c.x,.int .i64 r.c.y,.int .i64 r.c.z,.int .i64 r.empty,.int .i64 r.full]),Qb Try.prog (.clos 41 [] []) [.agg [.rsl (rowS r.seats) 0 r.seats.length,.rsl (rowP r.feet) 0 r.feet.length,.int .i64 r.frame,.int .i64 r.c.x,.int .i64 r.c.y,.int .i64 r.c.z,.int .i64 r.empty,.int .i64 r.full]] (.tup [.rsl [] 0 0,.int .i64 0,.int .i64 0,.bool false,.int .i64 (Qf r)]),Qb Try.prog (.clos 42 [] []) [.agg [.rsl (rowS r.seats) 0 r.seats.length,.rsl (rowP r.feet) 0 r.feet.length,.int .i64 r.frame,.int .i64 r.c.x,.int .i64 r.c.y,.int .i64 r.c.z,.int .i64 r.empty,.int .i64 r.full]] (.tup [.rsl (rowB (Qk r)) 0 ((Qk r).length),.int .i64 (((Ql r).1:Nat):Int),.int .i64 (((Ql r).2:Nat):Int),.bool true,.int .i64 0]),Qb Try.prog (.clos 43 [] []) [.rsl [] 0 0,.rsl (rowB (Qk r)) 0 ((Qk r).length)] (.bool true),true=true,(0 == (((Ql r).1:Nat):Int))=false,false=false,false=false,false=false])
 (hr:AvLe (.bool false) res):G Try.prog E [.code (Qd Try.prog 13)] ⟨[.agg [.rsl (rowS r.seats) 0 r.seats.length,.rsl (rowP r.feet) 0 r.feet.length,.int .i64 r.frame,.int .i64 r.c.x,.int .i64 r.c.y,.int .i64 r.c.z,.int .i64 r.empty,.int .i64 r.full]]++unds (Try.f13.ntmps - 1),[]⟩ :=
 Qg (n:=400) (evs:=[.v (.bool (farB r)),.b false,.b true,.b false,.v (.agg [.rsl (rowS r.seats) 0 r.seats.length,.rsl (rowP r.feet) 0 r.feet.length,.int .i64 r.frame,.int .i64 r.c.x,.int .i64 r.c.y,.int .i64 r.c.z,.int .i64 r.empty,.int .i64 r.full]),.v (.tup [.rsl [] 0 0,.int .i64 0,.int .i64 0,.bool false,.int .i64 (Qf r)]),.v (.tup [.rsl (rowB (Qk r)) 0 ((Qk r).length),.int .i64 (((Ql r).1:Nat):Int),.int .i64 (((Ql r).2:Nat):Int),.bool true,.int .i64 0]),.v (.bool true),.b true,.b false,.b false,.b false,.b false]) (obs:=_) hE Try.func13 Qj (by kernel_rfl) ho hr
theorem p13_start_13 (r:Rg) {E:Env} {res:AV} (hE:Qh Try.prog 13 res E) (ho:AllP [Qb Try.prog (.clos 22 [] []) [.agg [.rsl (rowS r.seats) 0 r.seats.length,.rsl (rowP r.feet) 0 r.feet.length,.int .i64 r.frame,.int .i64 r.c.x,.int .i64 r.c.y,.int .i64 r.c.z,.int .i64 r.empty,.int .i64 r.full]] (.bool (farB r)),(farB r)=false,(decide ((r.seats.length:Int) > 10))=true,(decide ((r.seats.length:Int)≤20))=false,Qb Try.prog (.clos 24 [] []) [.agg [.rsl (rowS r.seats) 0 r.seats.length,.rsl (rowP r.feet) 0 r.feet.length,.int .i64 r.frame,.int .i64 r.c.x,.int .i64 r.c.y,.int .i64 r.c.z,.int .i64 r.empty,.int .i64 r.full]] (.agg [.rsl (rowS r.seats) 0 r.seats.length,.rsl (rowP r.feet) 0 r.feet.length,.int .i64 r.frame,.int .i64 r.c.x,.int .i64 r.c.y,.int .i64 r.c.z,.int .i64 r.empty,.int .i64 r.full]),Qb Try.prog (.clos 41 [] []) [.agg [.rsl (rowS r.seats) 0 r.seats.length,.rsl (rowP r.feet) 0 r.feet.length,.int .i64 r.frame,.int .i64 r.c.x,.int .i64 r.c.y,.int .i64 r.c.z,.int .i64 r.empty,.int .i64 r.full]] (.tup [.rsl [] 0 0,.int .i64 0,.int .i64 0,.bool false,.int .i64 (Qf r)]),Qb Try.prog (.clos 42 [] []) [.agg [.rsl (rowS r.seats) 0 r.seats.length,.rsl (rowP r.feet) 0 r.feet.length,.int .i64 r.frame,.int .i64 r.c.x,.int .i64 r.c.y,.int .i64 r.c.z,.int .i64 r.empty,.int .i64 r.full]] (.tup [.rsl (rowB (Qk r)) 0 ((Qk r).length),.int .i64 (((Ql r).1:Nat):Int),.int .i64 (((Ql r).2:Nat):Int),.bool true,.int .i64 0]),Qb Try.prog (.clos 43 [] []) [.rsl [] 0 0,.rsl (rowB (Qk r)) 0 ((Qk r).length)] (.bool true),true=false,false=false,false=false,false=false,false=false])
 (hr:AvLe (.bool false) res):G Try.prog E [.code (Qd Try.prog 13)] ⟨[.agg [.rsl (rowS r.seats) 0 r.seats.length,.rsl (rowP r.feet) 0 r.feet.length,.int .i64 r.frame,.int .i64 r.c.x,.int .i64 r.c.y,.int .i64 r.c.z,.int .i64 r.empty,.int .i64 r.full]]++unds (Try.f13.ntmps - 1),[]⟩ :=
 Qg (n:=400) (evs:=[.v (.bool (farB r)),.b false,.b true,.b false,.v (.agg [.rsl (rowS r.seats) 0 r.seats.length,.rsl (rowP r.feet) 0 r.feet.length,.int .i64 r.frame,.int .i64 r.c.x,.int .i64 r.c.y,.int .i64 r.c.z,.int .i64 r.empty,.int .i64 r.full]),.v (.tup [.rsl [] 0 0,.int .i64 0,.int .i64 0,.bool false,.int .i64 (Qf r)]),.v (.tup [.rsl (rowB (Qk r)) 0 ((Qk r).length),.int .i64 (((Ql r).1:Nat):Int),.int .i64 (((Ql r).2:Nat):Int),.bool true,.int .i64 0]),.v (.bool true),.b false,.b false,.b false,.b false,.b false]) (obs:=_) hE Try.func13 Qj (by kernel_rfl) ho hr
theorem p13_start_14 (r:Rg) {E:Env} {res:AV} (hE:Qh Try.prog 13 res E) (ho:AllP [Qb Try.prog (.clos 22 [] []) [.agg [.rsl (rowS r.seats) 0 r.seats.length,.rsl (rowP r.feet) 0 r.feet.length,.int .i64 r.frame,.int .i64 r.c.x,.int .i64 r.c.y,.int .i64 r.c.z,.int .i64 r.empty,.int .i64 r.full]] (.bool (farB r)),(farB r)=false,(decide ((r.seats.length:Int) > 10))=true,(decide ((r.seats.length:Int)≤20))=false,Qb Try.prog (.clos 24 [] []) [.agg [.rsl (rowS r.seats) 0 r.seats.length,.rsl (rowP r.feet) 0 r.feet.length,.int .i64 r.frame,.int .i64 r.c.x,.int .i64 r.c.y,.int .i64 r.c.z,.int .i64 r.empty,.int .i64 r.full]] (.agg [.rsl (rowS r.seats) 0 r.seats.length,.rsl (rowP r.feet) 0 r.feet.length,.int .i64 r.frame,.int .i64 r.c.x,.int .i64 r.c.y,.int .i64 r.c.z,.int .i64 r.empty,.int .i64 r.full]),Qb Try.prog (.clos 41 [] []) [.agg [.rsl (rowS r.seats) 0 r.seats.length,.rsl (rowP r.feet) 0 r.feet.length,.int .i64 r.frame,.int .i64 r.c.x,.int .i64 r.c.y,.int .i64 r.c.z,.int .i64 r.empty,.int .i64 r.full]] (.tup [.rsl [] 0 0,.int .i64 0,.int .i64 0,.bool false,.int .i64 (Qf r)]),Qb Try.prog (.clos 42 [] []) [.agg [.rsl (rowS r.seats) 0 r.seats.length,.rsl (rowP r.feet) 0 r.feet.length,.int .i64 r.frame,.int .i64 r.c.x,.int .i64 r.c.y,.int .i64 r.c.z,.int .i64 r.empty,.int .i64 r.full]] (.tup [.rsl [] 0 0,.int .i64 0,.int .i64 0,.bool false,.int .i64 (Qf r)]),Qb Try.prog (.clos 43 [] []) [.rsl [] 0 0,.rsl [] 0 0] (.bool true),true=true,true=true,true=true,true=true,((Qf r) == (Qf r))=true,Qb Try.prog (.clos 15 [] []) [] (.bool true)])
 (hr:AvLe (.bool true) res):G Try.prog E [.code (Qd Try.prog 13)] ⟨[.agg [.rsl (rowS r.seats) 0 r.seats.length,.rsl (rowP r.feet) 0 r.feet.length,.int .i64 r.frame,.int .i64 r.c.x,.int .i64 r.c.y,.int .i64 r.c.z,.int .i64 r.empty,.int .i64 r.full]]++unds (Try.f13.ntmps - 1),[]⟩ :=
 Qg (n:=400) (evs:=[.v (.bool (farB r)),.b false,.b true,.b false,.v (.agg [.rsl (rowS r.seats) 0 r.seats.length,.rsl (rowP r.feet) 0 r.feet.length,.int .i64 r.frame,.int .i64 r.c.x,.int .i64 r.c.y,.int .i64 r.c.z,.int .i64 r.empty,.int .i64 r.full]),.v (.tup [.rsl [] 0 0,.int .i64 0,.int .i64 0,.bool false,.int .i64 (Qf r)]),.v (.tup [.rsl [] 0 0,.int .i64 0,.int .i64 0,.bool false,.int .i64 (Qf r)]),.v (.bool true),.b true,.b true,.b true,.b true,.b true,.v (.bool true)]) (obs:=_) hE Try.func13 Qj (by kernel_rfl) ho hr
theorem p13_start_15 (r:Rg) {E:Env} {res:AV} (hE:Qh Try.prog 13 res E) (ho:AllP [Qb Try.prog (.clos 22 [] []) [.agg [.rsl (rowS r.seats) 0 r.seats.length,.rsl (rowP r.feet) 0 r.feet.length,.int .i64 r.frame,.int .i64 r.c.x,.int .i64 r.c.y,.int .i64 r.c.z,.int .i64 r.empty,.int .i64 r.full]] (.bool (farB r)),(farB r)=false,(decide ((r.seats.length:Int) > 10))=true,(decide ((r.seats.length:Int)≤20))=false,Qb Try.prog (.clos 24 [] []) [.agg [.rsl (rowS r.seats) 0 r.seats.length,.rsl (rowP r.feet) 0 r.feet.length,.int .i64 r.frame,.int .i64 r.c.x,.int .i64 r.c.y,.int .i64 r.c.z,.int .i64 r.empty,.int .i64 r.full]] (.agg [.rsl (rowS r.seats) 0 r.seats.length,.rsl (rowP r.feet) 0 r.feet.length,.int .i64 r.frame,.int .i64 r.c.x,.int .i64 r.c.y,.int .i64 r.c.z,.int .i64 r.empty,.int .i64 r.full]),Qb Try.prog (.clos 41 [] []) [.agg [.rsl (rowS r.seats) 0 r.seats.length,.rsl (rowP r.feet) 0 r.feet.length,.int .i64 r.frame,.int .i64 r.c.x,.int .i64 r.c.y,.int .i64 r.c.z,.int .i64 r.empty,.int .i64 r.full]] (.tup [.rsl [] 0 0,.int .i64 0,.int .i64 0,.bool false,.int .i64 (Qf r)]),Qb Try.prog (.clos 42 [] []) [.agg [.rsl (rowS r.seats) 0 r.seats.length,.rsl (rowP r.feet) 0 r.feet.length,.int .i64 r.frame,.int .i64 r.c.x,.int .i64 r.c.y,.int .i64 r.c.z,.int .i64 r.empty,.int .i64 r.full]] (.tup [.rsl [] 0 0,.int .i64 0,.int .i64 0,.bool false,.int .i64 (Qf r)]),Qb Try.prog (.clos 43 [] []) [.rsl [] 0 0,.rsl [] 0 0] (.bool true),true=true,true=true,true=true,true=true,((Qf r) == (Qf r))=false])
 (hr:AvLe (.bool false) res):G Try.prog E [.code (Qd Try.prog 13)] ⟨[.agg [.rsl (rowS r.seats) 0 r.seats.length,.rsl (rowP r.feet) 0 r.feet.length,.int .i64 r.frame,.int .i64 r.c.x,.int .i64 r.c.y,.int .i64 r.c.z,.int .i64 r.empty,.int .i64 r.full]]++unds (Try.f13.ntmps - 1),[]⟩ :=
 Qg (n:=400) (evs:=[.v (.bool (farB r)),.b false,.b true,.b false,.v (.agg [.rsl (rowS r.seats) 0 r.seats.length,.rsl (rowP r.feet) 0 r.feet.length,.int .i64 r.frame,.int .i64 r.c.x,.int .i64 r.c.y,.int .i64 r.c.z,.int .i64 r.empty,.int .i64 r.full]),.v (.tup [.rsl [] 0 0,.int .i64 0,.int .i64 0,.bool false,.int .i64 (Qf r)]),.v (.tup [.rsl [] 0 0,.int .i64 0,.int .i64 0,.bool false,.int .i64 (Qf r)]),.v (.bool true),.b true,.b true,.b true,.b true,.b false]) (obs:=_) hE Try.func13 Qj (by kernel_rfl) ho hr
theorem p13_start_16 (r:Rg) {E:Env} {res:AV} (hE:Qh Try.prog 13 res E) (ho:AllP [Qb Try.prog (.clos 22 [] []) [.agg [.rsl (rowS r.seats) 0 r.seats.length,.rsl (rowP r.feet) 0 r.feet.length,.int .i64 r.frame,.int .i64 r.c.x,.int .i64 r.c.y,.int .i64 r.c.z,.int .i64 r.empty,.int .i64 r.full]] (.bool (farB r)),(farB r)=false,(decide ((r.seats.length:Int) > 10))=true,(decide ((r.seats.length:Int)≤20))=false,Qb Try.prog (.clos 24 [] []) [.agg [.rsl (rowS r.seats) 0 r.seats.length,.rsl (rowP r.feet) 0 r.feet.length,.int .i64 r.frame,.int .i64 r.c.x,.int .i64 r.c.y,.int .i64 r.c.z,.int .i64 r.empty,.int .i64 r.full]] (.agg [.rsl (rowS r.seats) 0 r.seats.length,.rsl (rowP r.feet) 0 r.feet.length,.int .i64 r.frame,.int .i64 r.c.x,.int .i64 r.c.y,.int .i64 r.c.z,.int .i64 r.empty,.int .i64 r.full]),Qb Try.prog (.clos 41 [] []) [.agg [.rsl (rowS r.seats) 0 r.seats.length,.rsl (rowP r.feet) 0 r.feet.length,.int .i64 r.frame,.int .i64 r.c.x,.int .i64 r.c.y,.int .i64 r.c.z,.int .i64 r.empty,.int .i64 r.full]] (.tup [.rsl [] 0 0,.int .i64 0,.int .i64 0,.bool false,.int .i64 (Qf r)]),Qb Try.prog (.clos 42 [] []) [.agg [.rsl (rowS r.seats) 0 r.seats.length,.rsl (rowP r.feet) 0 r.feet.length,.int .i64 r.frame,.int .i64 r.c.x,.int .i64 r.c.y,.int .i64 r.c.z,.int .i64 r.empty,.int .i64 r.full]] (.tup [.rsl [] 0 0,.int .i64 0,.int .i64 0,.bool false,.int .i64 (Qf r)]),Qb Try.prog (.clos 43 [] []) [.rsl [] 0 0,.rsl [] 0 0] (.bool true),true=false,false=false,false=false,false=false,false=false])
 (hr:AvLe (.bool false) res):G Try.prog E [.code (Qd Try.prog 13)] ⟨[.agg [.rsl (rowS r.seats) 0 r.seats.length,.rsl (rowP r.feet) 0 r.feet.length,.int .i64 r.frame,.int .i64 r.c.x,.int .i64 r.c.y,.int .i64 r.c.z,.int .i64 r.empty,.int .i64 r.full]]++unds (Try.f13.ntmps - 1),[]⟩ :=
 Qg (n:=400) (evs:=[.v (.bool (farB r)),.b false,.b true,.b false,.v (.agg [.rsl (rowS r.seats) 0 r.seats.length,.rsl (rowP r.feet) 0 r.feet.length,.int .i64 r.frame,.int .i64 r.c.x,.int .i64 r.c.y,.int .i64 r.c.z,.int .i64 r.empty,.int .i64 r.full]),.v (.tup [.rsl [] 0 0,.int .i64 0,.int .i64 0,.bool false,.int .i64 (Qf r)]),.v (.tup [.rsl [] 0 0,.int .i64 0,.int .i64 0,.bool false,.int .i64 (Qf r)]),.v (.bool true),.b false,.b false,.b false,.b false,.b false]) (obs:=_) hE Try.func13 Qj (by kernel_rfl) ho hr
theorem p13_start_17 (r:Rg) {E:Env} {res:AV} (hE:Qh Try.prog 13 res E) (ho:AllP [Qb Try.prog (.clos 22 [] []) [.agg [.rsl (rowS r.seats) 0 r.seats.length,.rsl (rowP r.feet) 0 r.feet.length,.int .i64 r.frame,.int .i64 r.c.x,.int .i64 r.c.y,.int .i64 r.c.z,.int .i64 r.empty,.int .i64 r.full]] (.bool (farB r)),(farB r)=false,(decide ((r.seats.length:Int) > 10))=false,false=false,Qb Try.prog (.clos 24 [] []) [.agg [.rsl (rowS r.seats) 0 r.seats.length,.rsl (rowP r.feet) 0 r.feet.length,.int .i64 r.frame,.int .i64 r.c.x,.int .i64 r.c.y,.int .i64 r.c.z,.int .i64 r.empty,.int .i64 r.full]] (.agg [.rsl (rowS r.seats) 0 r.seats.length,.rsl (rowP r.feet) 0 r.feet.length,.int .i64 r.frame,.int .i64 r.c.x,.int .i64 r.c.y,.int .i64 r.c.z,.int .i64 r.empty,.int .i64 r.full]),Qb Try.prog (.clos 41 [] []) [.agg [.rsl (rowS r.seats) 0 r.seats.length,.rsl (rowP r.feet) 0 r.feet.length,.int .i64 r.frame,.int .i64 r.c.x,.int .i64 r.c.y,.int .i64 r.c.z,.int .i64 r.empty,.int .i64 r.full]] (.tup [.rsl (rowB (Qk r)) 0 ((Qk r).length),.int .i64 (((Ql r).1:Nat):Int),.int .i64 (((Ql r).2:Nat):Int),.bool true,.int .i64 0]),Qb Try.prog (.clos 42 [] []) [.agg [.rsl (rowS r.seats) 0 r.seats.length,.rsl (rowP r.feet) 0 r.feet.length,.int .i64 r.frame,.int .i64 r.c.x,.int .i64 r.c.y,.int .i64 r.c.z,.int .i64 r.empty,.int .i64 r.full]] (.tup [.rsl (rowB (Qk r)) 0 ((Qk r).length),.int .i64 (((Ql r).1:Nat):Int),.int .i64 (((Ql r).2:Nat):Int),.bool true,.int .i64 0]),Qb Try.prog (.clos 43 [] []) [.rsl (rowB (Qk r)) 0 ((Qk r).length),.rsl (rowB (Qk r)) 0 ((Qk r).length)] (.bool true),true=true,((((Ql r).1:Nat):Int) == (((Ql r).1:Nat):Int))=true,((((Ql r).2:Nat):Int) == (((Ql r).2:Nat):Int))=true,true=true,true=true,Qb Try.prog (.clos 15 [] []) [] (.bool true)])
 (hr:AvLe (.bool true) res):G Try.prog E [.code (Qd Try.prog 13)] ⟨[.agg [.rsl (rowS r.seats) 0 r.seats.length,.rsl (rowP r.feet) 0 r.feet.length,.int .i64 r.frame,.int .i64 r.c.x,.int .i64 r.c.y,.int .i64 r.c.z,.int .i64 r.empty,.int .i64 r.full]]++unds (Try.f13.ntmps - 1),[]⟩ :=
 Qg (n:=400) (evs:=[.v (.bool (farB r)),.b false,.b false,.b false,.v (.agg [.rsl (rowS r.seats) 0 r.seats.length,.rsl (rowP r.feet) 0 r.feet.length,.int .i64 r.frame,.int .i64 r.c.x,.int .i64 r.c.y,.int .i64 r.c.z,.int .i64 r.empty,.int .i64 r.full]),.v (.tup [.rsl (rowB (Qk r)) 0 ((Qk r).length),.int .i64 (((Ql r).1:Nat):Int),.int .i64 (((Ql r).2:Nat):Int),.bool true,.int .i64 0]),.v (.tup [.rsl (rowB (Qk r)) 0 ((Qk r).length),.int .i64 (((Ql r).1:Nat):Int),.int .i64 (((Ql r).2:Nat):Int),.bool true,.int .i64 0]),.v (.bool true),.b true,.b true,.b true,.b true,.b true,.v (.bool true)]) (obs:=_) hE Try.func13 Qj (by kernel_rfl) ho hr
theorem p13_start_18 (r:Rg) {E:Env} {res:AV} (hE:Qh Try.prog 13 res E) (ho:AllP [Qb Try.prog (.clos 22 [] []) [.agg [.rsl (rowS r.seats) 0 r.seats.length,.rsl (rowP r.feet) 0 r.feet.length,.int .i64 r.frame,.int .i64 r.c.x,.int .i64 r.c.y,.int .i64 r.c.z,.int .i64 r.empty,.int .i64 r.full]] (.bool (farB r)),(farB r)=false,(decide ((r.seats.length:Int) > 10))=false,false=false,Qb Try.prog (.clos 24 [] []) [.agg [.rsl (rowS r.seats) 0 r.seats.length,.rsl (rowP r.feet) 0 r.feet.length,.int .i64 r.frame,.int .i64 r.c.x,.int .i64 r.c.y,.int .i64 r.c.z,.int .i64 r.empty,.int .i64 r.full]] (.agg [.rsl (rowS r.seats) 0 r.seats.length,.rsl (rowP r.feet) 0 r.feet.length,.int .i64 r.frame,.int .i64 r.c.x,.int .i64 r.c.y,.int .i64 r.c.z,.int .i64 r.empty,.int .i64 r.full]),Qb Try.prog (.clos 41 [] []) [.agg [.rsl (rowS r.seats) 0 r.seats.length,.rsl (rowP r.feet) 0 r.feet.length,.int .i64 r.frame,.int .i64 r.c.x,.int .i64 r.c.y,.int .i64 r.c.z,.int .i64 r.empty,.int .i64 r.full]] (.tup [.rsl (rowB (Qk r)) 0 ((Qk r).length),.int .i64 (((Ql r).1:Nat):Int),.int .i64 (((Ql r).2:Nat):Int),.bool true,.int .i64 0]),Qb Try.prog (.clos 42 [] []) [.agg [.rsl (rowS r.seats) 0 r.seats.length,.rsl (rowP r.feet) 0 r.feet.length,.int .i64 r.frame,.int .i64 r.c.x,.int .i64 r.c.y,.int .i64 r.c.z,.int .i64 r.empty,.int .i64 r.full]] (.tup [.rsl (rowB (Qk r)) 0 ((Qk r).length),.int .i64 (((Ql r).1:Nat):Int),.int .i64 (((Ql r).2:Nat):Int),.bool true,.int .i64 0]),Qb Try.prog (.clos 43 [] []) [.rsl (rowB (Qk r)) 0 ((Qk r).length),.rsl (rowB (Qk r)) 0 ((Qk r).length)] (.bool true),true=true,((((Ql r).1:Nat):Int) == (((Ql r).1:Nat):Int))=true,((((Ql r).2:Nat):Int) == (((Ql r).2:Nat):Int))=false,false=false,false=false])
 (hr:AvLe (.bool false) res):G Try.prog E [.code (Qd Try.prog 13)] ⟨[.agg [.rsl (rowS r.seats) 0 r.seats.length,.rsl (rowP r.feet) 0 r.feet.length,.int .i64 r.frame,.int .i64 r.c.x,.int .i64 r.c.y,.int .i64 r.c.z,.int .i64 r.empty,.int .i64 r.full]]++unds (Try.f13.ntmps - 1),[]⟩ :=
 Qg (n:=400) (evs:=[.v (.bool (farB r)),.b false,.b false,.b false,.v (.agg [.rsl (rowS r.seats) 0 r.seats.length,.rsl (rowP r.feet) 0 r.feet.length,.int .i64 r.frame,.int .i64 r.c.x,.int .i64 r.c.y,.int .i64 r.c.z,.int .i64 r.empty,.int .i64 r.full]),.v (.tup [.rsl (rowB (Qk r)) 0 ((Qk r).length),.int .i64 (((Ql r).1:Nat):Int),.int .i64 (((Ql r).2:Nat):Int),.bool true,.int .i64 0]),.v (.tup [.rsl (rowB (Qk r)) 0 ((Qk r).length),.int .i64 (((Ql r).1:Nat):Int),.int .i64 (((Ql r).2:Nat):Int),.bool true,.int .i64 0]),.v (.bool true),.b true,.b true,.b false,.b false,.b false]) (obs:=_) hE Try.func13 Qj (by kernel_rfl) ho hr
theorem p13_start_19 (r:Rg) {E:Env} {res:AV} (hE:Qh Try.prog 13 res E) (ho:AllP [Qb Try.prog (.clos 22 [] []) [.agg [.rsl (rowS r.seats) 0 r.seats.length,.rsl (rowP r.feet) 0 r.feet.length,.int .i64 r.frame,.int .i64 r.c.x,.int .i64 r.c.y,.int .i64 r.c.z,.int .i64 r.empty,.int .i64 r.full]] (.bool (farB r)),(farB r)=false,(decide ((r.seats.length:Int) > 10))=false,false=false,Qb Try.prog (.clos 24 [] []) [.agg [.rsl (rowS r.seats) 0 r.seats.length,.rsl (rowP r.feet) 0 r.feet.length,.int .i64 r.frame,.int .i64 r.c.x,.int .i64 r.c.y,.int .i64 r.c.z,.int .i64 r.empty,.int .i64 r.full]] (.agg [.rsl (rowS r.seats) 0 r.seats.length,.rsl (rowP r.feet) 0 r.feet.length,.int .i64 r.frame,.int .i64 r.c.x,.int .i64 r.c.y,.int .i64 r.c.z,.int .i64 r.empty,.int .i64 r.full]),Qb Try.prog (.clos 41 [] []) [.agg [.rsl (rowS r.seats) 0 r.seats.length,.rsl (rowP r.feet) 0 r.feet.length,.int .i64 r.frame,.int .i64 r.c.x,.int .i64 r.c.y,.int .i64 r.c.z,.int .i64 r.empty,.int .i64 r.full]] (.tup [.rsl (rowB (Qk r)) 0 ((Qk r).length),.int .i64 (((Ql r).1:Nat):Int),.int .i64 (((Ql r).2:Nat):Int),.bool true,.int .i64 0]),Qb Try.prog (.clos 42 [] []) [.agg [.rsl (rowS r.seats) 0 r.seats.length,.rsl (rowP r.feet) 0 r.feet.length,.int .i64 r.frame,.int .i64 r.c.x,.int .i64 r.c.y,.int .i64 r.c.z,.int .i64 r.empty,.int .i64 r.full]] (.tup [.rsl (rowB (Qk r)) 0 ((Qk r).length),.int .i64 (((Ql r).1:Nat):Int),.int .i64 (((Ql r).2:Nat):Int),.bool true,.int .i64 0]),Qb Try.prog (.clos 43 [] []) [.rsl (rowB (Qk r)) 0 ((Qk r).length),.rsl (rowB (Qk r)) 0 ((Qk r).length)] (.bool true),true=true,((((Ql r).1:Nat):Int) == (((Ql r).1:Nat):Int))=false,false=false,false=false,false=false])
 (hr:AvLe (.bool false) res):G Try.prog E [.code (Qd Try.prog 13)] ⟨[.agg [.rsl (rowS r.seats) 0 r.seats.length,.rsl (rowP r.feet) 0 r.feet.length,.int .i64 r.frame,.int .i64 r.c.x,.int .i64 r.c.y,.int .i64 r.c.z,.int .i64 r.empty,.int .i64 r.full]]++unds (Try.f13.ntmps - 1),[]⟩ :=
 Qg (n:=400) (evs:=[.v (.bool (farB r)),.b false,.b false,.b false,.v (.agg [.rsl (rowS r.seats) 0 r.seats.length,.rsl (rowP r.feet) 0 r.feet.length,.int .i64 r.frame,.int .i64 r.c.x,.int .i64 r.c.y,.int .i64 r.c.z,.int .i64 r.empty,.int .i64 r.full]),.v (.tup [.rsl (rowB (Qk r)) 0 ((Qk r).length),.int .i64 (((Ql r).1:Nat):Int),.int .i64 (((Ql r).2:Nat):Int),.bool true,.int .i64 0]),.v (.tup [.rsl (rowB (Qk r)) 0 ((Qk r).length),.int .i64 (((Ql r).1:Nat):Int),.int .i64 (((Ql r).2:Nat):Int),.bool true,.int .i64 0]),.v (.bool true),.b true,.b false,.b false,.b false,.b false]) (obs:=_) hE Try.func13 Qj (by kernel_rfl) ho hr
theorem p13_start_20 (r:Rg) {E:Env} {res:AV} (hE:Qh Try.prog 13 res E) (ho:AllP [Qb Try.prog (.clos 22 [] []) [.agg [.rsl (rowS r.seats) 0 r.seats.length,.rsl (rowP r.feet) 0 r.feet.length,.int .i64 r.frame,.int .i64 r.c.x,.int .i64 r.c.y,.int .i64 r.c.z,.int .i64 r.empty,.int .i64 r.full]] (.bool (farB r)),(farB r)=false,(decide ((r.seats.length:Int) > 10))=false,false=false,Qb Try.prog (.clos 24 [] []) [.agg [.rsl (rowS r.seats) 0 r.seats.length,.rsl (rowP r.feet) 0 r.feet.length,.int .i64 r.frame,.int .i64 r.c.x,.int .i64 r.c.y,.int .i64 r.c.z,.int .i64 r.empty,.int .i64 r.full]] (.agg [.rsl (rowS r.seats) 0 r.seats.length,.rsl (rowP r.feet) 0 r.feet.length,.int .i64 r.frame,.int .i64 r.c.x,.int .i64 r.c.y,.int .i64 r.c.z,.int .i64 r.empty,.int .i64 r.full]),Qb Try.prog (.clos 41 [] []) [.agg [.rsl (rowS r.seats) 0 r.seats.length,.rsl (rowP r.feet) 0 r.feet.length,.int .i64 r.frame,.int .i64 r.c.x,.int .i64 r.c.y,.int .i64 r.c.z,.int .i64 r.empty,.int .i64 r.full]] (.tup [.rsl (rowB (Qk r)) 0 ((Qk r).length),.int .i64 (((Ql r).1:Nat):Int),.int .i64 (((Ql r).2:Nat):Int),.bool true,.int .i64 0]),Qb Try.prog (.clos 42 [] []) [.agg [.rsl (rowS r.seats) 0 r.seats.length,.rsl (rowP r.feet) 0 r.feet.length,.int .i64 r.frame,.int .i64 r.c.x,.int .i64 r.c.y,.int .i64 r.c.z,.int .i64 r.empty,.int .i64 r.full]] (.tup [.rsl (rowB (Qk r)) 0 ((Qk r).length),.int .i64 (((Ql r).1:Nat):Int),.int .i64 (((Ql r).2:Nat):Int),.bool true,.int .i64 0]),Qb Try.prog (.clos 43 [] []) [.rsl (rowB (Qk r)) 0 ((Qk r).length),.rsl (rowB (Qk r)) 0 ((Qk r).length)] (.bool true),true=false,false=false,false=false,false=false,false=false])
 (hr:AvLe (.bool false) res):G Try.prog E [.code (Qd Try.prog 13)] ⟨[.agg [.rsl (rowS r.seats) 0 r.seats.length,.rsl (rowP r.feet) 0 r.feet.length,.int .i64 r.frame,.int .i64 r.c.x,.int .i64 r.c.y,.int .i64 r.c.z,.int .i64 r.empty,.int .i64 r.full]]++unds (Try.f13.ntmps - 1),[]⟩ :=
 Qg (n:=400) (evs:=[.v (.bool (farB r)),.b false,.b false,.b false,.v (.agg [.rsl (rowS r.seats) 0 r.seats.length,.rsl (rowP r.feet) 0 r.feet.length,.int .i64 r.frame,.int .i64 r.c.x,.int .i64 r.c.y,.int .i64 r.c.z,.int .i64 r.empty,.int .i64 r.full]),.v (.tup [.rsl (rowB (Qk r)) 0 ((Qk r).length),.int .i64 (((Ql r).1:Nat):Int),.int .i64 (((Ql r).2:Nat):Int),.bool true,.int .i64 0]),.v (.tup [.rsl (rowB (Qk r)) 0 ((Qk r).length),.int .i64 (((Ql r).1:Nat):Int),.int .i64 (((Ql r).2:Nat):Int),.bool true,.int .i64 0]),.v (.bool true),.b false,.b false,.b false,.b false,.b false]) (obs:=_) hE Try.func13 Qj (by kernel_rfl) ho hr
theorem p13_start_21 (r:Rg) {E:Env} {res:AV} (hE:Qh Try.prog 13 res E) (ho:AllP [Qb Try.prog (.clos 22 [] []) [.agg [.rsl (rowS r.seats) 0 r.seats.length,.rsl (rowP r.feet) 0 r.feet.length,.int .i64 r.frame,.int .i64 r.c.x,.int .i64 r.c.y,.int .i64 r.c.z,.int .i64 r.empty,.int .i64 r.full]] (.bool (farB r)),(farB r)=false,(decide ((r.seats.length:Int) > 10))=false,false=false,Qb Try.prog (.clos 24 [] []) [.agg [.rsl (rowS r.seats) 0 r.seats.length,.rsl (rowP r.feet) 0 r.feet.length,.int .i64 r.frame,.int .i64 r.c.x,.int .i64 r.c.y,.int .i64 r.c.z,.int .i64 r.empty,.int .i64 r.full]] (.agg [.rsl (rowS r.seats) 0 r.seats.length,.rsl (rowP r.feet) 0 r.feet.length,.int .i64 r.frame,.int .i64 r.c.x,.int .i64 r.c.y,.int .i64 r.c.z,.int .i64 r.empty,.int .i64 r.full]),Qb Try.prog (.clos 41 [] []) [.agg [.rsl (rowS r.seats) 0 r.seats.length,.rsl (rowP r.feet) 0 r.feet.length,.int .i64 r.frame,.int .i64 r.c.x,.int .i64 r.c.y,.int .i64 r.c.z,.int .i64 r.empty,.int .i64 r.full]] (.tup [.rsl (rowB (Qk r)) 0 ((Qk r).length),.int .i64 (((Ql r).1:Nat):Int),.int .i64 (((Ql r).2:Nat):Int),.bool true,.int .i64 0]),Qb Try.prog (.clos 42 [] []) [.agg [.rsl (rowS r.seats) 0 r.seats.length,.rsl (rowP r.feet) 0 r.feet.length,.int .i64 r.frame,.int .i64 r.c.x,.int .i64 r.c.y,.int .i64 r.c.z,.int .i64 r.empty,.int .i64 r.full]] (.tup [.rsl [] 0 0,.int .i64 0,.int .i64 0,.bool false,.int .i64 (Qf r)]),Qb Try.prog (.clos 43 [] []) [.rsl (rowB (Qk r)) 0 ((Qk r).length),.rsl [] 0 0] (.bool true),true=true,((((Ql r).1:Nat):Int) == 0)=true,((((Ql r).2:Nat):Int) == 0)=true,false=false,false=false])
 (hr:AvLe (.bool false) res):G Try.prog E [.code (Qd Try.prog 13)] ⟨[.agg [.rsl (rowS r.seats) 0 r.seats.length,.rsl (rowP r.feet) 0 r.feet.length,.int .i64 r.frame,.int .i64 r.c.x,.int .i64 r.c.y,.int .i64 r.c.z,.int .i64 r.empty,.int .i64 r.full]]++unds (Try.f13.ntmps - 1),[]⟩ :=
 Qg (n:=400) (evs:=[.v (.bool (farB r)),.b false,.b false,.b false,.v (.agg [.rsl (rowS r.seats) 0 r.seats.length,.rsl (rowP r.feet) 0 r.feet.length,.int .i64 r.frame,.int .i64 r.c.x,.int .i64 r.c.y,.int .i64 r.c.z,.int .i64 r.empty,.int .i64 r.full]),.v (.tup [.rsl (rowB (Qk r)) 0 ((Qk r).length),.int .i64 (((Ql r).1:Nat):Int),.int .i64 (((Ql r).2:Nat):Int),.bool true,.int .i64 0]),.v (.tup [.rsl [] 0 0,.int .i64 0,.int .i64 0,.bool false,.int .i64 (Qf r)]),.v (.bool true),.b true,.b true,.b true,.b false,.b false]) (obs:=_) hE Try.func13 Qj (by kernel_rfl) ho hr
theorem p13_start_22 (r:Rg) {E:Env} {res:AV} (hE:Qh Try.prog 13 res E) (ho:AllP [Qb Try.prog (.clos 22 [] []) [.agg [.rsl (rowS r.seats) 0 r.seats.length,.rsl (rowP r.feet) 0 r.feet.length,.int .i64 r.frame,.int .i64 r.c.x,.int .i64 r.c.y,.int .i64 r.c.z,.int .i64 r.empty,.int .i64 r.full]] (.bool (farB r)),(farB r)=false,(decide ((r.seats.length:Int) > 10))=false,false=false,Qb Try.prog (.clos 24 [] []) [.agg [.rsl (rowS r.seats) 0 r.seats.length,.rsl (rowP r.feet) 0 r.feet.length,.int .i64 r.frame,.int .i64 r.c.x,.int .i64 r.c.y,.int .i64 r.c.z,.int .i64 r.empty,.int .i64 r.full]] (.agg [.rsl (rowS r.seats) 0 r.seats.length,.rsl (rowP r.feet) 0 r.feet.length,.int .i64 r.frame,.int .i64 r.c.x,.int .i64 r.c.y,.int .i64 r.c.z,.int .i64 r.empty,.int .i64 r.full]),Qb Try.prog (.clos 41 [] []) [.agg [.rsl (rowS r.seats) 0 r.seats.length,.rsl (rowP r.feet) 0 r.feet.length,.int .i64 r.frame,.int .i64 r.c.x,.int .i64 r.c.y,.int .i64 r.c.z,.int .i64 r.empty,.int .i64 r.full]] (.tup [.rsl (rowB (Qk r)) 0 ((Qk r).length),.int .i64 (((Ql r).1:Nat):Int),.int .i64 (((Ql r).2:Nat):Int),.bool true,.int .i64 0]),Qb Try.prog (.clos 42 [] []) [.agg [.rsl (rowS r.seats) 0 r.seats.length,.rsl (rowP r.feet) 0 r.feet.length,.int .i64 r.frame,.int .i64 r.c.x,.int .i64 r.c.y,.int .i64 r.c.z,.int .i64 r.empty,.int .i64 r.full]] (.tup [.rsl [] 0 0,.int .i64 0,.int .i64 0,.bool false,.int .i64 (Qf r)]),Qb Try.prog (.clos 43 [] []) [.rsl (rowB (Qk r)) 0 ((Qk r).length),.rsl [] 0 0] (.bool true),true=true,((((Ql r).1:Nat):Int) == 0)=true,((((Ql r).2:Nat):Int) == 0)=false,false=false,false=false])
 (hr:AvLe (.bool false) res):G Try.prog E [.code (Qd Try.prog 13)] ⟨[.agg [.rsl (rowS r.seats) 0 r.seats.length,.rsl (rowP r.feet) 0 r.feet.length,.int .i64 r.frame,.int .i64 r.c.x,.int .i64 r.c.y,.int .i64 r.c.z,.int .i64 r.empty,.int .i64 r.full]]++unds (Try.f13.ntmps - 1),[]⟩ :=
 Qg (n:=400) (evs:=[.v (.bool (farB r)),.b false,.b false,.b false,.v (.agg [.rsl (rowS r.seats) 0 r.seats.length,.rsl (rowP r.feet) 0 r.feet.length,.int .i64 r.frame,.int .i64 r.c.x,.int .i64 r.c.y,.int .i64 r.c.z,.int .i64 r.empty,.int .i64 r.full]),.v (.tup [.rsl (rowB (Qk r)) 0 ((Qk r).length),.int .i64 (((Ql r).1:Nat):Int),.int .i64 (((Ql r).2:Nat):Int),.bool true,.int .i64 0]),.v (.tup [.rsl [] 0 0,.int .i64 0,.int .i64 0,.bool false,.int .i64 (Qf r)]),.v (.bool true),.b true,.b true,.b false,.b false,.b false]) (obs:=_) hE Try.func13 Qj (by kernel_rfl) ho hr
theorem p13_start_23 (r:Rg) {E:Env} {res:AV} (hE:Qh Try.prog 13 res E) (ho:AllP [Qb Try.prog (.clos 22 [] []) [.agg [.rsl (rowS r.seats) 0 r.seats.length,.rsl (rowP r.feet) 0 r.feet.length,.int .i64 r.frame,.int .i64 r.c.x,.int .i64 r.c.y,.int .i64 r.c.z,.int .i64 r.empty,.int .i64 r.full]] (.bool (farB r)),(farB r)=false,(decide ((r.seats.length:Int) > 10))=false,false=false,Qb Try.prog (.clos 24 [] []) [.agg [.rsl (rowS r.seats) 0 r.seats.length,.rsl (rowP r.feet) 0 r.feet.length,.int .i64 r.frame,.int .i64 r.c.x,.int .i64 r.c.y,.int .i64 r.c.z,.int .i64 r.empty,.int .i64 r.full]] (.agg [.rsl (rowS r.seats) 0 r.seats.length,.rsl (rowP r.feet) 0 r.feet.length,.int .i64 r.frame,.int .i64 r.c.x,.int .i64 r.c.y,.int .i64 r.c.z,.int .i64 r.empty,.int .i64 r.full]),Qb Try.prog (.clos 41 [] []) [.agg [.rsl (rowS r.seats) 0 r.seats.length,.rsl (rowP r.feet) 0 r.feet.length,.int .i64 r.frame,.int .i64 r.c.x,.int .i64 r.c.y,.int .i64 r.c.z,.int .i64 r.empty,.int .i64 r.full]] (.tup [.rsl (rowB (Qk r)) 0 ((Qk r).length),.int .i64 (((Ql r).1:Nat):Int),.int .i64 (((Ql r).2:Nat):Int),.bool true,.int .i64 0]),Qb Try.prog (.clos 42 [] []) [.agg [.rsl (rowS r.seats) 0 r.seats.length,.rsl (rowP r.feet) 0 r.feet.length,.int .i64 r.frame,.int .i64 r.c.x,.int .i64 r.c.y,.int .i64 r.c.z,.int .i64 r.empty,.int .i64 r.full]] (.tup [.rsl [] 0 0,.int .i64 0,.int .i64 0,.bool false,.int .i64 (Qf r)]),Qb Try.prog (.clos 43 [] []) [.rsl (rowB (Qk r)) 0 ((Qk r).length),.rsl [] 0 0] (.bool true),true=true,((((Ql r).1:Nat):Int) == 0)=false,false=false,false=false,false=false])
 (hr:AvLe (.bool false) res):G Try.prog E [.code (Qd Try.prog 13)] ⟨[.agg [.rsl (rowS r.seats) 0 r.seats.length,.rsl (rowP r.feet) 0 r.feet.length,.int .i64 r.frame,.int .i64 r.c.x,.int .i64 r.c.y,.int .i64 r.c.z,.int .i64 r.empty,.int .i64 r.full]]++unds (Try.f13.ntmps - 1),[]⟩ :=
 Qg (n:=400) (evs:=[.v (.bool (farB r)),.b false,.b false,.b false,.v (.agg [.rsl (rowS r.seats) 0 r.seats.length,.rsl (rowP r.feet) 0 r.feet.length,.int .i64 r.frame,.int .i64 r.c.x,.int .i64 r.c.y,.int .i64 r.c.z,.int .i64 r.empty,.int .i64 r.full]),.v (.tup [.rsl (rowB (Qk r)) 0 ((Qk r).length),.int .i64 (((Ql r).1:Nat):Int),.int .i64 (((Ql r).2:Nat):Int),.bool true,.int .i64 0]),.v (.tup [.rsl [] 0 0,.int .i64 0,.int .i64 0,.bool false,.int .i64 (Qf r)]),.v (.bool true),.b true,.b false,.b false,.b false,.b false]) (obs:=_) hE Try.func13 Qj (by kernel_rfl) ho hr
theorem p13_start_24 (r:Rg) {E:Env} {res:AV} (hE:Qh Try.prog 13 res E) (ho:AllP [Qb Try.prog (.clos 22 [] []) [.agg [.rsl (rowS r.seats) 0 r.seats.length,.rsl (rowP r.feet) 0 r.feet.length,.int .i64 r.frame,.int .i64 r.c.x,.int .i64 r.c.y,.int .i64 r.c.z,.int .i64 r.empty,.int .i64 r.full]] (.bool (farB r)),(farB r)=false,(decide ((r.seats.length:Int) > 10))=false,false=false,Qb Try.prog (.clos 24 [] []) [.agg [.rsl (rowS r.seats) 0 r.seats.length,.rsl (rowP r.feet) 0 r.feet.length,.int .i64 r.frame,.int .i64 r.c.x,.int .i64 r.c.y,.int .i64 r.c.z,.int .i64 r.empty,.int .i64 r.full]] (.agg [.rsl (rowS r.seats) 0 r.seats.length,.rsl (rowP r.feet) 0 r.feet.length,.int .i64 r.frame,.int .i64 r.c.x,.int .i64 r.c.y,.int .i64 r.c.z,.int .i64 r.empty,.int .i64 r.full]),Qb Try.prog (.clos 41 [] []) [.agg [.rsl (rowS r.seats) 0 r.seats.length,.rsl (rowP r.feet) 0 r.feet.length,.int .i64 r.frame,.int .i64 r.c.x,.int .i64 r.c.y,.int .i64 r.c.z,.int .i64 r.empty,.int .i64 r.full]] (.tup [.rsl (rowB (Qk r)) 0 ((Qk r).length),.int .i64 (((Ql r).1:Nat):Int),.int .i64 (((Ql r).2:Nat):Int),.bool true,.int .i64 0]),Qb Try.prog (.clos 42 [] []) [.agg [.rsl (rowS r.seats) 0 r.seats.length,.rsl (rowP r.feet) 0 r.feet.length,.int .i64 r.frame,.int .i64 r.c.x,.int .i64 r.c.y,.int .i64 r.c.z,.int .i64 r.empty,.int .i64 r.full]] (.tup [.rsl [] 0 0,.int .i64 0,.int .i64 0,.bool false,.int .i64 (Qf r)]),Qb Try.prog (.clos 43 [] []) [.rsl (rowB (Qk r)) 0 ((Qk r).length),.rsl [] 0 0] (.bool true),true=false,false=false,false=false,false=false,false=false])
 (hr:AvLe (.bool false) res):G Try.prog E [.code (Qd Try.prog 13)] ⟨[.agg [.rsl (rowS r.seats) 0 r.seats.length,.rsl (rowP r.feet) 0 r.feet.length,.int .i64 r.frame,.int .i64 r.c.x,.int .i64 r.c.y,.int .i64 r.c.z,.int .i64 r.empty,.int .i64 r.full]]++unds (Try.f13.ntmps - 1),[]⟩ :=
 Qg (n:=400) (evs:=[.v (.bool (farB r)),.b false,.b false,.b false,.v (.agg [.rsl (rowS r.seats) 0 r.seats.length,.rsl (rowP r.feet) 0 r.feet.length,.int .i64 r.frame,.int .i64 r.c.x,.int .i64 r.c.y,.int .i64 r.c.z,.int .i64 r.empty,.int .i64 r.full]),.v (.tup [.rsl (rowB (Qk r)) 0 ((Qk r).length),.int .i64 (((Ql r).1:Nat):Int),.int .i64 (((Ql r).2:Nat):Int),.bool true,.int .i64 0]),.v (.tup [.rsl [] 0 0,.int .i64 0,.int .i64 0,.bool false,.int .i64 (Qf r)]),.v (.bool true),.b false,.b false,.b false,.b false,.b false]) (obs:=_) hE Try.func13 Qj (by kernel_rfl) ho hr
theorem p13_start_25 (r:Rg) {E:Env} {res:AV} (hE:Qh Try.prog 13 res E) (ho:AllP [Qb Try.prog (.clos 22 [] []) [.agg [.rsl (rowS r.seats) 0 r.seats.length,.rsl (rowP r.feet) 0 r.feet.length,.int .i64 r.frame,.int .i64 r.c.x,.int .i64 r.c.y,.int .i64 r.c.z,.int .i64 r.empty,.int .i64 r.full]] (.bool (farB r)),(farB r)=false,(decide ((r.seats.length:Int) > 10))=false,false=false,Qb Try.prog (.clos 24 [] []) [.agg [.rsl (rowS r.seats) 0 r.seats.length,.rsl (rowP r.feet) 0 r.feet.length,.int .i64 r.frame,.int .i64 r.c.x,.int .i64 r.c.y,.int .i64 r.c.z,.int .i64 r.empty,.int .i64 r.full]] (.agg [.rsl (rowS r.seats) 0 r.seats.length,.rsl (rowP r.feet) 0 r.feet.length,.int .i64 r.frame,.int .i64 r.c.x,.int .i64 r.c.y,.int .i64 r.c.z,.int .i64 r.empty,.int .i64 r.full]),Qb Try.prog (.clos 41 [] []) [.agg [.rsl (rowS r.seats) 0 r.seats.length,.rsl (rowP r.feet) 0 r.feet.length,.int .i64 r.frame,.int .i64 r.c.x,.int .i64 r.c.y,.int .i64 r.c.z,.int .i64 r.empty,.int .i64 r.full]] (.tup [.rsl [] 0 0,.int .i64 0,.int .i64 0,.bool false,.int .i64 (Qf r)]),Qb Try.prog (.clos 42 [] []) [.agg [.rsl (rowS r.seats) 0 r.seats.length,.rsl (rowP r.feet) 0 r.feet.length,.int .i64 r.frame,.int .i64 r.c.x,.int .i64 r.c.y,.int .i64 r.c.z,.int .i64 r.empty,.int .i64 r.full]] (.tup [.rsl (rowB (Qk r)) 0 ((Qk r).length),.int .i64 (((Ql r).1:Nat):Int),.int .i64 (((Ql r).2:Nat):Int),.bool true,.int .i64 0]),Qb Try.prog (.clos 43 [] []) [.rsl [] 0 0,.rsl (rowB (Qk r)) 0 ((Qk r).length)] (.bool true),true=true,(0 == (((Ql r).1:Nat):Int))=true,(0 == (((Ql r).2:Nat):Int))=true,false=false,false=false])
 (hr:AvLe (.bool false) res):G Try.prog E [.code (Qd Try.prog 13)] ⟨[.agg [.rsl (rowS r.seats) 0 r.seats.length,.rsl (rowP r.feet) 0 r.feet.length,.int .i64 r.frame,.int .i64 r.c.x,.int .i64 r.c.y,.int .i64 r.c.z,.int .i64 r.empty,.int .i64 r.full]]++unds (Try.f13.ntmps - 1),[]⟩ :=
 Qg (n:=400) (evs:=[.v (.bool (farB r)),.b false,.b false,.b false,.v (.agg [.rsl (rowS r.seats) 0 r.seats.length,.rsl (rowP r.feet) 0 r.feet.length,.int .i64 r.frame,.int .i64 r.c.x,.int .i64 r.c.y,.int .i64 r.c.z,.int .i64 r.empty,.int .i64 r.full]),.v (.tup [.rsl [] 0 0,.int .i64 0,.int .i64 0,.bool false,.int .i64 (Qf r)]),.v (.tup [.rsl (rowB (Qk r)) 0 ((Qk r).length),.int .i64 (((Ql r).1:Nat):Int),.int .i64 (((Ql r).2:Nat):Int),.bool true,.int .i64 0]),.v (.bool true),.b true,.b true,.b true,.b false,.b false]) (obs:=_) hE Try.func13 Qj (by kernel_rfl) ho hr
theorem p13_start_26 (r:Rg) {E:Env} {res:AV} (hE:Qh Try.prog 13 res E) (ho:AllP [Qb Try.prog (.clos 22 [] []) [.agg [.rsl (rowS r.seats) 0 r.seats.length,.rsl (rowP r.feet) 0 r.feet.length,.int .i64 r.frame,.int .i64 r.c.x,.int .i64 r.c.y,.int .i64 r.c.z,.int .i64 r.empty,.int .i64 r.full]] (.bool (farB r)),(farB r)=false,(decide ((r.seats.length:Int) > 10))=false,false=false,Qb Try.prog (.clos 24 [] []) [.agg [.rsl (rowS r.seats) 0 r.seats.length,.rsl (rowP r.feet) 0 r.feet.length,.int .i64 r.frame,.int .i64 r.c.x,.int .i64 r.c.y,.int .i64 r.c.z,.int .i64 r.empty,.int .i64 r.full]] (.agg [.rsl (rowS r.seats) 0 r.seats.length,.rsl (rowP r.feet) 0 r.feet.length,.int .i64 r.frame,.int .i64 r.c.x,.int .i64 r.c.y,.int .i64 r.c.z,.int .i64 r.empty,.int .i64 r.full]),Qb Try.prog (.clos 41 [] []) [.agg [.rsl (rowS r.seats) 0 r.seats.length,.rsl (rowP r.feet) 0 r.feet.length,.int .i64 r.frame,.int .i64 r.c.x,.int .i64 r.c.y,.int .i64 r.c.z,.int .i64 r.empty,.int .i64 r.full]] (.tup [.rsl [] 0 0,.int .i64 0,.int .i64 0,.bool false,.int .i64 (Qf r)]),Qb Try.prog (.clos 42 [] []) [.agg [.rsl (rowS r.seats) 0 r.seats.length,.rsl (rowP r.feet) 0 r.feet.length,.int .i64 r.frame,.int .i64 r.c.x,.int .i64 r.c.y,.int .i64 r.c.z,.int .i64 r.empty,.int .i64 r.full]] (.tup [.rsl (rowB (Qk r)) 0 ((Qk r).length),.int .i64 (((Ql r).1:Nat):Int),.int .i64 (((Ql r).2:Nat):Int),.bool true,.int .i64 0]),Qb Try.prog (.clos 43 [] []) [.rsl [] 0 0,.rsl (rowB (Qk r)) 0 ((Qk r).length)] (.bool true),true=true,(0 == (((Ql r).1:Nat):Int))=true,(0 == (((Ql r).2:Nat):Int))=false,false=false,false=false])
 (hr:AvLe (.bool false) res):G Try.prog E [.code (Qd Try.prog 13)] ⟨[.agg [.rsl (rowS r.seats) 0 r.seats.length,.rsl (rowP r.feet) 0 r.feet.length,.int .i64 r.frame,.int .i64 r.c.x,.int .i64 r.c.y,.int .i64 r.c.z,.int .i64 r.empty,.int .i64 r.full]]++unds (Try.f13.ntmps - 1),[]⟩ :=
 Qg (n:=400) (evs:=[.v (.bool (farB r)),.b false,.b false,.b false,.v (.agg [.rsl (rowS r.seats) 0 r.seats.length,.rsl (rowP r.feet) 0 r.feet.length,.int .i64 r.frame,.int .i64 r.c.x,.int .i64 r.c.y,.int .i64 r.c.z,.int .i64 r.empty,.int .i64 r.full]),.v (.tup [.rsl [] 0 0,.int .i64 0,.int .i64 0,.bool false,.int .i64 (Qf r)]),.v (.tup [.rsl (rowB (Qk r)) 0 ((Qk r).length),.int .i64 (((Ql r).1:Nat):Int),.int .i64 (((Ql r).2:Nat):Int),.bool true,.int .i64 0]),.v (.bool true),.b true,.b true,.b false,.b false,.b false]) (obs:=_) hE Try.func13 Qj (by kernel_rfl) ho hr
theorem p13_start_27 (r:Rg) {E:Env} {res:AV} (hE:Qh Try.prog 13 res E) (ho:AllP [Qb Try.prog (.clos 22 [] []) [.agg [.rsl (rowS r.seats) 0 r.seats.length,.rsl (rowP r.feet) 0 r.feet.length,.int .i64 r.frame,.int .i64 r.c.x,.int .i64 r.c.y,.int .i64 r.c.z,.int .i64 r.empty,.int .i64 r.full]] (.bool (farB r)),(farB r)=false,(decide ((r.seats.length:Int) > 10))=false,false=false,Qb Try.prog (.clos 24 [] []) [.agg [.rsl (rowS r.seats) 0 r.seats.length,.rsl (rowP r.feet) 0 r.feet.length,.int .i64 r.frame,.int .i64 r.c.x,.int .i64 r.c.y,.int .i64 r.c.z,.int .i64 r.empty,.int .i64 r.full]] (.agg [.rsl (rowS r.seats) 0 r.seats.length,.rsl (rowP r.feet) 0 r.feet.length,.int .i64 r.frame,.int .i64 r.c.x,.int .i64 r.c.y,.int .i64 r.c.z,.int .i64 r.empty,.int .i64 r.full]),Qb Try.prog (.clos 41 [] []) [.agg [.rsl (rowS r.seats) 0 r.seats.length,.rsl (rowP r.feet) 0 r.feet.length,.int .i64 r.frame,.int .i64 r.c.x,.int .i64 r.c.y,.int .i64 r.c.z,.int .i64 r.empty,.int .i64 r.full]] (.tup [.rsl [] 0 0,.int .i64 0,.int .i64 0,.bool false,.int .i64 (Qf r)]),Qb Try.prog (.clos 42 [] []) [.agg [.rsl (rowS r.seats) 0 r.seats.length,.rsl (rowP r.feet) 0 r.feet.length,.int .i64 r.frame,.int .i64 r.c.x,.int .i64 r.c.y,.int .i64 r.c.z,.int .i64 r.empty,.int .i64 r.full]] (.tup [.rsl (rowB (Qk r)) 0 ((Qk r).length),.int .i64 (((Ql r).1:Nat):Int),.int .i64 (((Ql r).2:Nat):Int),.bool true,.int .i64 0]),Qb Try.prog (.clos 43 [] []) [.rsl [] 0 0,.rsl (rowB (Qk r)) 0 ((Qk r).length)] (.bool true),true=true,(0 == (((Ql r).1:Nat):Int))=false,false=false,false=false,false=false])
 (hr:AvLe (.bool false) res):G Try.prog E [.code (Qd Try.prog 13)] ⟨[.agg [.rsl (rowS r.seats) 0 r.seats.length,.rsl (rowP r.feet) 0 r.feet.length,.int .i64 r.frame,.int .i64 r.c.x,.int .i64 r.c.y,.int .i64 r.c.z,.int .i64 r.empty,.int .i64 r.full]]++unds (Try.f13.ntmps - 1),[]⟩ :=
 Qg (n:=400) (evs:=[.v (.bool (farB r)),.b false,.b false,.b false,.v (.agg [.rsl (rowS r.seats) 0 r.seats.length,.rsl (rowP r.feet) 0 r.feet.length,.int .i64 r.frame,.int .i64 r.c.x,.int .i64 r.c.y,.int .i64 r.c.z,.int .i64 r.empty,.int .i64 r.full]),.v (.tup [.rsl [] 0 0,.int .i64 0,.int .i64 0,.bool false,.int .i64 (Qf r)]),.v (.tup [.rsl (rowB (Qk r)) 0 ((Qk r).length),.int .i64 (((Ql r).1:Nat):Int),.int .i64 (((Ql r).2:Nat):Int),.bool true,.int .i64 0]),.v (.bool true),.b true,.b false,.b false,.b false,.b false]) (obs:=_) hE Try.func13 Qj (by kernel_rfl) ho hr
theorem p13_start_28 (r:Rg) {E:Env} {res:AV} (hE:Qh Try.prog 13 res E) (ho:AllP [Qb Try.prog (.clos 22 [] []) [.agg [.rsl (rowS r.seats) 0 r.seats.length,.rsl (rowP r.feet) 0 r.feet.length,.int .i64 r.frame,.int .i64 r.c.x,.int .i64 r.c.y,.int .i64 r.c.z,.int .i64 r.empty,.int .i64 r.full]] (.bool (farB r)),(farB r)=false,(decide ((r.seats.length:Int) > 10))=false,false=false,Qb Try.prog (.clos 24 [] []) [.agg [.rsl (rowS r.seats) 0 r.seats.length,.rsl (rowP r.feet) 0 r.feet.length,.int .i64 r.frame,.int .i64 r.c.x,.int .i64 r.c.y,.int .i64 r.c.z,.int .i64 r.empty,.int .i64 r.full]] (.agg [.rsl (rowS r.seats) 0 r.seats.length,.rsl (rowP r.feet) 0 r.feet.length,.int .i64 r.frame,.int .i64 r.c.x,.int .i64 r.c.y,.int .i64 r.c.z,.int .i64 r.empty,.int .i64 r.full]),Qb Try.prog (.clos 41 [] []) [.agg [.rsl (rowS r.seats) 0 r.seats.length,.rsl (rowP r.feet) 0 r.feet.length,.int .i64 r.frame,.int .i64 r.c.x,.int .i64 r.c.y,.int .i64 r.c.z,.int .i64 r.empty,.int .i64 r.full]] (.tup [.rsl [] 0 0,.int .i64 0,.int .i64 0,.bool false,.int .i64 (Qf r)]),Qb Try.prog (.clos 42 [] []) [.agg [.rsl (rowS r.seats) 0 r.seats.length,.rsl (rowP r.feet) 0 r.feet.length,.int .i64 r.frame,.int .i64 r.c.x,.int .i64 r.c.y,.int .i64 r.c.z,.int .i64 r.empty,.int .i64 r.full]] (.tup [.rsl (rowB (Qk r)) 0 ((Qk r).length),.int .i64 (((Ql r).1:Nat):Int),.int .i64 (((Ql r).2:Nat):Int),.bool true,.int .i64 0]),Qb Try.prog (.clos 43 [] []) [.rsl [] 0 0,.rsl (rowB (Qk r)) 0 ((Qk r).length)] (.bool true),true=false,false=false,false=false,false=false,false=false])
 (hr:AvLe (.bool false) res):G Try.prog E [.code (Qd Try.prog 13)] ⟨[.agg [.rsl (rowS r.seats) 0 r.seats.length,.rsl (rowP r.feet) 0 r.feet.length,.int .i64 r.frame,.int .i64 r.c.x,.int .i64 r.c.y,.int .i64 r.c.z,.int .i64 r.empty,.int .i64 r.full]]++unds (Try.f13.ntmps - 1),[]⟩ :=
 Qg (n:=400) (evs:=[.v (.bool (farB r)),.b false,.b false,.b false,.v (.agg [.rsl (rowS r.seats) 0 r.seats.length,.rsl (rowP r.feet) 0 r.feet.length,.int .i64 r.frame,.int .i64 r.c.x,.int .i64 r.c.y,.int .i64 r.c.z,.int .i64 r.empty,.int .i64 r.full]),.v (.tup [.rsl [] 0 0,.int .i64 0,.int .i64 0,.bool false,.int .i64 (Qf r)]),.v (.tup [.rsl (rowB (Qk r)) 0 ((Qk r).length),.int .i64 (((Ql r).1:Nat):Int),.int .i64 (((Ql r).2:Nat):Int),.bool true,.int .i64 0]),.v (.bool true),.b false,.b false,.b false,.b false,.b false]) (obs:=_) hE Try.func13 Qj (by kernel_rfl) ho hr
theorem p13_start_29 (r:Rg) {E:Env} {res:AV} (hE:Qh Try.prog 13 res E) (ho:AllP [Qb Try.prog (.clos 22 [] []) [.agg [.rsl (rowS r.seats) 0 r.seats.length,.rsl (rowP r.feet) 0 r.feet.length,.int .i64 r.frame,.int .i64 r.c.x,.int .i64 r.c.y,.int .i64 r.c.z,.int .i64 r.empty,.int .i64 r.full]] (.bool (farB r)),(farB r)=false,(decide ((r.seats.length:Int) > 10))=false,false=false,Qb Try.prog (.clos 24 [] []) [.agg [.rsl (rowS r.seats) 0 r.seats.length,.rsl (rowP r.feet) 0 r.feet.length,.int .i64 r.frame,.int .i64 r.c.x,.int .i64 r.c.y,.int .i64 r.c.z,.int .i64 r.empty,.int .i64 r.full]] (.agg [.rsl (rowS r.seats) 0 r.seats.length,.rsl (rowP r.feet) 0 r.feet.length,.int .i64 r.frame,.int .i64 r.c.x,.int .i64 r.c.y,.int .i64 r.c.z,.int .i64 r.empty,.int .i64 r.full]),Qb Try.prog (.clos 41 [] []) [.agg [.rsl (rowS r.seats) 0 r.seats.length,.rsl (rowP r.feet) 0 r.feet.length,.int .i64 r.frame,.int .i64 r.c.x,.int .i64 r.c.y,.int .i64 r.c.z,.int .i64 r.empty,.int .i64 r.full]] (.tup [.rsl [] 0 0,.int .i64 0,.int .i64 0,.bool false,.int .i64 (Qf r)]),Qb Try.prog (.clos 42 [] []) [.agg [.rsl (rowS r.seats) 0 r.seats.length,.rsl (rowP r.feet) 0 r.feet.length,.int .i64 r.frame,.int .i64 r.c.x,.int .i64 r.c.y,.int .i64 r.c.z,.int .i64 r.empty,.int .i64 r.full]] (.tup [.rsl [] 0 0,.int .i64 0,.int .i64 0,.bool false,.int .i64 (Qf r)]),Qb Try.prog (.clos 43 [] []) [.rsl [] 0 0,.rsl [] 0 0] (.bool true),true=true,true=true,true=true,true=true,((Qf r) == (Qf r))=true,Qb Try.prog (.clos 15 [] []) [] (.bool true)])
 (hr:AvLe (.bool true) res):G Try.prog E [.code (Qd Try.prog 13)] ⟨[.agg [.rsl (rowS r.seats) 0 r.seats.length,.rsl (rowP r.feet) 0 r.feet.length,.int .i64 r.frame,.int .i64 r.c.x,.int .i64 r.c.y,.int .i64 r.c.z,.int .i64 r.empty,.int .i64 r.full]]++unds (Try.f13.ntmps - 1),[]⟩ :=
 Qg (n:=400) (evs:=[.v (.bool (farB r)),.b false,.b false,.b false,.v (.agg [.rsl (rowS r.seats) 0 r.seats.length,.rsl (rowP r.feet) 0 r.feet.length,.int .i64 r.frame,.int .i64 r.c.x,.int .i64 r.c.y,.int .i64 r.c.z,.int .i64 r.empty,.int .i64 r.full]),.v (.tup [.rsl [] 0 0,.int .i64 0,.int .i64 0,.bool false,.int .i64 (Qf r)]),.v (.tup [.rsl [] 0 0,.int .i64 0,.int .i64 0,.bool false,.int .i64 (Qf r)]),.v (.bool true),.b true,.b true,.b true,.b true,.b true,.v (.bool true)]) (obs:=_) hE Try.func13 Qj (by kernel_rfl) ho hr
theorem p13_start_30 (r:Rg) {E:Env} {res:AV} (hE:Qh Try.prog 13 res E) (ho:AllP [Qb Try.prog (.clos 22 [] []) [.agg [.rsl (rowS r.seats) 0 r.seats.length,.rsl (rowP r.feet) 0 r.feet.length,.int .i64 r.frame,.int .i64 r.c.x,.int .i64 r.c.y,.int .i64 r.c.z,.int .i64 r.empty,.int .i64 r.full]] (.bool (farB r)),(farB r)=false,(decide ((r.seats.length:Int) > 10))=false,false=false,Qb Try.prog (.clos 24 [] []) [.agg [.rsl (rowS r.seats) 0 r.seats.length,.rsl (rowP r.feet) 0 r.feet.length,.int .i64 r.frame,.int .i64 r.c.x,.int .i64 r.c.y,.int .i64 r.c.z,.int .i64 r.empty,.int .i64 r.full]] (.agg [.rsl (rowS r.seats) 0 r.seats.length,.rsl (rowP r.feet) 0 r.feet.length,.int .i64 r.frame,.int .i64 r.c.x,.int .i64 r.c.y,.int .i64 r.c.z,.int .i64 r.empty,.int .i64 r.full]),Qb Try.prog (.clos 41 [] []) [.agg [.rsl (rowS r.seats) 0 r.seats.length,.rsl (rowP r.feet) 0 r.feet.length,.int .i64 r.frame,.int .i64 r.c.x,.int .i64 r.c.y,.int .i64 r.c.z,.int .i64 r.empty,.int .i64 r.full]] (.tup [.rsl [] 0 0,.int .i64 0,.int .i64 0,.bool false,.int .i64 (Qf r)]),Qb Try.prog (.clos 42 [] []) [.agg [.rsl (rowS r.seats) 0 r.seats.length,.rsl (rowP r.feet) 0 r.feet.length,.int .i64 r.frame,.int .i64 r.c.x,.int .i64 r.c.y,.int .i64 r.c.z,.int .i64 r.empty,.int .i64 r.full]] (.tup [.rsl [] 0 0,.int .i64 0,.int .i64 0,.bool false,.int .i64 (Qf r)]),Qb Try.prog (.clos 43 [] []) [.rsl [] 0 0,.rsl [] 0 0] (.bool true),true=true,true=true,true=true,true=true,((Qf r) == (Qf r))=false])
 (hr:AvLe (.bool false) res):G Try.prog E [.code (Qd Try.prog 13)] ⟨[.agg [.rsl (rowS r.seats) 0 r.seats.length,.rsl (rowP r.feet) 0 r.feet.length,.int .i64 r.frame,.int .i64 r.c.x,.int .i64 r.c.y,.int .i64 r.c.z,.int .i64 r.empty,.int .i64 r.full]]++unds (Try.f13.ntmps - 1),[]⟩ :=
 Qg (n:=400) (evs:=[.v (.bool (farB r)),.b false,.b false,.b false,.v (.agg [.rsl (rowS r.seats) 0 r.seats.length,.rsl (rowP r.feet) 0 r.feet.length,.int .i64 r.frame,.int .i64 r.c.x,.int .i64 r.c.y,.int .i64 r.c.z,.int .i64 r.empty,.int .i64 r.full]),.v (.tup [.rsl [] 0 0,.int .i64 0,.int .i64 0,.bool false,.int .i64 (Qf r)]),.v (.tup [.rsl [] 0 0,.int .i64 0,.int .i64 0,.bool false,.int .i64 (Qf r)]),.v (.bool true),.b true,.b true,.b true,.b true,.b false]) (obs:=_) hE Try.func13 Qj (by kernel_rfl) ho hr
theorem p13_start_31 (r:Rg) {E:Env} {res:AV} (hE:Qh Try.prog 13 res E) (ho:AllP [Qb Try.prog (.clos 22 [] []) [.agg [.rsl (rowS r.seats) 0 r.seats.length,.rsl (rowP r.feet) 0 r.feet.length,.int .i64 r.frame,.int .i64 r.c.x,.int .i64 r.c.y,.int .i64 r.c.z,.int .i64 r.empty,.int .i64 r.full]] (.bool (farB r)),(farB r)=false,(decide ((r.seats.length:Int) > 10))=false,false=false,Qb Try.prog (.clos 24 [] []) [.agg [.rsl (rowS r.seats) 0 r.seats.length,.rsl (rowP r.feet) 0 r.feet.length,.int .i64 r.frame,.int .i64 r.c.x,.int .i64 r.c.y,.int .i64 r.c.z,.int .i64 r.empty,.int .i64 r.full]] (.agg [.rsl (rowS r.seats) 0 r.seats.length,.rsl (rowP r.feet) 0 r.feet.length,.int .i64 r.frame,.int .i64 r.c.x,.int .i64 r.c.y,.int .i64 r.c.z,.int .i64 r.empty,.int .i64 r.full]),Qb Try.prog (.clos 41 [] []) [.agg [.rsl (rowS r.seats) 0 r.seats.length,.rsl (rowP r.feet) 0 r.feet.length,.int .i64 r.frame,.int .i64 r.c.x,.int .i64 r.c.y,.int .i64 r.c.z,.int .i64 r.empty,.int .i64 r.full]] (.tup [.rsl [] 0 0,.int .i64 0,.int .i64 0,.bool false,.int .i64 (Qf r)]),Qb Try.prog (.clos 42 [] []) [.agg [.rsl (rowS r.seats) 0 r.seats.length,.rsl (rowP r.feet) 0 r.feet.length,.int .i64 r.frame,.int .i64 r.c.x,.int .i64 r.c.y,.int .i64 r.c.z,.int .i64 r.empty,.int .i64 r.full]] (.tup [.rsl [] 0 0,.int .i64 0,.int .i64 0,.bool false,.int .i64 (Qf r)]),Qb Try.prog (.clos 43 [] []) [.rsl [] 0 0,.rsl [] 0 0] (.bool true),true=false,false=false,false=false,false=false,false=false])
 (hr:AvLe (.bool false) res):G Try.prog E [.code (Qd Try.prog 13)] ⟨[.agg [.rsl (rowS r.seats) 0 r.seats.length,.rsl (rowP r.feet) 0 r.feet.length,.int .i64 r.frame,.int .i64 r.c.x,.int .i64 r.c.y,.int .i64 r.c.z,.int .i64 r.empty,.int .i64 r.full]]++unds (Try.f13.ntmps - 1),[]⟩ :=
 Qg (n:=400) (evs:=[.v (.bool (farB r)),.b false,.b false,.b false,.v (.agg [.rsl (rowS r.seats) 0 r.seats.length,.rsl (rowP r.feet) 0 r.feet.length,.int .i64 r.frame,.int .i64 r.c.x,.int .i64 r.c.y,.int .i64 r.c.z,.int .i64 r.empty,.int .i64 r.full]),.v (.tup [.rsl [] 0 0,.int .i64 0,.int .i64 0,.bool false,.int .i64 (Qf r)]),.v (.tup [.rsl [] 0 0,.int .i64 0,.int .i64 0,.bool false,.int .i64 (Qf r)]),.v (.bool true),.b false,.b false,.b false,.b false,.b false]) (obs:=_) hE Try.func13 Qj (by kernel_rfl) ho hr
theorem f13W (r:Rg) {E:Env} {rv:Bool} (hE:Qh Try.prog 13 (.bool rv) E)
 (h:(((farB r)=true→rv=true)∧((farB r)=false→(((r.seats.length:Int) > 10→(((r.seats.length:Int)≤20→rv=true)∧(¬ ((r.seats.length:Int)≤20)→((RigSmall r)∧(((XD r)=true→((RigSmall r∧(Xw r=true→r.seats.length≤19))∧(((XD r)=true→((RigSmall r)∧(((Qk r)=(Qk r)∧(Qk r).length≤1000000)∧((true=true→(((((Ql r).1:Nat):Int)=(((Ql r).1:Nat):Int)→(((((Ql r).2:Nat):Int)=(((Ql r).2:Nat):Int)→rv=true)∧(¬ ((((Ql r).2:Nat):Int)=(((Ql r).2:Nat):Int))→rv=false)))∧(¬ ((((Ql r).1:Nat):Int)=(((Ql r).1:Nat):Int))→rv=false)))∧(true=false→rv=false)))))∧((XD r)=false→((RigSmall r)∧(((Qk r)=([]:List Bool)∧(Qk r).length≤1000000)∧((true=true→(((((Ql r).1:Nat):Int)=0→(((((Ql r).2:Nat):Int)=0→rv=false)∧(¬ ((((Ql r).2:Nat):Int)=0)→rv=false)))∧(¬ ((((Ql r).1:Nat):Int)=0)→rv=false)))∧(true=false→rv=false))))))))∧((XD r)=false→((RigSmall r∧(Xw r=true→r.seats.length≤19))∧(((XD r)=true→((RigSmall r)∧((([]:List Bool)=(Qk r)∧([]:List Bool).length≤1000000)∧((true=true→((0=(((Ql r).1:Nat):Int)→((0=(((Ql r).2:Nat):Int)→rv=false)∧(¬ (0=(((Ql r).2:Nat):Int))→rv=false)))∧(¬ (0=(((Ql r).1:Nat):Int))→rv=false)))∧(true=false→rv=false)))))∧((XD r)=false→((RigSmall r)∧((([]:List Bool)=([]:List Bool)∧([]:List Bool).length≤1000000)∧((true=true→(((Qf r)=(Qf r)→rv=true)∧(¬ ((Qf r)=(Qf r))→rv=false)))∧(true=false→rv=false)))))))))))))∧(¬ ((r.seats.length:Int) > 10)→((RigSmall r)∧(((XD r)=true→((RigSmall r∧(Xw r=true→r.seats.length≤19))∧(((XD r)=true→((RigSmall r)∧(((Qk r)=(Qk r)∧(Qk r).length≤1000000)∧((true=true→(((((Ql r).1:Nat):Int)=(((Ql r).1:Nat):Int)→(((((Ql r).2:Nat):Int)=(((Ql r).2:Nat):Int)→rv=true)∧(¬ ((((Ql r).2:Nat):Int)=(((Ql r).2:Nat):Int))→rv=false)))∧(¬ ((((Ql r).1:Nat):Int)=(((Ql r).1:Nat):Int))→rv=false)))∧(true=false→rv=false)))))∧((XD r)=false→((RigSmall r)∧(((Qk r)=([]:List Bool)∧(Qk r).length≤1000000)∧((true=true→(((((Ql r).1:Nat):Int)=0→(((((Ql r).2:Nat):Int)=0→rv=false)∧(¬ ((((Ql r).2:Nat):Int)=0)→rv=false)))∧(¬ ((((Ql r).1:Nat):Int)=0)→rv=false)))∧(true=false→rv=false))))))))∧((XD r)=false→((RigSmall r∧(Xw r=true→r.seats.length≤19))∧(((XD r)=true→((RigSmall r)∧((([]:List Bool)=(Qk r)∧([]:List Bool).length≤1000000)∧((true=true→((0=(((Ql r).1:Nat):Int)→((0=(((Ql r).2:Nat):Int)→rv=false)∧(¬ (0=(((Ql r).2:Nat):Int))→rv=false)))∧(¬ (0=(((Ql r).1:Nat):Int))→rv=false)))∧(true=false→rv=false)))))∧((XD r)=false→((RigSmall r)∧((([]:List Bool)=([]:List Bool)∧([]:List Bool).length≤1000000)∧((true=true→(((Qf r)=(Qf r)→rv=true)∧(¬ ((Qf r)=(Qf r))→rv=false)))∧(true=false→rv=false))))))))))))))):G Try.prog E [.code (Qd Try.prog 13)] ⟨[.agg [.rsl (rowS r.seats) 0 r.seats.length,.rsl (rowP r.feet) 0 r.feet.length,.int .i64 r.frame,.int .i64 r.c.x,.int .i64 r.c.y,.int .i64 r.c.z,.int .i64 r.empty,.int .i64 r.full]]++unds (Try.f13.ntmps - 1),[]⟩:=by
 rcases bft (farB r) with hc0 | hc0
 · have h:=h.1 hc0
   exact p13_start_0 r hE ⟨(u22 (Xe r)),hc0,rfl,(u15 (Vo )),trivial⟩ (AvLe.of_eq (by rw [h]; try rfl))
 · have h:=h.2 hc0
   rcases bft (decide ((r.seats.length:Int) > 10)) with hc1 | hc1
   · have h:=h.1 (odt hc1)
     rcases bft (decide ((r.seats.length:Int)≤20)) with hc2 | hc2
     · have h:=h.1 (odt hc2)
       exact p13_start_1 r hE ⟨(u22 (Xe r)),hc0,hc1,hc2,(u15 (Vo )),trivial⟩ (AvLe.of_eq (by rw [h]; try rfl))
     · have h:=h.2 (odf hc2)
       obtain ⟨h1,h⟩:=h
       rcases bft (XD r) with hc3 | hc3
       · have h:=h.1 hc3
         obtain ⟨h2,h⟩:=h
         rcases bft (XD r) with hc4 | hc4
         · have h:=h.1 hc4
           obtain ⟨h3,h⟩:=h
           obtain ⟨h4,h⟩:=h
           rcases bft true with hc5 | hc5
           · have h:=h.1 hc5
             rcases bft ((((Ql r).1:Nat):Int) == (((Ql r).1:Nat):Int)) with hc6 | hc6
             · have h:=h.1 (eq_of_beq hc6)
               rcases bft ((((Ql r).2:Nat):Int) == (((Ql r).2:Nat):Int)) with hc7 | hc7
               · have h:=h.1 (eq_of_beq hc7)
                 exact p13_start_2 r hE ⟨(u22 (Xe r)),hc0,hc1,hc2,(u24 (QP r h1)),(u41 (Xb r h2 hc3)),(u42 (QQ r h3 hc4)),(u43 (QH (Qk r) (Qk r) h4)),hc5,hc6,hc7,rfl,rfl,(u15 (Vo )),trivial⟩ (AvLe.of_eq (by rw [h]; try rfl))
               · have h:=h.2 (ne_of_beq_false hc7)
                 exact p13_start_3 r hE ⟨(u22 (Xe r)),hc0,hc1,hc2,(u24 (QP r h1)),(u41 (Xb r h2 hc3)),(u42 (QQ r h3 hc4)),(u43 (QH (Qk r) (Qk r) h4)),hc5,hc6,hc7,rfl,rfl,trivial⟩ (AvLe.of_eq (by rw [h]; try rfl))
             · have h:=h.2 (ne_of_beq_false hc6)
               exact p13_start_4 r hE ⟨(u22 (Xe r)),hc0,hc1,hc2,(u24 (QP r h1)),(u41 (Xb r h2 hc3)),(u42 (QQ r h3 hc4)),(u43 (QH (Qk r) (Qk r) h4)),hc5,hc6,rfl,rfl,rfl,trivial⟩ (AvLe.of_eq (by rw [h]; try rfl))
           · have h:=h.2 hc5
             exact p13_start_5 r hE ⟨(u22 (Xe r)),hc0,hc1,hc2,(u24 (QP r h1)),(u41 (Xb r h2 hc3)),(u42 (QQ r h3 hc4)),(u43 (QH (Qk r) (Qk r) h4)),hc5,rfl,rfl,rfl,rfl,trivial⟩ (AvLe.of_eq (by rw [h]; try rfl))
         · have h:=h.2 hc4
           obtain ⟨h3,h⟩:=h
           obtain ⟨h4,h⟩:=h
           rcases bft true with hc5 | hc5
           · have h:=h.1 hc5
             rcases bft ((((Ql r).1:Nat):Int) == 0) with hc6 | hc6
             · have h:=h.1 (eq_of_beq hc6)
               rcases bft ((((Ql r).2:Nat):Int) == 0) with hc7 | hc7
               · have h:=h.1 (eq_of_beq hc7)
                 exact p13_start_6 r hE ⟨(u22 (Xe r)),hc0,hc1,hc2,(u24 (QP r h1)),(u41 (Xb r h2 hc3)),(u42 (QZ r h3 hc4)),(u43 (QH (Qk r) ([]:List Bool) h4)),hc5,hc6,hc7,rfl,rfl,trivial⟩ (AvLe.of_eq (by rw [h]; try rfl))
               · have h:=h.2 (ne_of_beq_false hc7)
                 exact p13_start_7 r hE ⟨(u22 (Xe r)),hc0,hc1,hc2,(u24 (QP r h1)),(u41 (Xb r h2 hc3)),(u42 (QZ r h3 hc4)),(u43 (QH (Qk r) ([]:List Bool) h4)),hc5,hc6,hc7,rfl,rfl,trivial⟩ (AvLe.of_eq (by rw [h]; try rfl))
             · have h:=h.2 (ne_of_beq_false hc6)
               exact p13_start_8 r hE ⟨(u22 (Xe r)),hc0,hc1,hc2,(u24 (QP r h1)),(u41 (Xb r h2 hc3)),(u42 (QZ r h3 hc4)),(u43 (QH (Qk r) ([]:List Bool) h4)),hc5,hc6,rfl,rfl,rfl,trivial⟩ (AvLe.of_eq (by rw [h]; try rfl))
           · have h:=h.2 hc5
             exact p13_start_9 r hE ⟨(u22 (Xe r)),hc0,hc1,hc2,(u24 (QP r h1)),(u41 (Xb r h2 hc3)),(u42 (QZ r h3 hc4)),(u43 (QH (Qk r) ([]:List Bool) h4)),hc5,rfl,rfl,rfl,rfl,trivial⟩ (AvLe.of_eq (by rw [h]; try rfl))
       · have h:=h.2 hc3
         obtain ⟨h2,h⟩:=h
         rcases bft (XD r) with hc4 | hc4
         · have h:=h.1 hc4
           obtain ⟨h3,h⟩:=h
           obtain ⟨h4,h⟩:=h
           rcases bft true with hc5 | hc5
           · have h:=h.1 hc5
             rcases bft (0 == (((Ql r).1:Nat):Int)) with hc6 | hc6
             · have h:=h.1 (eq_of_beq hc6)
               rcases bft (0 == (((Ql r).2:Nat):Int)) with hc7 | hc7
               · have h:=h.1 (eq_of_beq hc7)
                 exact p13_start_10 r hE ⟨(u22 (Xe r)),hc0,hc1,hc2,(u24 (QP r h1)),(u41 (Xm r h2 hc3)),(u42 (QQ r h3 hc4)),(u43 (QH ([]:List Bool) (Qk r) h4)),hc5,hc6,hc7,rfl,rfl,trivial⟩ (AvLe.of_eq (by rw [h]; try rfl))
               · have h:=h.2 (ne_of_beq_false hc7)
                 exact p13_start_11 r hE ⟨(u22 (Xe r)),hc0,hc1,hc2,(u24 (QP r h1)),(u41 (Xm r h2 hc3)),(u42 (QQ r h3 hc4)),(u43 (QH ([]:List Bool) (Qk r) h4)),hc5,hc6,hc7,rfl,rfl,trivial⟩ (AvLe.of_eq (by rw [h]; try rfl))
             · have h:=h.2 (ne_of_beq_false hc6)
               exact p13_start_12 r hE ⟨(u22 (Xe r)),hc0,hc1,hc2,(u24 (QP r h1)),(u41 (Xm r h2 hc3)),(u42 (QQ r h3 hc4)),(u43 (QH ([]:List Bool) (Qk r) h4)),hc5,hc6,rfl,rfl,rfl,trivial⟩ (AvLe.of_eq (by rw [h]; try rfl))
           · have h:=h.2 hc5
             exact p13_start_13 r hE ⟨(u22 (Xe r)),hc0,hc1,hc2,(u24 (QP r h1)),(u41 (Xm r h2 hc3)),(u42 (QQ r h3 hc4)),(u43 (QH ([]:List Bool) (Qk r) h4)),hc5,rfl,rfl,rfl,rfl,trivial⟩ (AvLe.of_eq (by rw [h]; try rfl))
         · have h:=h.2 hc4
           obtain ⟨h3,h⟩:=h
           obtain ⟨h4,h⟩:=h
           rcases bft true with hc5 | hc5
           · have h:=h.1 hc5
             rcases bft ((Qf r) == (Qf r)) with hc6 | hc6
             · have h:=h.1 (eq_of_beq hc6)
               exact p13_start_14 r hE ⟨(u22 (Xe r)),hc0,hc1,hc2,(u24 (QP r h1)),(u41 (Xm r h2 hc3)),(u42 (QZ r h3 hc4)),(u43 (QH ([]:List Bool) ([]:List Bool) h4)),hc5,rfl,rfl,rfl,hc6,(u15 (Vo )),trivial⟩ (AvLe.of_eq (by rw [h]; try rfl))
             · have h:=h.2 (ne_of_beq_false hc6)
               exact p13_start_15 r hE ⟨(u22 (Xe r)),hc0,hc1,hc2,(u24 (QP r h1)),(u41 (Xm r h2 hc3)),(u42 (QZ r h3 hc4)),(u43 (QH ([]:List Bool) ([]:List Bool) h4)),hc5,rfl,rfl,rfl,hc6,trivial⟩ (AvLe.of_eq (by rw [h]; try rfl))
           · have h:=h.2 hc5
             exact p13_start_16 r hE ⟨(u22 (Xe r)),hc0,hc1,hc2,(u24 (QP r h1)),(u41 (Xm r h2 hc3)),(u42 (QZ r h3 hc4)),(u43 (QH ([]:List Bool) ([]:List Bool) h4)),hc5,rfl,rfl,rfl,rfl,trivial⟩ (AvLe.of_eq (by rw [h]; try rfl))
   · have h:=h.2 (odf hc1)
     obtain ⟨h1,h⟩:=h
     rcases bft (XD r) with hc2 | hc2
     · have h:=h.1 hc2
       obtain ⟨h2,h⟩:=h
       rcases bft (XD r) with hc3 | hc3
       · have h:=h.1 hc3
         obtain ⟨h3,h⟩:=h
         obtain ⟨h4,h⟩:=h
         rcases bft true with hc4 | hc4
         · have h:=h.1 hc4
           rcases bft ((((Ql r).1:Nat):Int) == (((Ql r).1:Nat):Int)) with hc5 | hc5
           · have h:=h.1 (eq_of_beq hc5)
             rcases bft ((((Ql r).2:Nat):Int) == (((Ql r).2:Nat):Int)) with hc6 | hc6
             · have h:=h.1 (eq_of_beq hc6)
               exact p13_start_17 r hE ⟨(u22 (Xe r)),hc0,hc1,rfl,(u24 (QP r h1)),(u41 (Xb r h2 hc2)),(u42 (QQ r h3 hc3)),(u43 (QH (Qk r) (Qk r) h4)),hc4,hc5,hc6,rfl,rfl,(u15 (Vo )),trivial⟩ (AvLe.of_eq (by rw [h]; try rfl))
             · have h:=h.2 (ne_of_beq_false hc6)
               exact p13_start_18 r hE ⟨(u22 (Xe r)),hc0,hc1,rfl,(u24 (QP r h1)),(u41 (Xb r h2 hc2)),(u42 (QQ r h3 hc3)),(u43 (QH (Qk r) (Qk r) h4)),hc4,hc5,hc6,rfl,rfl,trivial⟩ (AvLe.of_eq (by rw [h]; try rfl))
           · have h:=h.2 (ne_of_beq_false hc5)
             exact p13_start_19 r hE ⟨(u22 (Xe r)),hc0,hc1,rfl,(u24 (QP r h1)),(u41 (Xb r h2 hc2)),(u42 (QQ r h3 hc3)),(u43 (QH (Qk r) (Qk r) h4)),hc4,hc5,rfl,rfl,rfl,trivial⟩ (AvLe.of_eq (by rw [h]; try rfl))
         · have h:=h.2 hc4
           exact p13_start_20 r hE ⟨(u22 (Xe r)),hc0,hc1,rfl,(u24 (QP r h1)),(u41 (Xb r h2 hc2)),(u42 (QQ r h3 hc3)),(u43 (QH (Qk r) (Qk r) h4)),hc4,rfl,rfl,rfl,rfl,trivial⟩ (AvLe.of_eq (by rw [h]; try rfl))
       · have h:=h.2 hc3
         obtain ⟨h3,h⟩:=h
         obtain ⟨h4,h⟩:=h
         rcases bft true with hc4 | hc4
         · have h:=h.1 hc4
           rcases bft ((((Ql r).1:Nat):Int) == 0) with hc5 | hc5
           · have h:=h.1 (eq_of_beq hc5)
             rcases bft ((((Ql r).2:Nat):Int) == 0) with hc6 | hc6
             · have h:=h.1 (eq_of_beq hc6)
               exact p13_start_21 r hE ⟨(u22 (Xe r)),hc0,hc1,rfl,(u24 (QP r h1)),(u41 (Xb r h2 hc2)),(u42 (QZ r h3 hc3)),(u43 (QH (Qk r) ([]:List Bool) h4)),hc4,hc5,hc6,rfl,rfl,trivial⟩ (AvLe.of_eq (by rw [h]; try rfl))
             · have h:=h.2 (ne_of_beq_false hc6)
               exact p13_start_22 r hE ⟨(u22 (Xe r)),hc0,hc1,rfl,(u24 (QP r h1)),(u41 (Xb r h2 hc2)),(u42 (QZ r h3 hc3)),(u43 (QH (Qk r) ([]:List Bool) h4)),hc4,hc5,hc6,rfl,rfl,trivial⟩ (AvLe.of_eq (by rw [h]; try rfl))
           · have h:=h.2 (ne_of_beq_false hc5)
             exact p13_start_23 r hE ⟨(u22 (Xe r)),hc0,hc1,rfl,(u24 (QP r h1)),(u41 (Xb r h2 hc2)),(u42 (QZ r h3 hc3)),(u43 (QH (Qk r) ([]:List Bool) h4)),hc4,hc5,rfl,rfl,rfl,trivial⟩ (AvLe.of_eq (by rw [h]; try rfl))
         · have h:=h.2 hc4
           exact p13_start_24 r hE ⟨(u22 (Xe r)),hc0,hc1,rfl,(u24 (QP r h1)),(u41 (Xb r h2 hc2)),(u42 (QZ r h3 hc3)),(u43 (QH (Qk r) ([]:List Bool) h4)),hc4,rfl,rfl,rfl,rfl,trivial⟩ (AvLe.of_eq (by rw [h]; try rfl))
     · have h:=h.2 hc2
       obtain ⟨h2,h⟩:=h
       rcases bft (XD r) with hc3 | hc3
       · have h:=h.1 hc3
         obtain ⟨h3,h⟩:=h
         obtain ⟨h4,h⟩:=h
         rcases bft true with hc4 | hc4
         · have h:=h.1 hc4
           rcases bft (0 == (((Ql r).1:Nat):Int)) with hc5 | hc5
           · have h:=h.1 (eq_of_beq hc5)
             rcases bft (0 == (((Ql r).2:Nat):Int)) with hc6 | hc6
             · have h:=h.1 (eq_of_beq hc6)
               exact p13_start_25 r hE ⟨(u22 (Xe r)),hc0,hc1,rfl,(u24 (QP r h1)),(u41 (Xm r h2 hc2)),(u42 (QQ r h3 hc3)),(u43 (QH ([]:List Bool) (Qk r) h4)),hc4,hc5,hc6,rfl,rfl,trivial⟩ (AvLe.of_eq (by rw [h]; try rfl))
             · have h:=h.2 (ne_of_beq_false hc6)
               exact p13_start_26 r hE ⟨(u22 (Xe r)),hc0,hc1,rfl,(u24 (QP r h1)),(u41 (Xm r h2 hc2)),(u42 (QQ r h3 hc3)),(u43 (QH ([]:List Bool) (Qk r) h4)),hc4,hc5,hc6,rfl,rfl,trivial⟩ (AvLe.of_eq (by rw [h]; try rfl))
           · have h:=h.2 (ne_of_beq_false hc5)
             exact p13_start_27 r hE ⟨(u22 (Xe r)),hc0,hc1,rfl,(u24 (QP r h1)),(u41 (Xm r h2 hc2)),(u42 (QQ r h3 hc3)),(u43 (QH ([]:List Bool) (Qk r) h4)),hc4,hc5,rfl,rfl,rfl,trivial⟩ (AvLe.of_eq (by rw [h]; try rfl))
         · have h:=h.2 hc4
           exact p13_start_28 r hE ⟨(u22 (Xe r)),hc0,hc1,rfl,(u24 (QP r h1)),(u41 (Xm r h2 hc2)),(u42 (QQ r h3 hc3)),(u43 (QH ([]:List Bool) (Qk r) h4)),hc4,rfl,rfl,rfl,rfl,trivial⟩ (AvLe.of_eq (by rw [h]; try rfl))
       · have h:=h.2 hc3
         obtain ⟨h3,h⟩:=h
         obtain ⟨h4,h⟩:=h
         rcases bft true with hc4 | hc4
         · have h:=h.1 hc4
           rcases bft ((Qf r) == (Qf r)) with hc5 | hc5
           · have h:=h.1 (eq_of_beq hc5)
             exact p13_start_29 r hE ⟨(u22 (Xe r)),hc0,hc1,rfl,(u24 (QP r h1)),(u41 (Xm r h2 hc2)),(u42 (QZ r h3 hc3)),(u43 (QH ([]:List Bool) ([]:List Bool) h4)),hc4,rfl,rfl,rfl,hc5,(u15 (Vo )),trivial⟩ (AvLe.of_eq (by rw [h]; try rfl))
           · have h:=h.2 (ne_of_beq_false hc5)
             exact p13_start_30 r hE ⟨(u22 (Xe r)),hc0,hc1,rfl,(u24 (QP r h1)),(u41 (Xm r h2 hc2)),(u42 (QZ r h3 hc3)),(u43 (QH ([]:List Bool) ([]:List Bool) h4)),hc4,rfl,rfl,rfl,hc5,trivial⟩ (AvLe.of_eq (by rw [h]; try rfl))
         · have h:=h.2 hc4
           exact p13_start_31 r hE ⟨(u22 (Xe r)),hc0,hc1,rfl,(u24 (QP r h1)),(u41 (Xm r h2 hc2)),(u42 (QZ r h3 hc3)),(u43 (QH ([]:List Bool) ([]:List Bool) h4)),hc4,rfl,rfl,rfl,rfl,trivial⟩ (AvLe.of_eq (by rw [h]; try rfl))
theorem law13_ok (r:Rg):Pure Try.prog 13 [.agg [.rsl (rowS r.seats) 0 r.seats.length,.rsl (rowP r.feet) 0 r.feet.length,.int .i64 r.frame,.int .i64 r.c.x,.int .i64 r.c.y,.int .i64 r.c.z,.int .i64 r.empty,.int .i64 r.full]] (.bool true):=Qw Try.func13 f13b fun E hE=>by
 refine f13W r (rv:=true) hE ⟨fun _=>rfl,fun h=>?_⟩
 have hs:=far_small h
 have hlen:∀ b,XD r=true→Qk r=b→b.length≤1000000:=fun b hf e=>by
  obtain ⟨hr,hx⟩:=qY hf
  obtain ⟨hmem,hneg⟩:=tipsX_spec hx
  have hm:=Yh hr
  have h20:=hm.ok.seats
  have hfew:=fewest_neg (r:=r) (ph:=(((Ql r).1:Nat):Int)) (ln:=(((Ql r).2:Nat):Int)) ⟨mem_momOk hm hmem,hneg⟩
  have:(Qk r).length=r.seats.length:=hfew.2
  rw [← e]; omega
 have go:(Xw r=true→r.seats.length≤19)→((RigSmall r)∧(((XD r)=true→((RigSmall r∧(Xw r=true→r.seats.length≤19))∧(((XD r)=true→((RigSmall r)∧(((Qk r)=(Qk r)∧(Qk r).length≤1000000)∧((true=true→(((((Ql r).1:Nat):Int)=(((Ql r).1:Nat):Int)→(((((Ql r).2:Nat):Int)=(((Ql r).2:Nat):Int)→true=true)∧(¬ ((((Ql r).2:Nat):Int)=(((Ql r).2:Nat):Int))→true=false)))∧(¬ ((((Ql r).1:Nat):Int)=(((Ql r).1:Nat):Int))→true=false)))∧(true=false→true=false)))))∧((XD r)=false→((RigSmall r)∧(((Qk r)=([]:List Bool)∧(Qk r).length≤1000000)∧((true=true→(((((Ql r).1:Nat):Int)=0→(((((Ql r).2:Nat):Int)=0→true=false)∧(¬ ((((Ql r).2:Nat):Int)=0)→true=false)))∧(¬ ((((Ql r).1:Nat):Int)=0)→true=false)))∧(true=false→true=false))))))))∧((XD r)=false→((RigSmall r∧(Xw r=true→r.seats.length≤19))∧(((XD r)=true→((RigSmall r)∧((([]:List Bool)=(Qk r)∧([]:List Bool).length≤1000000)∧((true=true→((0=(((Ql r).1:Nat):Int)→((0=(((Ql r).2:Nat):Int)→true=false)∧(¬ (0=(((Ql r).2:Nat):Int))→true=false)))∧(¬ (0=(((Ql r).1:Nat):Int))→true=false)))∧(true=false→true=false)))))∧((XD r)=false→((RigSmall r)∧((([]:List Bool)=([]:List Bool)∧([]:List Bool).length≤1000000)∧((true=true→(((Qf r)=(Qf r)→true=true)∧(¬ ((Qf r)=(Qf r))→true=false)))∧(true=false→true=false)))))))))):=fun h19=>by
  refine ⟨hs,fun hf=>⟨⟨hs,h19⟩,fun _=>⟨hs,⟨rfl,hlen _ hf rfl⟩,fun _=>⟨fun _=>⟨fun _=>rfl,fun hn=>absurd rfl hn⟩,fun hn=>absurd rfl hn⟩,fun hn=>(by cases hn)⟩,fun hf2=>(by rw [hf] at hf2; cases hf2)⟩,fun hf=>⟨⟨hs,h19⟩,fun hf2=>(by rw [hf] at hf2; cases hf2),fun _=>⟨hs,⟨rfl,by simp⟩,fun _=>⟨fun _=>rfl,fun hn=>absurd rfl hn⟩,fun hn=>by cases hn⟩⟩⟩
 refine ⟨fun h10=>⟨fun _=>rfl,fun h20=>go fun hr=>?_⟩,fun h10=>go fun _=>by omega⟩
 have:=(Yh hr).ok.seats
 omega
end Go.Proofs.Ytideokfbnegkjaa