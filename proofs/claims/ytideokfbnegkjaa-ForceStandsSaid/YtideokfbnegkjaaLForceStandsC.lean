/- A part of the proof: several texts, one behind the other. -/
import Derived.Test.YtideokfbnegkjaaLForceStandsB
import Derived.Defers
set_option linter.unusedVariables false
set_option linter.unusedSimpArgs false
set_option maxRecDepth 100000
namespace Go.Proofs.Ytideokfbnegkjaa
open Go Ax
open Go.Proofs
structure Rg where
 seats:List (List Pt)
 feet:List Pt
 frame:Int
 c:Pt
 empty:Int
 full:Int
def rowS (l:List (List Pt)):List AV:=l.flatMap fun s=>[.rsl (rowP s) 0 s.length]
def Ql (l:List (Pt × Pt)):List AV:=l.flatMap fun s=>cP s.1++cP s.2
def Qa (f:List Pt):List (Pt × Pt):=(List.range' 0 f.length).map fun i=>(f.getD i ⟨0,0,0⟩,f.getD ((i+1) % f.length) ⟨0,0,0⟩)
def Qb (r:Rg):Int:=match r.seats.getLast? with
 | some s=>s.length
 | none=>1
theorem f57b:Try.f57.body=some (Qe Try.prog 57):=by kernel_rfl
def f57K0 (P:Program):List Item:=kAt 400 [.code (Qe P 57)] [.stop]
def f57S0 (r:Rg) (ph ln:Nat) (a b:Pt) (i:Nat) (sum:Int):St:=⟨([.rptr [.rsl (rowS r.seats) 0 r.seats.length,.rsl (rowP r.feet) 0 r.feet.length,.int .i64 r.frame,.int .i64 r.c.x,.int .i64 r.c.y,.int .i64 r.c.z,.int .i64 r.empty,.int .i64 r.full,.rsl (Ql (Qa r.feet)) 0 ((Qa r.feet).length),.int .i64 (Qb r)] 0,.int .i64 (ph:Int),J,.clos 89 [] []]++jj 5 ([.ptr 0 0 0,.int .i64 sum]++jj 28 ([.rsl (rowS r.seats) 0 r.seats.length,.int .i64 (r.seats.length:Int),.int .i64 (i:Int)]++Js 31))),[⟨true,0,1,true,[.int .i64 a.x,.int .i64 a.y,.int .i64 a.z,.int .i64 b.x,.int .i64 b.y,.int .i64 b.z],false⟩]⟩
theorem p57_s (r:Rg) (ph ln:Nat) (a b:Pt) {E:Env} {res:AV} (hE:Qh Try.prog 57 res E) (h0:0≤(ln:Int)∧(ln:Int)<(((Qa r.feet).length:Nat):Int)) (h1:((Ql (Qa r.feet)).drop (0+((Int.toNat (ln:Int))*6))).take 6=[.int .i64 a.x,.int .i64 a.y,.int .i64 a.z,.int .i64 b.x,.int .i64 b.y,.int .i64 b.z]) (h3:Qf Try.prog (.clos 87 [] []) [.agg [.int .i64 a.x,.int .i64 a.y,.int .i64 a.z,.int .i64 b.x,.int .i64 b.y,.int .i64 b.z],.agg [.int .i64 r.c.x,.int .i64 r.c.y,.int .i64 r.c.z]] (.int .i64 (arm a b r.c))) (h4:InR .i64 (r.frame*(arm a b r.c)))
 (hg:G Try.prog E (f57K0 Try.prog) (f57S0 r ph ln a b 0 (r.frame*(arm a b r.c)))):G Try.prog E [.code (Qe Try.prog 57)] ⟨[.rptr [.rsl (rowS r.seats) 0 r.seats.length,.rsl (rowP r.feet) 0 r.feet.length,.int .i64 r.frame,.int .i64 r.c.x,.int .i64 r.c.y,.int .i64 r.c.z,.int .i64 r.empty,.int .i64 r.full,.rsl (Ql (Qa r.feet)) 0 ((Qa r.feet).length),.int .i64 (Qb r)] 0,.int .i64 (ph:Int),.int .i64 (ln:Int),.clos 89 [] []]++unds (Try.f57.ntmps - 4),[]⟩ :=
 Qw (n:=400) (ds:=[]) (live:=[0,1,3,9,10,39,40,41]) (m:=1) (evs:=[.auto,.ld (.agg [.int .i64 a.x,.int .i64 a.y,.int .i64 a.z,.int .i64 b.x,.int .i64 b.y,.int .i64 b.z]),.v (.int .i64 (arm a b r.c)),.stop]) (obs:=[0≤(ln:Int)∧(ln:Int)<(((Qa r.feet).length:Nat):Int),((Ql (Qa r.feet)).drop (0+((Int.toNat (ln:Int))*6))).take 6=[.int .i64 a.x,.int .i64 a.y,.int .i64 a.z,.int .i64 b.x,.int .i64 b.y,.int .i64 b.z],6≤6,Qf Try.prog (.clos 87 [] []) [.agg [.int .i64 a.x,.int .i64 a.y,.int .i64 a.z,.int .i64 b.x,.int .i64 b.y,.int .i64 b.z],.agg [.int .i64 r.c.x,.int .i64 r.c.y,.int .i64 r.c.z]] (.int .i64 (arm a b r.c)),InR .i64 (r.frame*(arm a b r.c))]) hE.2.1 (hE.nogh _) Qi (by kernel_rfl) ⟨h0,h1,(by decide),h3,h4,trivial⟩ hg
theorem p57_0 (r:Rg) (ph ln:Nat) (a b:Pt) (i:Nat) (sum:Int) (s:List Pt) (q:Pt) {E:Env} {res:AV} (hE:Qh Try.prog 57 res E) (h0:(decide ((i:Int)<(r.seats.length:Int)))=true) (h1:0≤(i:Int)∧(i:Int)<(r.seats.length:Int)) (h2:((rowS r.seats).drop (0+((Int.toNat (i:Int))*1))).take 1=[.rsl (rowP s) 0 s.length]) (h3:0≤(ph:Int)∧(ph:Int)<(s.length:Int)) (h4:((rowP s).drop (0+((Int.toNat (ph:Int))*3))).take 3=[.int .i64 q.x,.int .i64 q.y,.int .i64 q.z]) (h5:Qf Try.prog (.clos 87 [] []) [.agg [.int .i64 a.x,.int .i64 a.y,.int .i64 a.z,.int .i64 b.x,.int .i64 b.y,.int .i64 b.z],.agg [.int .i64 q.x,.int .i64 q.y,.int .i64 q.z]] (.int .i64 (arm a b q))) (h7:(decide ((arm a b q)<0))=true) (h8:InR .i64 (r.full*(arm a b q))) (h9:InR .i64 (sum+(r.full*(arm a b q)))) (h10:InR .i64 ((i:Int)+1))
 (hg:G Try.prog E (f57K0 Try.prog) (f57S0 r ph ln a b (i+1) (sum+(r.full*(arm a b q))))):G Try.prog E (f57K0 Try.prog) (f57S0 r ph ln a b i sum) :=
 Qw (n:=400) (ds:=[]) (live:=[0,1,3,9,10,39,40,41]) (m:=1) (evs:=[.b true,.ld (.rsl (rowP s) 0 s.length),.auto,.ld (.agg [.int .i64 q.x,.int .i64 q.y,.int .i64 q.z]),.v (.int .i64 (arm a b q)),.v (.bool (decide ((arm a b q)<0))),.b true,.stop]) (obs:=[(decide ((i:Int)<(r.seats.length:Int)))=true,0≤(i:Int)∧(i:Int)<(r.seats.length:Int),((rowS r.seats).drop (0+((Int.toNat (i:Int))*1))).take 1=[.rsl (rowP s) 0 s.length],0≤(ph:Int)∧(ph:Int)<(s.length:Int),((rowP s).drop (0+((Int.toNat (ph:Int))*3))).take 3=[.int .i64 q.x,.int .i64 q.y,.int .i64 q.z],Qf Try.prog (.clos 87 [] []) [.agg [.int .i64 a.x,.int .i64 a.y,.int .i64 a.z,.int .i64 b.x,.int .i64 b.y,.int .i64 b.z],.agg [.int .i64 q.x,.int .i64 q.y,.int .i64 q.z]] (.int .i64 (arm a b q)),Qf Try.prog (.clos 89 [] []) [.int .i64 (i:Int),.int .i64 (arm a b q)] (.bool (decide ((arm a b q)<0))),(decide ((arm a b q)<0))=true,InR .i64 (r.full*(arm a b q)),InR .i64 (sum+(r.full*(arm a b q))),InR .i64 ((i:Int)+1)]) hE.2.1 (hE.nogh _) Qi (by kernel_rfl) ⟨h0,h1,h2,h3,h4,h5,(outside_F _ _),h7,h8,h9,h10,trivial⟩ hg
theorem p57_1 (r:Rg) (ph ln:Nat) (a b:Pt) (i:Nat) (sum:Int) (s:List Pt) (q:Pt) {E:Env} {res:AV} (hE:Qh Try.prog 57 res E) (h0:(decide ((i:Int)<(r.seats.length:Int)))=true) (h1:0≤(i:Int)∧(i:Int)<(r.seats.length:Int)) (h2:((rowS r.seats).drop (0+((Int.toNat (i:Int))*1))).take 1=[.rsl (rowP s) 0 s.length]) (h3:0≤(ph:Int)∧(ph:Int)<(s.length:Int)) (h4:((rowP s).drop (0+((Int.toNat (ph:Int))*3))).take 3=[.int .i64 q.x,.int .i64 q.y,.int .i64 q.z]) (h5:Qf Try.prog (.clos 87 [] []) [.agg [.int .i64 a.x,.int .i64 a.y,.int .i64 a.z,.int .i64 b.x,.int .i64 b.y,.int .i64 b.z],.agg [.int .i64 q.x,.int .i64 q.y,.int .i64 q.z]] (.int .i64 (arm a b q))) (h7:(decide ((arm a b q)<0))=false) (h8:InR .i64 (r.empty*(arm a b q))) (h9:InR .i64 (sum+(r.empty*(arm a b q)))) (h10:InR .i64 ((i:Int)+1))
 (hg:G Try.prog E (f57K0 Try.prog) (f57S0 r ph ln a b (i+1) (sum+(r.empty*(arm a b q))))):G Try.prog E (f57K0 Try.prog) (f57S0 r ph ln a b i sum) :=
 Qw (n:=400) (ds:=[]) (live:=[0,1,3,9,10,39,40,41]) (m:=1) (evs:=[.b true,.ld (.rsl (rowP s) 0 s.length),.auto,.ld (.agg [.int .i64 q.x,.int .i64 q.y,.int .i64 q.z]),.v (.int .i64 (arm a b q)),.v (.bool (decide ((arm a b q)<0))),.b false,.stop]) (obs:=[(decide ((i:Int)<(r.seats.length:Int)))=true,0≤(i:Int)∧(i:Int)<(r.seats.length:Int),((rowS r.seats).drop (0+((Int.toNat (i:Int))*1))).take 1=[.rsl (rowP s) 0 s.length],0≤(ph:Int)∧(ph:Int)<(s.length:Int),((rowP s).drop (0+((Int.toNat (ph:Int))*3))).take 3=[.int .i64 q.x,.int .i64 q.y,.int .i64 q.z],Qf Try.prog (.clos 87 [] []) [.agg [.int .i64 a.x,.int .i64 a.y,.int .i64 a.z,.int .i64 b.x,.int .i64 b.y,.int .i64 b.z],.agg [.int .i64 q.x,.int .i64 q.y,.int .i64 q.z]] (.int .i64 (arm a b q)),Qf Try.prog (.clos 89 [] []) [.int .i64 (i:Int),.int .i64 (arm a b q)] (.bool (decide ((arm a b q)<0))),(decide ((arm a b q)<0))=false,InR .i64 (r.empty*(arm a b q)),InR .i64 (sum+(r.empty*(arm a b q))),InR .i64 ((i:Int)+1)]) hE.2.1 (hE.nogh _) Qi (by kernel_rfl) ⟨h0,h1,h2,h3,h4,h5,(outside_F _ _),h7,h8,h9,h10,trivial⟩ hg
theorem p57_2 (r:Rg) (ph ln:Nat) (a b:Pt) (i:Nat) (sum:Int) {E:Env} {res:AV} (hE:Qh Try.prog 57 res E) (h0:(decide ((i:Int)<(r.seats.length:Int)))=false)
 (hr:.int .i64 sum=res):G Try.prog E (f57K0 Try.prog) (f57S0 r ph ln a b i sum) :=
 Qq (n:=400) (evs:=[.b false]) (obs:=[(decide ((i:Int)<(r.seats.length:Int)))=false]) hE Try.func57 Qi (by kernel_rfl) ⟨h0,trivial⟩ hr
end Go.Proofs.Ytideokfbnegkjaa
namespace Go.Proofs.Ytideokfbnegkjaa
open Go Ax
open Go.Proofs
/-- What the seats add to a moment; 'fl': which are full. -/
def Xg (r:Rg) (a b:Pt) (ph:Nat) (fl:Nat→Int→Bool):List (List Pt)→Nat→Int→Int
 | [],_,sum=>sum
 | s :: ss,i,sum=>Xg r a b ph fl ss (i+1) (sum+(bif fl i (arm a b (s.getD ph ⟨0,0,0⟩)) then r.full else r.empty)*arm a b (s.getD ph ⟨0,0,0⟩))
def XU (r:Rg) (ph:Nat) (ab:Pt × Pt) (fl:Nat→Int→Bool):Int:=Xg r ab.1 ab.2 ph fl r.seats 0 (r.frame*arm ab.1 ab.2 r.c)
def outF (_:Nat) (a:Int):Bool:=decide (a<0)
structure RgOk (r:Rg) (n:Nat):Prop where
 seats:r.seats.length≤20
 each:∀ s ∈ r.seats,s.length=n∧QE s=true
 feet0:3≤r.feet.length
 feet1:r.feet.length≤8
 foot:∀ p ∈ r.feet,Qk p=true
 center:Qk r.c=true
 frame0:0≤r.frame
 frame1:r.frame≤1000000
 empty0:0≤r.empty
 empty1:r.empty≤r.full
 full1:r.full≤1000000
theorem Wr {x y A B:Int} (hx:-A≤x) (hx':x≤A) (hy:-B≤y) (hy':y≤B) (hA:0≤A) (hB:0≤B):-(A*B)≤x*y∧x*y≤A*B:=by
 have h1:(A - x)*(B - y)≥0:=Int.mul_nonneg (by omega) (by omega)
 have h2:(A+x)*(B+y)≥0:=Int.mul_nonneg (by omega) (by omega)
 have h3:(A - x)*(B+y)≥0:=Int.mul_nonneg (by omega) (by omega)
 have h4:(A+x)*(B - y)≥0:=Int.mul_nonneg (by omega) (by omega)
 simp only [Int.sub_mul,Int.mul_sub,Int.add_mul,Int.mul_add] at h1 h2 h3 h4
 constructor <;> omega
theorem arm_bd {a b p:Pt} (ha:Qk a=true) (hb:Qk b=true) (hp:Qk p=true):YC a b p∧-800000000≤arm a b p∧arm a b p≤800000000:=by
 have a1:=Vd ha
 have b1:=Vd hb
 have p1:=Vd hp
 have m1:=Wr (x:=b.x - a.x) (y:=p.y - a.y) (A:=20000) (B:=20000) (by omega) (by omega) (by omega) (by omega) (by omega) (by omega)
 have m2:=Wr (x:=b.y - a.y) (y:=p.x - a.x) (A:=20000) (B:=20000) (by omega) (by omega) (by omega) (by omega) (by omega) (by omega)
 unfold YC arm InR
 omega
theorem moment_ok (r:Rg) (n ph ln:Nat) (h:RgOk r n) (hph:ph<n) (a b:Pt) (hl:(Qa r.feet)[ln]?=some (a,b)) (ha:Qk a=true) (hb:Qk b=true) :
 Pure Try.prog 57 [.rptr [.rsl (rowS r.seats) 0 r.seats.length,.rsl (rowP r.feet) 0 r.feet.length,.int .i64 r.frame,.int .i64 r.c.x,.int .i64 r.c.y,.int .i64 r.c.z,.int .i64 r.empty,.int .i64 r.full,.rsl (Ql (Qa r.feet)) 0 ((Qa r.feet).length),.int .i64 (Qb r)] 0,.int .i64 (ph:Int),.int .i64 (ln:Int),.clos 89 [] []]
  (.int .i64 (XU r ph (a,b) outF)):=Qz Try.func57 f57b fun E hE=>by
 have hli:=Vm hl
 obtain ⟨k1,k2,k3⟩:=arm_bd ha hb h.center
 have hf:=h.frame0
 have hf':=h.frame1
 have hfr:=Wr (x:=r.frame) (y:=arm a b r.c) (A:=1000000) (B:=800000000) (by omega) hf' k2 k3 (by omega) (by omega)
 have he0:=h.empty0
 have he1:=h.empty1
 have hfu:=h.full1
 refine p57_s r ph ln a b hE (by omega) (XD (fun s:Pt × Pt=>cP s.1++cP s.2) (fun _=>rfl) _ _ _ hl) (arm_F _ _ _ k1) (by unfold InR; omega) ?_
 have key:∀ (d i:Nat) (sum:Int),i+d=r.seats.length→-(800000000000000*(i+1))≤sum→sum≤800000000000000*(i+1)→Xg r a b ph outF (r.seats.drop i) i sum=XU r ph (a,b) outF →
  G Try.prog E (f57K0 Try.prog) (f57S0 r ph ln a b i sum):=by
  intro d
  induction d with
  | zero =>
   intro i sum hd _ _ hs
   rw [List.drop_eq_nil_of_le (by omega)] at hs
   exact p57_2 r ph ln a b i sum hE (by simp; omega) (by rw [← hs]; rfl)
  | succ d ih =>
   intro i sum hd hs1 hs2 hs
   have hi:i<r.seats.length:=by omega
   have hg:r.seats[i]?=some r.seats[i]:=by simp [hi]
   obtain ⟨hsl,hsv⟩:=h.each _ (List.mem_of_getElem? hg)
   generalize hse:r.seats[i]=s at hg hsl hsv
   have hq:s[ph]?=some (s.getD ph ⟨0,0,0⟩):=by simp [List.getD,hsl,hph]
   generalize hqe:s.getD ph ⟨0,0,0⟩=q at hq
   obtain ⟨q1,q2,q3⟩:=arm_bd ha hb (yq hsv (List.mem_of_getElem? hq))
   rw [List.drop_eq_getElem_cons hi,hse] at hs
   simp only [Xg,hqe,outF] at hs
   have me:=Wr (x:=r.empty) (y:=arm a b q) (A:=1000000) (B:=800000000) (by omega) (by omega) q2 q3 (by omega) (by omega)
   have mf:=Wr (x:=r.full) (y:=arm a b q) (A:=1000000) (B:=800000000) (by omega) (by omega) q2 q3 (by omega) (by omega)
   have hb20:=h.seats
   rcases Bool.eq_false_or_eq_true (decide (arm a b q<0)) with hc | hc
   · rw [hc] at hs
     refine p57_0 r ph ln a b i sum s q hE (by simpa using hi) (by omega) (XD (fun s:List Pt=>[AV.rsl (rowP s) 0 s.length]) (fun _=>rfl) _ _ _ hg) (by omega) (XD cP (fun _=>rfl) _ _ _ hq) (arm_F _ _ _ q1) hc (by unfold InR; omega) (by unfold InR; omega) (by unfold InR; omega) ?_
     exact ih (i+1) _ (by omega) (by omega) (by omega) hs
   · rw [hc] at hs
     refine p57_1 r ph ln a b i sum s q hE (by simpa using hi) (by omega) (XD (fun s:List Pt=>[AV.rsl (rowP s) 0 s.length]) (fun _=>rfl) _ _ _ hg) (by omega) (XD cP (fun _=>rfl) _ _ _ hq) (arm_F _ _ _ q1) hc (by unfold InR; omega) (by unfold InR; omega) (by unfold InR; omega) ?_
     exact ih (i+1) _ (by omega) (by omega) (by omega) hs
 exact key r.seats.length 0 _ (by omega) (by omega) (by omega) rfl
end Go.Proofs.Ytideokfbnegkjaa
namespace Go.Proofs.Ytideokfbnegkjaa
open Go Ax
open Go.Proofs
theorem f61b:Try.f61.body=some (Qe Try.prog 61):=by kernel_rfl
def f61K0 (P:Program):List Item:=kAt 400 [.code (Qe P 61)] [.stop]
def f61S0 (r:Rg) (yv0:Value) (p:Nat):St:=⟨([.rptr [.rsl (rowS r.seats) 0 r.seats.length,.rsl (rowP r.feet) 0 r.feet.length,.int .i64 r.frame,.int .i64 r.c.x,.int .i64 r.c.y,.int .i64 r.c.z,.int .i64 r.empty,.int .i64 r.full,.rsl (Ql (Qa r.feet)) 0 ((Qa r.feet).length),.int .i64 (Qb r)] 0,.opq yv0]++jj 7 ([.int .i64 (Qb r),.int .i64 (p:Int)]++Js 22)),[]⟩
theorem p61_s (r:Rg) (yv0:Value) {E:Env} {xs:List (List AV)} {yv:Value} {Y:Option Nat→Sd} {cont:Nat→Bool} {e:Option Nat} {o:Option Nat} (hE:IterE Try.prog 61 xs yv Y cont e o E)
 (hg:G Try.prog E (f61K0 Try.prog) (f61S0 r yv0 0)):G Try.prog E [.code (Qe Try.prog 61)] ⟨[.rptr [.rsl (rowS r.seats) 0 r.seats.length,.rsl (rowP r.feet) 0 r.feet.length,.int .i64 r.frame,.int .i64 r.c.x,.int .i64 r.c.y,.int .i64 r.c.z,.int .i64 r.empty,.int .i64 r.full,.rsl (Ql (Qa r.feet)) 0 ((Qa r.feet).length),.int .i64 (Qb r)] 0,.opq yv0]++unds (Try.f61.ntmps - 2),[]⟩ :=
 Qw (n:=400) (ds:=[]) (live:=[0,1,9,10]) (m:=0) (evs:=[.stop]) (obs:=[]) hE.kind (hE.nogh _) Qi (by kernel_rfl) trivial hg
def f61K1 (P:Program):List Item:=kAt 400 [.code (Qe P 61)] [.b true,.stop]
def f61S1 (r:Rg) (yv0:Value) (p v:Nat):St:=⟨([.rptr [.rsl (rowS r.seats) 0 r.seats.length,.rsl (rowP r.feet) 0 r.feet.length,.int .i64 r.frame,.int .i64 r.c.x,.int .i64 r.c.y,.int .i64 r.c.z,.int .i64 r.empty,.int .i64 r.full,.rsl (Ql (Qa r.feet)) 0 ((Qa r.feet).length),.int .i64 (Qb r)] 0,.opq yv0,J,J,.int .i64 (p:Int),J,J,J,J,.int .i64 (Qb r),.int .i64 (p:Int)]++jj 6 ([.int .i64 (((Qa r.feet).length:Nat):Int),.int .i64 (v:Int)]++Js 14)),[]⟩
theorem p61_0n (r:Rg) (yv0:Value) (p:Nat) {E:Env} {xs:List (List AV)} {yv:Value} {Y:Option Nat→Sd} {cont:Nat→Bool} {e:Option Nat} {o:Option Nat} (hE:IterE Try.prog 61 xs yv Y cont e o E) (h0:(decide ((p:Int)<(Qb r)))=true)
 (hg:G Try.prog E (f61K1 Try.prog) (f61S1 r yv0 p 0)):G Try.prog E (f61K0 Try.prog) (f61S0 r yv0 p) :=
 Qw (n:=400) (ds:=[]) (live:=[0,1,4,9,10,17,18]) (m:=0) (evs:=[.b true,.stop]) (obs:=[(decide ((p:Int)<(Qb r)))=true]) hE.kind (hE.nogh _) Qi (by kernel_rfl) ⟨h0,trivial⟩ hg
theorem p61_0e (r:Rg) (yv0:Value) (p:Nat) {E:Env} {xs:List (List AV)} {yv:Value} {Y:Option Nat→Sd} {cont:Nat→Bool} {e:Option Nat} (hE:IterE Try.prog 61 xs yv Y cont e e E) (h0:(decide ((p:Int)<(Qb r)))=false):G Try.prog E (f61K0 Try.prog) (f61S0 r yv0 p) :=
 WK (n:=400) (evs:=[.b false]) (obs:=[(decide ((p:Int)<(Qb r)))=false]) hE Try.func61 (by kernel_rfl) Qi (by kernel_rfl) ⟨h0,trivial⟩
def f61Kh (P:Program):List Item:=toOp 8 (kReg 400 [.code (Qe P 61)] [.b true,.b true] 6)
def f61Sh (r:Rg) (yv0:Value) (p v:Nat) (mv:Int):St:=⟨([.rptr [.rsl (rowS r.seats) 0 r.seats.length,.rsl (rowP r.feet) 0 r.feet.length,.int .i64 r.frame,.int .i64 r.c.x,.int .i64 r.c.y,.int .i64 r.c.z,.int .i64 r.empty,.int .i64 r.full,.rsl (Ql (Qa r.feet)) 0 ((Qa r.feet).length),.int .i64 (Qb r)] 0,.opq yv0,J,J,.int .i64 (p:Int),.int .i64 (v:Int),J,J,J,.int .i64 (Qb r),.int .i64 (p:Int)]++jj 6 ([.int .i64 (((Qa r.feet).length:Nat):Int),.int .i64 (v:Int),.bool (decide ((v:Int)<(((Qa r.feet).length:Nat):Int))),.int .i64 (v:Int),.opq yv0,.int .i64 (p:Int),.int .i64 (v:Int),.agg [.int .i64 (p:Int),.int .i64 (v:Int)],.rptr [.rsl (rowS r.seats) 0 r.seats.length,.rsl (rowP r.feet) 0 r.feet.length,.int .i64 r.frame,.int .i64 r.c.x,.int .i64 r.c.y,.int .i64 r.c.z,.int .i64 r.empty,.int .i64 r.full,.rsl (Ql (Qa r.feet)) 0 ((Qa r.feet).length),.int .i64 (Qb r)] 0,.int .i64 (p:Int),.int .i64 (v:Int),.int .i64 mv,J,J,J,J])),[]⟩
def f61Kha (P:Program):List Item:=toOp 9 (kReg 400 [.code (Qe P 61)] [.b true,.b true] 6)
def f61Sha (r:Rg) (yv0:Value) (p v:Nat) (mv:Int) (b:Bool):St:=⟨([.rptr [.rsl (rowS r.seats) 0 r.seats.length,.rsl (rowP r.feet) 0 r.feet.length,.int .i64 r.frame,.int .i64 r.c.x,.int .i64 r.c.y,.int .i64 r.c.z,.int .i64 r.empty,.int .i64 r.full,.rsl (Ql (Qa r.feet)) 0 ((Qa r.feet).length),.int .i64 (Qb r)] 0,.opq yv0,J,J,.int .i64 (p:Int),.int .i64 (v:Int),J,J,J,.int .i64 (Qb r),.int .i64 (p:Int)]++jj 6 ([.int .i64 (((Qa r.feet).length:Nat):Int),.int .i64 (v:Int),.bool (decide ((v:Int)<(((Qa r.feet).length:Nat):Int))),.int .i64 (v:Int),.opq yv0,.int .i64 (p:Int),.int .i64 (v:Int),.agg [.int .i64 (p:Int),.int .i64 (v:Int)],.rptr [.rsl (rowS r.seats) 0 r.seats.length,.rsl (rowP r.feet) 0 r.feet.length,.int .i64 r.frame,.int .i64 r.c.x,.int .i64 r.c.y,.int .i64 r.c.z,.int .i64 r.empty,.int .i64 r.full,.rsl (Ql (Qa r.feet)) 0 ((Qa r.feet).length),.int .i64 (Qb r)] 0,.int .i64 (p:Int),.int .i64 (v:Int),.int .i64 mv,.bool b,J,J,J])),[]⟩
theorem f61_h (r:Rg) (yv0:Value) (p v:Nat) (mv:Int):yieldA (f61Kh Try.prog) (f61Sh r yv0 p v mv)=some (f61Kha Try.prog,some 29,yv0,[.agg [.int .i64 (p:Int),.int .i64 (v:Int)],.int .i64 mv]):=by kernel_rfl
theorem p61_1h (r:Rg) (yv0:Value) (p v:Nat) (mv:Int) {E:Env} {xs:List (List AV)} {yv:Value} {Y:Option Nat→Sd} {cont:Nat→Bool} {e:Option Nat} {o:Option Nat} (hE:IterE Try.prog 61 xs yv Y cont e o E) (h0:(decide ((v:Int)<(((Qa r.feet).length:Nat):Int)))=true) (h1:Qf Try.prog (.clos 57 [] []) [.rptr [.rsl (rowS r.seats) 0 r.seats.length,.rsl (rowP r.feet) 0 r.feet.length,.int .i64 r.frame,.int .i64 r.c.x,.int .i64 r.c.y,.int .i64 r.c.z,.int .i64 r.empty,.int .i64 r.full,.rsl (Ql (Qa r.feet)) 0 ((Qa r.feet).length),.int .i64 (Qb r)] 0,.int .i64 (p:Int),.int .i64 (v:Int),.clos 89 [] []] (.int .i64 mv))
 (hg:G Try.prog E (f61Kh Try.prog) (f61Sh r yv0 p v mv)):G Try.prog E (f61K1 Try.prog) (f61S1 r yv0 p v) :=
 Qw (n:=400) (ds:=[]) (live:=[0,1,2,3,4,5,6,7,8,9,10,11,12,13,14,15,16,17,18,19,20,21,22,23,24,25,26,27,28,29,30,31,32]) (m:=0) (evs:=[.b true,.v (.int .i64 mv),.hold 0]) (obs:=[(decide ((v:Int)<(((Qa r.feet).length:Nat):Int)))=true,Qf Try.prog (.clos 57 [] []) [.rptr [.rsl (rowS r.seats) 0 r.seats.length,.rsl (rowP r.feet) 0 r.feet.length,.int .i64 r.frame,.int .i64 r.c.x,.int .i64 r.c.y,.int .i64 r.c.z,.int .i64 r.empty,.int .i64 r.full,.rsl (Ql (Qa r.feet)) 0 ((Qa r.feet).length),.int .i64 (Qb r)] 0,.int .i64 (p:Int),.int .i64 (v:Int),.clos 89 [] []] (.int .i64 mv)]) hE.kind (hE.nogh _) Qi (by kernel_rfl) ⟨h0,h1,trivial⟩ hg
theorem p61_1e (r:Rg) (yv0:Value) (p v:Nat) {E:Env} {xs:List (List AV)} {yv:Value} {Y:Option Nat→Sd} {cont:Nat→Bool} {e:Option Nat} {o:Option Nat} (hE:IterE Try.prog 61 xs yv Y cont e o E) (h0:(decide ((v:Int)<(((Qa r.feet).length:Nat):Int)))=false) (h1:InR .i64 ((p:Int)+1))
 (hg:G Try.prog E (f61K0 Try.prog) (f61S0 r yv0 (p+1))):G Try.prog E (f61K1 Try.prog) (f61S1 r yv0 p v) :=
 Qw (n:=400) (ds:=[]) (live:=[0,1,9,10]) (m:=0) (evs:=[.b false,.stop]) (obs:=[(decide ((v:Int)<(((Qa r.feet).length:Nat):Int)))=false,InR .i64 ((p:Int)+1)]) hE.kind (hE.nogh _) Qi (by kernel_rfl) ⟨h0,h1,trivial⟩ hg
theorem p61_a0 (r:Rg) (yv0:Value) (p v:Nat) (mv:Int) (b:Bool) {E:Env} {xs:List (List AV)} {yv:Value} {Y:Option Nat→Sd} {cont:Nat→Bool} {e:Option Nat} (hE:IterE Try.prog 61 xs yv Y cont e e E) (h0:(!b)=true):G Try.prog E (f61Kha Try.prog) (f61Sha r yv0 p v mv b) :=
 WK (n:=400) (evs:=[.b true]) (obs:=[(!b)=true]) hE Try.func61 (by kernel_rfl) Qi (by kernel_rfl) ⟨h0,trivial⟩
theorem p61_a1 (r:Rg) (yv0:Value) (p v:Nat) (mv:Int) (b:Bool) {E:Env} {xs:List (List AV)} {yv:Value} {Y:Option Nat→Sd} {cont:Nat→Bool} {e:Option Nat} {o:Option Nat} (hE:IterE Try.prog 61 xs yv Y cont e o E) (h0:(!b)=false) (h1:InR .i64 ((v:Int)+1))
 (hg:G Try.prog E (f61K1 Try.prog) (f61S1 r yv0 p (v+1))):G Try.prog E (f61Kha Try.prog) (f61Sha r yv0 p v mv b) :=
 Qw (n:=400) (ds:=[]) (live:=[0,1,4,9,10,17,18]) (m:=0) (evs:=[.b false,.stop]) (obs:=[(!b)=false,InR .i64 ((v:Int)+1)]) hE.kind (hE.nogh _) Qi (by kernel_rfl) ⟨h0,h1,trivial⟩ hg
end Go.Proofs.Ytideokfbnegkjaa
namespace Go.Proofs.Ytideokfbnegkjaa
open Go Ax
open Go.Proofs
def QL (r:Rg) (v:Nat):Pt × Pt:=(Qa r.feet).getD v (⟨0,0,0⟩,⟨0,0,0⟩)
def QF (r:Rg) (pv:Nat × Nat):Int:=XU r pv.1 (QL r pv.2) outF
def argW (r:Rg) (pv:Nat × Nat):List AV:=[.agg [.int .i64 (pv.1:Int),.int .i64 (pv.2:Int)],.int .i64 (QF r pv)]
def wlV (k p v d:Nat):List (Nat × Nat):=(List.range' v d).map fun v=>(p,v)
def wlP (k p d:Nat):List (Nat × Nat):=(List.range' p d).flatMap fun p=>wlV k p 0 k
theorem XE (f:List Pt):(Qa f).length=f.length:=by simp [Qa]
theorem XN {r:Rg} {v:Nat} (h:v<r.feet.length):(Qa r.feet)[v]?=some (QL r v):=by
 have:v<(Qa r.feet).length:=by rw [XE]; exact h
 simp [QL,List.getD,this]
theorem YS {r:Rg} {n v:Nat} (hr:RgOk r n) (h:v<r.feet.length):Qk (QL r v).1=true∧Qk (QL r v).2=true:=by
 have hg:=XN h
 unfold Qa at hg
 rw [List.getElem?_map] at hg
 have e:(List.range' 0 r.feet.length)[v]?=some v:=by simp [h]
 rw [e] at hg
 simp only [Option.map_some,Option.some.injEq] at hg
 have h2:(v+1) % r.feet.length<r.feet.length:=Nat.mod_lt _ (by omega)
 rw [← hg]
 constructor
 · refine hr.foot _ ?_
   simp only [List.getD_eq_getElem?_getD,List.getElem?_eq_getElem h,Option.getD_some]; exact List.getElem_mem h
 · refine hr.foot _ ?_
   simp only [List.getD_eq_getElem?_getD,List.getElem?_eq_getElem h2,Option.getD_some]; exact List.getElem_mem h2
section
variable {L:List (Nat × Nat)} {yv:Value} {Y:Option Nat→Sd} {cont:Nat→Bool} {e:Option Nat} {r:Rg} {nn:Nat}
theorem iw_v (hr:RgOk r nn) {p:Nat} (hp:p<nn) (hn:nn≤1000) {R:List (Nat × Nat)} :
 ∀ (d v n:Nat) (E:Env),v+d=r.feet.length→IterE Try.prog 61 (L.map (argW r)) yv Y cont e (some n) E→QU cont n (L.length - n)=e→L.drop n=wlV r.feet.length p v d++R →
  (∀ (E':Env) (n':Nat),IterE Try.prog 61 (L.map (argW r)) yv Y cont e (some n') E'→QU cont n' (L.length - n')=e→L.drop n'=R→G Try.prog E' (f61K0 Try.prog) (f61S0 r yv (p+1))) →
  G Try.prog E (f61K1 Try.prog) (f61S1 r yv p v)
 | 0,v,n,E,hd,hE,hi,hL,hg=>by
  refine p61_1e r yv p v hE (by simp [XE]; omega) (by unfold InR; omega) (hg E n hE hi ?_)
  simpa [wlV] using hL
 | d+1,v,n,E,hd,hE,hi,hL,hg=>by
  have hcons:wlV r.feet.length p v (d+1)=(p,v) :: wlV r.feet.length p (v+1) d:=by simp [wlV,List.range'_succ]
  rw [hcons,List.cons_append] at hL
  obtain ⟨g1,g2,g3⟩:=drop_cons hL
  have hv:v<r.feet.length:=by omega
  obtain ⟨l1,l2⟩:=YS hr hv
  have hm:=moment_ok r nn p v hr hp (QL r v).1 (QL r v).2 (XN hv) l1 l2
  refine p61_1h r yv p v (QF r (p,v)) hE (by simp [XE]; omega) (Qm Try.func57 (by kernel_rfl) f57b hm) ?_
  refine WM (x:=argW r (p,v)) hE (by simp [g1]) (f61_h r yv p v _) rfl fun E' hE'=>?_
  have hst:L.length - n=(L.length - (n+1))+1:=by omega
  rw [hst] at hi
  simp only [QU] at hi
  have hf8:=hr.feet1
  cases hc:cont n with
  | true =>
   simp only [nxt,hc,cond_true] at hE' hi
   refine p61_a1 r yv p v _ true hE' rfl (by unfold InR; omega) ?_
   exact iw_v hr hp hn d (v+1) (n+1) E' (by omega) hE' hi g2 hg
  | false =>
   simp only [nxt,hc,cond_false] at hE' hi
   subst hi
   exact p61_a0 r yv p v _ false hE' rfl
theorem iw_p (hr:RgOk r nn) (hph:Qb r=nn) (hn:nn≤1000) :
 ∀ (d p n:Nat) (E:Env),p+d=nn→IterE Try.prog 61 (L.map (argW r)) yv Y cont e (some n) E→QU cont n (L.length - n)=e→L.drop n=wlP r.feet.length p d→G Try.prog E (f61K0 Try.prog) (f61S0 r yv p)
 | 0,p,n,E,hd,hE,hi,hL=>by
  have hn:L.length≤n:=by
   have:L.drop n=[]:=by rw [hL]; rfl
   exact List.drop_eq_nil_iff.1 this
  have e0:L.length - n=0:=by omega
  rw [e0] at hi
  simp only [QU] at hi
  subst hi
  exact p61_0e r yv p hE (by rw [hph]; simp; omega)
 | d+1,p,n,E,hd,hE,hi,hL=>by
  have hcons:wlP r.feet.length p (d+1)=wlV r.feet.length p 0 r.feet.length++wlP r.feet.length (p+1) d:=by simp [wlP,List.range'_succ,List.flatMap_cons]
  rw [hcons] at hL
  refine p61_0n r yv p hE (by rw [hph]; simp; omega) ?_
  exact iw_v hr (by omega) hn r.feet.length 0 n E (by omega) hE hi hL fun E' n' hE' hi' hL'=>iw_p hr hph hn d (p+1) n' E' (by omega) hE' hi' hL'
end
theorem worst_iter (r:Rg) (n:Nat) (hr:RgOk r n) (hph:Qb r=n) (hn:n≤1000) :
 IterF Try.prog (.clos 61 [.rptr [.rsl (rowS r.seats) 0 r.seats.length,.rsl (rowP r.feet) 0 r.feet.length,.int .i64 r.frame,.int .i64 r.c.x,.int .i64 r.c.y,.int .i64 r.c.z,.int .i64 r.empty,.int .i64 r.full,.rsl (Ql (Qa r.feet)) 0 ((Qa r.feet).length),.int .i64 (Qb r)] 0] [])
  ((wlP r.feet.length 0 n).map (argW r)) :=
 iterF_of Try.func61 (by kernel_rfl) f61b fun E yv Y cont hE=>by
  have hx:((wlP r.feet.length 0 n).map (argW r)).length=(wlP r.feet.length 0 n).length:=by simp
  rw [hx] at hE
  exact p61_s r yv hE (iw_p hr hph hn n 0 0 E (by omega) hE (by simp) rfl)
end Go.Proofs.Ytideokfbnegkjaa
namespace Go.Proofs.Ytideokfbnegkjaa
open Go Ax
open Go.Proofs
theorem f86b:Try.f86.body=some (Qe Try.prog 86):=by kernel_rfl
def f86K0 (P:Program):List Item:=kAt 400 [.code (Qe P 86)] [.stop]
def f86S0 (r:Rg) (i:Nat):St:=⟨([.rptr [.rsl (rowS r.seats) 0 r.seats.length,.rsl (rowP r.feet) 0 r.feet.length,.int .i64 r.frame,.int .i64 r.c.x,.int .i64 r.c.y,.int .i64 r.c.z,.int .i64 r.empty,.int .i64 r.full,.rsl (Ql (Qa r.feet)) 0 ((Qa r.feet).length),.int .i64 (Qb r)] 0,J,J,.int .i64 (r.feet.length:Int)]++jj 13 ([.rsl (Ql (Qa r.feet)) 0 ((Qa r.feet).length),.int .i64 (((Qa r.feet).length:Nat):Int),.int .i64 (i:Int)]++Js 34)),[]⟩
theorem p86_s (r:Rg) {E:Env} {res:AV} (hE:Qh Try.prog 86 res E)
 (hg:G Try.prog E (f86K0 Try.prog) (f86S0 r 0)):G Try.prog E [.code (Qe Try.prog 86)] ⟨[.rptr [.rsl (rowS r.seats) 0 r.seats.length,.rsl (rowP r.feet) 0 r.feet.length,.int .i64 r.frame,.int .i64 r.c.x,.int .i64 r.c.y,.int .i64 r.c.z,.int .i64 r.empty,.int .i64 r.full,.rsl (Ql (Qa r.feet)) 0 ((Qa r.feet).length),.int .i64 (Qb r)] 0]++unds (Try.f86.ntmps - 1),[]⟩ :=
 Qw (n:=400) (ds:=[]) (live:=[0,3,17,18,19]) (m:=0) (evs:=[.stop]) (obs:=[]) hE.2.1 (hE.nogh _) Qi (by kernel_rfl) trivial hg
def qC (P:Program):List Item:=kAt 400 [.code (Qe P 86)] [.b true,.stop]
def qB (r:Rg) (i k:Nat) (a b:Pt):St:=⟨([.rptr [.rsl (rowS r.seats) 0 r.seats.length,.rsl (rowP r.feet) 0 r.feet.length,.int .i64 r.frame,.int .i64 r.c.x,.int .i64 r.c.y,.int .i64 r.c.z,.int .i64 r.empty,.int .i64 r.full,.rsl (Ql (Qa r.feet)) 0 ((Qa r.feet).length),.int .i64 (Qb r)] 0,J,J,.int .i64 (r.feet.length:Int),.int .i64 (i:Int),.ptr 0 0 0]++jj 11 ([.rsl (Ql (Qa r.feet)) 0 ((Qa r.feet).length),.int .i64 (((Qa r.feet).length:Nat):Int),.int .i64 (i:Int)]++jj 8 ([.rsl (rowP r.feet) 0 r.feet.length,.int .i64 (r.feet.length:Int),.int .i64 (k:Int)]++Js 23))),[⟨true,0,1,true,[.int .i64 a.x,.int .i64 a.y,.int .i64 a.z,.int .i64 b.x,.int .i64 b.y,.int .i64 b.z],false⟩]⟩
theorem p86_0n (r:Rg) (i:Nat) (a b:Pt) {E:Env} {res:AV} (hE:Qh Try.prog 86 res E) (h0:(decide ((i:Int)<(((Qa r.feet).length:Nat):Int)))=true) (h1:0≤(i:Int)∧(i:Int)<(((Qa r.feet).length:Nat):Int)) (h2:((Ql (Qa r.feet)).drop (0+((Int.toNat (i:Int))*6))).take 6=[.int .i64 a.x,.int .i64 a.y,.int .i64 a.z,.int .i64 b.x,.int .i64 b.y,.int .i64 b.z])
 (hg:G Try.prog E (qC Try.prog) (qB r i 0 a b)):G Try.prog E (f86K0 Try.prog) (f86S0 r i) :=
 Qw (n:=400) (ds:=[]) (live:=[0,3,4,5,17,18,19,28,29,30]) (m:=1) (evs:=[.b true,.ld (.agg [.int .i64 a.x,.int .i64 a.y,.int .i64 a.z,.int .i64 b.x,.int .i64 b.y,.int .i64 b.z]),.stop]) (obs:=[(decide ((i:Int)<(((Qa r.feet).length:Nat):Int)))=true,0≤(i:Int)∧(i:Int)<(((Qa r.feet).length:Nat):Int),((Ql (Qa r.feet)).drop (0+((Int.toNat (i:Int))*6))).take 6=[.int .i64 a.x,.int .i64 a.y,.int .i64 a.z,.int .i64 b.x,.int .i64 b.y,.int .i64 b.z],6≤6]) hE.2.1 (hE.nogh _) Qi (by kernel_rfl) ⟨h0,h1,h2,(by decide),trivial⟩ hg
theorem p86_0e (r:Rg) (i:Nat) {E:Env} {res:AV} (hE:Qh Try.prog 86 res E) (h0:(decide ((i:Int)<(((Qa r.feet).length:Nat):Int)))=false)
 (hr:.bool true=res):G Try.prog E (f86K0 Try.prog) (f86S0 r i) :=
 Qq (n:=400) (evs:=[.b false]) (obs:=[(decide ((i:Int)<(((Qa r.feet).length:Nat):Int)))=false]) hE Try.func86 Qi (by kernel_rfl) ⟨h0,trivial⟩ hr
theorem p86_1_0 (r:Rg) (i k:Nat) (a b:Pt) (q:Pt) {E:Env} {res:AV} (hE:Qh Try.prog 86 res E) (h0:(decide ((k:Int)<(r.feet.length:Int)))=true) (h1:0≤(k:Int)∧(k:Int)<(r.feet.length:Int)) (h2:((rowP r.feet).drop (0+((Int.toNat (k:Int))*3))).take 3=[.int .i64 q.x,.int .i64 q.y,.int .i64 q.z]) (h4:((k:Int) != (i:Int))=true) (h5:InR .i64 ((i:Int)+1)) (h6:(r.feet.length:Int) ≠ 0) (h7:((k:Int) != (Int.tmod ((i:Int)+1) (r.feet.length:Int)))=true) (h8:Qf Try.prog (.clos 87 [] []) [.agg [.int .i64 a.x,.int .i64 a.y,.int .i64 a.z,.int .i64 b.x,.int .i64 b.y,.int .i64 b.z],.agg [.int .i64 q.x,.int .i64 q.y,.int .i64 q.z]] (.int .i64 (arm a b q))) (h9:(decide ((arm a b q)≤0))=true)
 (hr:.bool false=res):G Try.prog E (qC Try.prog) (qB r i k a b) :=
 Qq (n:=400) (evs:=[.b true,.ld (.agg [.int .i64 q.x,.int .i64 q.y,.int .i64 q.z]),.b true,.b true,.v (.int .i64 (arm a b q)),.b true]) (obs:=[(decide ((k:Int)<(r.feet.length:Int)))=true,0≤(k:Int)∧(k:Int)<(r.feet.length:Int),((rowP r.feet).drop (0+((Int.toNat (k:Int))*3))).take 3=[.int .i64 q.x,.int .i64 q.y,.int .i64 q.z],3≤3,((k:Int) != (i:Int))=true,InR .i64 ((i:Int)+1),(r.feet.length:Int) ≠ 0,((k:Int) != (Int.tmod ((i:Int)+1) (r.feet.length:Int)))=true,Qf Try.prog (.clos 87 [] []) [.agg [.int .i64 a.x,.int .i64 a.y,.int .i64 a.z,.int .i64 b.x,.int .i64 b.y,.int .i64 b.z],.agg [.int .i64 q.x,.int .i64 q.y,.int .i64 q.z]] (.int .i64 (arm a b q)),(decide ((arm a b q)≤0))=true]) hE Try.func86 Qi (by kernel_rfl) ⟨h0,h1,h2,(by decide),h4,h5,h6,h7,h8,h9,trivial⟩ hr
theorem p86_1_1 (r:Rg) (i k:Nat) (a b:Pt) (q:Pt) {E:Env} {res:AV} (hE:Qh Try.prog 86 res E) (h0:(decide ((k:Int)<(r.feet.length:Int)))=true) (h1:0≤(k:Int)∧(k:Int)<(r.feet.length:Int)) (h2:((rowP r.feet).drop (0+((Int.toNat (k:Int))*3))).take 3=[.int .i64 q.x,.int .i64 q.y,.int .i64 q.z]) (h4:((k:Int) != (i:Int))=true) (h5:InR .i64 ((i:Int)+1)) (h6:(r.feet.length:Int) ≠ 0) (h7:((k:Int) != (Int.tmod ((i:Int)+1) (r.feet.length:Int)))=true) (h8:Qf Try.prog (.clos 87 [] []) [.agg [.int .i64 a.x,.int .i64 a.y,.int .i64 a.z,.int .i64 b.x,.int .i64 b.y,.int .i64 b.z],.agg [.int .i64 q.x,.int .i64 q.y,.int .i64 q.z]] (.int .i64 (arm a b q))) (h9:(decide ((arm a b q)≤0))=false) (h10:InR .i64 ((k:Int)+1))
 (hg:G Try.prog E (qC Try.prog) (qB r i (k+1) a b)):G Try.prog E (qC Try.prog) (qB r i k a b) :=
 Qw (n:=400) (ds:=[]) (live:=[0,3,4,5,17,18,19,28,29,30]) (m:=1) (evs:=[.b true,.ld (.agg [.int .i64 q.x,.int .i64 q.y,.int .i64 q.z]),.b true,.b true,.v (.int .i64 (arm a b q)),.b false,.stop]) (obs:=[(decide ((k:Int)<(r.feet.length:Int)))=true,0≤(k:Int)∧(k:Int)<(r.feet.length:Int),((rowP r.feet).drop (0+((Int.toNat (k:Int))*3))).take 3=[.int .i64 q.x,.int .i64 q.y,.int .i64 q.z],3≤3,((k:Int) != (i:Int))=true,InR .i64 ((i:Int)+1),(r.feet.length:Int) ≠ 0,((k:Int) != (Int.tmod ((i:Int)+1) (r.feet.length:Int)))=true,Qf Try.prog (.clos 87 [] []) [.agg [.int .i64 a.x,.int .i64 a.y,.int .i64 a.z,.int .i64 b.x,.int .i64 b.y,.int .i64 b.z],.agg [.int .i64 q.x,.int .i64 q.y,.int .i64 q.z]] (.int .i64 (arm a b q)),(decide ((arm a b q)≤0))=false,InR .i64 ((k:Int)+1)]) hE.2.1 (hE.nogh _) Qi (by kernel_rfl) ⟨h0,h1,h2,(by decide),h4,h5,h6,h7,h8,h9,h10,trivial⟩ hg
theorem p86_1_2 (r:Rg) (i k:Nat) (a b:Pt) (q:Pt) {E:Env} {res:AV} (hE:Qh Try.prog 86 res E) (h0:(decide ((k:Int)<(r.feet.length:Int)))=true) (h1:0≤(k:Int)∧(k:Int)<(r.feet.length:Int)) (h2:((rowP r.feet).drop (0+((Int.toNat (k:Int))*3))).take 3=[.int .i64 q.x,.int .i64 q.y,.int .i64 q.z]) (h4:((k:Int) != (i:Int))=true) (h5:InR .i64 ((i:Int)+1)) (h6:(r.feet.length:Int) ≠ 0) (h7:((k:Int) != (Int.tmod ((i:Int)+1) (r.feet.length:Int)))=false) (h9:InR .i64 ((k:Int)+1))
 (hg:G Try.prog E (qC Try.prog) (qB r i (k+1) a b)):G Try.prog E (qC Try.prog) (qB r i k a b) :=
 Qw (n:=400) (ds:=[]) (live:=[0,3,4,5,17,18,19,28,29,30]) (m:=1) (evs:=[.b true,.ld (.agg [.int .i64 q.x,.int .i64 q.y,.int .i64 q.z]),.b true,.b false,.b false,.stop]) (obs:=[(decide ((k:Int)<(r.feet.length:Int)))=true,0≤(k:Int)∧(k:Int)<(r.feet.length:Int),((rowP r.feet).drop (0+((Int.toNat (k:Int))*3))).take 3=[.int .i64 q.x,.int .i64 q.y,.int .i64 q.z],3≤3,((k:Int) != (i:Int))=true,InR .i64 ((i:Int)+1),(r.feet.length:Int) ≠ 0,((k:Int) != (Int.tmod ((i:Int)+1) (r.feet.length:Int)))=false,false=false,InR .i64 ((k:Int)+1)]) hE.2.1 (hE.nogh _) Qi (by kernel_rfl) ⟨h0,h1,h2,(by decide),h4,h5,h6,h7,rfl,h9,trivial⟩ hg
theorem p86_1_3 (r:Rg) (i k:Nat) (a b:Pt) (q:Pt) {E:Env} {res:AV} (hE:Qh Try.prog 86 res E) (h0:(decide ((k:Int)<(r.feet.length:Int)))=true) (h1:0≤(k:Int)∧(k:Int)<(r.feet.length:Int)) (h2:((rowP r.feet).drop (0+((Int.toNat (k:Int))*3))).take 3=[.int .i64 q.x,.int .i64 q.y,.int .i64 q.z]) (h4:((k:Int) != (i:Int))=false) (h7:InR .i64 ((k:Int)+1))
 (hg:G Try.prog E (qC Try.prog) (qB r i (k+1) a b)):G Try.prog E (qC Try.prog) (qB r i k a b) :=
 Qw (n:=400) (ds:=[]) (live:=[0,3,4,5,17,18,19,28,29,30]) (m:=1) (evs:=[.b true,.ld (.agg [.int .i64 q.x,.int .i64 q.y,.int .i64 q.z]),.b false,.b false,.b false,.stop]) (obs:=[(decide ((k:Int)<(r.feet.length:Int)))=true,0≤(k:Int)∧(k:Int)<(r.feet.length:Int),((rowP r.feet).drop (0+((Int.toNat (k:Int))*3))).take 3=[.int .i64 q.x,.int .i64 q.y,.int .i64 q.z],3≤3,((k:Int) != (i:Int))=false,false=false,false=false,InR .i64 ((k:Int)+1)]) hE.2.1 (hE.nogh _) Qi (by kernel_rfl) ⟨h0,h1,h2,(by decide),h4,rfl,rfl,h7,trivial⟩ hg
theorem p86_1_4 (r:Rg) (i k:Nat) (a b:Pt) {E:Env} {res:AV} (hE:Qh Try.prog 86 res E) (h0:(decide ((k:Int)<(r.feet.length:Int)))=false) (h1:InR .i64 ((i:Int)+1))
 (hg:G Try.prog E (f86K0 Try.prog) (f86S0 r (i+1))):G Try.prog E (qC Try.prog) (qB r i k a b) :=
 Qw (n:=400) (ds:=[]) (live:=[0,3,17,18,19]) (m:=0) (evs:=[.b false,.stop]) (obs:=[(decide ((k:Int)<(r.feet.length:Int)))=false,InR .i64 ((i:Int)+1)]) hE.2.1 (hE.nogh _) Qi (by kernel_rfl) ⟨h0,h1,trivial⟩ hg
end Go.Proofs.Ytideokfbnegkjaa
namespace Go.Proofs.Ytideokfbnegkjaa
open Go Ax
open Go.Proofs
def Wt (r:Rg) (k:Nat):Pt:=r.feet.getD k ⟨0,0,0⟩
def badF (r:Rg) (i k:Nat):Bool:=((k:Int) != (i:Int)) && (((k:Int) != Int.tmod ((i:Int)+1) (r.feet.length:Int)) && decide (arm (QL r i).1 (QL r i).2 (Wt r k)≤0))
def convR (r:Rg) (i:Nat):Nat→Nat→Bool
 | _,0=>true
 | k,d+1=>!badF r i k && convR r i (k+1) d
def convP (r:Rg):Nat→Nat→Bool
 | _,0=>true
 | i,d+1=>convR r i 0 r.feet.length && convP r (i+1) d
def YX (r:Rg):Bool:=convP r 0 r.feet.length
structure FeetOk (r:Rg):Prop where
 feet0:3≤r.feet.length
 feet1:r.feet.length≤8
 foot:∀ p ∈ r.feet,Qk p=true
theorem lineAt_ok' {r:Rg} {v:Nat} (hr:FeetOk r) (h:v<r.feet.length):Qk (QL r v).1=true∧Qk (QL r v).2=true:=by
 have hg:=XN h
 unfold Qa at hg
 rw [List.getElem?_map] at hg
 have e:(List.range' 0 r.feet.length)[v]?=some v:=by simp [h]
 rw [e] at hg
 simp only [Option.map_some,Option.some.injEq] at hg
 have h2:(v+1) % r.feet.length<r.feet.length:=Nat.mod_lt _ (by omega)
 rw [← hg]
 constructor
 · refine hr.foot _ ?_
   simp only [List.getD_eq_getElem?_getD,List.getElem?_eq_getElem h,Option.getD_some]; exact List.getElem_mem h
 · refine hr.foot _ ?_
   simp only [List.getD_eq_getElem?_getD,List.getElem?_eq_getElem h2,Option.getD_some]; exact List.getElem_mem h2
theorem conv_k {E:Env} {res:AV} {r:Rg} (hE:Qh Try.prog 86 res E) (hr:FeetOk r) {i:Nat} (hi:i<r.feet.length) {cont:Bool}
 (hg:res=.bool cont→G Try.prog E (f86K0 Try.prog) (f86S0 r (i+1))):∀ (d k:Nat),k+d=r.feet.length→res=.bool (convR r i k d && cont) →
   G Try.prog E (qC Try.prog) (qB r i k (QL r i).1 (QL r i).2)
 | 0,k,hd,hr'=>p86_1_4 r i k _ _ hE (by simp; omega) (by have:=hr.feet1; unfold InR; omega) (hg (by rw [hr']; rfl))
 | d+1,k,hd,hr'=>by
  have hk:k<r.feet.length:=by omega
  have hq:r.feet[k]?=some (Wt r k):=by simp [Wt,List.getD,hk]
  obtain ⟨l1,l2⟩:=lineAt_ok' hr hi
  obtain ⟨q1,-,-⟩:=arm_bd l1 l2 (hr.foot _ (List.mem_of_getElem? hq))
  have h8:=hr.feet1
  simp only [convR] at hr'
  have row:=XD cP (s:=3) (fun _=>rfl) _ _ _ hq
  rcases Bool.eq_false_or_eq_true ((k:Int) != (i:Int)) with h1 | h1
  · rcases Bool.eq_false_or_eq_true ((k:Int) != Int.tmod ((i:Int)+1) (r.feet.length:Int)) with h2 | h2
    · rcases Bool.eq_false_or_eq_true (decide (arm (QL r i).1 (QL r i).2 (Wt r k)≤0)) with h3 | h3
      · refine p86_1_0 r i k _ _ (Wt r k) hE (by simpa using hk) (by omega) row h1 (by unfold InR; omega) (by omega) h2 (arm_F _ _ _ q1) h3 ?_
        rw [hr']; simp only [badF,h1,h2,h3]; rfl
      · refine p86_1_1 r i k _ _ (Wt r k) hE (by simpa using hk) (by omega) row h1 (by unfold InR; omega) (by omega) h2 (arm_F _ _ _ q1) h3 (by unfold InR; omega) ?_
        exact conv_k hE hr hi hg d (k+1) (by omega) (by rw [hr']; simp only [badF,h1,h2,h3]; rfl)
    · refine p86_1_2 r i k _ _ (Wt r k) hE (by simpa using hk) (by omega) row h1 (by unfold InR; omega) (by omega) h2 (by unfold InR; omega) ?_
      exact conv_k hE hr hi hg d (k+1) (by omega) (by rw [hr']; simp only [badF,h1,h2]; rfl)
  · refine p86_1_3 r i k _ _ (Wt r k) hE (by simpa using hk) (by omega) row h1 (by unfold InR; omega) ?_
    exact conv_k hE hr hi hg d (k+1) (by omega) (by rw [hr']; simp only [badF,h1]; rfl)
theorem conv_i {E:Env} {res:AV} {r:Rg} (hE:Qh Try.prog 86 res E) (hr:FeetOk r):∀ (d i:Nat),i+d=r.feet.length→res=.bool (convP r i d)→G Try.prog E (f86K0 Try.prog) (f86S0 r i)
 | 0,i,hd,hr'=>p86_0e r i hE (by simp [XE]; omega) (by rw [hr']; rfl)
 | d+1,i,hd,hr'=>by
  have hi:i<r.feet.length:=by omega
  refine p86_0n r i (QL r i).1 (QL r i).2 hE (by simp [XE]; omega) (by rw [XE]; omega) (XD (fun s:Pt × Pt=>cP s.1++cP s.2) (fun _=>rfl) _ _ _ (XN hi)) ?_
  exact conv_k hE hr hi (cont:=convP r (i+1) d) (fun h=>conv_i hE hr d (i+1) (by omega) h) r.feet.length 0 (by omega) hr'
theorem convex_ok (r:Rg) (hr:FeetOk r):Pure Try.prog 86 [.rptr [.rsl (rowS r.seats) 0 r.seats.length,.rsl (rowP r.feet) 0 r.feet.length,.int .i64 r.frame,.int .i64 r.c.x,.int .i64 r.c.y,.int .i64 r.c.z,.int .i64 r.empty,.int .i64 r.full,.rsl (Ql (Qa r.feet)) 0 ((Qa r.feet).length),.int .i64 (Qb r)] 0]
 (.bool (YX r)):=Qz Try.func86 f86b fun E hE=>p86_s r hE (conv_i hE hr r.feet.length 0 (by omega) rfl)
end Go.Proofs.Ytideokfbnegkjaa
namespace Ax
open Go
def AvLe (a b:AV):Prop:=∀ (Z:Nat→Prop) (w:World) (c:Value),VR Z w C0 a c→VR Z w C0 b c
def AvLes:List AV→List AV→Prop
 | [],[]=>True
 | a :: as',b :: bs=>AvLe a b∧AvLes as' bs
 | _,_=>False
theorem AvLe.refl (a:AV):AvLe a a:=fun _ _ _ h=>h
theorem AvLe.of_eq {a b:AV} (h:a=b):AvLe a b:=h ▸ AvLe.refl a
theorem nil_le {row:List AV} {off:Nat}:AvLe .nilSl (.rsl row off 0):=fun _ _ _ h=>by cases h; exact .rsl0
theorem AvLes.vrs {Z:Nat→Prop} {w:World}:∀ {as' bs:List AV} {vs:List Value},AvLes as' bs→VRs Z w C0 as' vs→VRs Z w C0 bs vs
 | [],[],vs,_,h=>h
 | a :: as',b :: bs,[],_,h=>by have:=h.1; simp at this
 | a :: as',b :: bs,v :: vs,hl,h=>by
  have h1:VR Z w C0 a v:=h.2 0 a v rfl rfl
  have h2:VRs Z w C0 as' vs:=⟨by have:=h.1; simpa using this,fun i c v p q=>h.2 (i+1) c v (by simpa using p) (by simpa using q)⟩
  have h3:=AvLes.vrs hl.2 h2
  refine ⟨by simp [h3.1],fun i c x p q=>?_⟩
  cases i with
  | zero=>simp at p q; subst p; subst q; exact hl.1 _ _ _ h1
  | succ i=>exact h3.2 i c x (by simpa using p) (by simpa using q)
 | [],b :: bs,_,hl,_=>hl.elim
 | a :: as',[],_,hl,_=>hl.elim
theorem tup_le {xs ys:List AV} (h:AvLes xs ys):AvLe (.tup xs) (.tup ys):=fun Z w c hc=>by
 cases hc with
 | @tup _ _ arr hl h1 =>
  have:=h.vrs (vs:=arr.toList) ⟨by simpa using hl,fun i c v p q=>h1 i c v p (by simpa using q)⟩
  exact .tup (by simpa using this.1) fun i c v p q=>this.2 i c v p (by simpa using q)
section
variable {P:Program} {E:Env} {K K':List Item} {st st':St}
theorem Pure.le {f:FuncId} {args args':List AV} {res:AV} (h:Pure P f args res) (hl:AvLes args' args):Pure P f args' res :=
 fun Z w cargs hz ha=>h Z w cargs hz (hl.vrs ha)
theorem Qf.le {fv:AV} {args args':List AV} {res:AV} (h:Qf P fv args res) (hl:AvLes args' args):Qf P fv args' res :=
 fun Z w cf cargs hz hf ha=>h Z w cf cargs hz hf (hl.vrs ha)
theorem G.fin {F':Machine→Prop} (h:G P { E with Fin:=F' } K st) (hm:∀ m,F' m→E.Fin m):G P E K st:=fun C Z a w hr =>
 let ⟨m',hs,hf⟩:=h C Z a w hr
 ⟨m',hs,hm m' hf⟩
theorem VP.mono {f:FuncId} {cs:List Frame} {Q Q':Value→World→Prop} (hq:∀ v w,Q v w→Q' v w) {m:Machine} (h:VP P f cs Q m):VP P f cs Q' m:=by
 obtain ⟨v,w,fr,e,a,b,c⟩:=h
 exact ⟨v,w,fr,e,a,b,hq _ _ c⟩
theorem Qj {n:Nat} {f:FuncId} {fn:Func} {evs:List EV} {r res:AV} {obs:List Prop} (hE:Qh P f res E) (hf:P.funcs[f]?=some fn) (hmx:P.follows .mixedOrders=true)
 (h:endA P fn n K st evs=some (r,obs)) (ho:AllP obs) (hr:AvLe r res):G P E K st:=by
 obtain ⟨e1,e2,e3,e4,e5,e6,e7⟩:=hE
 refine G.fin (F':=VP P f E.cs fun v w'=>VR (Zx E.Z0 E.w0 w') w' C0 r v∧Fr E.w0 (fun _=>False) w') (Qq ⟨e1,e2,e3,e4,e5,rfl,e7⟩ hf hmx h ho rfl) fun m hm=>?_
 rw [e6]
 exact VP.mono (fun v w hq=>⟨hr _ _ _ hq.1,hq.2⟩) hm
end
end Ax
namespace Go.Proofs.Ytideokfbnegkjaa
open Go Ax
open Go.Proofs
theorem f56b:Try.f56.body=some (Qe Try.prog 56):=by kernel_rfl
def WA (P:Program):List Item:=kAt 400 [.code (Qe P 56)] [.b false,.stop]
def qE (r:Rg) (i:Nat) (ph:Nat):St:=⟨([J,.ptr 0 0 0,J,J,.ptr 1 0 0]++jj 19 ([.rsl (rowS r.seats) 0 r.seats.length,.int .i64 (r.seats.length:Int),.int .i64 (i:Int)]++Js 82)),[⟨true,0,1,true,[.rsl (rowS r.seats) 0 r.seats.length,.rsl (rowP r.feet) 0 r.feet.length,.int .i64 r.frame,.int .i64 r.c.x,.int .i64 r.c.y,.int .i64 r.c.z,.int .i64 r.empty,.int .i64 r.full],false⟩,⟨true,0,1,true,[.rsl (rowS r.seats) 0 r.seats.length,.rsl (rowP r.feet) 0 r.feet.length,.int .i64 r.frame,.int .i64 r.c.x,.int .i64 r.c.y,.int .i64 r.c.z,.int .i64 r.empty,.int .i64 r.full,.nilSl,.int .i64 (ph:Int)],false⟩]⟩
def f56G0 (E:Env) (r:Rg) (i:Nat) (ph:Nat):Prop:=G Try.prog E (WA Try.prog) (qE r i ph )
def f56K1 (P:Program):List Item:=kAt 400 [.code (Qe P 56)] [.b false,.b false,.b false,.b false,.stop]
def f56S1 (r:Rg) (ph:Nat) (k:Nat) (ls:List (Pt × Pt)) (g2:Nat):St:=⟨([J,.ptr 0 0 0,J,J,.ptr 1 0 0]++jj 72 ([.rsl (rowP r.feet) 0 r.feet.length,.int .i64 (r.feet.length:Int),.int .i64 (k:Int)]++Js 29)),[⟨true,0,1,true,[.rsl (rowS r.seats) 0 r.seats.length,.rsl (rowP r.feet) 0 r.feet.length,.int .i64 r.frame,.int .i64 r.c.x,.int .i64 r.c.y,.int .i64 r.c.z,.int .i64 r.empty,.int .i64 r.full],false⟩,⟨true,0,1,false,[.rsl (rowS r.seats) 0 r.seats.length,.rsl (rowP r.feet) 0 r.feet.length,.int .i64 r.frame,.int .i64 r.c.x,.int .i64 r.c.y,.int .i64 r.c.z,.int .i64 r.empty,.int .i64 r.full,.sl 2 g2 0 ls.length 6,.int .i64 (ph:Int)],false⟩,⟨true,g2,6,true,(Ql ls),true⟩]⟩
def f56G1 (E:Env) (r:Rg) (ph:Nat) (k:Nat) (ls:List (Pt × Pt)):Prop:=∀ g2:Nat,G Try.prog E (f56K1 Try.prog) (f56S1 r ph k ls g2)
theorem p56_start_0 (r:Rg) {E:Env} {res:AV} (hE:Qh Try.prog 56 res E) (ho:AllP [(decide ((r.seats.length:Int) > 20))=true,true=true])
 (hr:AvLe (.tup [.nilPtr,.bool false]) res):G Try.prog E [.code (Qe Try.prog 56)] ⟨[.agg [.rsl (rowS r.seats) 0 r.seats.length,.rsl (rowP r.feet) 0 r.feet.length,.int .i64 r.frame,.int .i64 r.c.x,.int .i64 r.c.y,.int .i64 r.c.z,.int .i64 r.empty,.int .i64 r.full]]++unds (Try.f56.ntmps - 1),[]⟩ :=
 Qj (n:=400) (evs:=[.b true,.b true]) (obs:=_) hE Try.func56 Qi (by kernel_rfl) ho hr
theorem p56_start_1 (r:Rg) {E:Env} {res:AV} (hE:Qh Try.prog 56 res E) (ho:AllP [(decide ((r.seats.length:Int) > 20))=false,Qf Try.prog (.clos 51 [] []) [.int .i64 (r.feet.length:Int),.int .i64 3,.int .i64 8] (.bool (Qd (r.feet.length:Int) 3 8)),(!(Qd (r.feet.length:Int) 3 8))=true])
 (hr:AvLe (.tup [.nilPtr,.bool false]) res):G Try.prog E [.code (Qe Try.prog 56)] ⟨[.agg [.rsl (rowS r.seats) 0 r.seats.length,.rsl (rowP r.feet) 0 r.feet.length,.int .i64 r.frame,.int .i64 r.c.x,.int .i64 r.c.y,.int .i64 r.c.z,.int .i64 r.empty,.int .i64 r.full]]++unds (Try.f56.ntmps - 1),[]⟩ :=
 Qj (n:=400) (evs:=[.b false,.v (.bool (Qd (r.feet.length:Int) 3 8)),.b true]) (obs:=_) hE Try.func56 Qi (by kernel_rfl) ho hr
theorem p56_start_2 (r:Rg) {E:Env} {rv:AV} (hE:Qh Try.prog 56 rv E) (ho:AllP [(decide ((r.seats.length:Int) > 20))=false,Qf Try.prog (.clos 51 [] []) [.int .i64 (r.feet.length:Int),.int .i64 3,.int .i64 8] (.bool (Qd (r.feet.length:Int) 3 8)),(!(Qd (r.feet.length:Int) 3 8))=false])
 (hg:G Try.prog E (WA Try.prog) ⟨([J,.ptr 0 0 0,J,J,.ptr 1 0 0]++jj 19 ([.rsl (rowS r.seats) 0 r.seats.length,.int .i64 (r.seats.length:Int),.int .i64 0]++Js 82)),[⟨true,0,1,true,[.rsl (rowS r.seats) 0 r.seats.length,.rsl (rowP r.feet) 0 r.feet.length,.int .i64 r.frame,.int .i64 r.c.x,.int .i64 r.c.y,.int .i64 r.c.z,.int .i64 r.empty,.int .i64 r.full],false⟩,⟨true,0,1,true,[.rsl (rowS r.seats) 0 r.seats.length,.rsl (rowP r.feet) 0 r.feet.length,.int .i64 r.frame,.int .i64 r.c.x,.int .i64 r.c.y,.int .i64 r.c.z,.int .i64 r.empty,.int .i64 r.full,.nilSl,.int .i64 1],false⟩]⟩):G Try.prog E [.code (Qe Try.prog 56)] ⟨[.agg [.rsl (rowS r.seats) 0 r.seats.length,.rsl (rowP r.feet) 0 r.feet.length,.int .i64 r.frame,.int .i64 r.c.x,.int .i64 r.c.y,.int .i64 r.c.z,.int .i64 r.empty,.int .i64 r.full]]++unds (Try.f56.ntmps - 1),[]⟩ :=
 Qn (n:=400) (ds:=[]) (cs:=[]) (live:=[1,4,24,25,26]) (m:=2) (evs:=[.b false,.v (.bool (Qd (r.feet.length:Int) 3 8)),.b false,.stop]) (obs:=_) hE.2.1 (hE.nogh _) Qi (by kernel_rfl) ho hg
theorem f56W (r:Rg) {E:Env} {rv:AV} (hE:Qh Try.prog 56 rv E)
 (h:(((r.seats.length:Int) > 20→rv=(.tup [.nilPtr,.bool false]))∧(¬ ((r.seats.length:Int) > 20)→(((Qd (r.feet.length:Int) 3 8)=false→rv=(.tup [.nilPtr,.bool false]))∧((Qd (r.feet.length:Int) 3 8)=true→f56G0 E r 0 1))))):G Try.prog E [.code (Qe Try.prog 56)] ⟨[.agg [.rsl (rowS r.seats) 0 r.seats.length,.rsl (rowP r.feet) 0 r.feet.length,.int .i64 r.frame,.int .i64 r.c.x,.int .i64 r.c.y,.int .i64 r.c.z,.int .i64 r.empty,.int .i64 r.full]]++unds (Try.f56.ntmps - 1),[]⟩:=by
 rcases bft (decide ((r.seats.length:Int) > 20)) with hc0 | hc0
 · have h:=h.1 (odt hc0)
   exact p56_start_0 r hE ⟨hc0,rfl,trivial⟩ (AvLe.of_eq (by rw [h]; try rfl))
 · have h:=h.2 (odf hc0)
   rcases bft (!(Qd (r.feet.length:Int) 3 8)) with hc1 | hc1
   · have h:=h.1 (bnT hc1)
     exact p56_start_1 r hE ⟨hc0,(u51 (QG (r.feet.length:Int) 3 8)),hc1,trivial⟩ (AvLe.of_eq (by rw [h]; try rfl))
   · have h:=h.2 (bnF hc1)
     exact p56_start_2 r hE ⟨hc0,(u51 (QG (r.feet.length:Int) 3 8)),hc1,trivial⟩ h
theorem p56_0_0 (r:Rg) (i:Nat) (ph:Nat) (le:(List Pt)) {E:Env} {res:AV} (hE:Qh Try.prog 56 res E) (ho:AllP [(decide ((i:Int)<(r.seats.length:Int)))=true,0≤(i:Int)∧(i:Int)<(r.seats.length:Int),((rowS r.seats).drop (0+(Int.toNat (i:Int))*1)).take 1=[.rsl (rowP le) 0 le.length],Qf Try.prog (.clos 50 [] []) [.rsl (rowP le) 0 le.length] (.bool (QE le)),(!(QE le))=true,true=true])
 (hr:AvLe (.tup [.nilPtr,.bool false]) res):G Try.prog E (WA Try.prog) (qE r i ph ) :=
 Qj (n:=400) (evs:=[.b true,.ld (.rsl (rowP le) 0 le.length),.v (.bool (QE le)),.b true,.b true]) (obs:=_) hE Try.func56 Qi (by kernel_rfl) ho hr
theorem p56_0_1 (r:Rg) (i:Nat) (ph:Nat) (le:(List Pt)) (le1:(List Pt)) {E:Env} {res:AV} (hE:Qh Try.prog 56 res E) (ho:AllP [(decide ((i:Int)<(r.seats.length:Int)))=true,0≤(i:Int)∧(i:Int)<(r.seats.length:Int),((rowS r.seats).drop (0+(Int.toNat (i:Int))*1)).take 1=[.rsl (rowP le) 0 le.length],Qf Try.prog (.clos 50 [] []) [.rsl (rowP le) 0 le.length] (.bool (QE le)),(!(QE le))=false,(0:Int)≤0∧(0:Int)<(r.seats.length:Int),((rowS r.seats).drop (0+0*1)).take 1=[.rsl (rowP le1) 0 le1.length],((le.length:Int) != (le1.length:Int))=true])
 (hr:AvLe (.tup [.nilPtr,.bool false]) res):G Try.prog E (WA Try.prog) (qE r i ph ) :=
 Qj (n:=400) (evs:=[.b true,.ld (.rsl (rowP le) 0 le.length),.v (.bool (QE le)),.b false,.auto,.ld (.rsl (rowP le1) 0 le1.length),.b true]) (obs:=_) hE Try.func56 Qi (by kernel_rfl) ho hr
theorem p56_0_2 (r:Rg) (i:Nat) (ph:Nat) (le:(List Pt)) (le1:(List Pt)) {E:Env} {rv:AV} (hE:Qh Try.prog 56 rv E) (ho:AllP [(decide ((i:Int)<(r.seats.length:Int)))=true,0≤(i:Int)∧(i:Int)<(r.seats.length:Int),((rowS r.seats).drop (0+(Int.toNat (i:Int))*1)).take 1=[.rsl (rowP le) 0 le.length],Qf Try.prog (.clos 50 [] []) [.rsl (rowP le) 0 le.length] (.bool (QE le)),(!(QE le))=false,(0:Int)≤0∧(0:Int)<(r.seats.length:Int),((rowS r.seats).drop (0+0*1)).take 1=[.rsl (rowP le1) 0 le1.length],((le.length:Int) != (le1.length:Int))=false,10≤10,InR .i64 ((i:Int)+1)])
 (hg:G Try.prog E (WA Try.prog) ⟨([J,.ptr 0 0 0,J,J,.ptr 1 0 0]++jj 19 ([.rsl (rowS r.seats) 0 r.seats.length,.int .i64 (r.seats.length:Int),.int .i64 ((i:Int)+1)]++Js 82)),[⟨true,0,1,true,[.rsl (rowS r.seats) 0 r.seats.length,.rsl (rowP r.feet) 0 r.feet.length,.int .i64 r.frame,.int .i64 r.c.x,.int .i64 r.c.y,.int .i64 r.c.z,.int .i64 r.empty,.int .i64 r.full],false⟩,⟨true,0,1,true,[.rsl (rowS r.seats) 0 r.seats.length,.rsl (rowP r.feet) 0 r.feet.length,.int .i64 r.frame,.int .i64 r.c.x,.int .i64 r.c.y,.int .i64 r.c.z,.int .i64 r.empty,.int .i64 r.full,.nilSl,.int .i64 (le.length:Int)],false⟩]⟩):G Try.prog E (WA Try.prog) (qE r i ph ) :=
 Qn (n:=400) (ds:=[]) (cs:=[]) (live:=[1,4,24,25,26]) (m:=2) (evs:=[.b true,.ld (.rsl (rowP le) 0 le.length),.v (.bool (QE le)),.b false,.auto,.ld (.rsl (rowP le1) 0 le1.length),.b false,.stop]) (obs:=_) hE.2.1 (hE.nogh _) Qi (by kernel_rfl) ho hg
theorem p56_0_3 (r:Rg) (i:Nat) (ph:Nat) {E:Env} {res:AV} (hE:Qh Try.prog 56 res E) (ho:AllP [(decide ((i:Int)<(r.seats.length:Int)))=false,Qf Try.prog (.clos 51 [] []) [.int .i64 r.frame,.int .i64 0,.int .i64 1000000] (.bool (Qd r.frame 0 1000000)),(!(Qd r.frame 0 1000000))=true,true=true,true=true,true=true])
 (hr:AvLe (.tup [.nilPtr,.bool false]) res):G Try.prog E (WA Try.prog) (qE r i ph ) :=
 Qj (n:=400) (evs:=[.b false,.v (.bool (Qd r.frame 0 1000000)),.b true,.b true,.b true,.b true]) (obs:=_) hE Try.func56 Qi (by kernel_rfl) ho hr
theorem p56_0_4 (r:Rg) (i:Nat) (ph:Nat) {E:Env} {res:AV} (hE:Qh Try.prog 56 res E) (ho:AllP [(decide ((i:Int)<(r.seats.length:Int)))=false,Qf Try.prog (.clos 51 [] []) [.int .i64 r.frame,.int .i64 0,.int .i64 1000000] (.bool (Qd r.frame 0 1000000)),(!(Qd r.frame 0 1000000))=false,Qf Try.prog (.clos 51 [] []) [.int .i64 r.full,.int .i64 0,.int .i64 1000000] (.bool (Qd r.full 0 1000000)),(!(Qd r.full 0 1000000))=true,true=true,true=true])
 (hr:AvLe (.tup [.nilPtr,.bool false]) res):G Try.prog E (WA Try.prog) (qE r i ph ) :=
 Qj (n:=400) (evs:=[.b false,.v (.bool (Qd r.frame 0 1000000)),.b false,.v (.bool (Qd r.full 0 1000000)),.b true,.b true,.b true]) (obs:=_) hE Try.func56 Qi (by kernel_rfl) ho hr
theorem p56_0_5 (r:Rg) (i:Nat) (ph:Nat) {E:Env} {res:AV} (hE:Qh Try.prog 56 res E) (ho:AllP [(decide ((i:Int)<(r.seats.length:Int)))=false,Qf Try.prog (.clos 51 [] []) [.int .i64 r.frame,.int .i64 0,.int .i64 1000000] (.bool (Qd r.frame 0 1000000)),(!(Qd r.frame 0 1000000))=false,Qf Try.prog (.clos 51 [] []) [.int .i64 r.full,.int .i64 0,.int .i64 1000000] (.bool (Qd r.full 0 1000000)),(!(Qd r.full 0 1000000))=false,Qf Try.prog (.clos 51 [] []) [.int .i64 r.empty,.int .i64 0,.int .i64 r.full] (.bool (Qd r.empty 0 r.full)),(!(Qd r.empty 0 r.full))=true,true=true])
 (hr:AvLe (.tup [.nilPtr,.bool false]) res):G Try.prog E (WA Try.prog) (qE r i ph ) :=
 Qj (n:=400) (evs:=[.b false,.v (.bool (Qd r.frame 0 1000000)),.b false,.v (.bool (Qd r.full 0 1000000)),.b false,.v (.bool (Qd r.empty 0 r.full)),.b true,.b true]) (obs:=_) hE Try.func56 Qi (by kernel_rfl) ho hr
theorem p56_0_6 (r:Rg) (i:Nat) (ph:Nat) {E:Env} {res:AV} (hE:Qh Try.prog 56 res E) (ho:AllP [(decide ((i:Int)<(r.seats.length:Int)))=false,Qf Try.prog (.clos 51 [] []) [.int .i64 r.frame,.int .i64 0,.int .i64 1000000] (.bool (Qd r.frame 0 1000000)),(!(Qd r.frame 0 1000000))=false,Qf Try.prog (.clos 51 [] []) [.int .i64 r.full,.int .i64 0,.int .i64 1000000] (.bool (Qd r.full 0 1000000)),(!(Qd r.full 0 1000000))=false,Qf Try.prog (.clos 51 [] []) [.int .i64 r.empty,.int .i64 0,.int .i64 r.full] (.bool (Qd r.empty 0 r.full)),(!(Qd r.empty 0 r.full))=false,Qf Try.prog (.clos 82 [] []) [.agg [.int .i64 r.c.x,.int .i64 r.c.y,.int .i64 r.c.z]] (.bool (Qk r.c)),(!(Qk r.c))=true])
 (hr:AvLe (.tup [.nilPtr,.bool false]) res):G Try.prog E (WA Try.prog) (qE r i ph ) :=
 Qj (n:=400) (evs:=[.b false,.v (.bool (Qd r.frame 0 1000000)),.b false,.v (.bool (Qd r.full 0 1000000)),.b false,.v (.bool (Qd r.empty 0 r.full)),.b false,.v (.bool (Qk r.c)),.b true]) (obs:=_) hE Try.func56 Qi (by kernel_rfl) ho hr
theorem p56_0_7 (r:Rg) (i:Nat) (ph:Nat) {E:Env} {res:AV} (hE:Qh Try.prog 56 res E) (ho:AllP [(decide ((i:Int)<(r.seats.length:Int)))=false,Qf Try.prog (.clos 51 [] []) [.int .i64 r.frame,.int .i64 0,.int .i64 1000000] (.bool (Qd r.frame 0 1000000)),(!(Qd r.frame 0 1000000))=false,Qf Try.prog (.clos 51 [] []) [.int .i64 r.full,.int .i64 0,.int .i64 1000000] (.bool (Qd r.full 0 1000000)),(!(Qd r.full 0 1000000))=false,Qf Try.prog (.clos 51 [] []) [.int .i64 r.empty,.int .i64 0,.int .i64 r.full] (.bool (Qd r.empty 0 r.full)),(!(Qd r.empty 0 r.full))=false,Qf Try.prog (.clos 82 [] []) [.agg [.int .i64 r.c.x,.int .i64 r.c.y,.int .i64 r.c.z]] (.bool (Qk r.c)),(!(Qk r.c))=false,Qf Try.prog (.clos 84 [] []) [.rsl (rowP r.feet) 0 r.feet.length,.clos 85 [] []] (.bool (r.feet.any QK)),(r.feet.any QK)=true])
 (hr:AvLe (.tup [.nilPtr,.bool false]) res):G Try.prog E (WA Try.prog) (qE r i ph ) :=
 Qj (n:=400) (evs:=[.b false,.v (.bool (Qd r.frame 0 1000000)),.b false,.v (.bool (Qd r.full 0 1000000)),.b false,.v (.bool (Qd r.empty 0 r.full)),.b false,.v (.bool (Qk r.c)),.b false,.v (.bool (r.feet.any QK)),.b true]) (obs:=_) hE Try.func56 Qi (by kernel_rfl) ho hr
theorem p56_0_8 (r:Rg) (i:Nat) (ph:Nat) {E:Env} {rv:AV} (hE:Qh Try.prog 56 rv E) (ho:AllP [(decide ((i:Int)<(r.seats.length:Int)))=false,Qf Try.prog (.clos 51 [] []) [.int .i64 r.frame,.int .i64 0,.int .i64 1000000] (.bool (Qd r.frame 0 1000000)),(!(Qd r.frame 0 1000000))=false,Qf Try.prog (.clos 51 [] []) [.int .i64 r.full,.int .i64 0,.int .i64 1000000] (.bool (Qd r.full 0 1000000)),(!(Qd r.full 0 1000000))=false,Qf Try.prog (.clos 51 [] []) [.int .i64 r.empty,.int .i64 0,.int .i64 r.full] (.bool (Qd r.empty 0 r.full)),(!(Qd r.empty 0 r.full))=false,Qf Try.prog (.clos 82 [] []) [.agg [.int .i64 r.c.x,.int .i64 r.c.y,.int .i64 r.c.z]] (.bool (Qk r.c)),(!(Qk r.c))=false,Qf Try.prog (.clos 84 [] []) [.rsl (rowP r.feet) 0 r.feet.length,.clos 85 [] []] (.bool (r.feet.any QK)),(r.feet.any QK)=false])
 (hg:G Try.prog E (f56K1 Try.prog) ⟨([J,.ptr 0 0 0,J,J,.ptr 1 0 0]++jj 72 ([.rsl (rowP r.feet) 0 r.feet.length,.int .i64 (r.feet.length:Int),.int .i64 0]++Js 29)),[⟨true,0,1,true,[.rsl (rowS r.seats) 0 r.seats.length,.rsl (rowP r.feet) 0 r.feet.length,.int .i64 r.frame,.int .i64 r.c.x,.int .i64 r.c.y,.int .i64 r.c.z,.int .i64 r.empty,.int .i64 r.full],false⟩,⟨true,0,1,false,[.rsl (rowS r.seats) 0 r.seats.length,.rsl (rowP r.feet) 0 r.feet.length,.int .i64 r.frame,.int .i64 r.c.x,.int .i64 r.c.y,.int .i64 r.c.z,.int .i64 r.empty,.int .i64 r.full,.sl 2 0 0 0 6,.int .i64 (ph:Int)],false⟩,⟨true,0,6,true,[],true⟩]⟩):G Try.prog E (WA Try.prog) (qE r i ph ) :=
 Qn (n:=400) (ds:=[]) (cs:=[(1,8,6)]) (live:=[1,4,77,78,79]) (m:=3) (evs:=[.b false,.v (.bool (Qd r.frame 0 1000000)),.b false,.v (.bool (Qd r.full 0 1000000)),.b false,.v (.bool (Qd r.empty 0 r.full)),.b false,.v (.bool (Qk r.c)),.b false,.v (.bool (r.feet.any QK)),.b false,.stop]) (obs:=_) hE.2.1 (hE.nogh _) Qi (by kernel_rfl) ho hg
theorem f56W0 (r:Rg) (i:Nat) (ph:Nat) {E:Env} {rv:AV} (hE:Qh Try.prog 56 rv E)
 (h:(((i:Int)<(r.seats.length:Int)→(∃ le:(List Pt),r.seats[i]?=some le∧((le.length≤1000)∧(((QE le)=false→rv=(.tup [.nilPtr,.bool false]))∧((QE le)=true→(∃ le1:(List Pt),r.seats[0]?=some le1∧((¬ ((le.length:Int)=(le1.length:Int))→rv=(.tup [.nilPtr,.bool false]))∧((le.length:Int)=(le1.length:Int)→((I6 ((i:Int)+1))∧f56G0 E r (i+1) le.length)))))))))∧(¬ ((i:Int)<(r.seats.length:Int))→(((Qd r.frame 0 1000000)=false→rv=(.tup [.nilPtr,.bool false]))∧((Qd r.frame 0 1000000)=true→(((Qd r.full 0 1000000)=false→rv=(.tup [.nilPtr,.bool false]))∧((Qd r.full 0 1000000)=true→(((Qd r.empty 0 r.full)=false→rv=(.tup [.nilPtr,.bool false]))∧((Qd r.empty 0 r.full)=true→(((Qk r.c)=false→rv=(.tup [.nilPtr,.bool false]))∧((Qk r.c)=true→((r.feet.length≤1000)∧(((r.feet.any QK)=true→rv=(.tup [.nilPtr,.bool false]))∧((r.feet.any QK)=false→f56G1 E r ph 0 ([]))))))))))))))):f56G0 E r i ph:=by
 rcases bft (decide ((i:Int)<(r.seats.length:Int))) with hc0 | hc0
 · have h:=h.1 (odt hc0)
   obtain ⟨le,h1,h⟩:=h
   obtain ⟨h2,h⟩:=h
   rcases bft (!(QE le)) with hc1 | hc1
   · have h:=h.1 (bnT hc1)
     exact p56_0_0 r i ph le hE ⟨hc0,(XB h1),(Xe (fun s:List Pt=>[AV.rsl (rowP s) 0 s.length]) (s:=1) (k:=0) (m:=1) (fun _=>rfl) (by decide) h1),(u50 (WD le h2)),hc1,rfl,trivial⟩ (AvLe.of_eq (by rw [h]; try rfl))
   · have h:=h.2 (bnF hc1)
     obtain ⟨le1,h3,h⟩:=h
     rcases bft ((le.length:Int) != (le1.length:Int)) with hc2 | hc2
     · have h:=h.1 (bneT hc2)
       exact p56_0_1 r i ph le le1 hE ⟨hc0,(XB h1),(Xe (fun s:List Pt=>[AV.rsl (rowP s) 0 s.length]) (s:=1) (k:=0) (m:=1) (fun _=>rfl) (by decide) h1),(u50 (WD le h2)),hc1,(XB h3),(Xe (fun s:List Pt=>[AV.rsl (rowP s) 0 s.length]) (s:=1) (k:=0) (m:=1) (fun _=>rfl) (by decide) h3),hc2,trivial⟩ (AvLe.of_eq (by rw [h]; try rfl))
     · have h:=h.2 (bneF hc2)
       obtain ⟨q11_3,h⟩:=h
       exact p56_0_2 r i ph le le1 hE ⟨hc0,(XB h1),(Xe (fun s:List Pt=>[AV.rsl (rowP s) 0 s.length]) (s:=1) (k:=0) (m:=1) (fun _=>rfl) (by decide) h1),(u50 (WD le h2)),hc1,(XB h3),(Xe (fun s:List Pt=>[AV.rsl (rowP s) 0 s.length]) (s:=1) (k:=0) (m:=1) (fun _=>rfl) (by decide) h3),hc2,(by decide),q11_3,trivial⟩ h
 · have h:=h.2 (odf hc0)
   rcases bft (!(Qd r.frame 0 1000000)) with hc1 | hc1
   · have h:=h.1 (bnT hc1)
     exact p56_0_3 r i ph hE ⟨hc0,(u51 (QG r.frame 0 1000000)),hc1,rfl,rfl,rfl,trivial⟩ (AvLe.of_eq (by rw [h]; try rfl))
   · have h:=h.2 (bnF hc1)
     rcases bft (!(Qd r.full 0 1000000)) with hc2 | hc2
     · have h:=h.1 (bnT hc2)
       exact p56_0_4 r i ph hE ⟨hc0,(u51 (QG r.frame 0 1000000)),hc1,(u51 (QG r.full 0 1000000)),hc2,rfl,rfl,trivial⟩ (AvLe.of_eq (by rw [h]; try rfl))
     · have h:=h.2 (bnF hc2)
       rcases bft (!(Qd r.empty 0 r.full)) with hc3 | hc3
       · have h:=h.1 (bnT hc3)
         exact p56_0_5 r i ph hE ⟨hc0,(u51 (QG r.frame 0 1000000)),hc1,(u51 (QG r.full 0 1000000)),hc2,(u51 (QG r.empty 0 r.full)),hc3,rfl,trivial⟩ (AvLe.of_eq (by rw [h]; try rfl))
       · have h:=h.2 (bnF hc3)
         rcases bft (!(Qk r.c)) with hc4 | hc4
         · have h:=h.1 (bnT hc4)
           exact p56_0_6 r i ph hE ⟨hc0,(u51 (QG r.frame 0 1000000)),hc1,(u51 (QG r.full 0 1000000)),hc2,(u51 (QG r.empty 0 r.full)),hc3,(u82 (Vc r.c)),hc4,trivial⟩ (AvLe.of_eq (by rw [h]; try rfl))
         · have h:=h.2 (bnF hc4)
           obtain ⟨h1,h⟩:=h
           rcases bft (r.feet.any QK) with hc5 | hc5
           · have h:=h.1 hc5
             exact p56_0_7 r i ph hE ⟨hc0,(u51 (QG r.frame 0 1000000)),hc1,(u51 (QG r.full 0 1000000)),hc2,(u51 (QG r.empty 0 r.full)),hc3,(u82 (Vc r.c)),hc4,(u84 (any84_ok r.feet h1)),hc5,trivial⟩ (AvLe.of_eq (by rw [h]; try rfl))
           · have h:=h.2 hc5
             exact p56_0_8 r i ph hE ⟨hc0,(u51 (QG r.frame 0 1000000)),hc1,(u51 (QG r.full 0 1000000)),hc2,(u51 (QG r.empty 0 r.full)),hc3,(u82 (Vc r.c)),hc4,(u84 (any84_ok r.feet h1)),hc5,trivial⟩ (h 0)
theorem p56_1_0 (r:Rg) (ph:Nat) (k:Nat) (ls:List (Pt × Pt)) (g2:Nat) (pe:Pt) (pe1:Pt) {E:Env} {rv:AV} (hE:Qh Try.prog 56 rv E) (ho:AllP [(decide ((k:Int)<(r.feet.length:Int)))=true,0≤(k:Int)∧(k:Int)<(r.feet.length:Int),((rowP r.feet).drop (0+(Int.toNat (k:Int))*3)).take 3=[.int .i64 pe.x,.int .i64 pe.y,.int .i64 pe.z],3≤3,InR .i64 ((k:Int)+1),(r.feet.length:Int) ≠ 0,0≤(Int.tmod ((k:Int)+1) (r.feet.length:Int))∧(Int.tmod ((k:Int)+1) (r.feet.length:Int))<(r.feet.length:Int),((rowP r.feet).drop (0+(Int.toNat (Int.tmod ((k:Int)+1) (r.feet.length:Int)))*3)).take 3=[.int .i64 pe1.x,.int .i64 pe1.y,.int .i64 pe1.z],g2=g2,(0+(ls.length*6))=(Ql ls).length,(ls.length+1)≤2147483648,0=0,9≤10,InR .i64 ((k:Int)+1)])
 (hg:G Try.prog E (f56K1 Try.prog) ⟨([J,.ptr 0 0 0,J,J,.ptr 1 0 0]++jj 72 ([.rsl (rowP r.feet) 0 r.feet.length,.int .i64 (r.feet.length:Int),.int .i64 ((k:Int)+1)]++Js 29)),[⟨true,0,1,true,[.rsl (rowS r.seats) 0 r.seats.length,.rsl (rowP r.feet) 0 r.feet.length,.int .i64 r.frame,.int .i64 r.c.x,.int .i64 r.c.y,.int .i64 r.c.z,.int .i64 r.empty,.int .i64 r.full],false⟩,⟨true,0,1,false,[.rsl (rowS r.seats) 0 r.seats.length,.rsl (rowP r.feet) 0 r.feet.length,.int .i64 r.frame,.int .i64 r.c.x,.int .i64 r.c.y,.int .i64 r.c.z,.int .i64 r.empty,.int .i64 r.full,.sl 2 (g2+1) 0 (ls.length+1) 6,.int .i64 (ph:Int)],false⟩,⟨true,(g2+1),6,true,((Ql ls)++[.int .i64 pe.x,.int .i64 pe.y,.int .i64 pe.z,.int .i64 pe1.x,.int .i64 pe1.y,.int .i64 pe1.z]),true⟩]⟩):G Try.prog E (f56K1 Try.prog) (f56S1 r ph k ls g2) :=
 Qn (n:=400) (ds:=[]) (cs:=[]) (live:=[1,4,77,78,79]) (m:=3) (evs:=[.b true,.ld (.agg [.int .i64 pe.x,.int .i64 pe.y,.int .i64 pe.z]),.auto,.auto,.auto,.auto,.ld (.agg [.int .i64 pe1.x,.int .i64 pe1.y,.int .i64 pe1.z]),.stop]) (obs:=_) hE.2.1 (hE.nogh _) Qi (by kernel_rfl) ho hg
theorem p56_1_1 (r:Rg) (ph:Nat) (k:Nat) (ls:List (Pt × Pt)) (g2:Nat) {E:Env} {res:AV} (hE:Qh Try.prog 56 res E) (ho:AllP [(decide ((k:Int)<(r.feet.length:Int)))=false,Qf Try.prog (.clos 86 [] []) [.rptr [.rsl (rowS r.seats) 0 r.seats.length,.rsl (rowP r.feet) 0 r.feet.length,.int .i64 r.frame,.int .i64 r.c.x,.int .i64 r.c.y,.int .i64 r.c.z,.int .i64 r.empty,.int .i64 r.full,.rsl (Ql ls) 0 ls.length,.int .i64 (ph:Int)] 0] (.bool (YX r)),g2=g2,g2=g2])
 (hr:AvLe (.tup [.rptr [.rsl (rowS r.seats) 0 r.seats.length,.rsl (rowP r.feet) 0 r.feet.length,.int .i64 r.frame,.int .i64 r.c.x,.int .i64 r.c.y,.int .i64 r.c.z,.int .i64 r.empty,.int .i64 r.full,.rsl (Ql ls) 0 ls.length,.int .i64 (ph:Int)] 0,.bool (YX r)]) res):G Try.prog E (f56K1 Try.prog) (f56S1 r ph k ls g2) :=
 Qj (n:=400) (evs:=[.b false,.v (.bool (YX r))]) (obs:=_) hE Try.func56 Qi (by kernel_rfl) ho hr
theorem f56W1 (r:Rg) (ph:Nat) (k:Nat) (ls:List (Pt × Pt)) {E:Env} {rv:AV} (hE:Qh Try.prog 56 rv E)
 (h:(((k:Int)<(r.feet.length:Int)→(∃ pe:Pt,r.feet[k]?=some pe∧((I6 ((k:Int)+1))∧((r.feet.length:Int) ≠ 0∧(0≤(Int.tmod ((k:Int)+1) (r.feet.length:Int))∧(∃ pe1:Pt,r.feet[Int.toNat (Int.tmod ((k:Int)+1) (r.feet.length:Int))]?=some pe1∧((ls.length+1)≤2147483648∧((I6 ((k:Int)+1))∧f56G1 E r ph (k+1) (ls++[(pe,pe1)])))))))))∧(¬ ((k:Int)<(r.feet.length:Int))→((FeetOk r∧ls=Qa r.feet∧(ph:Int)=Qb r)∧rv=(.tup [.rptr [.rsl (rowS r.seats) 0 r.seats.length,.rsl (rowP r.feet) 0 r.feet.length,.int .i64 r.frame,.int .i64 r.c.x,.int .i64 r.c.y,.int .i64 r.c.z,.int .i64 r.empty,.int .i64 r.full,.rsl (Ql ls) 0 ls.length,.int .i64 (ph:Int)] 0,.bool (YX r)]))))):f56G1 E r ph k ls:=by
 intro g2
 rcases bft (decide ((k:Int)<(r.feet.length:Int))) with hc0 | hc0
 · have h:=h.1 (odt hc0)
   obtain ⟨pe,h1,h⟩:=h
   obtain ⟨q5_1,h⟩:=h
   obtain ⟨q6_1,h⟩:=h
   obtain ⟨h3,h⟩:=h
   obtain ⟨pe1,h2,h⟩:=h
   obtain ⟨h4,h⟩:=h
   obtain ⟨q15_1,h⟩:=h
   refine p56_1_0 r ph k ls g2 pe pe1 hE ⟨hc0,(XB h1),(rp cP 3 0 3 h1),(by decide),q5_1,q6_1,(Xi h3 h2),(rp cP 3 0 3 h2),rfl,(by have hx:=XC (fun s:Pt × Pt=>cP s.1++cP s.2) (s:=6) (fun _=>rfl) ls; simp only [Ql] at hx ⊢; rw [hx]; simp),h4,rfl,(by decide),q15_1,trivial⟩ ?_
   rw [(show Ql ls++[.int .i64 pe.x,.int .i64 pe.y,.int .i64 pe.z,.int .i64 pe1.x,.int .i64 pe1.y,.int .i64 pe1.z]=Ql (ls++[(pe,pe1)]) from (row_app (fun s:Pt × Pt=>cP s.1++cP s.2) ls [(pe,pe1)]).symm)]; rw [(show (ls.length+1)=(ls++[(pe,pe1)]).length from by simp)]; exact (h (g2+1))
 · have h:=h.2 (odf hc0)
   obtain ⟨h1,h⟩:=h
   exact p56_1_1 r ph k ls g2 hE ⟨hc0,(by obtain ⟨a,b,c⟩:=h1; rw [b,c]; exact Qm Try.func86 (by kernel_rfl) f86b (convex_ok r a)),rfl,rfl,trivial⟩ (AvLe.of_eq (by rw [h]; try rfl))
structure RigSmall (r:Rg):Prop where
 seats:r.seats.length≤1000
 feet:r.feet.length≤1000
 each:∀ s ∈ r.seats,s.length≤1000
def VD (r:Rg) (s:List Pt):Bool:=QE s && ((s.length:Int) == ((r.seats.getD 0 []).length:Int))
def Xz (r:Rg):Bool:=decide ((r.seats.length:Int)≤20) && (Qd r.feet.length 3 8 && (r.seats.all (VD r) && (Qd r.frame 0 1000000 && (Qd r.full 0 1000000 && (Qd r.empty 0 r.full && (Qk r.c && !r.feet.any QK))))))
def Xo (r:Rg):Bool:=Xz r && YX r
def rigV (r:Rg):AV:=.rptr [.rsl (rowS r.seats) 0 r.seats.length,.rsl (rowP r.feet) 0 r.feet.length,.int .i64 r.frame,.int .i64 r.c.x,.int .i64 r.c.y,.int .i64 r.c.z,.int .i64 r.empty,.int .i64 r.full,.rsl (Ql (Qa r.feet)) 0 (Qa r.feet).length,.int .i64 (Qb r)] 0
def Yg (r:Rg):AV:=bif Xz r then rigV r else .nilPtr
theorem Vg {r:Rg} {rv:AV} (hr:rv=.tup [Yg r,.bool (Xo r)]) (h:Xz r=false):rv=.tup [.nilPtr,.bool false]:=by
 rw [hr]; simp [Yg,Xo,h]
theorem feetOk_of {r:Rg} (h1:Qd r.feet.length 3 8=true) (h2:r.feet.any QK=false):FeetOk r:=by
 simp only [Qd,Bool.and_eq_true,decide_eq_true_eq] at h1
 refine ⟨by omega,by omega,fun p hp=>?_⟩
 have:=(List.any_eq_false.1 h2) p hp
 simp only [QK] at this
 cases hs:Qk p with
 | true=>rfl
 | false=>simp [hs] at this
theorem linesOf_take {l:List Pt} {k:Nat} {a b:Pt} (ha:l[k]?=some a) (hb:l[(k+1) % l.length]?=some b):(Qa l).take (k+1)=(Qa l).take k++[(a,b)]:=by
 have hk:=Vm ha
 have:(Qa l)[k]?=some (a,b):=by
  unfold Qa
  rw [List.getElem?_map]
  have e:(List.range' 0 l.length)[k]?=some k:=by simp [hk]
  rw [e]
  simp [List.getD,ha,hb]
 rw [List.take_add_one,this]; rfl
theorem newRig_k {E:Env} {rv:AV} (hE:Qh Try.prog 56 rv E) {r:Rg} (hf:FeetOk r) (hr:rv=.tup [rigV r,.bool (YX r)]) {ph:Nat} (hph:(ph:Int)=Qb r) :
 ∀ (d k:Nat),k+d=r.feet.length→f56G1 E r ph k ((Qa r.feet).take k)
 | 0,k,hd=>by
  have e:(Qa r.feet).take k=Qa r.feet:=List.take_of_length_le (by rw [XE]; omega)
  refine f56W1 r ph k _ hE ⟨fun h=>by omega,fun _=>⟨⟨hf,e,hph⟩,?_⟩⟩
  rw [hr,e,hph]; rfl
 | d+1,k,hd=>by
  have h8:=hf.feet1
  have hk:k<r.feet.length:=by omega
  have ha:r.feet[k]?=some r.feet[k]:=by simp [hk]
  have hm:(k+1) % r.feet.length<r.feet.length:=Nat.mod_lt _ (by omega)
  have hb:r.feet[(k+1) % r.feet.length]?=some r.feet[(k+1) % r.feet.length]:=by simp [hm]
  have et:Int.tmod ((k:Int)+1) (r.feet.length:Int)=(((k+1) % r.feet.length:Nat):Int):=by
   rw [Int.tmod_eq_emod_of_nonneg (by omega)]; rfl
  refine f56W1 r ph k _ hE ⟨fun _=>⟨_,ha,by omega,by omega,by rw [et]; omega,r.feet[(k+1) % r.feet.length],by rw [et]; exact hb,?_,by omega,?_⟩,fun h=>by omega⟩
  · rw [List.length_take]; omega
  · rw [← linesOf_take ha hb]; exact newRig_k hE hf hr hph d (k+1) (by omega)
theorem newRig_i {E:Env} {rv:AV} (hE:Qh Try.prog 56 rv E) {r:Rg} (hs:RigSmall r) (h0:(r.seats.length:Int)≤20) (hf:Qd r.feet.length 3 8=true) (hr:rv=.tup [Yg r,.bool (Xo r)]) :
 ∀ (d i ph:Nat),i+d=r.seats.length→(∀ s ∈ r.seats.take i,VD r s=true)→(ph:Int)=(match (r.seats.take i).getLast? with | some s=>(s.length:Int) | none=>1)→f56G0 E r i ph
 | 0,i,ph,hd,hall,hph=>by
  have e:r.seats.take i=r.seats:=List.take_of_length_le (by omega)
  rw [e] at hall hph
  have ha:r.seats.all (VD r)=true:=List.all_eq_true.2 hall
  refine f56W0 r i ph hE ⟨fun h=>by omega,fun _=>⟨fun h=>?_,fun h1=>⟨fun h=>?_,fun h2=>⟨fun h=>?_,fun h3=>⟨fun h=>?_,fun h4=>⟨hs.feet,fun h=>?_,fun h5=>?_⟩⟩⟩⟩⟩⟩
  all_goals first | (refine Vg hr ?_; simp [Xz, *]; done) | skip
  refine newRig_k hE (feetOk_of hf h5) ?_ hph r.feet.length 0 (by omega)
  have hp:Xz r=true:=by simp [Xz, *]
  rw [hr]; simp [Yg,Xo,hp]
 | d+1,i,ph,hd,hall,hph=>by
  have hi:i<r.seats.length:=by omega
  have ha:r.seats[i]?=some r.seats[i]:=by simp [hi]
  have h00:r.seats[0]?=some (r.seats.getD 0 []):=by simp [List.getD,show 0<r.seats.length by omega]
  have hno:∀ (h:VD r r.seats[i]=false),rv=.tup [.nilPtr,.bool false]:=fun h=>by
   refine Vg hr ?_
   have:r.seats.all (VD r)=false:=by
    rw [Bool.eq_false_iff]; intro hh
    rw [List.all_eq_true.1 hh _ (List.mem_of_getElem? ha)] at h; cases h
   simp [Xz,this]
  refine f56W0 r i ph hE ⟨fun _=>⟨_,ha,hs.each _ (List.mem_of_getElem? ha),fun h=>hno (by simp [VD,h]),fun h1=>⟨_,h00,fun h=>hno (by simp only [VD,h1,Bool.true_and]; simpa using h),fun h2=>⟨by omega,?_⟩⟩⟩,fun h=>by omega⟩
  have et:r.seats.take (i+1)=r.seats.take i++[r.seats[i]]:=by rw [List.take_add_one,ha]; rfl
  refine newRig_i hE hs h0 hf hr d (i+1) _ (by omega) (fun s h=>?_) ?_
  · rw [et] at h
    rcases List.mem_append.1 h with h | h
    · exact hall s h
    · rw [List.mem_singleton.1 h]; simp only [VD,h1,Bool.true_and]; simpa using h2
  · rw [et,List.getLast?_concat]
theorem Xq (r:Rg) (hs:RigSmall r):Pure Try.prog 56 [.agg [.rsl (rowS r.seats) 0 r.seats.length,.rsl (rowP r.feet) 0 r.feet.length,.int .i64 r.frame,.int .i64 r.c.x,.int .i64 r.c.y,.int .i64 r.c.z,.int .i64 r.empty,.int .i64 r.full]]
 (.tup [Yg r,.bool (Xo r)]):=Qz Try.func56 f56b fun E hE=>by
 refine f56W r hE ⟨fun h1=>?_,fun h1=>⟨fun h2=>?_,fun h2=>?_⟩⟩
 · exact Vg rfl (by have:¬ ((r.seats.length:Int)≤20):=(by omega); simp only [Xz,this]; rfl)
 · exact Vg rfl (by simp [Xz,h2])
 · exact newRig_i hE hs (by omega) h2 rfl r.seats.length 0 1 (by omega) (by simp) (by simp)
end Go.Proofs.Ytideokfbnegkjaa
namespace Go.Proofs.Ytideokfbnegkjaa
open Go Ax
open Go.Proofs
def phN (r:Rg):Nat:=(Qb r).toNat
structure RigMade (r:Rg):Prop where
 ok:RgOk r (phN r)
 ph:Qb r=(phN r:Nat)
 le:phN r≤60
 pos:1≤phN r
 conv:YX r=true
def XT (r:Rg):List (Nat × Nat):=wlP r.feet.length 0 (phN r)
theorem XI {r:Rg} (h:Xo r=true):RigMade r:=by
 simp only [Xo,Xz,Bool.and_eq_true,decide_eq_true_eq,Bool.not_eq_true'] at h
 obtain ⟨⟨h0,h1,h2,h3,h4,h5,h6,h7⟩,h8⟩:=h
 have hf:=feetOk_of h1 h7
 simp only [Qd,Bool.and_eq_true,decide_eq_true_eq] at h1 h3 h4 h5
 have hall:∀ s ∈ r.seats,QE s=true∧s.length=(r.seats.getD 0 []).length:=fun s hs=>by
  have:=List.all_eq_true.1 h2 s hs
  simp only [VD,Bool.and_eq_true,beq_iff_eq] at this
  exact ⟨this.1,by omega⟩
 have hp:(∃ n:Nat,Qb r=n∧1≤n∧n≤60∧∀ s ∈ r.seats,s.length=n):=by
  unfold Qb
  cases hg:r.seats.getLast? with
  | none =>
   refine ⟨1,rfl,by omega,by omega,fun s hs=>?_⟩
   rw [List.getLast?_eq_none_iff] at hg
   rw [hg] at hs; cases hs
  | some s =>
   have hm:=List.mem_of_getLast? hg
   obtain ⟨hv,hl⟩:=hall s hm
   have:=Vy hv
   exact ⟨s.length,rfl,by omega,by omega,fun t ht=>by rw [(hall t ht).2,hl]⟩
 obtain ⟨n,p1,p2,p3,p4⟩:=hp
 have hn:phN r=n:=by unfold phN; omega
 exact ⟨⟨by omega,fun s hs=>⟨by rw [hn]; exact p4 s hs,(hall s hs).1⟩,hf.feet0,hf.feet1,hf.foot,h6,h3.1,h3.2,h5.1,h5.2,h4.2⟩,by rw [p1,hn],by omega,by omega,h8⟩
theorem XX {r:Rg} (h:Xo r=true):Yg r=rigV r:=by
 simp only [Xo,Bool.and_eq_true] at h
 simp only [Yg,h.1,cond_true]
theorem Vr {r:Rg} (h:Xz r=true):Yg r=rigV r:=by simp only [Yg,h,cond_true]
theorem Vs {r:Rg} (h:Xz r=false):Yg r=.nilPtr:=by simp only [Yg,h,cond_false]
theorem worst_it (r:Rg) (h:RigMade r):IterF Try.prog (.clos 61 [rigV r] []) ((XT r).map (argW r)):=worst_iter r (phN r) h.ok h.ph (by have:=h.le; omega)
theorem f26b:Try.f26.body=some (Qe Try.prog 26):=by kernel_rfl
theorem u26 {a c k:List AV} {r:AV} (h:Pure Try.prog 26 (a++c++k) r):Qf Try.prog (.clos 26 a k) c r:=Qm Try.func26 (by kernel_rfl) f26b h
def YV (P:Program):List Item:=kAt 400 [.code (Qe P 26)] [.b false]
def Yv (r:Rg) (s:Int × Nat × Nat × Bool):St:=⟨([J,J,.ptr 1 0 0,.ptr 2 0 0,.ptr 3 0 0,J,J,J,.ptr 4 0 0]++jj 10 ([.clos 61 [.rptr [.rsl (rowS r.seats) 0 r.seats.length,.rsl (rowP r.feet) 0 r.feet.length,.int .i64 r.frame,.int .i64 r.c.x,.int .i64 r.c.y,.int .i64 r.c.z,.int .i64 r.empty,.int .i64 r.full,.rsl (Ql (Qa r.feet)) 0 ((Qa r.feet).length),.int .i64 (Qb r)] 0] []]++Js 17)),[⟨true,0,1,true,[.rsl (rowS r.seats) 0 r.seats.length,.rsl (rowP r.feet) 0 r.feet.length,.int .i64 r.frame,.int .i64 r.c.x,.int .i64 r.c.y,.int .i64 r.c.z,.int .i64 r.empty,.int .i64 r.full],false⟩,⟨true,0,1,true,[.int .i64 s.1],false⟩,⟨true,0,1,true,[.int .i64 (s.2.1:Int)],false⟩,⟨true,0,1,true,[.int .i64 (s.2.2.1:Int)],false⟩,⟨true,0,1,true,[.bool s.2.2.2],false⟩]⟩
def f26Gr0 (E:Env) (r:Rg) (s:Int × Nat × Nat × Bool):Prop:=G Try.prog E (YV Try.prog) (Yv r s)
def yc (r:Rg) (s:Int × Nat × Nat × Bool) (x:Nat × Nat):St:=⟨([J,J,.ptr 1 0 0,.ptr 2 0 0,.ptr 3 0 0,J,J,J,.ptr 4 0 0,.ptr 5 0 0,.int .i64 (QF r x)]++jj 8 ([.clos 61 [.rptr [.rsl (rowS r.seats) 0 r.seats.length,.rsl (rowP r.feet) 0 r.feet.length,.int .i64 r.frame,.int .i64 r.c.x,.int .i64 r.c.y,.int .i64 r.c.z,.int .i64 r.empty,.int .i64 r.full,.rsl (Ql (Qa r.feet)) 0 ((Qa r.feet).length),.int .i64 (Qb r)] 0] [],.agg [.int .i64 (x.1:Int),.int .i64 (x.2:Int)],.int .i64 (QF r x)]++Js 15)),[⟨true,0,1,true,[.rsl (rowS r.seats) 0 r.seats.length,.rsl (rowP r.feet) 0 r.feet.length,.int .i64 r.frame,.int .i64 r.c.x,.int .i64 r.c.y,.int .i64 r.c.z,.int .i64 r.empty,.int .i64 r.full],false⟩,⟨true,0,1,true,[.int .i64 s.1],false⟩,⟨true,0,1,true,[.int .i64 (s.2.1:Int)],false⟩,⟨true,0,1,true,[.int .i64 (s.2.2.1:Int)],false⟩,⟨true,0,1,true,[.bool s.2.2.2],false⟩,⟨true,0,1,true,[.int .i64 (x.1:Int),.int .i64 (x.2:Int)],false⟩]⟩
theorem p26_start_0 (r:Rg) {E:Env} {rv:AV} (hE:Qh Try.prog 26 rv E) (ho:AllP [Qf Try.prog (.clos 56 [] []) [.agg [.rsl (rowS r.seats) 0 r.seats.length,.rsl (rowP r.feet) 0 r.feet.length,.int .i64 r.frame,.int .i64 r.c.x,.int .i64 r.c.y,.int .i64 r.c.z,.int .i64 r.empty,.int .i64 r.full]] (.tup [.rptr [.rsl (rowS r.seats) 0 r.seats.length,.rsl (rowP r.feet) 0 r.feet.length,.int .i64 r.frame,.int .i64 r.c.x,.int .i64 r.c.y,.int .i64 r.c.z,.int .i64 r.empty,.int .i64 r.full,.rsl (Ql (Qa r.feet)) 0 ((Qa r.feet).length),.int .i64 (Qb r)] 0,.bool true]),false=false,1≤1])
 (hg:G Try.prog E (YV Try.prog) ⟨([J,J,.ptr 1 0 0,.ptr 2 0 0,.ptr 3 0 0,J,J,J,.ptr 4 0 0]++jj 10 ([.clos 61 [.rptr [.rsl (rowS r.seats) 0 r.seats.length,.rsl (rowP r.feet) 0 r.feet.length,.int .i64 r.frame,.int .i64 r.c.x,.int .i64 r.c.y,.int .i64 r.c.z,.int .i64 r.empty,.int .i64 r.full,.rsl (Ql (Qa r.feet)) 0 ((Qa r.feet).length),.int .i64 (Qb r)] 0] []]++Js 17)),[⟨true,0,1,true,[.rsl (rowS r.seats) 0 r.seats.length,.rsl (rowP r.feet) 0 r.feet.length,.int .i64 r.frame,.int .i64 r.c.x,.int .i64 r.c.y,.int .i64 r.c.z,.int .i64 r.empty,.int .i64 r.full],false⟩,⟨true,0,1,true,[.int .i64 0],false⟩,⟨true,0,1,true,[.int .i64 0],false⟩,⟨true,0,1,true,[.int .i64 0],false⟩,⟨true,0,1,true,[.bool false],false⟩]⟩):G Try.prog E [.code (Qe Try.prog 26)] ⟨[.agg [.rsl (rowS r.seats) 0 r.seats.length,.rsl (rowP r.feet) 0 r.feet.length,.int .i64 r.frame,.int .i64 r.c.x,.int .i64 r.c.y,.int .i64 r.c.z,.int .i64 r.empty,.int .i64 r.full]]++unds (Try.f26.ntmps - 1),[]⟩ :=
 Qn (n:=400) (ds:=[]) (cs:=[]) (live:=[2,3,4,8,19]) (m:=5) (evs:=[.v (.tup [.rptr [.rsl (rowS r.seats) 0 r.seats.length,.rsl (rowP r.feet) 0 r.feet.length,.int .i64 r.frame,.int .i64 r.c.x,.int .i64 r.c.y,.int .i64 r.c.z,.int .i64 r.empty,.int .i64 r.full,.rsl (Ql (Qa r.feet)) 0 ((Qa r.feet).length),.int .i64 (Qb r)] 0,.bool true]),.b false]) (obs:=_) hE.2.1 (hE.nogh _) Qi (by kernel_rfl) ho hg
theorem p26_start_1 (r:Rg) {E:Env} {res:AV} (hE:Qh Try.prog 26 res E) (ho:AllP [Qf Try.prog (.clos 56 [] []) [.agg [.rsl (rowS r.seats) 0 r.seats.length,.rsl (rowP r.feet) 0 r.feet.length,.int .i64 r.frame,.int .i64 r.c.x,.int .i64 r.c.y,.int .i64 r.c.z,.int .i64 r.empty,.int .i64 r.full]] (.tup [.rptr [.rsl (rowS r.seats) 0 r.seats.length,.rsl (rowP r.feet) 0 r.feet.length,.int .i64 r.frame,.int .i64 r.c.x,.int .i64 r.c.y,.int .i64 r.c.z,.int .i64 r.empty,.int .i64 r.full,.rsl (Ql (Qa r.feet)) 0 ((Qa r.feet).length),.int .i64 (Qb r)] 0,.bool false]),true=true,1≤1,1≤1,1≤1])
 (hr:AvLe (.tup [.int .i64 0,.int .i64 0,.int .i64 0,.int .i64 33]) res):G Try.prog E [.code (Qe Try.prog 26)] ⟨[.agg [.rsl (rowS r.seats) 0 r.seats.length,.rsl (rowP r.feet) 0 r.feet.length,.int .i64 r.frame,.int .i64 r.c.x,.int .i64 r.c.y,.int .i64 r.c.z,.int .i64 r.empty,.int .i64 r.full]]++unds (Try.f26.ntmps - 1),[]⟩ :=
 Qj (n:=400) (evs:=[.v (.tup [.rptr [.rsl (rowS r.seats) 0 r.seats.length,.rsl (rowP r.feet) 0 r.feet.length,.int .i64 r.frame,.int .i64 r.c.x,.int .i64 r.c.y,.int .i64 r.c.z,.int .i64 r.empty,.int .i64 r.full,.rsl (Ql (Qa r.feet)) 0 ((Qa r.feet).length),.int .i64 (Qb r)] 0,.bool false]),.b true]) (obs:=_) hE Try.func26 Qi (by kernel_rfl) ho hr
theorem p26_start_2 (r:Rg) {E:Env} {res:AV} (hE:Qh Try.prog 26 res E) (ho:AllP [Qf Try.prog (.clos 56 [] []) [.agg [.rsl (rowS r.seats) 0 r.seats.length,.rsl (rowP r.feet) 0 r.feet.length,.int .i64 r.frame,.int .i64 r.c.x,.int .i64 r.c.y,.int .i64 r.c.z,.int .i64 r.empty,.int .i64 r.full]] (.tup [.nilPtr,.bool false]),true=true,1≤1,1≤1,1≤1])
 (hr:AvLe (.tup [.int .i64 0,.int .i64 0,.int .i64 0,.int .i64 33]) res):G Try.prog E [.code (Qe Try.prog 26)] ⟨[.agg [.rsl (rowS r.seats) 0 r.seats.length,.rsl (rowP r.feet) 0 r.feet.length,.int .i64 r.frame,.int .i64 r.c.x,.int .i64 r.c.y,.int .i64 r.c.z,.int .i64 r.empty,.int .i64 r.full]]++unds (Try.f26.ntmps - 1),[]⟩ :=
 Qj (n:=400) (evs:=[.v (.tup [.nilPtr,.bool false]),.b true]) (obs:=_) hE Try.func26 Qi (by kernel_rfl) ho hr
theorem f26W (r:Rg) {E:Env} {rv:(Int × Int × Int × Int)} (hE:Qh Try.prog 26 (.tup [.int .i64 rv.1,.int .i64 rv.2.1,.int .i64 rv.2.2.1,.int .i64 rv.2.2.2]) E)
 (h:(((Xo r)=true→((RigSmall r)∧f26Gr0 E r (0,0,0,false)))∧((Xo r)=false→(((Xz r)=true→((RigSmall r)∧rv=(0,0,0,33)))∧((Xz r)=false→((RigSmall r)∧rv=(0,0,0,33))))))):G Try.prog E [.code (Qe Try.prog 26)] ⟨[.agg [.rsl (rowS r.seats) 0 r.seats.length,.rsl (rowP r.feet) 0 r.feet.length,.int .i64 r.frame,.int .i64 r.c.x,.int .i64 r.c.y,.int .i64 r.c.z,.int .i64 r.empty,.int .i64 r.full]]++unds (Try.f26.ntmps - 1),[]⟩:=by
 rcases bft (Xo r) with hc0 | hc0
 · have h:=h.1 hc0
   obtain ⟨h1,h⟩:=h
   exact p26_start_0 r hE ⟨(by have hx:=Xq r h1; rw [hc0,XX hc0] at hx; exact Qm Try.func56 (by kernel_rfl) f56b hx),rfl,(by decide),trivial⟩ h
 · have h:=h.2 hc0
   rcases bft (Xz r) with hc1 | hc1
   · have h:=h.1 hc1
     obtain ⟨h1,h⟩:=h
     exact p26_start_1 r hE ⟨(by have hx:=Xq r h1; rw [hc0,Vr hc1] at hx; exact Qm Try.func56 (by kernel_rfl) f56b hx),rfl,(by decide),(by decide),(by decide),trivial⟩ (AvLe.of_eq (by rw [h]; try rfl))
   · have h:=h.2 hc1
     obtain ⟨h1,h⟩:=h
     exact p26_start_2 r hE ⟨(by have hx:=Xq r h1; rw [hc0,Vs hc1] at hx; exact Qm Try.func56 (by kernel_rfl) f56b hx),rfl,(by decide),(by decide),(by decide),trivial⟩ (AvLe.of_eq (by rw [h]; try rfl))
theorem p26_r0e_0 (r:Rg) (s:Int × Nat × Nat × Bool) {E:Env} {res:AV} (hE:Qh Try.prog 26 res E) (ho:AllP [1≤1,1≤1,1≤1])
 (hr:AvLe (.tup [.int .i64 s.1,.int .i64 (s.2.1:Int),.int .i64 (s.2.2.1:Int),.int .i64 0]) res):G Try.prog E (YL (YV Try.prog)) (Yv r s) :=
 Qj (n:=400) (evs:=[]) (obs:=_) hE Try.func26 Qi (by kernel_rfl) ho hr
theorem f26Wr0e (r:Rg) (s:Int × Nat × Nat × Bool) {E:Env} {rv:(Int × Int × Int × Int)} (hE:Qh Try.prog 26 (.tup [.int .i64 rv.1,.int .i64 rv.2.1,.int .i64 rv.2.2.1,.int .i64 rv.2.2.2]) E)
 (h:rv=(s.1,(s.2.1:Int),(s.2.2.1:Int),0)):G Try.prog E (YL (YV Try.prog)) (Yv r s):=by
 exact p26_r0e_0 r s hE ⟨(by decide),(by decide),(by decide),trivial⟩ (AvLe.of_eq (by rw [h]; try rfl))
theorem f26Ar0 (r:Rg) (s:Int × Nat × Nat × Bool) (x:Nat × Nat) {E:Env} (hE:RoundE (Yv r s).tmps E) (hg:G Try.prog E [.beginRound,.code (Xp (YV Try.prog))] (yc r s x)):G Try.prog E [.code (VF (YV Try.prog)),.beginRound,.code (Xp (YV Try.prog))] ⟨Wa (Yv r s).tmps [20,21] ((argW r) x),(Yv r s).blks⟩ :=
 Qn (n:=400) (ds:=[]) (cs:=[]) (live:=[0,1,2,3,4,5,6,7,8,9,10,11,12,13,14,15,16,17,18,19,20,21,22,23,24,25,26,27,28,29,30,31,32,33,34,35,36]) (m:=6) (evs:=[]) (obs:=[2≤2]) hE.kind (by rw [hE.gA]; kernel_rfl) Qi (by kernel_rfl) ⟨(by decide),trivial⟩ hg
theorem f26Br0_0 (r:Rg) (s:Int × Nat × Nat × Bool) (x:Nat × Nat) {E:Env} (hE:RoundE (Yv r s).tmps E) (ho:AllP [(!s.2.2.2)=true,true=true,(0:Int)≤0∧(0:Int)<((2:Nat):Int),(0:Int)≤1∧(1:Int)<((2:Nat):Int),1≤1,1≤1,1≤1,1≤1])
 (hg:G Try.prog E [] ⟨(Js 37),[⟨true,0,1,true,[.rsl (rowS r.seats) 0 r.seats.length,.rsl (rowP r.feet) 0 r.feet.length,.int .i64 r.frame,.int .i64 r.c.x,.int .i64 r.c.y,.int .i64 r.c.z,.int .i64 r.empty,.int .i64 r.full],false⟩,⟨true,0,1,true,[.int .i64 (QF r x)],false⟩,⟨true,0,1,true,[.int .i64 (x.1:Int)],false⟩,⟨true,0,1,true,[.int .i64 (x.2:Int)],false⟩,⟨true,0,1,true,[.bool true],false⟩]⟩):G Try.prog E [.code (Xp (YV Try.prog))] (yc r s x) :=
 Qn (n:=400) (ds:=[]) (cs:=[]) (live:=[]) (m:=5) (evs:=[.b true,.b true]) (obs:=_) hE.kind (by rw [hE.gA]; kernel_rfl) Qi (by kernel_rfl) ho hg
theorem f26Br0_1 (r:Rg) (s:Int × Nat × Nat × Bool) (x:Nat × Nat) {E:Env} (hE:RoundE (Yv r s).tmps E) (ho:AllP [(!s.2.2.2)=false,(decide ((QF r x)<s.1))=true,(0:Int)≤0∧(0:Int)<((2:Nat):Int),(0:Int)≤1∧(1:Int)<((2:Nat):Int),1≤1,1≤1,1≤1,1≤1])
 (hg:G Try.prog E [] ⟨(Js 37),[⟨true,0,1,true,[.rsl (rowS r.seats) 0 r.seats.length,.rsl (rowP r.feet) 0 r.feet.length,.int .i64 r.frame,.int .i64 r.c.x,.int .i64 r.c.y,.int .i64 r.c.z,.int .i64 r.empty,.int .i64 r.full],false⟩,⟨true,0,1,true,[.int .i64 (QF r x)],false⟩,⟨true,0,1,true,[.int .i64 (x.1:Int)],false⟩,⟨true,0,1,true,[.int .i64 (x.2:Int)],false⟩,⟨true,0,1,true,[.bool true],false⟩]⟩):G Try.prog E [.code (Xp (YV Try.prog))] (yc r s x) :=
 Qn (n:=400) (ds:=[]) (cs:=[]) (live:=[]) (m:=5) (evs:=[.b false,.b true]) (obs:=_) hE.kind (by rw [hE.gA]; kernel_rfl) Qi (by kernel_rfl) ho hg
theorem f26Br0_2 (r:Rg) (s:Int × Nat × Nat × Bool) (x:Nat × Nat) {E:Env} (hE:RoundE (Yv r s).tmps E) (ho:AllP [(!s.2.2.2)=false,(decide ((QF r x)<s.1))=false,1≤1])
 (hg:G Try.prog E [] ⟨(Js 37),[⟨true,0,1,true,[.rsl (rowS r.seats) 0 r.seats.length,.rsl (rowP r.feet) 0 r.feet.length,.int .i64 r.frame,.int .i64 r.c.x,.int .i64 r.c.y,.int .i64 r.c.z,.int .i64 r.empty,.int .i64 r.full],false⟩,⟨true,0,1,true,[.int .i64 s.1],false⟩,⟨true,0,1,true,[.int .i64 (s.2.1:Int)],false⟩,⟨true,0,1,true,[.int .i64 (s.2.2.1:Int)],false⟩,⟨true,0,1,true,[.bool true],false⟩]⟩):G Try.prog E [.code (Xp (YV Try.prog))] (yc r s x) :=
 Qn (n:=400) (ds:=[]) (cs:=[]) (live:=[]) (m:=5) (evs:=[.b false,.b false]) (obs:=_) hE.kind (by rw [hE.gA]; kernel_rfl) Qi (by kernel_rfl) ho hg
theorem f26Br0 (r:Rg) (s:Int × Nat × Nat × Bool) (x:Nat × Nat) {rq:(Int × Nat × Nat × Bool) × Bool} {E:Env} (hE:RoundE (Yv r s).tmps E) (hQ:yn (fun s=>(Yv r s).blks) (.ret) rq E)
 (h:((s.2.2.2=false→rq=(((QF r x),x.1,x.2,true),true))∧(s.2.2.2=true→(((QF r x)<s.1→rq=(((QF r x),x.1,x.2,true),true))∧(¬ ((QF r x)<s.1)→rq=((s.1,s.2.1,s.2.2.1,true),true)))))):G Try.prog E [.code (Xp (YV Try.prog))] (yc r s x):=by
 rcases bft (!s.2.2.2) with hc0 | hc0
 · have h:=h.1 (bnT hc0)
   exact f26Br0_0 r s x hE ⟨hc0,rfl,(⟨by decide,by decide⟩),(⟨by decide,by decide⟩),(by decide),(by decide),(by decide),(by decide),trivial⟩ (WG hQ h rfl)
 · have h:=h.2 (bnF hc0)
   rcases bft (decide ((QF r x)<s.1)) with hc1 | hc1
   · have h:=h.1 (odt hc1)
     exact f26Br0_1 r s x hE ⟨hc0,hc1,(⟨by decide,by decide⟩),(⟨by decide,by decide⟩),(by decide),(by decide),(by decide),(by decide),trivial⟩ (WG hQ h rfl)
   · have h:=h.2 (odf hc1)
     exact f26Br0_2 r s x hE ⟨hc0,hc1,(by decide),trivial⟩ (WG hQ h rfl)
theorem f26Rr0 (r:Rg) (s0:Int × Nat × Nat × Bool) {E:Env} {rv:(Int × Int × Int × Int)} (hE:Qh Try.prog 26 (.tup [.int .i64 rv.1,.int .i64 rv.2.1,.int .i64 rv.2.2.1,.int .i64 rv.2.2.2]) E) (step:(Int × Nat × Nat × Bool)→(Nat × Nat)→(Int × Nat × Nat × Bool))
 (h:RigMade r∧(∀ (i:Nat) (x:Nat × Nat) (s:Int × Nat × Nat × Bool),(XT r)[i]?=some x→s=((XT r).take i).foldl step s0→((s.2.2.2=false→step s x=((QF r x),x.1,x.2,true))∧(s.2.2.2=true→(((QF r x)<s.1→step s x=((QF r x),x.1,x.2,true))∧(¬ ((QF r x)<s.1)→step s x=(s.1,s.2.1,s.2.2.1,true))))))∧(∀ s:Int × Nat × Nat × Bool,s=(XT r).foldl step s0→rv=(s.1,(s.2.1:Int),(s.2.2.1:Int),0))):f26Gr0 E r s0:=by
 have hgA:E.gA=[]:=hE.2.2.2.2.1
 have hT:(Yv r s0).tmps++E.gA=(Yv r s0).tmps:=by rw [hgA,List.append_nil]
 refine qN (σ:=Int × Nat × Nat × Bool) (X:=Nat × Nat) (arg:=(argW r)) (L:=(XT r)) (jump:=.ret) (g:=.tmp 19) (ps:=#[20,21]) (fun s=>(Yv r s).blks) (fun s x=>(yc r s x)) (fun s x=>(step s x,true)) s0 hE.1 hE.2.1 (by kernel_rfl) rfl rfl (worst_it r h.1) rfl (fun x=>rfl) (fun s x E' hR hg=>?_) (fun i x s hx hs E' hR hQ=>?_) (fun s hs=>?_) (fun s hs=>?_)
 · rw [hT] at hR; exact f26Ar0 r s x hR hg
 · rw [hT] at hR; rw [YH] at hs; simp only [Prod.mk.injEq,and_true] at hs; refine f26Br0 r s x hR hQ ?_
   have h:=h.2.1 i x s hx hs.symm
   simpa only [Prod.mk.injEq,and_true] using h
 · rw [YH] at hs; simp only [Prod.mk.injEq,and_true] at hs; exact f26Wr0e r s hE (h.2.2 s hs.symm)
 · rw [YH] at hs; simp at hs
def QV (r:Rg) (s:Int × Nat × Nat × Bool) (x:Nat × Nat):Int × Nat × Nat × Bool :=
 bif !s.2.2.2 || decide (QF r x<s.1) then (QF r x,x.1,x.2,true) else (s.1,s.2.1,s.2.2.1,true)
def YT (r:Rg):Int × Nat × Nat × Bool:=(XT r).foldl (QV r) (0,0,0,false)
def Qc (r:Rg):Int × Int × Int × Int:=bif Xo r then ((YT r).1,((YT r).2.1:Nat),((YT r).2.2.1:Nat),0) else (0,0,0,33)
theorem Xa (r:Rg) (hs:RigSmall r):Pure Try.prog 26 [.agg [.rsl (rowS r.seats) 0 r.seats.length,.rsl (rowP r.feet) 0 r.feet.length,.int .i64 r.frame,.int .i64 r.c.x,.int .i64 r.c.y,.int .i64 r.c.z,.int .i64 r.empty,.int .i64 r.full]]
 (.tup [.int .i64 (Qc r).1,.int .i64 (Qc r).2.1,.int .i64 (Qc r).2.2.1,.int .i64 (Qc r).2.2.2]):=Qz Try.func26 f26b fun E hE=>by
 refine f26W r hE ⟨fun h=>⟨hs,f26Rr0 r _ hE (QV r) ⟨XI h,fun i x s hx hs=>⟨fun h1=>?_,fun h1=>⟨fun h2=>?_,fun h2=>?_⟩⟩,fun s hs=>?_⟩⟩,fun h=>⟨fun _=>⟨hs,?_⟩,fun _=>⟨hs,?_⟩⟩⟩
 · simp [QV,h1]
 · simp [QV,h1,h2]
 · simp [QV,h1,h2]
 · simp only [Qc,h,cond_true,YT,← hs]
 · simp [Qc,h]
 · simp [Qc,h]
end Go.Proofs.Ytideokfbnegkjaa
namespace Go.Proofs.Ytideokfbnegkjaa
open Go Ax
open Go.Proofs
structure Rd where
 m:Mot
 x:Lim
 f:Bool
def Qo:List Pt:=[⟨100,0,0⟩,⟨0,100,0⟩,⟨-100,0,0⟩,⟨0,-100,0⟩]
def Qg:Rg:=⟨[Qo],[⟨-50,-50,0⟩,⟨50,-50,0⟩,⟨50,50,0⟩,⟨-50,50,0⟩],10,⟨0,0,0⟩,1,3⟩
theorem exRig_small:RigSmall Qg:=⟨by decide,by decide,by intro s hs; simp [Qg] at hs; subst hs; decide⟩
theorem ex_least:Qc Qg=(35000,0,1,0):=by kernel_rfl
theorem ex_fast:Xk Qo ⟨2,1,2⟩ ⟨300,0,2000⟩ false=(1,0):=by kernel_rfl
theorem f45b:Try.f45.body=some (Qe Try.prog 45):=by kernel_rfl
theorem u45 {a c k:List AV} {r:AV} (h:Pure Try.prog 45 (a++c++k) r):Qf Try.prog (.clos 45 a k) c r:=Qm Try.func45 (by kernel_rfl) f45b h
theorem p45_start_0 {E:Env} {res:AV} (hE:Qh Try.prog 45 res E) (ho:AllP [0=0])
 (hr:AvLe (.rsl [.int .i64 100,.int .i64 0,.int .i64 0,.int .i64 0,.int .i64 100,.int .i64 0,.int .i64 (-100),.int .i64 0,.int .i64 0,.int .i64 0,.int .i64 (-100),.int .i64 0] 0 4) res):G Try.prog E [.code (Qe Try.prog 45)] ⟨[]++unds (Try.f45.ntmps - 0),[]⟩ :=
 Qj (n:=400) (evs:=[]) (obs:=_) hE Try.func45 Qi (by kernel_rfl) ho hr
theorem f45W {E:Env} {rv:(List Pt)} (hE:Qh Try.prog 45 (.rsl (rowP rv) 0 rv.length) E)
 (h:rv=[(⟨100,0,0⟩:Pt),(⟨0,100,0⟩:Pt),(⟨(-100),0,0⟩:Pt),(⟨0,(-100),0⟩:Pt)]):G Try.prog E [.code (Qe Try.prog 45)] ⟨[]++unds (Try.f45.ntmps - 0),[]⟩:=by
 exact p45_start_0 hE ⟨rfl,trivial⟩ (AvLe.of_eq (by rw [h]; try rfl))
theorem Yj:Pure Try.prog 45 [] (.rsl (rowP Qo) 0 Qo.length):=Qz Try.func45 f45b fun E hE=>f45W (rv:=Qo) hE rfl
theorem f44b:Try.f44.body=some (Qe Try.prog 44):=by kernel_rfl
theorem u44 {a c k:List AV} {r:AV} (h:Pure Try.prog 44 (a++c++k) r):Qf Try.prog (.clos 44 a k) c r:=Qm Try.func44 (by kernel_rfl) f44b h
theorem p44_start_0 {E:Env} {res:AV} (hE:Qh Try.prog 44 res E) (ho:AllP [Qf Try.prog (.clos 45 [] []) [] (.rsl (rowP Qo) 0 Qo.length),8≤8,0=0,0=0])
 (hr:AvLe (.agg [.rsl [.rsl (rowP Qo) 0 Qo.length] 0 1,.rsl [.int .i64 (-50),.int .i64 (-50),.int .i64 0,.int .i64 50,.int .i64 (-50),.int .i64 0,.int .i64 50,.int .i64 50,.int .i64 0,.int .i64 (-50),.int .i64 50,.int .i64 0] 0 4,.int .i64 10,.int .i64 0,.int .i64 0,.int .i64 0,.int .i64 1,.int .i64 3]) res):G Try.prog E [.code (Qe Try.prog 44)] ⟨[]++unds (Try.f44.ntmps - 0),[]⟩ :=
 Qj (n:=400) (evs:=[.v (.rsl (rowP Qo) 0 Qo.length)]) (obs:=_) hE Try.func44 Qi (by kernel_rfl) ho hr
theorem f44W {E:Env} {rv:Rg} (hE:Qh Try.prog 44 (.agg [.rsl (rowS rv.seats) 0 rv.seats.length,.rsl (rowP rv.feet) 0 rv.feet.length,.int .i64 rv.frame,.int .i64 rv.c.x,.int .i64 rv.c.y,.int .i64 rv.c.z,.int .i64 rv.empty,.int .i64 rv.full]) E)
 (h:rv=(⟨[Qo],[(⟨(-50),(-50),0⟩:Pt),(⟨50,(-50),0⟩:Pt),(⟨50,50,0⟩:Pt),(⟨(-50),50,0⟩:Pt)],10,(⟨0,0,0⟩:Pt),1,3⟩:Rg)):G Try.prog E [.code (Qe Try.prog 44)] ⟨[]++unds (Try.f44.ntmps - 0),[]⟩:=by
 exact p44_start_0 hE ⟨(u45 (Yj )),(by decide),rfl,rfl,trivial⟩ (AvLe.of_eq (by rw [h]; try rfl))
theorem Vk:Pure Try.prog 44 [] (.agg [.rsl (rowS Qg.seats) 0 Qg.seats.length,.rsl (rowP Qg.feet) 0 Qg.feet.length,.int .i64 Qg.frame,.int .i64 Qg.c.x,.int .i64 Qg.c.y,.int .i64 Qg.c.z,.int .i64 Qg.empty,.int .i64 Qg.full]):=Qz Try.func44 f44b fun E hE=>f44W (rv:=Qg) hE rfl
theorem f15b:Try.f15.body=some (Qe Try.prog 15):=by kernel_rfl
theorem u15 {a c k:List AV} {r:AV} (h:Pure Try.prog 15 (a++c++k) r):Qf Try.prog (.clos 15 a k) c r:=Qm Try.func15 (by kernel_rfl) f15b h
theorem p15_start_0 {E:Env} {res:AV} (hE:Qh Try.prog 15 res E) (ho:AllP [Qf Try.prog (.clos 44 [] []) [] (.agg [.rsl (rowS Qg.seats) 0 Qg.seats.length,.rsl (rowP Qg.feet) 0 Qg.feet.length,.int .i64 Qg.frame,.int .i64 Qg.c.x,.int .i64 Qg.c.y,.int .i64 Qg.c.z,.int .i64 Qg.empty,.int .i64 Qg.full]),Qf Try.prog (.clos 26 [] []) [.agg [.rsl (rowS Qg.seats) 0 Qg.seats.length,.rsl (rowP Qg.feet) 0 Qg.feet.length,.int .i64 Qg.frame,.int .i64 Qg.c.x,.int .i64 Qg.c.y,.int .i64 Qg.c.z,.int .i64 Qg.empty,.int .i64 Qg.full]] (.tup [.int .i64 ((Qc Qg).1),.int .i64 ((Qc Qg).2.1),.int .i64 ((Qc Qg).2.2.1),.int .i64 ((Qc Qg).2.2.2)]),Qf Try.prog (.clos 45 [] []) [] (.rsl (rowP Qo) 0 Qo.length),Qf Try.prog (.clos 16 [] []) [.rsl (rowP Qo) 0 Qo.length,.agg [.int .i64 2,.int .i64 1,.int .i64 2],.agg [.int .i64 300,.int .i64 0,.int .i64 2000],.bool false] (.tup [.int .i64 ((Xk Qo (⟨2,1,2⟩:Mot) (⟨300,0,2000⟩:Lim) false).1),.int .i64 ((Xk Qo (⟨2,1,2⟩:Mot) (⟨300,0,2000⟩:Lim) false).2)]),((Qc Qg).2.2.2 == 0)=true,((Xk Qo (⟨2,1,2⟩:Mot) (⟨300,0,2000⟩:Lim) false).2 == 0)=true,((Qc Qg).1 == 35000)=true,((Qc Qg).2.1 == 0)=true,((Qc Qg).2.2.1 == 1)=true])
 (hr:AvLe (.bool ((Xk Qo (⟨2,1,2⟩:Mot) (⟨300,0,2000⟩:Lim) false).1 == 1)) res):G Try.prog E [.code (Qe Try.prog 15)] ⟨[]++unds (Try.f15.ntmps - 0),[]⟩ :=
 Qj (n:=400) (evs:=[.v (.agg [.rsl (rowS Qg.seats) 0 Qg.seats.length,.rsl (rowP Qg.feet) 0 Qg.feet.length,.int .i64 Qg.frame,.int .i64 Qg.c.x,.int .i64 Qg.c.y,.int .i64 Qg.c.z,.int .i64 Qg.empty,.int .i64 Qg.full]),.v (.tup [.int .i64 ((Qc Qg).1),.int .i64 ((Qc Qg).2.1),.int .i64 ((Qc Qg).2.2.1),.int .i64 ((Qc Qg).2.2.2)]),.v (.rsl (rowP Qo) 0 Qo.length),.v (.tup [.int .i64 ((Xk Qo (⟨2,1,2⟩:Mot) (⟨300,0,2000⟩:Lim) false).1),.int .i64 ((Xk Qo (⟨2,1,2⟩:Mot) (⟨300,0,2000⟩:Lim) false).2)]),.b true,.b true,.b true,.b true,.b true]) (obs:=_) hE Try.func15 Qi (by kernel_rfl) ho hr
theorem p15_start_1 {E:Env} {res:AV} (hE:Qh Try.prog 15 res E) (ho:AllP [Qf Try.prog (.clos 44 [] []) [] (.agg [.rsl (rowS Qg.seats) 0 Qg.seats.length,.rsl (rowP Qg.feet) 0 Qg.feet.length,.int .i64 Qg.frame,.int .i64 Qg.c.x,.int .i64 Qg.c.y,.int .i64 Qg.c.z,.int .i64 Qg.empty,.int .i64 Qg.full]),Qf Try.prog (.clos 26 [] []) [.agg [.rsl (rowS Qg.seats) 0 Qg.seats.length,.rsl (rowP Qg.feet) 0 Qg.feet.length,.int .i64 Qg.frame,.int .i64 Qg.c.x,.int .i64 Qg.c.y,.int .i64 Qg.c.z,.int .i64 Qg.empty,.int .i64 Qg.full]] (.tup [.int .i64 ((Qc Qg).1),.int .i64 ((Qc Qg).2.1),.int .i64 ((Qc Qg).2.2.1),.int .i64 ((Qc Qg).2.2.2)]),Qf Try.prog (.clos 45 [] []) [] (.rsl (rowP Qo) 0 Qo.length),Qf Try.prog (.clos 16 [] []) [.rsl (rowP Qo) 0 Qo.length,.agg [.int .i64 2,.int .i64 1,.int .i64 2],.agg [.int .i64 300,.int .i64 0,.int .i64 2000],.bool false] (.tup [.int .i64 ((Xk Qo (⟨2,1,2⟩:Mot) (⟨300,0,2000⟩:Lim) false).1),.int .i64 ((Xk Qo (⟨2,1,2⟩:Mot) (⟨300,0,2000⟩:Lim) false).2)]),((Qc Qg).2.2.2 == 0)=true,((Xk Qo (⟨2,1,2⟩:Mot) (⟨300,0,2000⟩:Lim) false).2 == 0)=true,((Qc Qg).1 == 35000)=true,((Qc Qg).2.1 == 0)=true,((Qc Qg).2.2.1 == 1)=false])
 (hr:AvLe (.bool false) res):G Try.prog E [.code (Qe Try.prog 15)] ⟨[]++unds (Try.f15.ntmps - 0),[]⟩ :=
 Qj (n:=400) (evs:=[.v (.agg [.rsl (rowS Qg.seats) 0 Qg.seats.length,.rsl (rowP Qg.feet) 0 Qg.feet.length,.int .i64 Qg.frame,.int .i64 Qg.c.x,.int .i64 Qg.c.y,.int .i64 Qg.c.z,.int .i64 Qg.empty,.int .i64 Qg.full]),.v (.tup [.int .i64 ((Qc Qg).1),.int .i64 ((Qc Qg).2.1),.int .i64 ((Qc Qg).2.2.1),.int .i64 ((Qc Qg).2.2.2)]),.v (.rsl (rowP Qo) 0 Qo.length),.v (.tup [.int .i64 ((Xk Qo (⟨2,1,2⟩:Mot) (⟨300,0,2000⟩:Lim) false).1),.int .i64 ((Xk Qo (⟨2,1,2⟩:Mot) (⟨300,0,2000⟩:Lim) false).2)]),.b true,.b true,.b true,.b true,.b false]) (obs:=_) hE Try.func15 Qi (by kernel_rfl) ho hr
theorem p15_start_2 {E:Env} {res:AV} (hE:Qh Try.prog 15 res E) (ho:AllP [Qf Try.prog (.clos 44 [] []) [] (.agg [.rsl (rowS Qg.seats) 0 Qg.seats.length,.rsl (rowP Qg.feet) 0 Qg.feet.length,.int .i64 Qg.frame,.int .i64 Qg.c.x,.int .i64 Qg.c.y,.int .i64 Qg.c.z,.int .i64 Qg.empty,.int .i64 Qg.full]),Qf Try.prog (.clos 26 [] []) [.agg [.rsl (rowS Qg.seats) 0 Qg.seats.length,.rsl (rowP Qg.feet) 0 Qg.feet.length,.int .i64 Qg.frame,.int .i64 Qg.c.x,.int .i64 Qg.c.y,.int .i64 Qg.c.z,.int .i64 Qg.empty,.int .i64 Qg.full]] (.tup [.int .i64 ((Qc Qg).1),.int .i64 ((Qc Qg).2.1),.int .i64 ((Qc Qg).2.2.1),.int .i64 ((Qc Qg).2.2.2)]),Qf Try.prog (.clos 45 [] []) [] (.rsl (rowP Qo) 0 Qo.length),Qf Try.prog (.clos 16 [] []) [.rsl (rowP Qo) 0 Qo.length,.agg [.int .i64 2,.int .i64 1,.int .i64 2],.agg [.int .i64 300,.int .i64 0,.int .i64 2000],.bool false] (.tup [.int .i64 ((Xk Qo (⟨2,1,2⟩:Mot) (⟨300,0,2000⟩:Lim) false).1),.int .i64 ((Xk Qo (⟨2,1,2⟩:Mot) (⟨300,0,2000⟩:Lim) false).2)]),((Qc Qg).2.2.2 == 0)=true,((Xk Qo (⟨2,1,2⟩:Mot) (⟨300,0,2000⟩:Lim) false).2 == 0)=true,((Qc Qg).1 == 35000)=true,((Qc Qg).2.1 == 0)=false,false=false])
 (hr:AvLe (.bool false) res):G Try.prog E [.code (Qe Try.prog 15)] ⟨[]++unds (Try.f15.ntmps - 0),[]⟩ :=
 Qj (n:=400) (evs:=[.v (.agg [.rsl (rowS Qg.seats) 0 Qg.seats.length,.rsl (rowP Qg.feet) 0 Qg.feet.length,.int .i64 Qg.frame,.int .i64 Qg.c.x,.int .i64 Qg.c.y,.int .i64 Qg.c.z,.int .i64 Qg.empty,.int .i64 Qg.full]),.v (.tup [.int .i64 ((Qc Qg).1),.int .i64 ((Qc Qg).2.1),.int .i64 ((Qc Qg).2.2.1),.int .i64 ((Qc Qg).2.2.2)]),.v (.rsl (rowP Qo) 0 Qo.length),.v (.tup [.int .i64 ((Xk Qo (⟨2,1,2⟩:Mot) (⟨300,0,2000⟩:Lim) false).1),.int .i64 ((Xk Qo (⟨2,1,2⟩:Mot) (⟨300,0,2000⟩:Lim) false).2)]),.b true,.b true,.b true,.b false,.b false]) (obs:=_) hE Try.func15 Qi (by kernel_rfl) ho hr
theorem p15_start_3 {E:Env} {res:AV} (hE:Qh Try.prog 15 res E) (ho:AllP [Qf Try.prog (.clos 44 [] []) [] (.agg [.rsl (rowS Qg.seats) 0 Qg.seats.length,.rsl (rowP Qg.feet) 0 Qg.feet.length,.int .i64 Qg.frame,.int .i64 Qg.c.x,.int .i64 Qg.c.y,.int .i64 Qg.c.z,.int .i64 Qg.empty,.int .i64 Qg.full]),Qf Try.prog (.clos 26 [] []) [.agg [.rsl (rowS Qg.seats) 0 Qg.seats.length,.rsl (rowP Qg.feet) 0 Qg.feet.length,.int .i64 Qg.frame,.int .i64 Qg.c.x,.int .i64 Qg.c.y,.int .i64 Qg.c.z,.int .i64 Qg.empty,.int .i64 Qg.full]] (.tup [.int .i64 ((Qc Qg).1),.int .i64 ((Qc Qg).2.1),.int .i64 ((Qc Qg).2.2.1),.int .i64 ((Qc Qg).2.2.2)]),Qf Try.prog (.clos 45 [] []) [] (.rsl (rowP Qo) 0 Qo.length),Qf Try.prog (.clos 16 [] []) [.rsl (rowP Qo) 0 Qo.length,.agg [.int .i64 2,.int .i64 1,.int .i64 2],.agg [.int .i64 300,.int .i64 0,.int .i64 2000],.bool false] (.tup [.int .i64 ((Xk Qo (⟨2,1,2⟩:Mot) (⟨300,0,2000⟩:Lim) false).1),.int .i64 ((Xk Qo (⟨2,1,2⟩:Mot) (⟨300,0,2000⟩:Lim) false).2)]),((Qc Qg).2.2.2 == 0)=true,((Xk Qo (⟨2,1,2⟩:Mot) (⟨300,0,2000⟩:Lim) false).2 == 0)=true,((Qc Qg).1 == 35000)=false,false=false,false=false])
 (hr:AvLe (.bool false) res):G Try.prog E [.code (Qe Try.prog 15)] ⟨[]++unds (Try.f15.ntmps - 0),[]⟩ :=
 Qj (n:=400) (evs:=[.v (.agg [.rsl (rowS Qg.seats) 0 Qg.seats.length,.rsl (rowP Qg.feet) 0 Qg.feet.length,.int .i64 Qg.frame,.int .i64 Qg.c.x,.int .i64 Qg.c.y,.int .i64 Qg.c.z,.int .i64 Qg.empty,.int .i64 Qg.full]),.v (.tup [.int .i64 ((Qc Qg).1),.int .i64 ((Qc Qg).2.1),.int .i64 ((Qc Qg).2.2.1),.int .i64 ((Qc Qg).2.2.2)]),.v (.rsl (rowP Qo) 0 Qo.length),.v (.tup [.int .i64 ((Xk Qo (⟨2,1,2⟩:Mot) (⟨300,0,2000⟩:Lim) false).1),.int .i64 ((Xk Qo (⟨2,1,2⟩:Mot) (⟨300,0,2000⟩:Lim) false).2)]),.b true,.b true,.b false,.b false,.b false]) (obs:=_) hE Try.func15 Qi (by kernel_rfl) ho hr
theorem p15_start_4 {E:Env} {res:AV} (hE:Qh Try.prog 15 res E) (ho:AllP [Qf Try.prog (.clos 44 [] []) [] (.agg [.rsl (rowS Qg.seats) 0 Qg.seats.length,.rsl (rowP Qg.feet) 0 Qg.feet.length,.int .i64 Qg.frame,.int .i64 Qg.c.x,.int .i64 Qg.c.y,.int .i64 Qg.c.z,.int .i64 Qg.empty,.int .i64 Qg.full]),Qf Try.prog (.clos 26 [] []) [.agg [.rsl (rowS Qg.seats) 0 Qg.seats.length,.rsl (rowP Qg.feet) 0 Qg.feet.length,.int .i64 Qg.frame,.int .i64 Qg.c.x,.int .i64 Qg.c.y,.int .i64 Qg.c.z,.int .i64 Qg.empty,.int .i64 Qg.full]] (.tup [.int .i64 ((Qc Qg).1),.int .i64 ((Qc Qg).2.1),.int .i64 ((Qc Qg).2.2.1),.int .i64 ((Qc Qg).2.2.2)]),Qf Try.prog (.clos 45 [] []) [] (.rsl (rowP Qo) 0 Qo.length),Qf Try.prog (.clos 16 [] []) [.rsl (rowP Qo) 0 Qo.length,.agg [.int .i64 2,.int .i64 1,.int .i64 2],.agg [.int .i64 300,.int .i64 0,.int .i64 2000],.bool false] (.tup [.int .i64 ((Xk Qo (⟨2,1,2⟩:Mot) (⟨300,0,2000⟩:Lim) false).1),.int .i64 ((Xk Qo (⟨2,1,2⟩:Mot) (⟨300,0,2000⟩:Lim) false).2)]),((Qc Qg).2.2.2 == 0)=true,((Xk Qo (⟨2,1,2⟩:Mot) (⟨300,0,2000⟩:Lim) false).2 == 0)=false,false=false,false=false,false=false])
 (hr:AvLe (.bool false) res):G Try.prog E [.code (Qe Try.prog 15)] ⟨[]++unds (Try.f15.ntmps - 0),[]⟩ :=
 Qj (n:=400) (evs:=[.v (.agg [.rsl (rowS Qg.seats) 0 Qg.seats.length,.rsl (rowP Qg.feet) 0 Qg.feet.length,.int .i64 Qg.frame,.int .i64 Qg.c.x,.int .i64 Qg.c.y,.int .i64 Qg.c.z,.int .i64 Qg.empty,.int .i64 Qg.full]),.v (.tup [.int .i64 ((Qc Qg).1),.int .i64 ((Qc Qg).2.1),.int .i64 ((Qc Qg).2.2.1),.int .i64 ((Qc Qg).2.2.2)]),.v (.rsl (rowP Qo) 0 Qo.length),.v (.tup [.int .i64 ((Xk Qo (⟨2,1,2⟩:Mot) (⟨300,0,2000⟩:Lim) false).1),.int .i64 ((Xk Qo (⟨2,1,2⟩:Mot) (⟨300,0,2000⟩:Lim) false).2)]),.b true,.b false,.b false,.b false,.b false]) (obs:=_) hE Try.func15 Qi (by kernel_rfl) ho hr
theorem p15_start_5 {E:Env} {res:AV} (hE:Qh Try.prog 15 res E) (ho:AllP [Qf Try.prog (.clos 44 [] []) [] (.agg [.rsl (rowS Qg.seats) 0 Qg.seats.length,.rsl (rowP Qg.feet) 0 Qg.feet.length,.int .i64 Qg.frame,.int .i64 Qg.c.x,.int .i64 Qg.c.y,.int .i64 Qg.c.z,.int .i64 Qg.empty,.int .i64 Qg.full]),Qf Try.prog (.clos 26 [] []) [.agg [.rsl (rowS Qg.seats) 0 Qg.seats.length,.rsl (rowP Qg.feet) 0 Qg.feet.length,.int .i64 Qg.frame,.int .i64 Qg.c.x,.int .i64 Qg.c.y,.int .i64 Qg.c.z,.int .i64 Qg.empty,.int .i64 Qg.full]] (.tup [.int .i64 ((Qc Qg).1),.int .i64 ((Qc Qg).2.1),.int .i64 ((Qc Qg).2.2.1),.int .i64 ((Qc Qg).2.2.2)]),Qf Try.prog (.clos 45 [] []) [] (.rsl (rowP Qo) 0 Qo.length),Qf Try.prog (.clos 16 [] []) [.rsl (rowP Qo) 0 Qo.length,.agg [.int .i64 2,.int .i64 1,.int .i64 2],.agg [.int .i64 300,.int .i64 0,.int .i64 2000],.bool false] (.tup [.int .i64 ((Xk Qo (⟨2,1,2⟩:Mot) (⟨300,0,2000⟩:Lim) false).1),.int .i64 ((Xk Qo (⟨2,1,2⟩:Mot) (⟨300,0,2000⟩:Lim) false).2)]),((Qc Qg).2.2.2 == 0)=false,false=false,false=false,false=false,false=false])
 (hr:AvLe (.bool false) res):G Try.prog E [.code (Qe Try.prog 15)] ⟨[]++unds (Try.f15.ntmps - 0),[]⟩ :=
 Qj (n:=400) (evs:=[.v (.agg [.rsl (rowS Qg.seats) 0 Qg.seats.length,.rsl (rowP Qg.feet) 0 Qg.feet.length,.int .i64 Qg.frame,.int .i64 Qg.c.x,.int .i64 Qg.c.y,.int .i64 Qg.c.z,.int .i64 Qg.empty,.int .i64 Qg.full]),.v (.tup [.int .i64 ((Qc Qg).1),.int .i64 ((Qc Qg).2.1),.int .i64 ((Qc Qg).2.2.1),.int .i64 ((Qc Qg).2.2.2)]),.v (.rsl (rowP Qo) 0 Qo.length),.v (.tup [.int .i64 ((Xk Qo (⟨2,1,2⟩:Mot) (⟨300,0,2000⟩:Lim) false).1),.int .i64 ((Xk Qo (⟨2,1,2⟩:Mot) (⟨300,0,2000⟩:Lim) false).2)]),.b false,.b false,.b false,.b false,.b false]) (obs:=_) hE Try.func15 Qi (by kernel_rfl) ho hr
theorem f15W {E:Env} {rv:Bool} (hE:Qh Try.prog 15 (.bool rv) E)
 (h:((RigSmall Qg)∧((Qo.length≤1000)∧(((Qc Qg).2.2.2=0→(((Xk Qo (⟨2,1,2⟩:Mot) (⟨300,0,2000⟩:Lim) false).2=0→(((Qc Qg).1=35000→(((Qc Qg).2.1=0→(((Qc Qg).2.2.1=1→rv=((Xk Qo (⟨2,1,2⟩:Mot) (⟨300,0,2000⟩:Lim) false).1 == 1))∧(¬ ((Qc Qg).2.2.1=1)→rv=false)))∧(¬ ((Qc Qg).2.1=0)→rv=false)))∧(¬ ((Qc Qg).1=35000)→rv=false)))∧(¬ ((Xk Qo (⟨2,1,2⟩:Mot) (⟨300,0,2000⟩:Lim) false).2=0)→rv=false)))∧(¬ ((Qc Qg).2.2.2=0)→rv=false))))):G Try.prog E [.code (Qe Try.prog 15)] ⟨[]++unds (Try.f15.ntmps - 0),[]⟩:=by
 obtain ⟨h1,h⟩:=h
 obtain ⟨h2,h⟩:=h
 rcases bft ((Qc Qg).2.2.2 == 0) with hc0 | hc0
 · have h:=h.1 (eq_of_beq hc0)
   rcases bft ((Xk Qo (⟨2,1,2⟩:Mot) (⟨300,0,2000⟩:Lim) false).2 == 0) with hc1 | hc1
   · have h:=h.1 (eq_of_beq hc1)
     rcases bft ((Qc Qg).1 == 35000) with hc2 | hc2
     · have h:=h.1 (eq_of_beq hc2)
       rcases bft ((Qc Qg).2.1 == 0) with hc3 | hc3
       · have h:=h.1 (eq_of_beq hc3)
         rcases bft ((Qc Qg).2.2.1 == 1) with hc4 | hc4
         · have h:=h.1 (eq_of_beq hc4)
           exact p15_start_0 hE ⟨(u44 (Vk )),(u26 (Xa Qg h1)),(u45 (Yj )),(u16 (XY Qo (⟨2,1,2⟩:Mot) (⟨300,0,2000⟩:Lim) false h2)),hc0,hc1,hc2,hc3,hc4,trivial⟩ (AvLe.of_eq (by rw [h]; try rfl))
         · have h:=h.2 (ne_of_beq_false hc4)
           exact p15_start_1 hE ⟨(u44 (Vk )),(u26 (Xa Qg h1)),(u45 (Yj )),(u16 (XY Qo (⟨2,1,2⟩:Mot) (⟨300,0,2000⟩:Lim) false h2)),hc0,hc1,hc2,hc3,hc4,trivial⟩ (AvLe.of_eq (by rw [h]; try rfl))
       · have h:=h.2 (ne_of_beq_false hc3)
         exact p15_start_2 hE ⟨(u44 (Vk )),(u26 (Xa Qg h1)),(u45 (Yj )),(u16 (XY Qo (⟨2,1,2⟩:Mot) (⟨300,0,2000⟩:Lim) false h2)),hc0,hc1,hc2,hc3,rfl,trivial⟩ (AvLe.of_eq (by rw [h]; try rfl))
     · have h:=h.2 (ne_of_beq_false hc2)
       exact p15_start_3 hE ⟨(u44 (Vk )),(u26 (Xa Qg h1)),(u45 (Yj )),(u16 (XY Qo (⟨2,1,2⟩:Mot) (⟨300,0,2000⟩:Lim) false h2)),hc0,hc1,hc2,rfl,rfl,trivial⟩ (AvLe.of_eq (by rw [h]; try rfl))
   · have h:=h.2 (ne_of_beq_false hc1)
     exact p15_start_4 hE ⟨(u44 (Vk )),(u26 (Xa Qg h1)),(u45 (Yj )),(u16 (XY Qo (⟨2,1,2⟩:Mot) (⟨300,0,2000⟩:Lim) false h2)),hc0,hc1,rfl,rfl,rfl,trivial⟩ (AvLe.of_eq (by rw [h]; try rfl))
 · have h:=h.2 (ne_of_beq_false hc0)
   exact p15_start_5 hE ⟨(u44 (Vk )),(u26 (Xa Qg h1)),(u45 (Yj )),(u16 (XY Qo (⟨2,1,2⟩:Mot) (⟨300,0,2000⟩:Lim) false h2)),hc0,rfl,rfl,rfl,rfl,trivial⟩ (AvLe.of_eq (by rw [h]; try rfl))
theorem YD:Pure Try.prog 15 [] (.bool true):=Qz Try.func15 f15b fun E hE=>by
 refine f15W (rv:=true) hE ?_
 rw [ex_least,ex_fast]
 exact ⟨exRig_small,by decide,by simp⟩
end Go.Proofs.Ytideokfbnegkjaa
namespace Go.Proofs.Ytideokfbnegkjaa
open Go Ax
open Go.Proofs
theorem ownT:ownKnob Try.prog.godebug=none:=by kernel_rfl
theorem laidT:laidOutB Try.prog=true:=by kernel_rfl
theorem dPt (W:World):Dec Try.prog W 38 Pt cP (fun a=>True):=by
 refine Dec.map (Wk Try.underlying38 rfl (tot:=3) (by kernel_rfl) (Xd (n:=1) (tot:=3) (by kernel_rfl) rfl (YW Try.underlying3) (Xd (n:=1) (tot:=3) (by kernel_rfl) rfl (YW Try.underlying3) (Xd (n:=1) (tot:=3) (by kernel_rfl) rfl (YW Try.underlying3) qs (by decide)) (by decide)) (by decide))) (fun x=>(⟨x.1,x.2.1,x.2.2.1⟩:Pt)) ?_ ?_
 · exact fun _=>rfl
 · exact fun _ _=>trivial
theorem dPts (W:World):Dec Try.prog W 22 (List Pt) (fun a=>[.rsl (rowP a) 0 a.length]) (fun a=>a.length≤9223372036854775807):=by
 refine Dec.map (qr Try.underlying22 (n:=3) (by kernel_rfl) (by decide) (fun _=>rfl) (fun _=>rfl) (dPt W)) (fun x=>x) ?_ ?_
 · exact fun _=>rfl
 · exact fun _ h=>h.1
end Go.Proofs.Ytideokfbnegkjaa
namespace Go.Proofs.Ytideokfbnegkjaa
open Go Ax
open Go.Proofs
theorem VQ {n a b:Int}:Qd n a b=true ↔ a≤n∧n≤b:=by simp [Qd]
end Go.Proofs.Ytideokfbnegkjaa
namespace Go.Proofs.Ytideokfbnegkjaa
open Go Ax
open Go.Proofs
/-! ### the plain law of Slower -/
end Go.Proofs.Ytideokfbnegkjaa
namespace Ax
open Go
theorem row_rep {α:Type} (f:α→List AV) (n:Nat) (a:α):(List.replicate n (f a)).flatten=(List.replicate n a).flatMap f:=by
 induction n with
 | zero=>rfl
 | succ n ih=>rw [List.replicate_succ,List.flatten_cons,ih,List.replicate_succ,List.flatMap_cons]
theorem YQ {α:Type} (f:α→List AV) {s:Nat} (hf:∀ a,(f a).length=s) (l:List α):((l.flatMap f).drop 0).take (l.length*s)=l.flatMap f:=by
 rw [List.drop_zero,List.take_of_length_le (by rw [XC f hf]; exact Nat.le_refl _)]
theorem qP:∀ {a b:List AV},noRefs (a++b)=(noRefs a && noRefs b)
 | [],b=>by simp [noRefs]
 | x :: a,b=>by simp [noRefs,qP,Bool.and_assoc]
theorem VE {α:Type} (f:α→List AV) (hf:∀ a,noRefs (f a)=true):∀ l:List α,noRefs (l.flatMap f)=true
 | []=>rfl
 | a :: l=>by rw [List.flatMap_cons,qP,hf,VE f hf l]; rfl
end Ax
namespace Go.Proofs.Ytideokfbnegkjaa
open Go Ax
open Go.Proofs
/-! ### runs -/
end Go.Proofs.Ytideokfbnegkjaa
namespace Go.Proofs.Ytideokfbnegkjaa
open Go Ax
open Go.Proofs
/-! ### the plain law of Envelope -/
end Go.Proofs.Ytideokfbnegkjaa
namespace Go.Proofs.Ytideokfbnegkjaa
open Go Ax
open Go.Proofs
theorem f22b:Try.f22.body=some (Qe Try.prog 22):=by kernel_rfl
theorem u22 {a c k:List AV} {r:AV} (h:Pure Try.prog 22 (a++c++k) r):Qf Try.prog (.clos 22 a k) c r:=Qm Try.func22 (by kernel_rfl) f22b h
def f22K0 (P:Program):List Item:=kAt 400 [.code (Qe P 22)] [.b false,.stop]
def f22S0 (r:Rg) (i:Nat):St:=⟨([J,.ptr 0 0 0,J,.int .i64 (i:Int)]++Js 24),[⟨true,0,1,true,[.rsl (rowS r.seats) 0 r.seats.length,.rsl (rowP r.feet) 0 r.feet.length,.int .i64 r.frame,.int .i64 r.c.x,.int .i64 r.c.y,.int .i64 r.c.z,.int .i64 r.empty,.int .i64 r.full],false⟩]⟩
def f22G0 (E:Env) (r:Rg) (i:Nat):Prop:=G Try.prog E (f22K0 Try.prog) (f22S0 r i )
theorem p22_start_0 (r:Rg) {E:Env} {res:AV} (hE:Qh Try.prog 22 res E) (ho:AllP [(decide ((r.seats.length:Int) > 25))=true,true=true])
 (hr:AvLe (.bool true) res):G Try.prog E [.code (Qe Try.prog 22)] ⟨[.agg [.rsl (rowS r.seats) 0 r.seats.length,.rsl (rowP r.feet) 0 r.feet.length,.int .i64 r.frame,.int .i64 r.c.x,.int .i64 r.c.y,.int .i64 r.c.z,.int .i64 r.empty,.int .i64 r.full]]++unds (Try.f22.ntmps - 1),[]⟩ :=
 Qj (n:=400) (evs:=[.b true,.b true]) (obs:=_) hE Try.func22 Qi (by kernel_rfl) ho hr
theorem p22_start_1 (r:Rg) {E:Env} {res:AV} (hE:Qh Try.prog 22 res E) (ho:AllP [(decide ((r.seats.length:Int) > 25))=false,(decide ((r.feet.length:Int) > 12))=true])
 (hr:AvLe (.bool true) res):G Try.prog E [.code (Qe Try.prog 22)] ⟨[.agg [.rsl (rowS r.seats) 0 r.seats.length,.rsl (rowP r.feet) 0 r.feet.length,.int .i64 r.frame,.int .i64 r.c.x,.int .i64 r.c.y,.int .i64 r.c.z,.int .i64 r.empty,.int .i64 r.full]]++unds (Try.f22.ntmps - 1),[]⟩ :=
 Qj (n:=400) (evs:=[.b false,.b true]) (obs:=_) hE Try.func22 Qi (by kernel_rfl) ho hr
theorem p22_start_2 (r:Rg) {E:Env} {rv:AV} (hE:Qh Try.prog 22 rv E) (ho:AllP [(decide ((r.seats.length:Int) > 25))=false,(decide ((r.feet.length:Int) > 12))=false])
 (hg:G Try.prog E (f22K0 Try.prog) ⟨([J,.ptr 0 0 0,J,.int .i64 0]++Js 24),[⟨true,0,1,true,[.rsl (rowS r.seats) 0 r.seats.length,.rsl (rowP r.feet) 0 r.feet.length,.int .i64 r.frame,.int .i64 r.c.x,.int .i64 r.c.y,.int .i64 r.c.z,.int .i64 r.empty,.int .i64 r.full],false⟩]⟩):G Try.prog E [.code (Qe Try.prog 22)] ⟨[.agg [.rsl (rowS r.seats) 0 r.seats.length,.rsl (rowP r.feet) 0 r.feet.length,.int .i64 r.frame,.int .i64 r.c.x,.int .i64 r.c.y,.int .i64 r.c.z,.int .i64 r.empty,.int .i64 r.full]]++unds (Try.f22.ntmps - 1),[]⟩ :=
 Qn (n:=400) (ds:=[]) (cs:=[]) (live:=[1,3]) (m:=1) (evs:=[.b false,.b false,.stop]) (obs:=_) hE.2.1 (hE.nogh _) Qi (by kernel_rfl) ho hg
theorem f22W (r:Rg) {E:Env} {rv:Bool} (hE:Qh Try.prog 22 (.bool rv) E)
 (h:(((r.seats.length:Int) > 25→rv=true)∧(¬ ((r.seats.length:Int) > 25)→(((r.feet.length:Int) > 12→rv=true)∧(¬ ((r.feet.length:Int) > 12)→f22G0 E r 0))))):G Try.prog E [.code (Qe Try.prog 22)] ⟨[.agg [.rsl (rowS r.seats) 0 r.seats.length,.rsl (rowP r.feet) 0 r.feet.length,.int .i64 r.frame,.int .i64 r.c.x,.int .i64 r.c.y,.int .i64 r.c.z,.int .i64 r.empty,.int .i64 r.full]]++unds (Try.f22.ntmps - 1),[]⟩:=by
 rcases bft (decide ((r.seats.length:Int) > 25)) with hc0 | hc0
 · have h:=h.1 (odt hc0)
   exact p22_start_0 r hE ⟨hc0,rfl,trivial⟩ (AvLe.of_eq (by rw [h]; try rfl))
 · have h:=h.2 (odf hc0)
   rcases bft (decide ((r.feet.length:Int) > 12)) with hc1 | hc1
   · have h:=h.1 (odt hc1)
     exact p22_start_1 r hE ⟨hc0,hc1,trivial⟩ (AvLe.of_eq (by rw [h]; try rfl))
   · have h:=h.2 (odf hc1)
     exact p22_start_2 r hE ⟨hc0,hc1,trivial⟩ h
theorem p22_0_0 (r:Rg) (i:Nat) (le:(List Pt)) {E:Env} {res:AV} (hE:Qh Try.prog 22 res E) (ho:AllP [(decide ((i:Int)<(r.seats.length:Int)))=true,0≤(i:Int)∧(i:Int)<(r.seats.length:Int),((rowS r.seats).drop (0+(Int.toNat (i:Int))*1)).take 1=[.rsl (rowP le) 0 le.length],(decide ((le.length:Int) > 70))=true])
 (hr:AvLe (.bool true) res):G Try.prog E (f22K0 Try.prog) (f22S0 r i ) :=
 Qj (n:=400) (evs:=[.b true,.auto,.ld (.rsl (rowP le) 0 le.length),.b true]) (obs:=_) hE Try.func22 Qi (by kernel_rfl) ho hr
theorem p22_0_1 (r:Rg) (i:Nat) (le:(List Pt)) {E:Env} {rv:AV} (hE:Qh Try.prog 22 rv E) (ho:AllP [(decide ((i:Int)<(r.seats.length:Int)))=true,0≤(i:Int)∧(i:Int)<(r.seats.length:Int),((rowS r.seats).drop (0+(Int.toNat (i:Int))*1)).take 1=[.rsl (rowP le) 0 le.length],(decide ((le.length:Int) > 70))=false,InR .i64 ((i:Int)+1)])
 (hg:G Try.prog E (f22K0 Try.prog) ⟨([J,.ptr 0 0 0,J,.int .i64 ((i:Int)+1)]++Js 24),[⟨true,0,1,true,[.rsl (rowS r.seats) 0 r.seats.length,.rsl (rowP r.feet) 0 r.feet.length,.int .i64 r.frame,.int .i64 r.c.x,.int .i64 r.c.y,.int .i64 r.c.z,.int .i64 r.empty,.int .i64 r.full],false⟩]⟩):G Try.prog E (f22K0 Try.prog) (f22S0 r i ) :=
 Qn (n:=400) (ds:=[]) (cs:=[]) (live:=[1,3]) (m:=1) (evs:=[.b true,.auto,.ld (.rsl (rowP le) 0 le.length),.b false,.stop]) (obs:=_) hE.2.1 (hE.nogh _) Qi (by kernel_rfl) ho hg
theorem p22_0_2 (r:Rg) (i:Nat) {E:Env} {res:AV} (hE:Qh Try.prog 22 res E) (ho:AllP [(decide ((i:Int)<(r.seats.length:Int)))=false])
 (hr:AvLe (.bool false) res):G Try.prog E (f22K0 Try.prog) (f22S0 r i ) :=
 Qj (n:=400) (evs:=[.b false]) (obs:=_) hE Try.func22 Qi (by kernel_rfl) ho hr
theorem f22W0 (r:Rg) (i:Nat) {E:Env} {rv:Bool} (hE:Qh Try.prog 22 (.bool rv) E)
 (h:(((i:Int)<(r.seats.length:Int)→(∃ le:(List Pt),r.seats[i]?=some le∧(((le.length:Int) > 70→rv=true)∧(¬ ((le.length:Int) > 70)→((I6 ((i:Int)+1))∧f22G0 E r (i+1))))))∧(¬ ((i:Int)<(r.seats.length:Int))→rv=false))):f22G0 E r i:=by
 rcases bft (decide ((i:Int)<(r.seats.length:Int))) with hc0 | hc0
 · have h:=h.1 (odt hc0)
   obtain ⟨le,h1,h⟩:=h
   rcases bft (decide ((le.length:Int) > 70)) with hc1 | hc1
   · have h:=h.1 (odt hc1)
     exact p22_0_0 r i le hE ⟨hc0,(XB h1),(Xe (fun s:List Pt=>[AV.rsl (rowP s) 0 s.length]) (s:=1) (k:=0) (m:=1) (fun _=>rfl) (by decide) h1),hc1,trivial⟩ (AvLe.of_eq (by rw [h]; try rfl))
   · have h:=h.2 (odf hc1)
     obtain ⟨q5_2,h⟩:=h
     exact p22_0_1 r i le hE ⟨hc0,(XB h1),(Xe (fun s:List Pt=>[AV.rsl (rowP s) 0 s.length]) (s:=1) (k:=0) (m:=1) (fun _=>rfl) (by decide) h1),hc1,q5_2,trivial⟩ h
 · have h:=h.2 (odf hc0)
   exact p22_0_2 r i hE ⟨hc0,trivial⟩ (AvLe.of_eq (by rw [h]; try rfl))
theorem f24b:Try.f24.body=some (Qe Try.prog 24):=by kernel_rfl
theorem u24 {a c k:List AV} {r:AV} (h:Pure Try.prog 24 (a++c++k) r):Qf Try.prog (.clos 24 a k) c r:=Qm Try.func24 (by kernel_rfl) f24b h
def f24K0 (P:Program):List Item:=kAt 400 [.code (Qe P 24)] [.stop]
def f24S0 (r:Rg) (i:Nat) (v4:List (List Pt)) (g4:Nat):St:=⟨([J,.ptr 0 0 0,.ptr 1 0 0,.ptr 2 0 0,.int .i64 (i:Int)]++Js 27),[⟨true,0,1,true,[.rsl (rowS r.seats) 0 r.seats.length,.rsl (rowP r.feet) 0 r.feet.length,.int .i64 r.frame,.int .i64 r.c.x,.int .i64 r.c.y,.int .i64 r.c.z,.int .i64 r.empty,.int .i64 r.full],false⟩,⟨true,0,1,true,[.nilSl,.nilSl,.int .i64 0,.int .i64 0,.int .i64 0,.int .i64 0,.int .i64 0,.int .i64 0],false⟩,⟨true,0,1,false,[.sl 4 g4 0 v4.length 1,.rsl (rowP r.feet) 0 (0+r.feet.length),.int .i64 r.frame,.int .i64 r.c.x,.int .i64 r.c.y,.int .i64 r.c.z,.int .i64 r.empty,.int .i64 r.full],false⟩,⟨false,2,3,true,[],false⟩,⟨true,g4,1,true,(rowS v4),true⟩]⟩
def f24G0 (E:Env) (r:Rg) (i:Nat) (v4:List (List Pt)):Prop:=∀ g4:Nat,G Try.prog E (f24K0 Try.prog) (f24S0 r i v4 g4)
theorem p24_start_0 (r:Rg) {E:Env} {rv:AV} (hE:Qh Try.prog 24 rv E) (ho:AllP [8≤8,1=1,0=0,0=0,(0+r.feet.length)≤2147483648,((rowP r.feet).drop 0).take (r.feet.length*3)=(rowP r.feet),(rowP r.feet).length=(r.feet.length*3),noRefs (rowP r.feet)=true,2≤8,1≤8])
 (hg:G Try.prog E (f24K0 Try.prog) ⟨([J,.ptr 0 0 0,.ptr 1 0 0,.ptr 2 0 0,.int .i64 0]++Js 27),[⟨true,0,1,true,[.rsl (rowS r.seats) 0 r.seats.length,.rsl (rowP r.feet) 0 r.feet.length,.int .i64 r.frame,.int .i64 r.c.x,.int .i64 r.c.y,.int .i64 r.c.z,.int .i64 r.empty,.int .i64 r.full],false⟩,⟨true,0,1,true,[.nilSl,.nilSl,.int .i64 0,.int .i64 0,.int .i64 0,.int .i64 0,.int .i64 0,.int .i64 0],false⟩,⟨true,0,1,false,[.sl 4 0 0 0 1,.rsl (rowP r.feet) 0 (0+r.feet.length),.int .i64 r.frame,.int .i64 r.c.x,.int .i64 r.c.y,.int .i64 r.c.z,.int .i64 r.empty,.int .i64 r.full],false⟩,⟨false,2,3,true,[],false⟩,⟨true,0,1,true,[],true⟩]⟩):G Try.prog E [.code (Qe Try.prog 24)] ⟨[.agg [.rsl (rowS r.seats) 0 r.seats.length,.rsl (rowP r.feet) 0 r.feet.length,.int .i64 r.frame,.int .i64 r.c.x,.int .i64 r.c.y,.int .i64 r.c.z,.int .i64 r.empty,.int .i64 r.full]]++unds (Try.f24.ntmps - 1),[]⟩ :=
 Qn (n:=400) (ds:=[]) (cs:=[(2,0,1)]) (live:=[1,2,3,4]) (m:=5) (evs:=[.fz,.cs (rowP r.feet),.stop]) (obs:=_) hE.2.1 (hE.nogh _) Qi (by kernel_rfl) ho hg
theorem f24W (r:Rg) {E:Env} {rv:Rg} (hE:Qh Try.prog 24 (.agg [.rsl (rowS rv.seats) 0 rv.seats.length,.rsl (rowP rv.feet) 0 rv.feet.length,.int .i64 rv.frame,.int .i64 rv.c.x,.int .i64 rv.c.y,.int .i64 rv.c.z,.int .i64 rv.empty,.int .i64 rv.full]) E)
 (h:((0+r.feet.length)≤2147483648∧f24G0 E r 0 ([]))):G Try.prog E [.code (Qe Try.prog 24)] ⟨[.agg [.rsl (rowS r.seats) 0 r.seats.length,.rsl (rowP r.feet) 0 r.feet.length,.int .i64 r.frame,.int .i64 r.c.x,.int .i64 r.c.y,.int .i64 r.c.z,.int .i64 r.empty,.int .i64 r.full]]++unds (Try.f24.ntmps - 1),[]⟩:=by
 obtain ⟨h1,h⟩:=h
 exact p24_start_0 r hE ⟨(by decide),rfl,rfl,rfl,h1,(by exact YQ cP (fun _=>rfl) r.feet),(by exact XC cP (fun _=>rfl) r.feet),(by exact VE cP (fun _=>rfl) r.feet),(by decide),(by decide),trivial⟩ (h 0)
theorem p24_0_0 (r:Rg) (i:Nat) (v4:List (List Pt)) (g4:Nat) (le:(List Pt)) {E:Env} {rv:AV} (hE:Qh Try.prog 24 rv E) (ho:AllP [(decide ((i:Int)<(r.seats.length:Int)))=true,0≤(i:Int)∧(i:Int)<(r.seats.length:Int),((rowS r.seats).drop (0+(Int.toNat (i:Int))*1)).take 1=[.rsl (rowP le) 0 le.length],1=1,0=0,0=0,(0+le.length)≤2147483648,((rowP le).drop 0).take (le.length*3)=(rowP le),(rowP le).length=(le.length*3),noRefs (rowP le)=true,g4=g4,(0+(v4.length*1))=(rowS v4).length,(v4.length+1)≤2147483648,0=0,1≤8,InR .i64 ((i:Int)+1)])
 (hg:G Try.prog E (f24K0 Try.prog) ⟨([J,.ptr 0 0 0,.ptr 1 0 0,.ptr 2 0 0,.int .i64 ((i:Int)+1)]++Js 27),[⟨true,0,1,true,[.rsl (rowS r.seats) 0 r.seats.length,.rsl (rowP r.feet) 0 r.feet.length,.int .i64 r.frame,.int .i64 r.c.x,.int .i64 r.c.y,.int .i64 r.c.z,.int .i64 r.empty,.int .i64 r.full],false⟩,⟨true,0,1,true,[.nilSl,.nilSl,.int .i64 0,.int .i64 0,.int .i64 0,.int .i64 0,.int .i64 0,.int .i64 0],false⟩,⟨true,0,1,false,[.sl 4 (g4+1) 0 (v4.length+1) 1,.rsl (rowP r.feet) 0 (0+r.feet.length),.int .i64 r.frame,.int .i64 r.c.x,.int .i64 r.c.y,.int .i64 r.c.z,.int .i64 r.empty,.int .i64 r.full],false⟩,⟨false,2,3,true,[],false⟩,⟨true,(g4+1),1,true,((rowS v4)++[.rsl (rowP le) 0 (0+le.length)]),true⟩]⟩):G Try.prog E (f24K0 Try.prog) (f24S0 r i v4 g4) :=
 Qn (n:=400) (ds:=[]) (cs:=[]) (live:=[1,2,3,4]) (m:=5) (evs:=[.b true,.auto,.auto,.ld (.rsl (rowP le) 0 le.length),.fz,.cs (rowP le),.stop]) (obs:=_) hE.2.1 (hE.nogh _) Qi (by kernel_rfl) ho hg
theorem p24_0_1 (r:Rg) (i:Nat) (v4:List (List Pt)) (g4:Nat) {E:Env} {res:AV} (hE:Qh Try.prog 24 res E) (ho:AllP [(decide ((i:Int)<(r.seats.length:Int)))=false,8≤8,g4=g4])
 (hr:AvLe (.agg [.rsl (rowS v4) 0 v4.length,.rsl (rowP r.feet) 0 (0+r.feet.length),.int .i64 r.frame,.int .i64 r.c.x,.int .i64 r.c.y,.int .i64 r.c.z,.int .i64 r.empty,.int .i64 r.full]) res):G Try.prog E (f24K0 Try.prog) (f24S0 r i v4 g4) :=
 Qj (n:=400) (evs:=[.b false]) (obs:=_) hE Try.func24 Qi (by kernel_rfl) ho hr
theorem f24W0 (r:Rg) (i:Nat) (v4:List (List Pt)) {E:Env} {rv:Rg} (hE:Qh Try.prog 24 (.agg [.rsl (rowS rv.seats) 0 rv.seats.length,.rsl (rowP rv.feet) 0 rv.feet.length,.int .i64 rv.frame,.int .i64 rv.c.x,.int .i64 rv.c.y,.int .i64 rv.c.z,.int .i64 rv.empty,.int .i64 rv.full]) E)
 (h:(((i:Int)<(r.seats.length:Int)→(∃ le:(List Pt),r.seats[i]?=some le∧((0+le.length)≤2147483648∧((v4.length+1)≤2147483648∧((I6 ((i:Int)+1))∧f24G0 E r (i+1) (v4++[le]))))))∧(¬ ((i:Int)<(r.seats.length:Int))→rv=(⟨v4,r.feet,r.frame,r.c,r.empty,r.full⟩:Rg)))):f24G0 E r i v4:=by
 intro g4
 rcases bft (decide ((i:Int)<(r.seats.length:Int))) with hc0 | hc0
 · have h:=h.1 (odt hc0)
   obtain ⟨le,h1,h⟩:=h
   obtain ⟨h2,h⟩:=h
   obtain ⟨h3,h⟩:=h
   obtain ⟨q16_1,h⟩:=h
   refine p24_0_0 r i v4 g4 le hE ⟨hc0,(XB h1),(Xe (fun s:List Pt=>[AV.rsl (rowP s) 0 s.length]) (s:=1) (k:=0) (m:=1) (fun _=>rfl) (by decide) h1),rfl,rfl,rfl,h2,(by exact YQ cP (fun _=>rfl) le),(by exact XC cP (fun _=>rfl) le),(by exact VE cP (fun _=>rfl) le),rfl,(by have hx:=XC (fun s:List Pt=>[AV.rsl (rowP s) 0 s.length]) (s:=1) (fun _=>rfl) v4; simp only [rowS] at hx ⊢; rw [hx]; simp),h3,rfl,(by decide),q16_1,trivial⟩ ?_
   rw [(show rowS v4++[.rsl (rowP le) 0 (0+le.length)]=rowS (v4++[le]) from (by rw [(show AV.rsl (rowP le) 0 (0+le.length)=AV.rsl (rowP le) 0 le.length from by rw [show (0+le.length)=le.length from by simp])]; exact (row_app (fun s:List Pt=>[AV.rsl (rowP s) 0 s.length]) v4 [le]).symm))]; rw [(show (v4.length+1)=(v4++[le]).length from by simp)]; exact (h (g4+1))
 · have h:=h.2 (odf hc0)
   exact p24_0_1 r i v4 g4 hE ⟨hc0,(by decide),rfl,trivial⟩ (AvLe.of_eq (by rw [h]; rw [(show AV.rsl (rowP r.feet) 0 (0+r.feet.length)=AV.rsl (rowP r.feet) 0 r.feet.length from by rw [show (0+r.feet.length)=r.feet.length from by simp])]; try rfl))
theorem f58b:Try.f58.body=some (Qe Try.prog 58):=by kernel_rfl
theorem u58 {a c k:List AV} {r:AV} (h:Pure Try.prog 58 (a++c++k) r):Qf Try.prog (.clos 58 a k) c r:=Qm Try.func58 (by kernel_rfl) f58b h
theorem p58_start_0 (i:Int) (a:Int) (bs:List Bool) (eb:Bool) {E:Env} {res:AV} (hE:Qh Try.prog 58 res E) (ho:AllP [0≤i∧i<(bs.length:Int),((rowB bs).drop (0+(Int.toNat i)*1)).take 1=[.bool eb]])
 (hr:AvLe (.bool eb) res):G Try.prog E [.code (Qe Try.prog 58)] ⟨[.int .i64 i,.int .i64 a,.rptr [.rsl (rowB bs) 0 bs.length] 0]++unds (Try.f58.ntmps - 3),[]⟩ :=
 Qj (n:=400) (evs:=[.auto,.ld (.bool eb)]) (obs:=_) hE Try.func58 Qi (by kernel_rfl) ho hr
theorem f58W (i:Int) (a:Int) (bs:List Bool) {E:Env} {rv:Bool} (hE:Qh Try.prog 58 (.bool rv) E)
 (h:(0≤i∧(∃ eb:Bool,bs[Int.toNat i]?=some eb∧rv=eb))):G Try.prog E [.code (Qe Try.prog 58)] ⟨[.int .i64 i,.int .i64 a,.rptr [.rsl (rowB bs) 0 bs.length] 0]++unds (Try.f58.ntmps - 3),[]⟩:=by
 obtain ⟨h2,h⟩:=h
 obtain ⟨eb,h1,h⟩:=h
 exact p58_start_0 i a bs eb hE ⟨(Xi h2 h1),(rp cB 1 0 1 h1),trivial⟩ (AvLe.of_eq (by rw [h]; try rfl))
theorem qS (bs:List Bool) (i a:Int) (h:0≤i∧i<bs.length):Pure Try.prog 58 [.int .i64 i,.int .i64 a,.rptr [.rsl (rowB bs) 0 bs.length] 0] (.bool (bs.getD (Int.toNat i) false)):=Qz Try.func58 f58b fun E hE=>by
 have hi:bs[Int.toNat i]?=some (bs.getD (Int.toNat i) false):=by
  have:Int.toNat i<bs.length:=by omega
  simp [List.getD,this]
 exact f58W i a bs hE ⟨h.1,_,hi,rfl⟩
theorem Vx (l:Pt × Pt) (p:Pt) (h:YC l.1 l.2 p):Pure Try.prog 87 [.agg [.int .i64 l.1.x,.int .i64 l.1.y,.int .i64 l.1.z,.int .i64 l.2.x,.int .i64 l.2.y,.int .i64 l.2.z],.agg [.int .i64 p.x,.int .i64 p.y,.int .i64 p.z]] (.int .i64 (arm l.1 l.2 p)):=arm_ok l.1 l.2 p h
theorem f57Lb:Try.f57.body=some (Qe Try.prog 57):=by kernel_rfl
def qk (P:Program):List Item:=kAt 400 [.code (Qe P 57)] [.stop]
def f57LS0 (r:Rg) (ph:Int) (ln:Int) (bs:List Bool) (sum:Int) (v0_0:Int) (v0_1:Int) (v0_2:Int) (v0_3:Int) (v0_4:Int) (v0_5:Int) (i:Nat):St:=⟨([.rptr [.rsl (rowS r.seats) 0 r.seats.length,.rsl (rowP r.feet) 0 r.feet.length,.int .i64 r.frame,.int .i64 r.c.x,.int .i64 r.c.y,.int .i64 r.c.z,.int .i64 r.empty,.int .i64 r.full,.rsl (Ql (Qa r.feet)) 0 ((Qa r.feet).length),.int .i64 (Qb r)] 0,.int .i64 ph,J,.clos 58 [] [.rptr [.rsl (rowB bs) 0 bs.length] 0]]++jj 5 ([.ptr 0 0 0,.int .i64 sum]++jj 28 ([.rsl (rowS r.seats) 0 r.seats.length,.int .i64 (r.seats.length:Int),.int .i64 (i:Int)]++Js 31))),[⟨true,0,1,true,[.int .i64 v0_0,.int .i64 v0_1,.int .i64 v0_2,.int .i64 v0_3,.int .i64 v0_4,.int .i64 v0_5],false⟩]⟩
def f57LG0 (E:Env) (r:Rg) (ph:Int) (ln:Int) (bs:List Bool) (sum:Int) (v0_0:Int) (v0_1:Int) (v0_2:Int) (v0_3:Int) (v0_4:Int) (v0_5:Int) (i:Nat):Prop:=G Try.prog E (qk Try.prog) (f57LS0 r ph ln bs sum v0_0 v0_1 v0_2 v0_3 v0_4 v0_5 i )
theorem p57L_start_0 (r:Rg) (ph:Int) (ln:Int) (bs:List Bool) (pe:(Pt × Pt)) {E:Env} {rv:AV} (hE:Qh Try.prog 57 rv E) (ho:AllP [0≤ln∧ln<(((Qa r.feet).length:Nat):Int),((Ql (Qa r.feet)).drop (0+(Int.toNat ln)*6)).take 6=[.int .i64 pe.1.x,.int .i64 pe.1.y,.int .i64 pe.1.z,.int .i64 pe.2.x,.int .i64 pe.2.y,.int .i64 pe.2.z],6≤6,Qf Try.prog (.clos 87 [] []) [.agg [.int .i64 pe.1.x,.int .i64 pe.1.y,.int .i64 pe.1.z,.int .i64 pe.2.x,.int .i64 pe.2.y,.int .i64 pe.2.z],.agg [.int .i64 r.c.x,.int .i64 r.c.y,.int .i64 r.c.z]] (.int .i64 (arm pe.1 pe.2 r.c)),InR .i64 (r.frame*(arm pe.1 pe.2 r.c))])
 (hg:G Try.prog E (qk Try.prog) ⟨([.rptr [.rsl (rowS r.seats) 0 r.seats.length,.rsl (rowP r.feet) 0 r.feet.length,.int .i64 r.frame,.int .i64 r.c.x,.int .i64 r.c.y,.int .i64 r.c.z,.int .i64 r.empty,.int .i64 r.full,.rsl (Ql (Qa r.feet)) 0 ((Qa r.feet).length),.int .i64 (Qb r)] 0,.int .i64 ph,J,.clos 58 [] [.rptr [.rsl (rowB bs) 0 bs.length] 0]]++jj 5 ([.ptr 0 0 0,.int .i64 (r.frame*(arm pe.1 pe.2 r.c))]++jj 28 ([.rsl (rowS r.seats) 0 r.seats.length,.int .i64 (r.seats.length:Int),.int .i64 0]++Js 31))),[⟨true,0,1,true,[.int .i64 pe.1.x,.int .i64 pe.1.y,.int .i64 pe.1.z,.int .i64 pe.2.x,.int .i64 pe.2.y,.int .i64 pe.2.z],false⟩]⟩):G Try.prog E [.code (Qe Try.prog 57)] ⟨[.rptr [.rsl (rowS r.seats) 0 r.seats.length,.rsl (rowP r.feet) 0 r.feet.length,.int .i64 r.frame,.int .i64 r.c.x,.int .i64 r.c.y,.int .i64 r.c.z,.int .i64 r.empty,.int .i64 r.full,.rsl (Ql (Qa r.feet)) 0 ((Qa r.feet).length),.int .i64 (Qb r)] 0,.int .i64 ph,.int .i64 ln,.clos 58 [] [.rptr [.rsl (rowB bs) 0 bs.length] 0]]++unds (Try.f57.ntmps - 4),[]⟩ :=
 Qn (n:=400) (ds:=[]) (cs:=[]) (live:=[0,1,3,9,10,39,40,41]) (m:=1) (evs:=[.auto,.ld (.agg [.int .i64 pe.1.x,.int .i64 pe.1.y,.int .i64 pe.1.z,.int .i64 pe.2.x,.int .i64 pe.2.y,.int .i64 pe.2.z]),.v (.int .i64 (arm pe.1 pe.2 r.c)),.stop]) (obs:=_) hE.2.1 (hE.nogh _) Qi (by kernel_rfl) ho hg
theorem f57LW (r:Rg) (ph:Int) (ln:Int) (bs:List Bool) {E:Env} {rv:Int} (hE:Qh Try.prog 57 (.int .i64 rv) E)
 (h:(0≤ln∧(∃ pe:(Pt × Pt),(Qa r.feet)[Int.toNat ln]?=some pe∧((YC pe.1 pe.2 r.c)∧((I6 (r.frame*(arm pe.1 pe.2 r.c)))∧f57LG0 E r ph ln bs (r.frame*(arm pe.1 pe.2 r.c)) pe.1.x pe.1.y pe.1.z pe.2.x pe.2.y pe.2.z 0))))):G Try.prog E [.code (Qe Try.prog 57)] ⟨[.rptr [.rsl (rowS r.seats) 0 r.seats.length,.rsl (rowP r.feet) 0 r.feet.length,.int .i64 r.frame,.int .i64 r.c.x,.int .i64 r.c.y,.int .i64 r.c.z,.int .i64 r.empty,.int .i64 r.full,.rsl (Ql (Qa r.feet)) 0 ((Qa r.feet).length),.int .i64 (Qb r)] 0,.int .i64 ph,.int .i64 ln,.clos 58 [] [.rptr [.rsl (rowB bs) 0 bs.length] 0]]++unds (Try.f57.ntmps - 4),[]⟩:=by
 obtain ⟨h2,h⟩:=h
 obtain ⟨pe,h1,h⟩:=h
 obtain ⟨h3,h⟩:=h
 obtain ⟨q5_0,h⟩:=h
 exact p57L_start_0 r ph ln bs pe hE ⟨(Xi h2 h1),(Xe (fun s:Pt × Pt=>cP s.1++cP s.2) (s:=6) (k:=0) (m:=6) (fun _=>rfl) (by decide) h1),(by decide),(u87 (Vx pe r.c h3)),q5_0,trivial⟩ h
theorem p57L_0_0 (r:Rg) (ph:Int) (ln:Int) (bs:List Bool) (sum:Int) (v0_0:Int) (v0_1:Int) (v0_2:Int) (v0_3:Int) (v0_4:Int) (v0_5:Int) (i:Nat) (le:(List Pt)) (pe:Pt) {E:Env} {rv:AV} (hE:Qh Try.prog 57 rv E) (ho:AllP [(decide ((i:Int)<(r.seats.length:Int)))=true,0≤(i:Int)∧(i:Int)<(r.seats.length:Int),((rowS r.seats).drop (0+(Int.toNat (i:Int))*1)).take 1=[.rsl (rowP le) 0 le.length],0≤ph∧ph<(le.length:Int),((rowP le).drop (0+(Int.toNat ph)*3)).take 3=[.int .i64 pe.x,.int .i64 pe.y,.int .i64 pe.z],Qf Try.prog (.clos 87 [] []) [.agg [.int .i64 v0_0,.int .i64 v0_1,.int .i64 v0_2,.int .i64 v0_3,.int .i64 v0_4,.int .i64 v0_5],.agg [.int .i64 pe.x,.int .i64 pe.y,.int .i64 pe.z]] (.int .i64 (arm ((⟨v0_0,v0_1,v0_2⟩:Pt),(⟨v0_3,v0_4,v0_5⟩:Pt)).1 ((⟨v0_0,v0_1,v0_2⟩:Pt),(⟨v0_3,v0_4,v0_5⟩:Pt)).2 pe)),Qf Try.prog (.clos 58 [] [.rptr [.rsl (rowB bs) 0 bs.length] 0]) [.int .i64 (i:Int),.int .i64 (arm ((⟨v0_0,v0_1,v0_2⟩:Pt),(⟨v0_3,v0_4,v0_5⟩:Pt)).1 ((⟨v0_0,v0_1,v0_2⟩:Pt),(⟨v0_3,v0_4,v0_5⟩:Pt)).2 pe)] (.bool (bs.getD (Int.toNat (i:Int)) false)),(bs.getD (Int.toNat (i:Int)) false)=true,InR .i64 (r.full*(arm ((⟨v0_0,v0_1,v0_2⟩:Pt),(⟨v0_3,v0_4,v0_5⟩:Pt)).1 ((⟨v0_0,v0_1,v0_2⟩:Pt),(⟨v0_3,v0_4,v0_5⟩:Pt)).2 pe)),InR .i64 (sum+(r.full*(arm ((⟨v0_0,v0_1,v0_2⟩:Pt),(⟨v0_3,v0_4,v0_5⟩:Pt)).1 ((⟨v0_0,v0_1,v0_2⟩:Pt),(⟨v0_3,v0_4,v0_5⟩:Pt)).2 pe))),InR .i64 ((i:Int)+1)])
 (hg:G Try.prog E (qk Try.prog) ⟨([.rptr [.rsl (rowS r.seats) 0 r.seats.length,.rsl (rowP r.feet) 0 r.feet.length,.int .i64 r.frame,.int .i64 r.c.x,.int .i64 r.c.y,.int .i64 r.c.z,.int .i64 r.empty,.int .i64 r.full,.rsl (Ql (Qa r.feet)) 0 ((Qa r.feet).length),.int .i64 (Qb r)] 0,.int .i64 ph,J,.clos 58 [] [.rptr [.rsl (rowB bs) 0 bs.length] 0]]++jj 5 ([.ptr 0 0 0,.int .i64 (sum+(r.full*(arm ((⟨v0_0,v0_1,v0_2⟩:Pt),(⟨v0_3,v0_4,v0_5⟩:Pt)).1 ((⟨v0_0,v0_1,v0_2⟩:Pt),(⟨v0_3,v0_4,v0_5⟩:Pt)).2 pe)))]++jj 28 ([.rsl (rowS r.seats) 0 r.seats.length,.int .i64 (r.seats.length:Int),.int .i64 ((i:Int)+1)]++Js 31))),[⟨true,0,1,true,[.int .i64 v0_0,.int .i64 v0_1,.int .i64 v0_2,.int .i64 v0_3,.int .i64 v0_4,.int .i64 v0_5],false⟩]⟩):G Try.prog E (qk Try.prog) (f57LS0 r ph ln bs sum v0_0 v0_1 v0_2 v0_3 v0_4 v0_5 i ) :=
 Qn (n:=400) (ds:=[]) (cs:=[]) (live:=[0,1,3,9,10,39,40,41]) (m:=1) (evs:=[.b true,.ld (.rsl (rowP le) 0 le.length),.auto,.ld (.agg [.int .i64 pe.x,.int .i64 pe.y,.int .i64 pe.z]),.v (.int .i64 (arm ((⟨v0_0,v0_1,v0_2⟩:Pt),(⟨v0_3,v0_4,v0_5⟩:Pt)).1 ((⟨v0_0,v0_1,v0_2⟩:Pt),(⟨v0_3,v0_4,v0_5⟩:Pt)).2 pe)),.v (.bool (bs.getD (Int.toNat (i:Int)) false)),.b true,.stop]) (obs:=_) hE.2.1 (hE.nogh _) Qi (by kernel_rfl) ho hg
theorem p57L_0_1 (r:Rg) (ph:Int) (ln:Int) (bs:List Bool) (sum:Int) (v0_0:Int) (v0_1:Int) (v0_2:Int) (v0_3:Int) (v0_4:Int) (v0_5:Int) (i:Nat) (le:(List Pt)) (pe:Pt) {E:Env} {rv:AV} (hE:Qh Try.prog 57 rv E) (ho:AllP [(decide ((i:Int)<(r.seats.length:Int)))=true,0≤(i:Int)∧(i:Int)<(r.seats.length:Int),((rowS r.seats).drop (0+(Int.toNat (i:Int))*1)).take 1=[.rsl (rowP le) 0 le.length],0≤ph∧ph<(le.length:Int),((rowP le).drop (0+(Int.toNat ph)*3)).take 3=[.int .i64 pe.x,.int .i64 pe.y,.int .i64 pe.z],Qf Try.prog (.clos 87 [] []) [.agg [.int .i64 v0_0,.int .i64 v0_1,.int .i64 v0_2,.int .i64 v0_3,.int .i64 v0_4,.int .i64 v0_5],.agg [.int .i64 pe.x,.int .i64 pe.y,.int .i64 pe.z]] (.int .i64 (arm ((⟨v0_0,v0_1,v0_2⟩:Pt),(⟨v0_3,v0_4,v0_5⟩:Pt)).1 ((⟨v0_0,v0_1,v0_2⟩:Pt),(⟨v0_3,v0_4,v0_5⟩:Pt)).2 pe)),Qf Try.prog (.clos 58 [] [.rptr [.rsl (rowB bs) 0 bs.length] 0]) [.int .i64 (i:Int),.int .i64 (arm ((⟨v0_0,v0_1,v0_2⟩:Pt),(⟨v0_3,v0_4,v0_5⟩:Pt)).1 ((⟨v0_0,v0_1,v0_2⟩:Pt),(⟨v0_3,v0_4,v0_5⟩:Pt)).2 pe)] (.bool (bs.getD (Int.toNat (i:Int)) false)),(bs.getD (Int.toNat (i:Int)) false)=false,InR .i64 (r.empty*(arm ((⟨v0_0,v0_1,v0_2⟩:Pt),(⟨v0_3,v0_4,v0_5⟩:Pt)).1 ((⟨v0_0,v0_1,v0_2⟩:Pt),(⟨v0_3,v0_4,v0_5⟩:Pt)).2 pe)),InR .i64 (sum+(r.empty*(arm ((⟨v0_0,v0_1,v0_2⟩:Pt),(⟨v0_3,v0_4,v0_5⟩:Pt)).1 ((⟨v0_0,v0_1,v0_2⟩:Pt),(⟨v0_3,v0_4,v0_5⟩:Pt)).2 pe))),InR .i64 ((i:Int)+1)])
 (hg:G Try.prog E (qk Try.prog) ⟨([.rptr [.rsl (rowS r.seats) 0 r.seats.length,.rsl (rowP r.feet) 0 r.feet.length,.int .i64 r.frame,.int .i64 r.c.x,.int .i64 r.c.y,.int .i64 r.c.z,.int .i64 r.empty,.int .i64 r.full,.rsl (Ql (Qa r.feet)) 0 ((Qa r.feet).length),.int .i64 (Qb r)] 0,.int .i64 ph,J,.clos 58 [] [.rptr [.rsl (rowB bs) 0 bs.length] 0]]++jj 5 ([.ptr 0 0 0,.int .i64 (sum+(r.empty*(arm ((⟨v0_0,v0_1,v0_2⟩:Pt),(⟨v0_3,v0_4,v0_5⟩:Pt)).1 ((⟨v0_0,v0_1,v0_2⟩:Pt),(⟨v0_3,v0_4,v0_5⟩:Pt)).2 pe)))]++jj 28 ([.rsl (rowS r.seats) 0 r.seats.length,.int .i64 (r.seats.length:Int),.int .i64 ((i:Int)+1)]++Js 31))),[⟨true,0,1,true,[.int .i64 v0_0,.int .i64 v0_1,.int .i64 v0_2,.int .i64 v0_3,.int .i64 v0_4,.int .i64 v0_5],false⟩]⟩):G Try.prog E (qk Try.prog) (f57LS0 r ph ln bs sum v0_0 v0_1 v0_2 v0_3 v0_4 v0_5 i ) :=
 Qn (n:=400) (ds:=[]) (cs:=[]) (live:=[0,1,3,9,10,39,40,41]) (m:=1) (evs:=[.b true,.ld (.rsl (rowP le) 0 le.length),.auto,.ld (.agg [.int .i64 pe.x,.int .i64 pe.y,.int .i64 pe.z]),.v (.int .i64 (arm ((⟨v0_0,v0_1,v0_2⟩:Pt),(⟨v0_3,v0_4,v0_5⟩:Pt)).1 ((⟨v0_0,v0_1,v0_2⟩:Pt),(⟨v0_3,v0_4,v0_5⟩:Pt)).2 pe)),.v (.bool (bs.getD (Int.toNat (i:Int)) false)),.b false,.stop]) (obs:=_) hE.2.1 (hE.nogh _) Qi (by kernel_rfl) ho hg
theorem p57L_0_2 (r:Rg) (ph:Int) (ln:Int) (bs:List Bool) (sum:Int) (v0_0:Int) (v0_1:Int) (v0_2:Int) (v0_3:Int) (v0_4:Int) (v0_5:Int) (i:Nat) {E:Env} {res:AV} (hE:Qh Try.prog 57 res E) (ho:AllP [(decide ((i:Int)<(r.seats.length:Int)))=false])
 (hr:AvLe (.int .i64 sum) res):G Try.prog E (qk Try.prog) (f57LS0 r ph ln bs sum v0_0 v0_1 v0_2 v0_3 v0_4 v0_5 i ) :=
 Qj (n:=400) (evs:=[.b false]) (obs:=_) hE Try.func57 Qi (by kernel_rfl) ho hr
theorem f57LW0 (r:Rg) (ph:Int) (ln:Int) (bs:List Bool) (sum:Int) (v0_0:Int) (v0_1:Int) (v0_2:Int) (v0_3:Int) (v0_4:Int) (v0_5:Int) (i:Nat) {E:Env} {rv:Int} (hE:Qh Try.prog 57 (.int .i64 rv) E)
 (h:(((i:Int)<(r.seats.length:Int)→(∃ le:(List Pt),r.seats[i]?=some le∧(0≤ph∧(∃ pe:Pt,le[Int.toNat ph]?=some pe∧((YC ((⟨v0_0,v0_1,v0_2⟩:Pt),(⟨v0_3,v0_4,v0_5⟩:Pt)).1 ((⟨v0_0,v0_1,v0_2⟩:Pt),(⟨v0_3,v0_4,v0_5⟩:Pt)).2 pe)∧((0≤(i:Int)∧(i:Int)<bs.length)∧(((bs.getD (Int.toNat (i:Int)) false)=true→((I6 (r.full*(arm ((⟨v0_0,v0_1,v0_2⟩:Pt),(⟨v0_3,v0_4,v0_5⟩:Pt)).1 ((⟨v0_0,v0_1,v0_2⟩:Pt),(⟨v0_3,v0_4,v0_5⟩:Pt)).2 pe)))∧((I6 (sum+(r.full*(arm ((⟨v0_0,v0_1,v0_2⟩:Pt),(⟨v0_3,v0_4,v0_5⟩:Pt)).1 ((⟨v0_0,v0_1,v0_2⟩:Pt),(⟨v0_3,v0_4,v0_5⟩:Pt)).2 pe))))∧((I6 ((i:Int)+1))∧f57LG0 E r ph ln bs (sum+(r.full*(arm ((⟨v0_0,v0_1,v0_2⟩:Pt),(⟨v0_3,v0_4,v0_5⟩:Pt)).1 ((⟨v0_0,v0_1,v0_2⟩:Pt),(⟨v0_3,v0_4,v0_5⟩:Pt)).2 pe))) v0_0 v0_1 v0_2 v0_3 v0_4 v0_5 (i+1)))))∧((bs.getD (Int.toNat (i:Int)) false)=false→((I6 (r.empty*(arm ((⟨v0_0,v0_1,v0_2⟩:Pt),(⟨v0_3,v0_4,v0_5⟩:Pt)).1 ((⟨v0_0,v0_1,v0_2⟩:Pt),(⟨v0_3,v0_4,v0_5⟩:Pt)).2 pe)))∧((I6 (sum+(r.empty*(arm ((⟨v0_0,v0_1,v0_2⟩:Pt),(⟨v0_3,v0_4,v0_5⟩:Pt)).1 ((⟨v0_0,v0_1,v0_2⟩:Pt),(⟨v0_3,v0_4,v0_5⟩:Pt)).2 pe))))∧((I6 ((i:Int)+1))∧f57LG0 E r ph ln bs (sum+(r.empty*(arm ((⟨v0_0,v0_1,v0_2⟩:Pt),(⟨v0_3,v0_4,v0_5⟩:Pt)).1 ((⟨v0_0,v0_1,v0_2⟩:Pt),(⟨v0_3,v0_4,v0_5⟩:Pt)).2 pe))) v0_0 v0_1 v0_2 v0_3 v0_4 v0_5 (i+1))))))))))))∧(¬ ((i:Int)<(r.seats.length:Int))→rv=sum))):f57LG0 E r ph ln bs sum v0_0 v0_1 v0_2 v0_3 v0_4 v0_5 i:=by
 rcases bft (decide ((i:Int)<(r.seats.length:Int))) with hc0 | hc0
 · have h:=h.1 (odt hc0)
   obtain ⟨le,h1,h⟩:=h
   obtain ⟨h3,h⟩:=h
   obtain ⟨pe,h2,h⟩:=h
   obtain ⟨h4,h⟩:=h
   obtain ⟨h5,h⟩:=h
   rcases bft (bs.getD (Int.toNat (i:Int)) false) with hc1 | hc1
   · have h:=h.1 hc1
     obtain ⟨q10_2,h⟩:=h
     obtain ⟨q11_2,h⟩:=h
     obtain ⟨q12_2,h⟩:=h
     exact p57L_0_0 r ph ln bs sum v0_0 v0_1 v0_2 v0_3 v0_4 v0_5 i le pe hE ⟨hc0,(XB h1),(Xe (fun s:List Pt=>[AV.rsl (rowP s) 0 s.length]) (s:=1) (k:=0) (m:=1) (fun _=>rfl) (by decide) h1),(Xi h3 h2),(rp cP 3 0 3 h2),(u87 (Vx ((⟨v0_0,v0_1,v0_2⟩:Pt),(⟨v0_3,v0_4,v0_5⟩:Pt)) pe h4)),(u58 (qS bs (i:Int) (arm ((⟨v0_0,v0_1,v0_2⟩:Pt),(⟨v0_3,v0_4,v0_5⟩:Pt)).1 ((⟨v0_0,v0_1,v0_2⟩:Pt),(⟨v0_3,v0_4,v0_5⟩:Pt)).2 pe) h5)),hc1,q10_2,q11_2,q12_2,trivial⟩ h
   · have h:=h.2 hc1
     obtain ⟨q10_2,h⟩:=h
     obtain ⟨q11_2,h⟩:=h
     obtain ⟨q12_2,h⟩:=h
     exact p57L_0_1 r ph ln bs sum v0_0 v0_1 v0_2 v0_3 v0_4 v0_5 i le pe hE ⟨hc0,(XB h1),(Xe (fun s:List Pt=>[AV.rsl (rowP s) 0 s.length]) (s:=1) (k:=0) (m:=1) (fun _=>rfl) (by decide) h1),(Xi h3 h2),(rp cP 3 0 3 h2),(u87 (Vx ((⟨v0_0,v0_1,v0_2⟩:Pt),(⟨v0_3,v0_4,v0_5⟩:Pt)) pe h4)),(u58 (qS bs (i:Int) (arm ((⟨v0_0,v0_1,v0_2⟩:Pt),(⟨v0_3,v0_4,v0_5⟩:Pt)).1 ((⟨v0_0,v0_1,v0_2⟩:Pt),(⟨v0_3,v0_4,v0_5⟩:Pt)).2 pe) h5)),hc1,q10_2,q11_2,q12_2,trivial⟩ h
 · have h:=h.2 (odf hc0)
   exact p57L_0_2 r ph ln bs sum v0_0 v0_1 v0_2 v0_3 v0_4 v0_5 i hE ⟨hc0,trivial⟩ (AvLe.of_eq (by rw [h]; try rfl))
def farB (r:Rg):Bool:=decide (r.seats.length > 25) || (decide (r.feet.length > 12) || r.seats.any fun s=>decide (s.length > 70))
theorem Yp (r:Rg):Pure Try.prog 22 [.agg [.rsl (rowS r.seats) 0 r.seats.length,.rsl (rowP r.feet) 0 r.feet.length,.int .i64 r.frame,.int .i64 r.c.x,.int .i64 r.c.y,.int .i64 r.c.z,.int .i64 r.empty,.int .i64 r.full]] (.bool (farB r)):=Qz Try.func22 f22b fun E hE=>by
 refine f22W r hE ⟨fun h=>?_,fun h=>⟨fun h'=>?_,fun h'=>?_⟩⟩
 · have:r.seats.length > 25:=by omega
   simp [farB,this]
 · have:r.feet.length > 12:=by omega
   simp [farB,this]
 · have h1:¬ r.seats.length > 25:=by omega
   have h2:¬ r.feet.length > 12:=by omega
   have key:∀ (d i:Nat),i+d=r.seats.length→farB r=((r.seats.drop i).any fun s=>decide (s.length > 70))→f22G0 E r i:=by
    intro d
    induction d with
    | zero =>
     intro i hd hf
     refine f22W0 r i hE ⟨fun h=>by omega,fun _=>?_⟩
     rw [hf,List.drop_eq_nil_of_le (by omega)]; rfl
    | succ d ih =>
     intro i hd hf
     have hi:i<r.seats.length:=by omega
     rw [List.drop_eq_getElem_cons hi,List.any_cons] at hf
     refine f22W0 r i hE ⟨fun _=>⟨r.seats[i],by simp [hi],fun h3=>?_,fun h3=>⟨by omega,ih (i+1) (by omega) ?_⟩⟩,fun h=>by omega⟩
     · have:r.seats[i].length > 70:=by omega
       rw [hf]; simp [this]
     · have:¬ r.seats[i].length > 70:=by omega
       rw [hf]; simp [this]
   exact key r.seats.length 0 (by omega) (by simp [farB,h1,h2])
theorem far_small {r:Rg} (h:farB r=false):RigSmall r:=by
 simp only [farB,Bool.or_eq_false_iff,decide_eq_false_iff_not,List.any_eq_false,decide_eq_true_eq] at h
 exact ⟨by omega,by omega,fun s hs=>by have:=h.2.2 s hs; omega⟩
theorem XV (r:Rg) (h:RigSmall r):Pure Try.prog 24 [.agg [.rsl (rowS r.seats) 0 r.seats.length,.rsl (rowP r.feet) 0 r.feet.length,.int .i64 r.frame,.int .i64 r.c.x,.int .i64 r.c.y,.int .i64 r.c.z,.int .i64 r.empty,.int .i64 r.full]]
 (.agg [.rsl (rowS r.seats) 0 r.seats.length,.rsl (rowP r.feet) 0 r.feet.length,.int .i64 r.frame,.int .i64 r.c.x,.int .i64 r.c.y,.int .i64 r.c.z,.int .i64 r.empty,.int .i64 r.full]):=Qz Try.func24 f24b fun E hE=>by
 have hs:=h.seats
 have hf:=h.feet
 have key:∀ (d i:Nat),i+d=r.seats.length→f24G0 E r i (r.seats.take i):=by
  intro d
  induction d with
  | zero =>
   intro i hd
   refine f24W0 r i _ (rv:=r) hE ⟨fun h=>by omega,fun _=>?_⟩
   rw [List.take_of_length_le (by omega)]
  | succ d ih =>
   intro i hd
   have hi:r.seats[i]?=some r.seats[i]:=by simp [show i<r.seats.length by omega]
   have hl:=h.each _ (List.mem_of_getElem? hi)
   refine f24W0 r i _ (rv:=r) hE ⟨fun _=>⟨_,hi,by omega,by rw [List.length_take]; omega,by omega,?_⟩,fun h=>by omega⟩
   have:=ih (i+1) (by omega)
   rw [List.take_add_one,hi] at this
   exact this
 exact f24W r (rv:=r) hE ⟨by omega,key r.seats.length 0 (by omega)⟩
def Xy (r:Rg) (ph ln:Int):Prop:=RigMade r∧0≤ph∧ph<phN r∧0≤ln∧ln<r.feet.length
def Qu (r:Rg) (ph ln:Int) (bs:List Bool):Int:=XU r ph.toNat (QL r ln.toNat) fun i _=>bs.getD i false
def YF (r:Rg) (ph ln:Int):Int:=XU r ph.toNat (QL r ln.toNat) outF
structure SeatF (r:Rg) (a b:Pt) (ph:Nat) (s:List Pt):Prop where
 get:s[ph]?=some (s.getD ph ⟨0,0,0⟩)
 ok:YC a b (s.getD ph ⟨0,0,0⟩)
 e0:-800000000000000≤r.empty*arm a b (s.getD ph ⟨0,0,0⟩)
 e1:r.empty*arm a b (s.getD ph ⟨0,0,0⟩)≤800000000000000
 f0:-800000000000000≤r.full*arm a b (s.getD ph ⟨0,0,0⟩)
 f1:r.full*arm a b (s.getD ph ⟨0,0,0⟩)≤800000000000000
theorem Ve {r:Rg} {n ph i:Nat} {s:List Pt} {a b:Pt} (h:RgOk r n) (hph:ph<n) (ha:Qk a=true) (hb:Qk b=true) (hs:r.seats[i]?=some s):SeatF r a b ph s:=by
 obtain ⟨hsl,hsv⟩:=h.each _ (List.mem_of_getElem? hs)
 have hq:s[ph]?=some (s.getD ph ⟨0,0,0⟩):=by simp [List.getD,hsl,hph]
 obtain ⟨q1,q2,q3⟩:=arm_bd ha hb (yq hsv (List.mem_of_getElem? hq))
 have he0:=h.empty0
 have he1:=h.empty1
 have hfu:=h.full1
 have me:=Wr (x:=r.empty) (y:=arm a b (s.getD ph ⟨0,0,0⟩)) (A:=1000000) (B:=800000000) (by omega) (by omega) q2 q3 (by omega) (by omega)
 have mf:=Wr (x:=r.full) (y:=arm a b (s.getD ph ⟨0,0,0⟩)) (A:=1000000) (B:=800000000) (by omega) (by omega) q2 q3 (by omega) (by omega)
 exact ⟨hq,q1,by omega,by omega,by omega,by omega⟩
theorem Vv {r:Rg} {n:Nat} {a b:Pt} (h:RgOk r n) (ha:Qk a=true) (hb:Qk b=true):YC a b r.c∧-800000000000000≤r.frame*arm a b r.c∧r.frame*arm a b r.c≤800000000000000:=by
 obtain ⟨k1,k2,k3⟩:=arm_bd ha hb h.center
 have hf:=h.frame0
 have hf':=h.frame1
 have hfr:=Wr (x:=r.frame) (y:=arm a b r.c) (A:=1000000) (B:=800000000) (by omega) hf' k2 k3 (by omega) (by omega)
 exact ⟨k1,by omega,by omega⟩
theorem momentL_ok (r:Rg) (ph ln:Int) (bs:List Bool) (h:Xy r ph ln∧bs.length=r.seats.length):Pure Try.prog 57 [rigV r,.int .i64 ph,.int .i64 ln,.clos 58 [] [.rptr [.rsl (rowB bs) 0 bs.length] 0]] (.int .i64 (Qu r ph ln bs)):=Qz Try.func57 f57Lb fun E hE=>by
 obtain ⟨⟨h0,h1,h2,h3,h4⟩,h5⟩:=h
 obtain ⟨p,rfl⟩:=Int.eq_ofNat_of_zero_le h1
 obtain ⟨v,rfl⟩:=Int.eq_ofNat_of_zero_le h3
 obtain ⟨l1,l2⟩:=YS h0.ok (v:=v) (by omega)
 obtain ⟨k1,k2,k3⟩:=Vv h0.ok l1 l2
 have hmom:Qu r p v bs=XU r p (QL r v) fun i _=>bs.getD i false:=rfl
 rw [hmom] at hE
 have hlg:=XN (r:=r) (v:=v) (by omega)
 refine f57LW r p v bs hE ⟨h3,QL r v,hlg,k1,by omega,?_⟩
 generalize hab:QL r v=ab at *
 obtain ⟨a,b⟩:=ab
 have l1:Qk a=true:=l1
 have l2:Qk b=true:=l2
 have k2:-800000000000000≤r.frame*arm a b r.c:=k2
 have k3:r.frame*arm a b r.c≤800000000000000:=k3
 have h20:=h0.ok.seats
 have key:∀ (d i:Nat) (sum:Int),i+d=r.seats.length→-(800000000000000*(i+1))≤sum→sum≤800000000000000*(i+1)→Xg r a b p (fun i _=>bs.getD i false) (r.seats.drop i) i sum=XU r p (a,b) (fun i _=>bs.getD i false) →
  f57LG0 E r p v bs sum a.x a.y a.z b.x b.y b.z i:=by
  intro d
  induction d with
  | zero =>
   intro i sum hd _ _ hs
   rw [List.drop_eq_nil_of_le (by omega)] at hs
   exact f57LW0 r p v bs sum _ _ _ _ _ _ i hE ⟨fun h=>by omega,fun _=>by rw [← hs]; rfl⟩
  | succ d ih =>
   intro i sum hd hs1 hs2 hs
   have hi:i<r.seats.length:=by omega
   have hg:r.seats[i]?=some r.seats[i]:=by simp [hi]
   have sf:=Ve h0.ok (ph:=p) (by omega) l1 l2 hg
   rw [List.drop_eq_getElem_cons hi] at hs
   simp only [Xg] at hs
   have e0:=sf.e0
   have e1:=sf.e1
   have f0:=sf.f0
   have f1:=sf.f1
   refine f57LW0 r p v bs sum _ _ _ _ _ _ i hE ⟨fun _=>⟨_,hg,h1,_,sf.get,sf.ok,⟨by omega,by omega⟩,fun hb=>⟨?_,?_,by omega,?_⟩,fun hb=>⟨?_,?_,by omega,?_⟩⟩,fun h=>by omega⟩
   · show -9223372036854775808≤r.full*arm a b _∧r.full*arm a b _≤_; omega
   · show -9223372036854775808≤sum+r.full*arm a b _∧sum+r.full*arm a b _≤_; omega
   · have hb':bs.getD i false=true:=hb
     rw [hb'] at hs
     exact ih (i+1) _ (by omega) (by show _≤sum+r.full*arm a b _; omega) (by show sum+r.full*arm a b _≤_; omega) hs
   · show -9223372036854775808≤r.empty*arm a b _∧r.empty*arm a b _≤_; omega
   · show -9223372036854775808≤sum+r.empty*arm a b _∧sum+r.empty*arm a b _≤_; omega
   · have hb':bs.getD i false=false:=hb
     rw [hb'] at hs
     exact ih (i+1) _ (by omega) (by show _≤sum+r.empty*arm a b _; omega) (by show sum+r.empty*arm a b _≤_; omega) hs
 exact key r.seats.length 0 _ (by omega) (by show _≤r.frame*arm a b r.c; omega) (by show r.frame*arm a b r.c≤_; omega) rfl
end Go.Proofs.Ytideokfbnegkjaa
namespace Go.Proofs.Ytideokfbnegkjaa
open Go Ax
open Go.Proofs
def Qx (r:Rg):Int:=if Xo r=true then 0 else 33
/-! ### CheckRig,Moment,Bears,Least -/
theorem check_made {r:Rg} (h:Qx r=0):Xo r=true:=by
 unfold Qx at h
 split at h
 · assumption
 · cases h
theorem f23b:Try.f23.body=some (Qe Try.prog 23):=by kernel_rfl
theorem u23 {a c k:List AV} {r:AV} (h:Pure Try.prog 23 (a++c++k) r):Qf Try.prog (.clos 23 a k) c r:=Qm Try.func23 (by kernel_rfl) f23b h
theorem p23_start_0 (r:Rg) (bs:(List Bool)) (ph:Int) (ln:Int) {E:Env} {res:AV} (hE:Qh Try.prog 23 res E) (ho:AllP [Qf Try.prog (.clos 56 [] []) [.agg [.rsl (rowS r.seats) 0 r.seats.length,.rsl (rowP r.feet) 0 r.feet.length,.int .i64 r.frame,.int .i64 r.c.x,.int .i64 r.c.y,.int .i64 r.c.z,.int .i64 r.empty,.int .i64 r.full]] (.tup [.rptr [.rsl (rowS r.seats) 0 r.seats.length,.rsl (rowP r.feet) 0 r.feet.length,.int .i64 r.frame,.int .i64 r.c.x,.int .i64 r.c.y,.int .i64 r.c.z,.int .i64 r.empty,.int .i64 r.full,.rsl (Ql (Qa r.feet)) 0 ((Qa r.feet).length),.int .i64 (Qb r)] 0,.bool true]),false=false,((bs.length:Int) != (r.seats.length:Int))=true,true=true,true=true])
 (hr:AvLe (.tup [.int .i64 0,.int .i64 1]) res):G Try.prog E [.code (Qe Try.prog 23)] ⟨[.agg [.rsl (rowS r.seats) 0 r.seats.length,.rsl (rowP r.feet) 0 r.feet.length,.int .i64 r.frame,.int .i64 r.c.x,.int .i64 r.c.y,.int .i64 r.c.z,.int .i64 r.empty,.int .i64 r.full],.rsl (rowB bs) 0 bs.length,.int .i64 ph,.int .i64 ln]++unds (Try.f23.ntmps - 4),[]⟩ :=
 Qj (n:=400) (evs:=[.v (.tup [.rptr [.rsl (rowS r.seats) 0 r.seats.length,.rsl (rowP r.feet) 0 r.feet.length,.int .i64 r.frame,.int .i64 r.c.x,.int .i64 r.c.y,.int .i64 r.c.z,.int .i64 r.empty,.int .i64 r.full,.rsl (Ql (Qa r.feet)) 0 ((Qa r.feet).length),.int .i64 (Qb r)] 0,.bool true]),.b false,.b true,.b true,.b true]) (obs:=_) hE Try.func23 Qi (by kernel_rfl) ho hr
theorem p23_start_1 (r:Rg) (bs:(List Bool)) (ph:Int) (ln:Int) {E:Env} {res:AV} (hE:Qh Try.prog 23 res E) (ho:AllP [Qf Try.prog (.clos 56 [] []) [.agg [.rsl (rowS r.seats) 0 r.seats.length,.rsl (rowP r.feet) 0 r.feet.length,.int .i64 r.frame,.int .i64 r.c.x,.int .i64 r.c.y,.int .i64 r.c.z,.int .i64 r.empty,.int .i64 r.full]] (.tup [.rptr [.rsl (rowS r.seats) 0 r.seats.length,.rsl (rowP r.feet) 0 r.feet.length,.int .i64 r.frame,.int .i64 r.c.x,.int .i64 r.c.y,.int .i64 r.c.z,.int .i64 r.empty,.int .i64 r.full,.rsl (Ql (Qa r.feet)) 0 ((Qa r.feet).length),.int .i64 (Qb r)] 0,.bool true]),false=false,((bs.length:Int) != (r.seats.length:Int))=false,InR .i64 ((Qb r) - 1),Qf Try.prog (.clos 51 [] []) [.int .i64 ph,.int .i64 0,.int .i64 ((Qb r) - 1)] (.bool (Qd ph 0 ((Qb r) - 1))),(!(Qd ph 0 ((Qb r) - 1)))=true,true=true])
 (hr:AvLe (.tup [.int .i64 0,.int .i64 1]) res):G Try.prog E [.code (Qe Try.prog 23)] ⟨[.agg [.rsl (rowS r.seats) 0 r.seats.length,.rsl (rowP r.feet) 0 r.feet.length,.int .i64 r.frame,.int .i64 r.c.x,.int .i64 r.c.y,.int .i64 r.c.z,.int .i64 r.empty,.int .i64 r.full],.rsl (rowB bs) 0 bs.length,.int .i64 ph,.int .i64 ln]++unds (Try.f23.ntmps - 4),[]⟩ :=
 Qj (n:=400) (evs:=[.v (.tup [.rptr [.rsl (rowS r.seats) 0 r.seats.length,.rsl (rowP r.feet) 0 r.feet.length,.int .i64 r.frame,.int .i64 r.c.x,.int .i64 r.c.y,.int .i64 r.c.z,.int .i64 r.empty,.int .i64 r.full,.rsl (Ql (Qa r.feet)) 0 ((Qa r.feet).length),.int .i64 (Qb r)] 0,.bool true]),.b false,.b false,.v (.bool (Qd ph 0 ((Qb r) - 1))),.b true,.b true]) (obs:=_) hE Try.func23 Qi (by kernel_rfl) ho hr
theorem p23_start_2 (r:Rg) (bs:(List Bool)) (ph:Int) (ln:Int) {E:Env} {res:AV} (hE:Qh Try.prog 23 res E) (ho:AllP [Qf Try.prog (.clos 56 [] []) [.agg [.rsl (rowS r.seats) 0 r.seats.length,.rsl (rowP r.feet) 0 r.feet.length,.int .i64 r.frame,.int .i64 r.c.x,.int .i64 r.c.y,.int .i64 r.c.z,.int .i64 r.empty,.int .i64 r.full]] (.tup [.rptr [.rsl (rowS r.seats) 0 r.seats.length,.rsl (rowP r.feet) 0 r.feet.length,.int .i64 r.frame,.int .i64 r.c.x,.int .i64 r.c.y,.int .i64 r.c.z,.int .i64 r.empty,.int .i64 r.full,.rsl (Ql (Qa r.feet)) 0 ((Qa r.feet).length),.int .i64 (Qb r)] 0,.bool true]),false=false,((bs.length:Int) != (r.seats.length:Int))=false,InR .i64 ((Qb r) - 1),Qf Try.prog (.clos 51 [] []) [.int .i64 ph,.int .i64 0,.int .i64 ((Qb r) - 1)] (.bool (Qd ph 0 ((Qb r) - 1))),(!(Qd ph 0 ((Qb r) - 1)))=false,InR .i64 ((r.feet.length:Int) - 1),Qf Try.prog (.clos 51 [] []) [.int .i64 ln,.int .i64 0,.int .i64 ((r.feet.length:Int) - 1)] (.bool (Qd ln 0 ((r.feet.length:Int) - 1))),(!(Qd ln 0 ((r.feet.length:Int) - 1)))=true])
 (hr:AvLe (.tup [.int .i64 0,.int .i64 1]) res):G Try.prog E [.code (Qe Try.prog 23)] ⟨[.agg [.rsl (rowS r.seats) 0 r.seats.length,.rsl (rowP r.feet) 0 r.feet.length,.int .i64 r.frame,.int .i64 r.c.x,.int .i64 r.c.y,.int .i64 r.c.z,.int .i64 r.empty,.int .i64 r.full],.rsl (rowB bs) 0 bs.length,.int .i64 ph,.int .i64 ln]++unds (Try.f23.ntmps - 4),[]⟩ :=
 Qj (n:=400) (evs:=[.v (.tup [.rptr [.rsl (rowS r.seats) 0 r.seats.length,.rsl (rowP r.feet) 0 r.feet.length,.int .i64 r.frame,.int .i64 r.c.x,.int .i64 r.c.y,.int .i64 r.c.z,.int .i64 r.empty,.int .i64 r.full,.rsl (Ql (Qa r.feet)) 0 ((Qa r.feet).length),.int .i64 (Qb r)] 0,.bool true]),.b false,.b false,.v (.bool (Qd ph 0 ((Qb r) - 1))),.b false,.v (.bool (Qd ln 0 ((r.feet.length:Int) - 1))),.b true]) (obs:=_) hE Try.func23 Qi (by kernel_rfl) ho hr
theorem p23_start_3 (r:Rg) (bs:(List Bool)) (ph:Int) (ln:Int) {E:Env} {res:AV} (hE:Qh Try.prog 23 res E) (ho:AllP [Qf Try.prog (.clos 56 [] []) [.agg [.rsl (rowS r.seats) 0 r.seats.length,.rsl (rowP r.feet) 0 r.feet.length,.int .i64 r.frame,.int .i64 r.c.x,.int .i64 r.c.y,.int .i64 r.c.z,.int .i64 r.empty,.int .i64 r.full]] (.tup [.rptr [.rsl (rowS r.seats) 0 r.seats.length,.rsl (rowP r.feet) 0 r.feet.length,.int .i64 r.frame,.int .i64 r.c.x,.int .i64 r.c.y,.int .i64 r.c.z,.int .i64 r.empty,.int .i64 r.full,.rsl (Ql (Qa r.feet)) 0 ((Qa r.feet).length),.int .i64 (Qb r)] 0,.bool true]),false=false,((bs.length:Int) != (r.seats.length:Int))=false,InR .i64 ((Qb r) - 1),Qf Try.prog (.clos 51 [] []) [.int .i64 ph,.int .i64 0,.int .i64 ((Qb r) - 1)] (.bool (Qd ph 0 ((Qb r) - 1))),(!(Qd ph 0 ((Qb r) - 1)))=false,InR .i64 ((r.feet.length:Int) - 1),Qf Try.prog (.clos 51 [] []) [.int .i64 ln,.int .i64 0,.int .i64 ((r.feet.length:Int) - 1)] (.bool (Qd ln 0 ((r.feet.length:Int) - 1))),(!(Qd ln 0 ((r.feet.length:Int) - 1)))=false,Qf Try.prog (.clos 57 [] []) [.rptr [.rsl (rowS r.seats) 0 r.seats.length,.rsl (rowP r.feet) 0 r.feet.length,.int .i64 r.frame,.int .i64 r.c.x,.int .i64 r.c.y,.int .i64 r.c.z,.int .i64 r.empty,.int .i64 r.full,.rsl (Ql (Qa r.feet)) 0 ((Qa r.feet).length),.int .i64 (Qb r)] 0,.int .i64 ph,.int .i64 ln,.clos 58 [] [.rptr [.rsl (rowB bs) 0 bs.length] 0]] (.int .i64 (Qu r ph ln bs))])
 (hr:AvLe (.tup [.int .i64 (Qu r ph ln bs),.int .i64 0]) res):G Try.prog E [.code (Qe Try.prog 23)] ⟨[.agg [.rsl (rowS r.seats) 0 r.seats.length,.rsl (rowP r.feet) 0 r.feet.length,.int .i64 r.frame,.int .i64 r.c.x,.int .i64 r.c.y,.int .i64 r.c.z,.int .i64 r.empty,.int .i64 r.full],.rsl (rowB bs) 0 bs.length,.int .i64 ph,.int .i64 ln]++unds (Try.f23.ntmps - 4),[]⟩ :=
 Qj (n:=400) (evs:=[.v (.tup [.rptr [.rsl (rowS r.seats) 0 r.seats.length,.rsl (rowP r.feet) 0 r.feet.length,.int .i64 r.frame,.int .i64 r.c.x,.int .i64 r.c.y,.int .i64 r.c.z,.int .i64 r.empty,.int .i64 r.full,.rsl (Ql (Qa r.feet)) 0 ((Qa r.feet).length),.int .i64 (Qb r)] 0,.bool true]),.b false,.b false,.v (.bool (Qd ph 0 ((Qb r) - 1))),.b false,.v (.bool (Qd ln 0 ((r.feet.length:Int) - 1))),.b false,.v (.int .i64 (Qu r ph ln bs))]) (obs:=_) hE Try.func23 Qi (by kernel_rfl) ho hr
theorem p23_start_4 (r:Rg) (bs:(List Bool)) (ph:Int) (ln:Int) {E:Env} {res:AV} (hE:Qh Try.prog 23 res E) (ho:AllP [Qf Try.prog (.clos 56 [] []) [.agg [.rsl (rowS r.seats) 0 r.seats.length,.rsl (rowP r.feet) 0 r.feet.length,.int .i64 r.frame,.int .i64 r.c.x,.int .i64 r.c.y,.int .i64 r.c.z,.int .i64 r.empty,.int .i64 r.full]] (.tup [.rptr [.rsl (rowS r.seats) 0 r.seats.length,.rsl (rowP r.feet) 0 r.feet.length,.int .i64 r.frame,.int .i64 r.c.x,.int .i64 r.c.y,.int .i64 r.c.z,.int .i64 r.empty,.int .i64 r.full,.rsl (Ql (Qa r.feet)) 0 ((Qa r.feet).length),.int .i64 (Qb r)] 0,.bool false]),true=true])
 (hr:AvLe (.tup [.int .i64 0,.int .i64 33]) res):G Try.prog E [.code (Qe Try.prog 23)] ⟨[.agg [.rsl (rowS r.seats) 0 r.seats.length,.rsl (rowP r.feet) 0 r.feet.length,.int .i64 r.frame,.int .i64 r.c.x,.int .i64 r.c.y,.int .i64 r.c.z,.int .i64 r.empty,.int .i64 r.full],.rsl (rowB bs) 0 bs.length,.int .i64 ph,.int .i64 ln]++unds (Try.f23.ntmps - 4),[]⟩ :=
 Qj (n:=400) (evs:=[.v (.tup [.rptr [.rsl (rowS r.seats) 0 r.seats.length,.rsl (rowP r.feet) 0 r.feet.length,.int .i64 r.frame,.int .i64 r.c.x,.int .i64 r.c.y,.int .i64 r.c.z,.int .i64 r.empty,.int .i64 r.full,.rsl (Ql (Qa r.feet)) 0 ((Qa r.feet).length),.int .i64 (Qb r)] 0,.bool false]),.b true]) (obs:=_) hE Try.func23 Qi (by kernel_rfl) ho hr
theorem p23_start_5 (r:Rg) (bs:(List Bool)) (ph:Int) (ln:Int) {E:Env} {res:AV} (hE:Qh Try.prog 23 res E) (ho:AllP [Qf Try.prog (.clos 56 [] []) [.agg [.rsl (rowS r.seats) 0 r.seats.length,.rsl (rowP r.feet) 0 r.feet.length,.int .i64 r.frame,.int .i64 r.c.x,.int .i64 r.c.y,.int .i64 r.c.z,.int .i64 r.empty,.int .i64 r.full]] (.tup [.nilPtr,.bool false]),true=true])
 (hr:AvLe (.tup [.int .i64 0,.int .i64 33]) res):G Try.prog E [.code (Qe Try.prog 23)] ⟨[.agg [.rsl (rowS r.seats) 0 r.seats.length,.rsl (rowP r.feet) 0 r.feet.length,.int .i64 r.frame,.int .i64 r.c.x,.int .i64 r.c.y,.int .i64 r.c.z,.int .i64 r.empty,.int .i64 r.full],.rsl (rowB bs) 0 bs.length,.int .i64 ph,.int .i64 ln]++unds (Try.f23.ntmps - 4),[]⟩ :=
 Qj (n:=400) (evs:=[.v (.tup [.nilPtr,.bool false]),.b true]) (obs:=_) hE Try.func23 Qi (by kernel_rfl) ho hr
theorem f23W (r:Rg) (bs:(List Bool)) (ph:Int) (ln:Int) {E:Env} {rv:(Int × Int)} (hE:Qh Try.prog 23 (.tup [.int .i64 rv.1,.int .i64 rv.2]) E)
 (h:(((Xo r)=true→((RigSmall r)∧((¬ ((bs.length:Int)=(r.seats.length:Int))→rv=(0,1))∧((bs.length:Int)=(r.seats.length:Int)→((I6 ((Qb r) - 1))∧(((Qd ph 0 ((Qb r) - 1))=false→rv=(0,1))∧((Qd ph 0 ((Qb r) - 1))=true→((I6 ((r.feet.length:Int) - 1))∧(((Qd ln 0 ((r.feet.length:Int) - 1))=false→rv=(0,1))∧((Qd ln 0 ((r.feet.length:Int) - 1))=true→((Xy r ph ln∧bs.length=r.seats.length)∧rv=((Qu r ph ln bs),0))))))))))))∧((Xo r)=false→(((Xz r)=true→((RigSmall r)∧rv=(0,33)))∧((Xz r)=false→((RigSmall r)∧rv=(0,33))))))):G Try.prog E [.code (Qe Try.prog 23)] ⟨[.agg [.rsl (rowS r.seats) 0 r.seats.length,.rsl (rowP r.feet) 0 r.feet.length,.int .i64 r.frame,.int .i64 r.c.x,.int .i64 r.c.y,.int .i64 r.c.z,.int .i64 r.empty,.int .i64 r.full],.rsl (rowB bs) 0 bs.length,.int .i64 ph,.int .i64 ln]++unds (Try.f23.ntmps - 4),[]⟩:=by
 rcases bft (Xo r) with hc0 | hc0
 · have h:=h.1 hc0
   obtain ⟨h1,h⟩:=h
   rcases bft ((bs.length:Int) != (r.seats.length:Int)) with hc1 | hc1
   · have h:=h.1 (bneT hc1)
     exact p23_start_0 r bs ph ln hE ⟨(by have hx:=Xq r h1; rw [hc0,XX hc0] at hx; exact Qm Try.func56 (by kernel_rfl) f56b hx),rfl,hc1,rfl,rfl,trivial⟩ (AvLe.of_eq (by rw [h]; try rfl))
   · have h:=h.2 (bneF hc1)
     obtain ⟨q4_2,h⟩:=h
     rcases bft (!(Qd ph 0 ((Qb r) - 1))) with hc2 | hc2
     · have h:=h.1 (bnT hc2)
       exact p23_start_1 r bs ph ln hE ⟨(by have hx:=Xq r h1; rw [hc0,XX hc0] at hx; exact Qm Try.func56 (by kernel_rfl) f56b hx),rfl,hc1,q4_2,(u51 (QG ph 0 ((Qb r) - 1))),hc2,rfl,trivial⟩ (AvLe.of_eq (by rw [h]; try rfl))
     · have h:=h.2 (bnF hc2)
       obtain ⟨q7_3,h⟩:=h
       rcases bft (!(Qd ln 0 ((r.feet.length:Int) - 1))) with hc3 | hc3
       · have h:=h.1 (bnT hc3)
         exact p23_start_2 r bs ph ln hE ⟨(by have hx:=Xq r h1; rw [hc0,XX hc0] at hx; exact Qm Try.func56 (by kernel_rfl) f56b hx),rfl,hc1,q4_2,(u51 (QG ph 0 ((Qb r) - 1))),hc2,q7_3,(u51 (QG ln 0 ((r.feet.length:Int) - 1))),hc3,trivial⟩ (AvLe.of_eq (by rw [h]; try rfl))
       · have h:=h.2 (bnF hc3)
         obtain ⟨h2,h⟩:=h
         exact p23_start_3 r bs ph ln hE ⟨(by have hx:=Xq r h1; rw [hc0,XX hc0] at hx; exact Qm Try.func56 (by kernel_rfl) f56b hx),rfl,hc1,q4_2,(u51 (QG ph 0 ((Qb r) - 1))),hc2,q7_3,(u51 (QG ln 0 ((r.feet.length:Int) - 1))),hc3,(Qm Try.func57 (by kernel_rfl) f57Lb (momentL_ok r ph ln bs h2)),trivial⟩ (AvLe.of_eq (by rw [h]; try rfl))
 · have h:=h.2 hc0
   rcases bft (Xz r) with hc1 | hc1
   · have h:=h.1 hc1
     obtain ⟨h1,h⟩:=h
     exact p23_start_4 r bs ph ln hE ⟨(by have hx:=Xq r h1; rw [hc0,Vr hc1] at hx; exact Qm Try.func56 (by kernel_rfl) f56b hx),rfl,trivial⟩ (AvLe.of_eq (by rw [h]; try rfl))
   · have h:=h.2 hc1
     obtain ⟨h1,h⟩:=h
     exact p23_start_5 r bs ph ln hE ⟨(by have hx:=Xq r h1; rw [hc0,Vs hc1] at hx; exact Qm Try.func56 (by kernel_rfl) f56b hx),rfl,trivial⟩ (AvLe.of_eq (by rw [h]; try rfl))
def Qr (r:Rg) (bs:List Bool) (ph ln:Int):Int × Int :=
 if Xo r=true then (if bs.length=r.seats.length then (if Qd ph 0 (Qb r - 1)=true then (if Qd ln 0 ((r.feet.length:Int) - 1)=true then (Qu r ph ln bs,0) else (0,1)) else (0,1)) else (0,1)) else (0,33)
theorem momOk_of {r:Rg} {ph ln:Int} (h:RigMade r) (h1:Qd ph 0 (Qb r - 1)=true) (h2:Qd ln 0 ((r.feet.length:Int) - 1)=true):Xy r ph ln:=by
 rw [VQ] at h1 h2
 have:=h.ph
 exact ⟨h,h1.1,by omega,h2.1,by omega⟩
theorem Ya (r:Rg) (bs:List Bool) (ph ln:Int) (hs:RigSmall r):Pure Try.prog 23 [.agg [.rsl (rowS r.seats) 0 r.seats.length,.rsl (rowP r.feet) 0 r.feet.length,.int .i64 r.frame,.int .i64 r.c.x,.int .i64 r.c.y,.int .i64 r.c.z,.int .i64 r.empty,.int .i64 r.full],.rsl (rowB bs) 0 bs.length,.int .i64 ph,.int .i64 ln] (.tup [.int .i64 (Qr r bs ph ln).1,.int .i64 (Qr r bs ph ln).2]):=Qz Try.func23 f23b fun E hE=>by
 refine f23W r bs ph ln (rv:=Qr r bs ph ln) hE ⟨fun h=>⟨hs,?_⟩,fun h=>⟨fun _=>⟨hs,by simp [Qr,h]⟩,fun _=>⟨hs,by simp [Qr,h]⟩⟩⟩
 have hm:=XI h
 have hp:=hm.ph
 have hle:=hm.le
 have h8:=hm.ok.feet1
 refine ⟨fun h1=>?_,fun h1=>⟨by omega,fun h2=>?_,fun h2=>⟨by omega,fun h3=>?_,fun h3=>?_⟩⟩⟩
 · have:¬ bs.length=r.seats.length:=by omega
   simp [Qr,h,this]
 · simp [Qr,h,h2]
 · simp [Qr,h,h3]
 · have h1':bs.length=r.seats.length:=by omega
   exact ⟨⟨momOk_of hm h2 h3,h1'⟩,by simp [Qr,h,h1',h2,h3]⟩
/-! ### Least -/
end Go.Proofs.Ytideokfbnegkjaa
namespace Go.Proofs.Ytideokfbnegkjaa
open Go Ax
open Go.Proofs
structure Ld where
 bs:List Bool
 ph:Int
 ln:Int
/-! ### the plain law of Least -/
def conM (r:Rg) (a b:Pt) (ph:Nat) (fl:Nat→Int→Bool) (i:Nat) (s:List Pt):Int:=(bif fl i (arm a b (s.getD ph ⟨0,0,0⟩)) then r.full else r.empty)*arm a b (s.getD ph ⟨0,0,0⟩)
theorem VC {r:Rg} {a b:Pt} {ph:Nat} {f g:Nat→Int→Bool}:∀ (ss:List (List Pt)) (i:Nat) (x y:Int),x≤y→(∀ j s,ss[j]?=some s→conM r a b ph f (i+j) s≤conM r a b ph g (i+j) s)→Xg r a b ph f ss i x≤Xg r a b ph g ss i y
 | [],i,x,y,h,_=>h
 | s :: ss,i,x,y,h,hc=>by
  simp only [Xg]
  refine VC ss (i+1) _ _ ?_ fun j t ht=>?_
  · have:=hc 0 s rfl
    simp only [conM,Nat.add_zero] at this
    omega
  · have:=hc (j+1) t (by simpa using ht)
    rw [show i+(j+1)=i+1+j by omega] at this
    exact this
theorem seatsM_eq {r:Rg} {a b:Pt} {ph:Nat} {f g:Nat→Int→Bool} (ss:List (List Pt)) (i:Nat) (x:Int) (hc:∀ j s,ss[j]?=some s→conM r a b ph f (i+j) s=conM r a b ph g (i+j) s):Xg r a b ph f ss i x=Xg r a b ph g ss i x :=
 Int.le_antisymm (VC ss i x x (Int.le_refl _) fun j s h=>Int.le_of_eq (hc j s h)) (VC ss i x x (Int.le_refl _) fun j s h=>Int.le_of_eq (hc j s h).symm)
theorem VV {r:Rg} {a b:Pt} {ph:Nat} {f:Nat→Int→Bool}:∀ (ss:List (List Pt)) (i:Nat) (x y:Int),Xg r a b ph f ss i (x+y)=Xg r a b ph f ss i x+y
 | [],i,x,y=>rfl
 | s :: ss,i,x,y=>by
  simp only [Xg]
  rw [← VV ss (i+1)]
  congr 1; omega
theorem Wd {r:Rg}:∀ (L:List (Nat × Nat)) (s:Int × Nat × Nat × Bool),s.2.2.2=true→(L.foldl (QV r) s).1≤s.1∧(∀ x ∈ L,(L.foldl (QV r) s).1≤QF r x) ∧
 (L.foldl (QV r) s=s ∨ ∃ x ∈ L,L.foldl (QV r) s=(QF r x,x.1,x.2,true))
 | [],s,_=>by simp
 | y :: L,s,hs=>by
  rw [List.foldl_cons]
  cases hlt:decide (QF r y<s.1) with
  | true =>
   have e:QV r s y=(QF r y,y.1,y.2,true):=by simp only [QV,hlt,hs,Bool.not_true,Bool.false_or,cond_true]
   have hlt':QF r y<s.1:=of_decide_eq_true hlt
   obtain ⟨a,b,c⟩:=Wd (r:=r) L (QV r s y) (by rw [e])
   rw [e] at a b c ⊢
   simp only at a
   refine ⟨by omega,fun x hx=>?_,?_⟩
   · rcases List.mem_cons.1 hx with rfl | hx
     · exact a
     · exact b x hx
   · rcases c with c | ⟨x,hx,c⟩
     · exact .inr ⟨y,by simp,c⟩
     · exact .inr ⟨x,by simp [hx],c⟩
  | false =>
   have e:QV r s y=s:=by
    simp only [QV,hlt,hs,Bool.not_true,Bool.or_false,cond_false]
    obtain ⟨s1,s2,s3,s4⟩:=s
    simp only at hs; subst hs; rfl
   have hlt':¬ QF r y<s.1:=of_decide_eq_false hlt
   rw [e]
   obtain ⟨a,b,c⟩:=Wd (r:=r) L s hs
   refine ⟨a,fun x hx=>?_,?_⟩
   · rcases List.mem_cons.1 hx with rfl | hx
     · omega
     · exact b x hx
   · rcases c with c | ⟨x,hx,c⟩
     · exact .inl c
     · exact .inr ⟨x,by simp [hx],c⟩
theorem VJ {r:Rg} {x:Nat × Nat}:x ∈ XT r ↔ x.1<phN r∧x.2<r.feet.length:=by
 simp only [XT,wlP,wlV,List.mem_flatMap,List.mem_map,List.mem_range'_1]
 constructor
 · rintro ⟨p,hp,k,hk,rfl⟩; exact ⟨by omega,by omega⟩
 · rintro ⟨h1,h2⟩; exact ⟨x.1,by omega,x.2,by omega,rfl⟩
theorem qX {r:Rg} (hm:RigMade r):(∀ x ∈ XT r,(YT r).1≤QF r x)∧∃ x ∈ XT r,YT r=(QF r x,x.1,x.2,true):=by
 have h1:=hm.pos
 have h3:=hm.ok.feet0
 have hne:(0,0) ∈ XT r:=VJ.2 ⟨by simp only; omega,by simp only; omega⟩
 unfold YT
 generalize XT r=L at hne
 cases L with
 | nil=>cases hne
 | cons y L =>
  rw [List.foldl_cons]
  have e:QV r (0,0,0,false) y=(QF r y,y.1,y.2,true):=rfl
  obtain ⟨a,b,c⟩:=Wd (r:=r) L (QV r (0,0,0,false) y) (by rw [e])
  rw [e] at a b c ⊢
  refine ⟨fun x hx=>?_,?_⟩
  · rcases List.mem_cons.1 hx with rfl | hx
    · exact a
    · exact b x hx
  · rcases c with c | ⟨x,hx,c⟩
    · exact ⟨y,by simp,c⟩
    · exact ⟨x,by simp [hx],c⟩
/-- No loading has a lesser moment than the worst one. -/
theorem moment_ge {r:Rg} (hm:RigMade r) (ph ln:Int) (bs:List Bool):YF r ph ln≤Qu r ph ln bs:=by
 refine VC r.seats 0 _ _ (Int.le_refl _) fun j s hs=>?_
 have e1:=hm.ok.empty1
 simp only [conM,outF]
 generalize arm (QL r ln.toNat).1 (QL r ln.toNat).2 (s.getD ph.toNat ⟨0,0,0⟩)=q
 rcases Int.lt_or_le q 0 with hq | hq
 · have:decide (q<0)=true:=by simp [hq]
   rw [this]
   cases bs.getD (0+j) false
   · simp only [cond_true,cond_false]
     exact Int.mul_le_mul_of_nonpos_right e1 (by omega)
   · exact Int.le_refl _
 · have:decide (q<0)=false:=by simp; omega
   rw [this]
   cases bs.getD (0+j) false
   · exact Int.le_refl _
   · simp only [cond_true,cond_false]
     exact Int.mul_le_mul_of_nonneg_right e1 hq
theorem momentK_ok {r:Rg} (h:Xo r=true) {bs:List Bool} (hl:bs.length=r.seats.length) {x:Nat × Nat} (hx:x ∈ XT r):Qr r bs (x.1:Nat) (x.2:Nat)=(Qu r (x.1:Nat) (x.2:Nat) bs,0):=by
 have hm:=XI h
 obtain ⟨h1,h2⟩:=VJ.1 hx
 have hp:=hm.ph
 have w1:Qd (x.1:Int) 0 (Qb r - 1)=true:=VQ.2 ⟨by omega,by omega⟩
 have w2:Qd (x.2:Int) 0 ((r.feet.length:Int) - 1)=true:=VQ.2 ⟨by omega,by omega⟩
 simp only [Qr,h,hl,w1,w2,if_true]
theorem momentK_ge {r:Rg} {bs:List Bool} {ph ln:Int} (h:(Qr r bs ph ln).2=0):Xo r=true∧Qr r bs ph ln=(Qu r ph ln bs,0)∧Xy r ph ln:=by
 unfold Qr at h ⊢
 split at h
 · rename_i hr
   split at h
   · rename_i hl
     split at h
     · rename_i w1
       split at h
       · rename_i w2
         exact ⟨hr,by simp only [hr,hl,w1,w2,if_true],momOk_of (XI hr) w1 w2⟩
       · cases h
     · cases h
   · cases h
 · cases h
theorem qA (n j:Nat):(List.replicate n false).getD j false=false:=by
 rw [List.getD_eq_getElem?_getD,List.getElem?_replicate]; split <;> rfl
theorem dPtss (W:World):Dec Try.prog W 43 (List (List Pt)) (fun a=>[.rsl (rowS a) 0 a.length]) (fun a=>a.length≤9223372036854775807):=by
 refine Dec.map (qr Try.underlying43 (n:=1) (by kernel_rfl) (by decide) (fun _=>rfl) (fun _=>rfl) (dPts W)) (fun x=>x) ?_ ?_
 · exact fun _=>rfl
 · exact fun _ h=>h.1
theorem dRg (W:World):Dec Try.prog W 45 Rg (fun a=>[.rsl (rowS a.seats) 0 a.seats.length,.rsl (rowP a.feet) 0 a.feet.length,.int .i64 a.frame,.int .i64 a.c.x,.int .i64 a.c.y,.int .i64 a.c.z,.int .i64 a.empty,.int .i64 a.full]) (fun a=>True):=by
 refine Dec.map (Wk Try.underlying45 rfl (tot:=8) (by kernel_rfl) (Xd (n:=1) (tot:=8) (by kernel_rfl) rfl (dPtss W) (Xd (n:=1) (tot:=8) (by kernel_rfl) rfl (dPts W) (Xd (n:=1) (tot:=8) (by kernel_rfl) rfl (YW Try.underlying3) (Xd (n:=3) (tot:=8) (by kernel_rfl) rfl (dPt W) (Xd (n:=1) (tot:=8) (by kernel_rfl) rfl (YW Try.underlying3) (Xd (n:=1) (tot:=8) (by kernel_rfl) rfl (YW Try.underlying3) qs (by decide)) (by decide)) (by decide)) (by decide)) (by decide)) (by decide))) (fun x=>(⟨x.1,x.2.1,x.2.2.1,x.2.2.2.1,x.2.2.2.2.1,x.2.2.2.2.2.1⟩:Rg)) ?_ ?_
 · exact fun _=>rfl
 · exact fun _ _=>trivial
theorem dBools (W:World):Dec Try.prog W 46 (List Bool) (fun a=>[.rsl (rowB a) 0 a.length]) (fun a=>a.length≤9223372036854775807):=by
 refine Dec.map (qr Try.underlying46 (n:=1) (by kernel_rfl) (by decide) (fun _=>rfl) (fun _=>rfl) (dec_bool Try.underlying4)) (fun x=>x) ?_ ?_
 · exact fun _=>rfl
 · exact fun _ h=>h.1
theorem dLd (W:World):Dec Try.prog W 48 Ld (fun a=>[.rsl (rowB a.bs) 0 a.bs.length,.int .i64 a.ph,.int .i64 a.ln]) (fun a=>InR .i64 a.ph∧InR .i64 a.ln):=by
 refine Dec.map (Wk Try.underlying48 rfl (tot:=3) (by kernel_rfl) (Xd (n:=1) (tot:=3) (by kernel_rfl) rfl (dBools W) (Xd (n:=1) (tot:=3) (by kernel_rfl) rfl (YW Try.underlying3) (Xd (n:=1) (tot:=3) (by kernel_rfl) rfl (YW Try.underlying3) qs (by decide)) (by decide)) (by decide))) (fun x=>(⟨x.1,x.2.1,x.2.2.1⟩:Ld)) ?_ ?_
 · exact fun _=>rfl
 · exact fun _ h=>⟨h.2.1,h.2.2.1⟩
end Go.Proofs.Ytideokfbnegkjaa
namespace Go.Proofs.Ytideokfbnegkjaa
/-- What the best 'n' seats from 'i' on take away; 'ord' lists the seats,greatest first. -/
def QI (tk:Int→Int) (ord:List Int) (n:Nat) (i:Int):Int:=(((ord.filter fun s=>decide (i≤s)).take n).map tk).sum
/-- One seat: full,if the others that are left can still do it. -/
def Wg (tk:Int→Int) (ord:List Int) (N:Nat) (i:Nat) (st:Int × Nat):Bool :=
 decide (st.1 - tk i - QI tk ord (st.2 - 1) ((i:Int)+1)<0) && decide (st.2 - 1≤N - i - 1)
theorem erase_take {l:List Int} {x:Int} (hn:l.Nodup):∀ {n:Nat},x ∈ l.take n→(l.erase x).take (n - 1)=(l.take n).erase x:=by
 induction l with
 | nil=>intro n h; simp at h
 | cons y l ih =>
  intro n h
  obtain ⟨hy,hl⟩:=List.nodup_cons.1 hn
  cases n with
  | zero=>simp at h
  | succ n =>
   rw [List.take_succ_cons] at h ⊢
   by_cases e:y=x
   · subst e; simp
   · have hx:x ∈ l.take n:=by
      rcases List.mem_cons.1 h with h | h
      · exact absurd h.symm e
      · exact h
     have hne:(y == x)=false:=by simpa using e
     rw [List.erase_cons,List.erase_cons]
     simp only [hne,Bool.false_eq_true,if_false]
     cases n with
     | zero=>simp at hx
     | succ n =>
      have:=ih hl hx
      simp only [Nat.add_sub_cancel] at this ⊢
      rw [List.take_succ_cons,this]
theorem qF {l:List Int} {x:Int}:∀ {n:Nat},x ∉ l.take n→(l.erase x).take n=l.take n:=by
 induction l with
 | nil=>intro n _; simp
 | cons y l ih =>
  intro n h
  cases n with
  | zero=>simp
  | succ n =>
   rw [List.take_succ_cons] at h ⊢
   have e:y ≠ x:=fun e=>h (by simp [e])
   have hne:(y == x)=false:=by simpa using e
   rw [List.erase_cons]
   simp only [hne,Bool.false_eq_true,if_false]
   rw [List.take_succ_cons,ih (fun hx=>h (List.mem_cons_of_mem _ hx))]
theorem Vw {ord:List Int} (hn:ord.Nodup) (i:Int):(ord.filter fun s=>decide (i+1≤s))=(ord.filter fun s=>decide (i≤s)).erase i:=by
 rw [List.Nodup.erase_eq_filter (hn.sublist List.filter_sublist),List.filter_filter]
 refine List.filter_congr fun s _=>?_
 by_cases e:s=i
 · subst e; simp; omega
 · have:(s != i)=true:=by simpa using e
   rw [this]
   by_cases h:i≤s
   · have:i+1≤s:=by omega
     simp [h,this]
   · have:¬ i+1≤s:=by omega
     simp [h,this]
theorem sum_erase {tk:Int→Int}:∀ {l:List Int} {x:Int},x ∈ l→(l.map tk).sum=tk x+((l.erase x).map tk).sum
 | y :: l,x,h=>by
  by_cases e:y=x
  · subst e; simp
  · have hx:x ∈ l:=by
     rcases List.mem_cons.1 h with h | h
     · exact absurd h.symm e
     · exact h
    have hne:(y == x)=false:=by simpa using e
    rw [List.erase_cons]
    simp only [hne,Bool.false_eq_true,if_false,List.map_cons,List.sum_cons]
    rw [sum_erase hx]; omega
/-- The list of all seats. -/
structure Ord (ord:List Int) (N:Nat):Prop where
 nd:ord.Nodup
 mem:∀ s:Int,s ∈ ord ↔ 0≤s∧s<(N:Int)
 len:ord.length=N
theorem yb {ord:List Int} {N:Nat} (h:Ord ord N):∀ {i:Nat},i≤N→(ord.filter fun s=>decide ((i:Int)≤s)).length+i=N
 | 0,_=>by
  rw [List.filter_eq_self.2 fun s hs=>by simpa using ((h.mem s).1 hs).1]
  simp [h.len]
 | i+1,hi=>by
  have ih:=yb h (i:=i) (by omega)
  have him:(i:Int) ∈ ord.filter fun s=>decide ((i:Int)≤s):=by rw [List.mem_filter]; exact ⟨(h.mem _).2 (by omega),by simp⟩
  have hp:0<(ord.filter fun s=>decide ((i:Int)≤s)).length:=List.length_pos_of_mem him
  rw [show (((i+1:Nat)):Int)=(i:Int)+1 by omega,Vw h.nd,List.length_erase_of_mem him]; omega
/-- One step keeps what is wanted. -/
theorem few_step {tk:Int→Int} {ord:List Int} {N:Nat} (h:Ord ord N) {i:Nat} {c:Int} {left:Nat} (hi:i<N) (hl:left ≠ 0) (h1:c - QI tk ord left i<0) (h2:left≤N - i) :
 (Wg tk ord N i (c,left)=true→c - tk i - QI tk ord (left - 1) ((i:Int)+1)<0∧left - 1≤N - (i+1)) ∧
 (Wg tk ord N i (c,left)=false→c - QI tk ord left ((i:Int)+1)<0∧left≤N - (i+1)):=by
 refine ⟨fun h=>?_,fun hf=>?_⟩
 · simp only [Wg,Bool.and_eq_true,decide_eq_true_eq] at h
   omega
 · have hnf:(ord.filter fun s=>decide ((i:Int)≤s)).Nodup:=h.nd.sublist List.filter_sublist
   have him:(i:Int) ∈ ord.filter fun s=>decide ((i:Int)≤s):=by rw [List.mem_filter]; exact ⟨(h.mem _).2 (by omega),by simp⟩
   have hlen:=yb h (i:=i) (by omega)
   by_cases hin:(i:Int) ∈ (ord.filter fun s=>decide ((i:Int)≤s)).take left
   · have e:QI tk ord left i=tk i+QI tk ord (left - 1) ((i:Int)+1):=by
      unfold QI
      rw [Vw h.nd,erase_take hnf hin,sum_erase hin]
     simp only [Wg,Bool.and_eq_false_iff,decide_eq_false_iff_not] at hf
     rcases hf with hf | hf <;> omega
   · have e:QI tk ord left i=QI tk ord left ((i:Int)+1):=by
      unfold QI
      rw [Vw h.nd,qF hin]
     rw [e] at h1
     refine ⟨h1,?_⟩
     have:left<(ord.filter fun s=>decide ((i:Int)≤s)).length:=by
      refine Nat.lt_of_not_le fun hle=>hin ?_
      rw [List.take_of_length_le hle]; exact him
     omega
theorem VI {tk:Int→Int} {ord:List Int} {i:Int}:QI tk ord 0 i=0:=by simp [QI]
/-- Sorted greatest first,as many as are above 0 take away the most. -/
theorem most_pos {tk:Int→Int}:∀ {l:List Int},l.Pairwise (fun a b=>tk b≤tk a)→((l.take (l.filter fun s=>decide (0<tk s)).length).map tk).sum=((l.filter fun s=>decide (0<tk s)).map tk).sum
 | [],_=>rfl
 | x :: l,h=>by
  obtain ⟨h1,h2⟩:=List.pairwise_cons.1 h
  by_cases hx:0<tk x
  · have ih:=most_pos h2
    rw [List.filter_cons_of_pos (by simpa using hx),List.length_cons,List.take_succ_cons,List.map_cons,List.sum_cons,List.map_cons,List.sum_cons,ih]
  · have:(x :: l).filter (fun s=>decide (0<tk s))=[]:=by
     rw [List.filter_eq_nil_iff]
     intro s hs
     rcases List.mem_cons.1 hs with rfl | hs
     · simpa using hx
     · have:=h1 s hs
       simp; omega
    rw [this]; simp
/-! ### The insertion sort -/
/-- One element sinks to its place. -/
def sink (lt:Int→Int→Bool):Nat→List Int→List Int
 | 0,l=>l
 | d+1,l=>match l[d+1]?,l[d]? with
  | some e,some e1=>if lt e e1 then sink lt d ((l.set (d+1) e1).set d e) else l
  | _,_=>l
def XL (lt:Int→Int→Bool) (l:List Int):List Int:=(List.range (l.length - 1)).foldl (fun l k=>sink lt (k+1) l) l
/-- The same on the sorted part,its end first. -/
def insB (lt:Int→Int→Bool) (x:Int):List Int→List Int
 | []=>[x]
 | y :: ys=>if lt x y then y :: insB lt x ys else x :: y :: ys
theorem sink_ins {lt:Int→Int→Bool} {x:Int}:∀ (b r:List Int),sink lt b.length (b.reverse++x :: r)=(insB lt x b).reverse++r
 | [],r=>by simp [sink,insB]
 | y :: b,r=>by
  have hl:b.reverse.length=b.length:=List.length_reverse
  have g1:((y :: b).reverse++x :: r)[b.length+1]?=some x:=by
   rw [List.reverse_cons,List.append_assoc,List.getElem?_append_right (by omega),hl]
   simp
  have g2:((y :: b).reverse++x :: r)[b.length]?=some y:=by
   rw [List.reverse_cons,List.append_assoc,List.getElem?_append_right (by omega),hl]
   simp
  simp only [List.length_cons,sink,g1,g2,insB]
  by_cases c:lt x y=true
  · rw [if_pos c,if_pos c]
    have e:((((y :: b).reverse++x :: r).set (b.length+1) y).set b.length x)=b.reverse++x :: (y :: r):=by
     rw [List.reverse_cons,List.append_assoc,List.set_append_right (h:=by omega),hl,List.set_append_right (h:=by omega),hl]
     simp
    rw [e,sink_ins b (y :: r),List.reverse_cons,List.append_assoc]; rfl
  · rw [if_neg c,if_neg c]
    simp
theorem VM {lt:Int→Int→Bool} {x:Int}:∀ b:List Int,(insB lt x b).Perm (x :: b)
 | []=>.refl _
 | y :: b=>by
  simp only [insB]
  split
  · exact ((VM b).cons y).trans (.swap x y b)
  · exact .refl _
theorem insB_sort {tk:Int→Int} {x:Int}:∀ {b:List Int},b.Pairwise (fun a c=>tk a≤tk c)→(insB (fun a c=>decide (tk c<tk a)) x b).Pairwise (fun a c=>tk a≤tk c)
 | [],_=>by simp [insB]
 | y :: b,h=>by
  obtain ⟨h1,h2⟩:=List.pairwise_cons.1 h
  simp only [insB]
  split
  · rename_i c
    simp only [decide_eq_true_eq] at c
    refine List.pairwise_cons.2 ⟨fun z hz=>?_,insB_sort h2⟩
    rcases List.mem_cons.1 ((VM b).mem_iff.1 hz) with rfl | hz
    · omega
    · exact h1 z hz
  · rename_i c
    simp only [decide_eq_true_eq] at c
    refine List.pairwise_cons.2 ⟨fun z hz=>?_,h⟩
    rcases List.mem_cons.1 hz with rfl | hz
    · omega
    · have:=h1 z hz; omega
theorem sort_spec {tk:Int→Int} (l:List Int):(XL (fun a c=>decide (tk c<tk a)) l).Perm l∧(XL (fun a c=>decide (tk c<tk a)) l).Pairwise (fun a c=>tk c≤tk a):=by
 cases l with
 | nil=>exact ⟨.refl _,by simp [XL]⟩
 | cons x l =>
  have main:∀ k:Nat,k≤l.length→∃ b r:List Int,(List.range k).foldl (fun l k=>sink (fun a c=>decide (tk c<tk a)) (k+1) l) (x :: l)=b.reverse++r∧b.length=k+1∧b.Pairwise (fun a c=>tk a≤tk c)∧(b.reverse++r).Perm (x :: l):=by
   intro k
   induction k with
   | zero=>intro _; exact ⟨[x],l,rfl,rfl,by simp,.refl _⟩
   | succ k ih =>
    intro hk
    obtain ⟨b,r,e1,e2,e3,e4⟩:=ih (by omega)
    have hl:=e4.length_eq
    simp only [List.length_append,List.length_reverse,List.length_cons] at hl
    cases r with
    | nil=>simp at hl; omega
    | cons y r =>
     refine ⟨insB (fun a c=>decide (tk c<tk a)) y b,r,?_,?_,insB_sort e3,?_⟩
     · rw [List.range_succ,List.foldl_append,e1]
       simp only [List.foldl_cons,List.foldl_nil]
       rw [← e2]; exact sink_ins b r
     · rw [(VM b).length_eq,List.length_cons,e2]
     · have p1:(insB (fun a c=>decide (tk c<tk a)) y b).reverse.Perm (b.reverse++[y]):=by
        rw [← List.reverse_cons]
        exact ((List.reverse_perm _).trans (VM b)).trans (List.reverse_perm _).symm
       have p2:=p1.append_right r
       rw [List.append_assoc] at p2
       exact p2.trans e4
  obtain ⟨b,r,e1,e2,e3,e4⟩:=main l.length (Nat.le_refl _)
  have hl:=e4.length_eq
  simp only [List.length_append,List.length_reverse,List.length_cons] at hl
  have hr:r=[]:=List.length_eq_zero_iff.1 (by omega)
  subst hr
  rw [List.append_nil] at e1 e4
  have es:XL (fun a c=>decide (tk c<tk a)) (x :: l)=b.reverse:=by rw [← e1]; simp [XL]
  rw [es]
  exact ⟨e4,List.pairwise_reverse.2 e3⟩
/-! ### The loop of 'fewest' -/
def yK (M:List Bool→Int) (tk:Int→Int) (ord:List Int) (N:Nat):Nat→Nat→List Bool→Nat→List Bool
 | 0,_,bs,_=>bs
 | m+1,i,bs,left=>if left=0 then bs else
  if M (bs.set i true) - QI tk ord (left - 1) ((i:Int)+1)<0∧left - 1≤N - i - 1 then yK M tk ord N m (i+1) (bs.set i true) (left - 1)
  else yK M tk ord N m (i+1) ((bs.set i true).set i false) left
theorem qj {M:List Bool→Int} {tk:Int→Int} {ord:List Int} {N:Nat} (h:Ord ord N)
 (hM:∀ (bs:List Bool) (i:Nat),bs.length=N→bs[i]?=some false→M (bs.set i true)=M bs - tk i) :
 ∀ (m i:Nat) (bs:List Bool) (left:Nat),i+m=N→bs.length=N→(∀ j,i≤j→j<N→bs[j]?=some false)→M bs - QI tk ord left i<0→left≤N - i →
  M (yK M tk ord N m i bs left)<0∧(yK M tk ord N m i bs left).length=N
 | 0,i,bs,left,hm,hb,hf,h1,h2=>by
  have:left=0:=by omega
  subst this
  rw [VI] at h1
  exact ⟨by simp only [yK]; omega,hb⟩
 | m+1,i,bs,left,hm,hb,hf,h1,h2=>by
  unfold yK
  by_cases c0:left=0
  · subst c0
    rw [VI] at h1
    rw [if_pos rfl]
    exact ⟨by omega,hb⟩
  · rw [if_neg c0]
    have hi:=hf i (Nat.le_refl _) (by omega)
    have e:=hM bs i hb hi
    have st:=few_step (tk:=tk) h (i:=i) (c:=M bs) (left:=left) (by omega) c0 h1 h2
    have es:Wg tk ord N i (M bs,left)=decide (M (bs.set i true) - QI tk ord (left - 1) ((i:Int)+1)<0∧left - 1≤N - i - 1):=by
     rw [e]; simp [Wg]
    have ei:((i+1:Nat):Int)=(i:Int)+1:=by omega
    by_cases c:M (bs.set i true) - QI tk ord (left - 1) ((i:Int)+1)<0∧left - 1≤N - i - 1
    · rw [if_pos c]
      have:=st.1 (by rw [es]; simpa using c)
      refine qj h hM m (i+1) _ (left - 1) (by omega) (by simpa using hb) (fun j h3 h4=>?_) (by rw [e,ei]; exact this.1) this.2
      rw [List.getElem?_set_ne (by omega)]; exact hf j (by omega) h4
    · rw [if_neg c]
      have:=st.2 (by rw [es]; simpa using c)
      have eb:(bs.set i true).set i false=bs:=by
       rw [List.set_set]
       apply List.ext_getElem?
       intro j
       by_cases ej:i=j
       · subst ej; rw [List.getElem?_set_self (by omega),hi]
       · rw [List.getElem?_set_ne ej]
      rw [eb]
      exact qj h hM m (i+1) bs left (by omega) hb (fun j h3 h4=>hf j (by omega) h4) (by rw [ei]; exact this.1) this.2
/-- How many seats have to be full. -/
def leftF (M0:Int) (tk:Int→Int) (ord:List Int):Nat→Nat→Nat
 | 0,l=>l
 | m+1,l=>if M0 - QI tk ord l 0≥0 then leftF M0 tk ord m (l+1) else l
theorem qW {M0:Int} {tk:Int→Int} {ord:List Int} {p:Nat} (hp:M0 - QI tk ord p 0<0):∀ (m l:Nat),l+m=p→M0 - QI tk ord (leftF M0 tk ord m l) 0<0∧leftF M0 tk ord m l≤p
 | 0,l,h=>by
  have:l=p:=by omega
  subst this
  exact ⟨hp,Nat.le_refl _⟩
 | m+1,l,h=>by
  simp only [leftF]
  split
  · exact qW hp m (l+1) (by omega)
  · rename_i c
    exact ⟨by omega,by omega⟩
/-- The worst loading can be had by as many seats as take away something. -/
theorem most_enough {tk:Int→Int} {ord:List Int} {N:Nat} (h:Ord ord N) (hs:ord.Pairwise fun a c=>tk c≤tk a):QI tk ord (ord.filter fun s=>decide (0<tk s)).length 0=((ord.filter fun s=>decide (0<tk s)).map tk).sum:=by
 have e:(ord.filter fun s=>decide ((0:Int)≤s))=ord:=List.filter_eq_self.2 fun s hs=>by simpa using ((h.mem s).1 hs).1
 unfold QI
 rw [e,most_pos hs]
end Go.Proofs.Ytideokfbnegkjaa
namespace Ax
open Go
section
variable {P:Program} {E:Env} {K K':List Item} {st st':St}
/-- What a call leaves: its result,and the blocks. -/
def Left (Z M:Nat→Prop) (w:World) (C:Ctx) (res:AV) (bs2:List Blk) (v:Value) (w':World):Prop :=
 ∃ C' Z',Base C w C' w'∧Mem Z M w C' Z' bs2 w'∧VR Z' w' C' res v
/-- A function that turns blocks 'bs' to 'bs2' (new ones behind them). -/
def Lent (P:Program) (f:FuncId) (args:List AV) (bs:List Blk) (res:AV) (bs2:List Blk):Prop :=
 ∀ (Z:Nat→Prop) (w:World) (C:Ctx) (cargs:Array Value),Mem Z (Own C) w C Z bs w→VRs Z w C args cargs.toList →
  Calls P f cargs w fun e w'=>∃ v,e=.returned v∧Left Z (Own C) w C res bs2 v w'
structure LentE (P:Program) (f:FuncId) (gA:List AV) (res:AV) (bs2:List Blk) (E:Env):Prop where
 ro:E.b.roundOf=none
 kind:E.b.kind=.normal
 fn:E.b.fn=f
 gA:E.gA=gA
 df:E.df=[]
 fin:E.Fin=VP P f E.cs (Left E.Z0 E.M E.w0 E.Cb res bs2)
theorem LentE.nogh {f:FuncId} {k g:Nat} {res:AV} {bs2:List Blk} (hE:LentE P f [.sl k g 0 0 1] res bs2 E) {m:Nat} (h:Nat.ble (k+1) m=true):refsBelows m E.gA=true:=by
 rw [hE.gA]
 have:=Nat.le_of_ble_eq_true h
 simp [refsBelows,QQ]; omega
theorem lent_of {f:FuncId} {fn:Func} {c:Code} {args:List AV} {bs bs2:List Blk} {res:AV} (b:Blk) (hf:P.funcs[f]?=some fn) (hb:fn.body=some c) (hl:bs.getLast?=some b) (hlv:b.live=true)
 (h:∀ E,LentE P f [.sl (bs.length - 1) b.gen 0 0 1] res bs2 E→G P E [.code c] ⟨args++unds (fn.ntmps - args.length),bs⟩) (hbz:b.sz ≠ 0:=by simp):Lent P f args bs res bs2:=by
 intro Z w C cargs hm ha cs
 have hn:bs ≠ []:=by rintro rfl; simp at hl
 have hlen:0<bs.length:=List.length_pos_iff.2 hn
 have hk:bs[bs.length - 1]?=some b:=by rw [List.getLast?_eq_getElem?] at hl; exact hl
 have hgh:VR Z w C (.sl (bs.length - 1) b.gen 0 0 1) (.slice none 0 0):=by
  have hg:=hm.gen _ _ hk
  refine .sl (by rw [hg]; exact Nat.le_refl _) rfl fun _=>?_
  obtain ⟨q1,q2⟩:=hm.blk _ _ hk hlv
  unfold SlOk
  cases hs:C.β (bs.length - 1) with
  | absent=>simp [hs] at q2
  | unborn=>exact ⟨rfl,none,rfl⟩
  | loc blk o =>
   simp only [hs] at q2
   obtain ⟨arr,e,r1,r2,r3⟩:=q2.cells hbz
   exact ⟨none,0,rfl,Nat.le_refl _,fun h=>absurd rfl h,arr,e,r1,by omega⟩
 have hlow:∀ n,refsBelows n [AV.sl (bs.length - 1) b.gen 0 0 1]=true→∀ k,n≤k→C.β k=.absent∧C.γ k=0:=fun n h1 k h2=>hm.dom k (by
  simp [refsBelows,QQ] at h1; omega)
 let E:Env:=⟨Z,Own C,w,{ (default:Frame) with fn:=f,kind:=.normal },cs,VP P f cs (Left Z (Own C) w C res bs2),[.sl (bs.length - 1) b.gen 0 0 1],[.slice none 0 0],[],C,hlow⟩
 have hE:LentE P f [.sl (bs.length - 1) b.gen 0 0 1] res bs2 E:=⟨rfl,rfl,rfl,rfl,rfl,rfl⟩
 have henter:Frame.enter P f cargs .normal=({ (default:Frame) with fn:=f,kind:=.normal }:Frame).atR { tmps:=cargs++Array.replicate (fn.ntmps - cargs.size) undef,defers:=[] } [.code c]:=by
  simp only [Frame.enter,Frame.atR,hf,hb,Option.map_some,Option.getD_some,Option.bind_some]; rfl
 have hl2:args.length=cargs.size:=by simpa using ha.1
 obtain ⟨m',s,v,w',fr,rfl,r1,r2,r3⟩:=h _ hE C Z { tmps:=cargs++Array.replicate (fn.ntmps - cargs.size) undef,defers:=[] } w
  ⟨⟨by simp [Vo,hl2],fun i x y p q=>by
   simp only [Array.toList_append,Array.toList_replicate] at q
   rw [Vo] at p
   by_cases hi:i<args.length
   · rw [List.getElem?_append_left hi] at p
     rw [List.getElem?_append_left (by simpa [← hl2] using hi)] at q
     exact ha.2 i x y p q
   · rw [List.getElem?_append_right (by omega)] at p
     rw [List.getElem?_append_right (by simp; omega)] at q
     have p':=List.mem_replicate.1 (List.mem_of_getElem? p)
     have q':=List.mem_replicate.1 (List.mem_of_getElem? q)
     rw [p'.2,q'.2]
     exact .tup rfl (by simp)⟩,hm,⟨[],.nil,.nil,by simp⟩,⟨rfl,fun i x y p q=>by
   cases i with
   | zero=>simp [E] at p q; rw [← p,← q]; exact hgh
   | succ i=>simp [E] at p⟩,.refl⟩
 rw [henter]
 exact ⟨.returned v,w',fr,⟨v,rfl,r3⟩,s,r1,r2⟩
/-- Called by its value. -/
theorem WJ {f : FuncId} {fn : Func} {c : Code} {first args cap : List AV} {bs bs2 : List Blk} {res : AV} (hf : P.funcs[f]? = some fn) (hname : (fn.name == "runtime.NumGoroutine") = false) (hb : fn.body = some c)
    (h : Lent P f (first ++ args ++ cap) bs res bs2) : LentF P (.clos f first cap) args bs res bs2 := by
  intro Z w C cf cargs hm hcf ha
  cases hcf with
  | @clos _ _ _ _ fa ca hl h1 hl' h2 =>
    refine ⟨{ target := .fn (.func f) ca, args := fa ++ cargs }, f, fa ++ cargs ++ ca, rfl, ?_, ?_⟩
    · have := Go.Proofs.enters_of (P := P) hf hname hb (fa ++ cargs ++ ca) w
      simpa [invoke] using this
    · refine (h Z w C _ hm ⟨by have := ha.1; simp at this; simp [hl, hl', this], fun i x y p q => ?_⟩).mono ?_
      · have hal : args.length = cargs.size := by simpa using ha.1
        simp only [Array.toList_append] at q
        rw [List.append_assoc] at p q
        by_cases i1 : i < first.length
        · rw [List.getElem?_append_left i1] at p
          rw [List.getElem?_append_left (by simpa [← hl] using i1)] at q
          exact h1 i x y p (by simpa using q)
        · rw [List.getElem?_append_right (by omega)] at p
          rw [List.getElem?_append_right (by simp; omega)] at q
          have e1 : fa.toList.length = first.length := by simp [hl]
          rw [e1] at q
          by_cases i2 : i - first.length < args.length
          · rw [List.getElem?_append_left i2] at p
            rw [List.getElem?_append_left (by simpa [← hal] using i2)] at q
            exact ha.2 _ x y p q
          · rw [List.getElem?_append_right (by omega)] at p
            rw [List.getElem?_append_right (by simp; omega)] at q
            have e2 : cargs.toList.length = args.length := by simp [hal]
            rw [e2] at q
            exact h2 _ x y p (by simpa using q)
      · rintro e w' ⟨v, rfl, C', Z', q1, q2, q3⟩
        exact ⟨v, C', Z', rfl, q1, q2, q3⟩

/-- A block that is handed over for good: it lies frozen from here on. -/
def kill (b:Blk):Blk:=⟨false,b.gen+1,b.sz,true,[],false⟩
/-- To the end of a function that turns what it was handed: the first 'm' blocks are left. -/
def endB (P:Program) (fn:Func) (live:List Nat) (m n:Nat) (K:List Item) (st:St) (evs:List EV):Option (AV × List Blk × List Prop) :=
 match walk P n K st evs with
 | some (K',st1,evs1,o1) =>
  (match isEnd K',weak live m st1 with
  | true,some st2 =>
   (match resA P st2 fn.results.toList evs1 with
   | some (vs,_,o2)=>some (tupA vs,st2.blks,o1++o2)
   | none=>none)
  | _,_=>none)
 | none=>none
theorem qq {n m:Nat} {live:List Nat} {f:FuncId} {fn:Func} {evs:List EV} {r res:AV} {gA:List AV} {bs2 bs3:List Blk} {obs:List Prop} (hE:LentE P f gA res bs2 E) (hgh:refsBelows m E.gA=true) (hf:P.funcs[f]?=some fn) (hmx:P.follows .mixedOrders=true)
 (h:endB P fn live m n K st evs=some (r,bs3,obs)) (ho:AllP obs) (hr:r=res) (hb:bs3=bs2):G P E K st:=by
 subst hr
 subst hb
 unfold endB at h
 split at h
 · rename_i K' st1 evs1 o1 h1
   split at h
   · rename_i st2 hK h2
     split at h
     · rename_i vs evs2 o2 h3
       simp only [Option.some.injEq,Prod.mk.injEq] at h
       obtain ⟨rfl,rfl,rfl⟩:=h
       obtain ⟨a1,a2⟩:=Qp.1 ho
       have hfn:=hE.fn
       refine QJ hE.kind hmx h1 a1 (WN hgh h2 (G_end (Post:=Left E.Z0 E.M E.w0 E.Cb (tupA vs) st2.blks) hE.ro hE.kind hE.df (by rw [hfn]; exact hf) (by rw [hE.fin,hfn]) h3 a2 (fun C Z w v hm hv hbs=>⟨C,Z,hbs,hm,hv⟩) (We hK)))
     · cases h
   · cases h
 · cases h
end
end Ax
namespace Ax
open Go
section
variable {P:Program} {E:Env} {K K':List Item} {st st':St}
/-! ### The frame of a deferred closure -/
def EndedK (P:Program) (f:FuncId) (cs:List Frame) (Post:Value→World→Prop) (m:Machine):Prop :=
 ∃ v w' fr,m=lone fr cs w'∧fr.kind=.deferred∧fr.going P w' (.returned v)∧Post v w'
structure LentKE (P:Program) (f:FuncId) (gA:List AV) (res:AV) (bs2:List Blk) (E:Env):Prop where
 ro:E.b.roundOf=none
 kind:E.b.kind=.deferred
 fn:E.b.fn=f
 gA:E.gA=gA
 df:E.df=[]
 fin:E.Fin=EndedK P f E.cs (Left E.Z0 E.M E.w0 E.Cb res bs2)
theorem LentKE.nogh {f:FuncId} {k g:Nat} {res:AV} {bs2:List Blk} (hE:LentKE P f [.sl k g 0 0 1] res bs2 E) {m:Nat} (h:Nat.ble (k+1) m=true):refsBelows m E.gA=true:=by
 rw [hE.gA]
 have:=Nat.le_of_ble_eq_true h
 simp [refsBelows,QQ]; omega
/-! ### The frame that has deferred -/
structure LentDE (P:Program) (f:FuncId) (g0:List AV) (clo:AV) (res:AV) (bs2:List Blk) (E:Env):Prop where
 ro:E.b.roundOf=none
 kind:E.b.kind=.normal
 fn:E.b.fn=f
 gA:E.gA=g0++[clo]
 df:∃ cf d,E.gV.getLast?=some cf∧(∀ w,(Deferred.ofValue cf #[]).run P w=.ok d w)∧E.df=[d]
 fin:E.Fin=VP P f E.cs (Left E.Z0 E.M E.w0 E.Cb res bs2)
 low:∀ n,refsBelows n g0=true→∀ k,n≤k→E.Cb.β k=.absent∧E.Cb.γ k=0
theorem LentDE.nogh {f:FuncId} {k g fi k2 g2 o2:Nat} {res:AV} {bs2:List Blk} (hE:LentDE P f [.sl k g 0 0 1] (.clos fi [] [.ptr k2 g2 o2]) res bs2 E) {m:Nat} (h:(Nat.ble (k+1) m && Nat.ble (k2+1) m)=true):refsBelows m E.gA=true:=by
 rw [hE.gA]
 rw [Bool.and_eq_true] at h
 have h1:=Nat.le_of_ble_eq_true h.1
 have h2:=Nat.le_of_ble_eq_true h.2
 simp [refsBelows,QQ]; omega
/-! ### What comes back in new memory -/
structure PureNE (P:Program) (f:FuncId) (res:AV) (E:Env):Prop where
 ro:E.b.roundOf=none
 kind:E.b.kind=.normal
 fn:E.b.fn=f
 nm:∀ b,¬ E.M b
 gA:E.gA=[]
 fin:E.Fin=(VP P f E.cs fun v w'=>VR (Zn E.w0 w') w' C0 res v∧Fr E.w0 (fun _=>False) w')
 cb:E.Cb=C0
 df:E.df=[]
theorem PureNE.nogh {f:FuncId} {res:AV} (hE:PureNE P f res E) (m:Nat):refsBelows m E.gA=true:=by rw [hE.gA]; rfl
theorem VR.layN {Z Z0 M:Nat→Prop} {w0 w:World} {C:Ctx} {blks:List Blk} (hm:Mem Z0 M w0 C Z blks w) {k g off len sz:Nat} {b:Blk} {c:Value} (hb:blks[k]?=some b) (hl:b.live=true) (hz:b.sz ≠ 0) (hf:b.flat=true) (hg:g=b.gen) (hsc:∀ x ∈ b.cells,Yr x=true)
 (h:VR Z w C (.sl k g off len sz) c) {C':Ctx}:VR (fun c=>∃ o,C.β k=.loc c o) w C' (.rsl b.cells off len) c:=by
 have hok:=sl_at hm hb hg h
 obtain ⟨hk,h1⟩:=hm.blk k b hb hl
 unfold SlOk at hok
 split at hok
 · rename_i bl o hβ
   obtain ⟨a,cap,rfl,hlc,ha,-⟩:=hok
   simp only [hβ] at h1
   obtain ⟨arr,e,hh,hsz,hc⟩:=h1.cells hz
   by_cases hlen:len=0
   · subst hlen; exact .rsl0
   · obtain rfl:=ha (by omega)
     refine .rsl (fun i=>arr.getD (o+i) undef) ⟨o,hβ⟩ hlc (fun i hi=>?_) hk (fun i c hi=>?_)
     · rw [Yk hh]; simp [Array.getD,show o+i<arr.size by omega]
     · obtain ⟨v,h2,h3⟩:=hc i c hi
       simp only [hf,if_true] at h3
       have:arr.getD (o+i) undef=v:=by
        have hlt:=(Array.getElem?_eq_some_iff.1 h2).1
        simp [Array.getD,hlt]; exact (Array.getElem?_eq_some_iff.1 h2).2
       show VR _ w C0 c (arr.getD (o+i) undef)
       rw [this]
       exact VW (hsc c (List.mem_of_getElem? hi)) h3
 · obtain ⟨rfl,a,rfl⟩:=hok
   exact .rsl0
 · exact hok.elim
end
end Ax
namespace Ax
open Go
section
variable {P:Program} {E:Env} {K k:List Item} {st:St}
end
end Ax
namespace Ax
open Go
def WC:List AV→List AV→Prop
 | [],[]=>True
 | x :: xs,y :: ys=>AvLe x y∧Xb y=true∧Xs y=true∧WC xs ys
 | _,_=>False
theorem WC.app:∀ {a b c d:List AV},WC a b→WC c d→WC (a++c) (b++d)
 | [],[],c,d,_,h=>h
 | x :: a,y :: b,c,d,h1,h2=>⟨h1.1,h1.2.1,h1.2.2.1,WC.app h1.2.2.2 h2⟩
theorem WC.length:∀ {a b:List AV},WC a b→b.length=a.length
 | [],[],_=>rfl
 | x :: a,y :: b,h=>by simp [WC.length h.2.2.2]
theorem WC.get:∀ {a b:List AV} {i:Nat} {y:AV},WC a b→b[i]?=some y→∃ x,a[i]?=some x∧AvLe x y∧Xb y=true∧Xs y=true
 | [],[],i,y,_,h=>by simp at h
 | x :: a,z :: b,0,y,h,hi=>by simp at hi; subst hi; exact ⟨x,rfl,h.1,h.2.1,h.2.2.1⟩
 | x :: a,z :: b,i+1,y,h,hi=>by
  obtain ⟨x',h1,h2⟩:=WC.get h.2.2.2 (by simpa using hi)
  exact ⟨x',by simpa using h1,h2⟩
section
variable {P:Program} {E:Env} {K:List Item} {st:St}
end
end Ax
namespace Ax
open Go
section
variable {P:Program} {E:Env} {K K':List Item} {st st':St}
def cutOk (n:Nat) (blks:List Blk):Bool:=(blks.take n).all fun b=>!b.live || b.flat || refsBelows n (bif b.sz == 0 then b.cells.take 1 else b.cells)
theorem Mem.cut {Z0 M Z:Nat→Prop} {w0 w:World} {C:Ctx} {blks:List Blk} {n:Nat} (hm:Mem Z0 M w0 C Z blks w) (h2:cutOk n blks=true):Mem Z0 M w0 (C.cut n) Z (blks.take n) w:=by
 have hget:∀ {k:Nat} {b:Blk},(blks.take n)[k]?=some b→k<n∧blks[k]?=some b:=by
  intro k b hb
  rw [List.getElem?_take] at hb
  split at hb
  · exact ⟨‹_›,hb⟩
  · cases hb
 refine ⟨fun k b hb hl=>?_,fun k b hb=>?_,fun k b hb hd=>?_,fun k hk=>?_,fun k k' c o o' e1 e2=>?_,fun k c o e1=>?_,hm.zlt,hm.z0,hm.zsub,hm.frame⟩
 · obtain ⟨hkn,hb'⟩:=hget hb
   obtain ⟨q1,q2⟩:=hm.blk k b hb' hl
   refine ⟨q1,?_⟩
   simp only [Ctx.cut,hkn,if_true]
   cases hs:C.β k with
   | absent=>simp [hs] at q2
   | unborn=>simp only [hs] at q2 ⊢; exact q2
   | loc blk o =>
    simp only [hs] at q2 ⊢
    refine q2.next1 rfl (fun c v h=>h) fun hf c v hc s2=>?_
    have:=List.all_eq_true.1 h2 b (List.mem_of_getElem? hb)
    simp only [hl,hf,Bool.not_true,Bool.false_or] at this
    obtain ⟨i,hi⟩:=List.getElem?_of_mem hc
    exact s2.cut (QP this hi)
 · obtain ⟨hkn,hb'⟩:=hget hb
   simp only [Ctx.cut,hkn,if_true]; exact hm.gen k b hb'
 · obtain ⟨hkn,hb'⟩:=hget hb
   simp only [Ctx.cut,hkn,if_true]; exact hm.dd k b hb' hd
 · simp only [List.length_take] at hk
   simp only [Ctx.cut]
   by_cases hkn:k<n
   · simp only [hkn,if_true]; exact hm.dom k (by omega)
   · simp [hkn]
 · simp only [Ctx.cut] at e1 e2
   split at e1 <;> split at e2 <;> first | exact hm.inj k k' c o o' e1 e2 | cases e1 | cases e2
 · simp only [Ctx.cut] at e1
   split at e1
   · exact hm.own k c o e1
   · cases e1
/-! ### Nil slices in a block's cells,seen as empty ones -/
def LeD:List AV→List AV→Prop
 | [],[]=>True
 | x :: xs,y :: ys=>(x=y ∨ (x=.nilSl∧y=.rsl [] 0 0))∧LeD xs ys
 | _,_=>False
theorem LeD.refl:∀ (a:List AV),LeD a a
 | []=>trivial
 | _ :: a=>⟨.inl rfl,LeD.refl a⟩
theorem LeD.app:∀ {a b c d:List AV},LeD a b→LeD c d→LeD (a++c) (b++d)
 | [],[],_,_,_,h=>h
 | _ :: _,_ :: _,_,_,h1,h2=>⟨h1.1,LeD.app h1.2 h2⟩
theorem LeD.length:∀ {a b:List AV},LeD a b→b.length=a.length
 | [],[],_=>rfl
 | _ :: _,_ :: _,h=>by simp [LeD.length h.2]
theorem LeD.get:∀ {a b:List AV} {i:Nat} {y:AV},LeD a b→b[i]?=some y→∃ x,a[i]?=some x∧(x=y ∨ (x=.nilSl∧y=.rsl [] 0 0))
 | [],[],i,y,_,h=>by simp at h
 | x :: a,z :: b,0,y,h,hi=>by simp at hi; subst hi; exact ⟨x,rfl,h.1⟩
 | x :: a,z :: b,i+1,y,h,hi=>by
  obtain ⟨x',h1,h2⟩:=LeD.get h.2 (by simpa using hi)
  exact ⟨x',by simpa using h1,h2⟩
theorem weakD_step {k:Nat} {b:Blk} {cells':List AV} (hb:st.blks[k]?=some b) (hl:b.live=true) (hz:b.sz ≠ 0) (hle:LeD b.cells cells')
 (hg:G P E K ⟨st.tmps,st.blks.set k { b with cells:=cells' }⟩):G P E K st:=by
 intro C Z a w hr
 have hm:=hr.mem
 obtain ⟨q1,q2⟩:=hm.blk k b hb hl
 have hgen:=hm.gen k b hb
 have:=hm.change (b':={ b with cells:=cells' }) (w':=w) (s:=C.β k) (g:=C.γ k) hb rfl rfl rfl (Nat.le_refl _) (fun _ _ _=>rfl)
  (fun blk o arr e _ h=>⟨arr,h,rfl⟩) (Nat.le_refl _) (fun _ _=>rfl) hl hgen.symm (fun blk o h=>.inl ⟨o,h⟩) (fun hle' hevo _=>by
    refine ⟨fun i x hi=>?_,?_⟩
    · obtain ⟨x0,h1,h2⟩:=hle.get hi
      rcases h2 with rfl | ⟨-,rfl⟩
      · exact q1 i _ h1
      · rfl
    rw [Ctx.put_id]
    cases hs:C.β k with
    | absent=>simp [hs] at q2
    | unborn =>
     simp only [hs] at q2 ⊢
     have:=hle.length
     rw [q2] at this
     exact List.length_eq_zero_iff.1 this
    | loc blk o =>
     simp only [hs] at q2 ⊢
     obtain ⟨arr,te,r1,r2,r3⟩:=q2.cells hz
     refine .inl ⟨hz,arr,te,r1,by rw [hle.length]; exact r2,fun i x hi=>?_⟩
     obtain ⟨x0,h1,h2⟩:=hle.get hi
     obtain ⟨v,s1,s2⟩:=r3 i x0 h1
     refine ⟨v,s1,?_⟩
     rcases h2 with rfl | ⟨rfl,rfl⟩
     · exact s2
     · cases s2; exact .rsl0)
 rw [Ctx.put_id] at this
 exact hg C Z a w ⟨hr.tmp,this.1,hr.marks,hr.gh,hr.base⟩
/-! ### A segment whose blocks hold symbolic rows beside references -/
mutual
theorem refsBelow_nr {n:Nat}:∀ {v:AV},Xs v=true→QQ n v=true
 | .ptr ..,h=>by simp [Xs] at h
 | .sl ..,h=>by simp [Xs] at h
 | .mp ..,h=>by simp [Xs] at h
 | .agg cs,h=>by simp only [Xs,QQ] at h ⊢; exact refsBelows_nr h
 | .tup cs,h=>by simp only [Xs,QQ] at h ⊢; exact refsBelows_nr h
 | .clos _ a b,h=>by
  simp only [Xs,QQ,Bool.and_eq_true] at h ⊢
  exact ⟨refsBelows_nr h.1,refsBelows_nr h.2⟩
 | .bool ..,_=>rfl
 | .int ..,_=>rfl
 | .nilPtr,_=>rfl
 | .rptr ..,_=>rfl
 | .nilSl,_=>rfl
 | .rsl ..,_=>rfl
 | .nilFunc,_=>rfl
 | .rmap ..,_=>rfl
 | .opq ..,_=>rfl
 | .junk,_=>rfl
theorem refsBelows_nr {n:Nat}:∀ {cs:List AV},noRefs cs=true→refsBelows n cs=true
 | [],_=>rfl
 | c :: cs,h=>by
  simp only [noRefs,refsBelows,Bool.and_eq_true] at h ⊢
  exact ⟨refsBelow_nr h.1,refsBelows_nr h.2⟩
end
/-! ### A call that turns one block of the caller's,in a region whose order is drawn -/
end
end Ax