/- A part of the proof: several texts, one behind the other. -/
import Derived.Test.YtideokfbnegkjaaLForceTipsC
set_option linter.unusedVariables false
set_option linter.unusedSimpArgs false
set_option maxRecDepth 100000
namespace Go.Proofs.Ytideokfbnegkjaa
open Go Ax
open Go.Proofs
/-- What filling a seat takes away from the moment. -/
def Qx (r:Rg) (ph ln i:Int):Int:=(r.empty - r.full)*arm (QD r ln.toNat).1 (QD r ln.toNat).2 ((r.seats.getD i.toNat []).getD ph.toNat ⟨0,0,0⟩)
def ltT (r:Rg) (ph ln:Int) (x y:Int):Bool:=decide (Qx r ph ln y - Qx r ph ln x<0)
theorem f92b:Try.f92.body=some (Qd Try.prog 92):=by kernel_rfl
theorem u92 {a c k:List AV} {r:AV} (h:Pure Try.prog 92 (a++c++k) r):Qb Try.prog (.clos 92 a k) c r:=Qo Try.func92 (by kernel_rfl) f92b h
theorem p92_start_0 (i:Int) (a:Int) (bs:List Bool) (eb:Bool) {E:Env} {res:AV} (hE:Qh Try.prog 92 res E) (ho:AllP [0≤i∧i<(bs.length:Int),((rowB bs).drop (0+(Int.toNat i)*1)).take 1=[.bool eb]])
 (hr:AvLe (.bool eb) res):G Try.prog E [.code (Qd Try.prog 92)] ⟨[.int .i64 i,.int .i64 a,.rptr [.rsl (rowB bs) 0 bs.length] 0]++unds (Try.f92.ntmps - 3),[]⟩ :=
 Qg (n:=400) (evs:=[.auto,.ld (.bool eb)]) (obs:=_) hE Try.func92 Qj (by kernel_rfl) ho hr
theorem f92W (i:Int) (a:Int) (bs:List Bool) {E:Env} {rv:Bool} (hE:Qh Try.prog 92 (.bool rv) E)
 (h:(0≤i∧(∃ eb:Bool,bs[Int.toNat i]?=some eb∧rv=eb))):G Try.prog E [.code (Qd Try.prog 92)] ⟨[.int .i64 i,.int .i64 a,.rptr [.rsl (rowB bs) 0 bs.length] 0]++unds (Try.f92.ntmps - 3),[]⟩:=by
 obtain ⟨h2,h⟩:=h
 obtain ⟨eb,h1,h⟩:=h
 exact p92_start_0 i a bs eb hE ⟨(Xh h2 h1),(rp cB 1 0 1 h1),trivial⟩ (AvLe.of_eq (by rw [h]; try rfl))
theorem f93b:Try.f93.body=some (Qd Try.prog 93):=by kernel_rfl
theorem u93 {a c k:List AV} {r:AV} (h:Pure Try.prog 93 (a++c++k) r):Qb Try.prog (.clos 93 a k) c r:=Qo Try.func93 (by kernel_rfl) f93b h
theorem p93_start_0 (i:Int) (r:Rg) (ln ph:Int) (pe:(Pt × Pt)) (le:(List Pt)) (pe1:Pt) {E:Env} {res:AV} (hE:Qh Try.prog 93 res E) (ho:AllP [InR .i64 (r.empty - r.full),0≤ln∧ln<(((Qa r.feet).length:Nat):Int),((Qq (Qa r.feet)).drop (0+(Int.toNat ln)*6)).take 6=[.int .i64 pe.1.x,.int .i64 pe.1.y,.int .i64 pe.1.z,.int .i64 pe.2.x,.int .i64 pe.2.y,.int .i64 pe.2.z],0≤i∧i<(r.seats.length:Int),((rowS r.seats).drop (0+(Int.toNat i)*1)).take 1=[.rsl (rowP le) 0 le.length],0≤ph∧ph<(le.length:Int),((rowP le).drop (0+(Int.toNat ph)*3)).take 3=[.int .i64 pe1.x,.int .i64 pe1.y,.int .i64 pe1.z],Qb Try.prog (.clos 87 [] []) [.agg [.int .i64 pe.1.x,.int .i64 pe.1.y,.int .i64 pe.1.z,.int .i64 pe.2.x,.int .i64 pe.2.y,.int .i64 pe.2.z],.agg [.int .i64 pe1.x,.int .i64 pe1.y,.int .i64 pe1.z]] (.int .i64 (arm pe.1 pe.2 pe1)),InR .i64 ((r.empty - r.full)*(arm pe.1 pe.2 pe1))])
 (hr:AvLe (.int .i64 ((r.empty - r.full)*(arm pe.1 pe.2 pe1))) res):G Try.prog E [.code (Qd Try.prog 93)] ⟨[.int .i64 i,.rptr [.rptr [.rsl (rowS r.seats) 0 r.seats.length,.rsl (rowP r.feet) 0 r.feet.length,.int .i64 r.frame,.int .i64 r.c.x,.int .i64 r.c.y,.int .i64 r.c.z,.int .i64 r.empty,.int .i64 r.full,.rsl (Qq (Qa r.feet)) 0 ((Qa r.feet).length),.int .i64 (Qe r)] 0] 0,.rptr [.int .i64 ln] 0,.rptr [.int .i64 ph] 0]++unds (Try.f93.ntmps - 4),[]⟩ :=
 Qg (n:=400) (evs:=[.auto,.auto,.auto,.auto,.auto,.auto,.auto,.ld (.agg [.int .i64 pe.1.x,.int .i64 pe.1.y,.int .i64 pe.1.z,.int .i64 pe.2.x,.int .i64 pe.2.y,.int .i64 pe.2.z]),.auto,.auto,.ld (.rsl (rowP le) 0 le.length),.auto,.ld (.agg [.int .i64 pe1.x,.int .i64 pe1.y,.int .i64 pe1.z]),.v (.int .i64 (arm pe.1 pe.2 pe1))]) (obs:=_) hE Try.func93 Qj (by kernel_rfl) ho hr
theorem f93W (i:Int) (r:Rg) (ln ph:Int) {E:Env} {rv:Int} (hE:Qh Try.prog 93 (.int .i64 rv) E)
 (h:((I6 (r.empty - r.full))∧(0≤ln∧(∃ pe:(Pt × Pt),(Qa r.feet)[Int.toNat ln]?=some pe∧(0≤i∧(∃ le:(List Pt),r.seats[Int.toNat i]?=some le∧(0≤ph∧(∃ pe1:Pt,le[Int.toNat ph]?=some pe1∧((Yg pe.1 pe.2 pe1)∧((I6 ((r.empty - r.full)*(arm pe.1 pe.2 pe1)))∧rv=((r.empty - r.full)*(arm pe.1 pe.2 pe1)))))))))))):G Try.prog E [.code (Qd Try.prog 93)] ⟨[.int .i64 i,.rptr [.rptr [.rsl (rowS r.seats) 0 r.seats.length,.rsl (rowP r.feet) 0 r.feet.length,.int .i64 r.frame,.int .i64 r.c.x,.int .i64 r.c.y,.int .i64 r.c.z,.int .i64 r.empty,.int .i64 r.full,.rsl (Qq (Qa r.feet)) 0 ((Qa r.feet).length),.int .i64 (Qe r)] 0] 0,.rptr [.int .i64 ln] 0,.rptr [.int .i64 ph] 0]++unds (Try.f93.ntmps - 4),[]⟩:=by
 obtain ⟨q0_0,h⟩:=h
 obtain ⟨h2,h⟩:=h
 obtain ⟨pe,h1,h⟩:=h
 obtain ⟨h4,h⟩:=h
 obtain ⟨le,h3,h⟩:=h
 obtain ⟨h6,h⟩:=h
 obtain ⟨pe1,h5,h⟩:=h
 obtain ⟨h7,h⟩:=h
 obtain ⟨q11_0,h⟩:=h
 exact p93_start_0 i r ln ph pe le pe1 hE ⟨q0_0,(Xh h2 h1),(QM (fun s:Pt × Pt=>cP s.1++cP s.2) (s:=6) (k:=0) (m:=6) (fun _=>rfl) (by decide) h1),(Xh h4 h3),(QM (fun s:List Pt=>[AV.rsl (rowP s) 0 s.length]) (s:=1) (k:=0) (m:=1) (fun _=>rfl) (by decide) h3),(Xh h6 h5),(rp cP 3 0 3 h5),(u87 (Kl pe pe1 h7)),q11_0,trivial⟩ (AvLe.of_eq (by rw [h]; try rfl))
theorem yq (bs:List Bool) (i a:Int) (h:0≤i∧i<bs.length):Pure Try.prog 92 [.int .i64 i,.int .i64 a,.rptr [.rsl (rowB bs) 0 bs.length] 0] (.bool (bs.getD (Int.toNat i) false)):=Qw Try.func92 f92b fun E hE=>by
 have hg:bs[Int.toNat i]?=some (bs[Int.toNat i]'(by omega)):=List.getElem?_eq_getElem (by omega)
 exact f92W i a bs (rv:=bs.getD (Int.toNat i) false) hE ⟨h.1,_,hg,by simp [List.getD,hg]⟩
theorem Yn {r:Rg} {ph ln i:Int} (h:Xq r ph ln∧0≤i∧i<r.seats.length):∃ s,r.seats[Int.toNat i]?=some s∧s[Int.toNat ph]?=some (s.getD (Int.toNat ph) ⟨0,0,0⟩)∧(Qa r.feet)[Int.toNat ln]?=some (QD r (Int.toNat ln))∧Yg (QD r (Int.toNat ln)).1 (QD r (Int.toNat ln)).2 (s.getD (Int.toNat ph) ⟨0,0,0⟩) ∧
 Qx r ph ln i=(r.empty - r.full)*arm (QD r (Int.toNat ln)).1 (QD r (Int.toNat ln)).2 (s.getD (Int.toNat ph) ⟨0,0,0⟩)∧(-2000000≤r.empty - r.full∧r.empty - r.full≤2000000)∧-1600000000000000≤Qx r ph ln i∧Qx r ph ln i≤1600000000000000:=by
 obtain ⟨⟨h0,h1,h2,h3,h4⟩,h5,h6⟩:=h
 have hs:r.seats[Int.toNat i]?=some (r.seats[Int.toNat i]'(by omega)):=List.getElem?_eq_getElem (by omega)
 have hsd:r.seats.getD (Int.toNat i) []=r.seats[Int.toNat i]'(by omega):=by simp [List.getD,hs]
 generalize r.seats[Int.toNat i]'(by omega)=s at hs hsd
 obtain ⟨l1,l2⟩:=YP h0.ok (v:=Int.toNat ln) (by omega)
 have sf:=YJ h0.ok (ph:=Int.toNat ph) (by omega) l1 l2 hs
 have e:Qx r ph ln i=(r.empty - r.full)*arm (QD r (Int.toNat ln)).1 (QD r (Int.toNat ln)).2 (s.getD (Int.toNat ph) ⟨0,0,0⟩):=by rw [Qx,hsd]
 have q1:=sf.e0
 have q2:=sf.e1
 have q3:=sf.f0
 have q4:=sf.f1
 have b1:=h0.ok.empty0
 have b2:=h0.ok.empty1
 have b3:=h0.ok.full1
 refine ⟨s,hs,sf.get,XW (by omega),sf.ok,e,by omega,?_,?_⟩ <;> rw [e,Int.sub_mul] <;> omega
theorem yP (r:Rg) (ph ln i:Int) (h:Xq r ph ln∧0≤i∧i<r.seats.length):Pure Try.prog 93 [.int .i64 i,.rptr [rigV r] 0,.rptr [.int .i64 ln] 0,.rptr [.int .i64 ph] 0] (.int .i64 (Qx r ph ln i)):=Qw Try.func93 f93b fun E hE=>by
 obtain ⟨s,e1,e2,e3,e4,e5,e6,e7,e8⟩:=Yn h
 rw [e5] at e7 e8
 exact f93W i r ln ph (rv:=Qx r ph ln i) hE ⟨by omega,h.1.2.2.2.1,_,e3,h.2.1,s,e1,h.1.2.1,_,e2,e4,by omega,e5⟩
theorem f95b:Try.f95.body=some (Qd Try.prog 95):=by kernel_rfl
theorem u95 {a c k:List AV} {r:AV} (h:Pure Try.prog 95 (a++c++k) r):Qb Try.prog (.clos 95 a k) c r:=Qo Try.func95 (by kernel_rfl) f95b h
theorem p95_start_0 (a:Int) (b:Int) (r:Rg) (ln ph:Int) {E:Env} {res:AV} (hE:Qh Try.prog 95 res E) (ho:AllP [Qb Try.prog (.clos 93 [] [.rptr [.rptr [.rsl (rowS r.seats) 0 r.seats.length,.rsl (rowP r.feet) 0 r.feet.length,.int .i64 r.frame,.int .i64 r.c.x,.int .i64 r.c.y,.int .i64 r.c.z,.int .i64 r.empty,.int .i64 r.full,.rsl (Qq (Qa r.feet)) 0 ((Qa r.feet).length),.int .i64 (Qe r)] 0] 0,.rptr [.int .i64 ln] 0,.rptr [.int .i64 ph] 0]) [.int .i64 b] (.int .i64 (Qx r ph ln b)),Qb Try.prog (.clos 93 [] [.rptr [.rptr [.rsl (rowS r.seats) 0 r.seats.length,.rsl (rowP r.feet) 0 r.feet.length,.int .i64 r.frame,.int .i64 r.c.x,.int .i64 r.c.y,.int .i64 r.c.z,.int .i64 r.empty,.int .i64 r.full,.rsl (Qq (Qa r.feet)) 0 ((Qa r.feet).length),.int .i64 (Qe r)] 0] 0,.rptr [.int .i64 ln] 0,.rptr [.int .i64 ph] 0]) [.int .i64 a] (.int .i64 (Qx r ph ln a)),InR .i64 ((Qx r ph ln b) - (Qx r ph ln a))])
 (hr:AvLe (.int .i64 ((Qx r ph ln b) - (Qx r ph ln a))) res):G Try.prog E [.code (Qd Try.prog 95)] ⟨[.int .i64 a,.int .i64 b,.rptr [.clos 93 [] [.rptr [.rptr [.rsl (rowS r.seats) 0 r.seats.length,.rsl (rowP r.feet) 0 r.feet.length,.int .i64 r.frame,.int .i64 r.c.x,.int .i64 r.c.y,.int .i64 r.c.z,.int .i64 r.empty,.int .i64 r.full,.rsl (Qq (Qa r.feet)) 0 ((Qa r.feet).length),.int .i64 (Qe r)] 0] 0,.rptr [.int .i64 ln] 0,.rptr [.int .i64 ph] 0]] 0]++unds (Try.f95.ntmps - 3),[]⟩ :=
 Qg (n:=400) (evs:=[.v (.int .i64 (Qx r ph ln b)),.v (.int .i64 (Qx r ph ln a))]) (obs:=_) hE Try.func95 Qj (by kernel_rfl) ho hr
theorem f95W (a:Int) (b:Int) (r:Rg) (ln ph:Int) {E:Env} {rv:Int} (hE:Qh Try.prog 95 (.int .i64 rv) E)
 (h:((Xq r ph ln∧0≤b∧b<r.seats.length)∧((Xq r ph ln∧0≤a∧a<r.seats.length)∧((I6 ((Qx r ph ln b) - (Qx r ph ln a)))∧rv=((Qx r ph ln b) - (Qx r ph ln a)))))):G Try.prog E [.code (Qd Try.prog 95)] ⟨[.int .i64 a,.int .i64 b,.rptr [.clos 93 [] [.rptr [.rptr [.rsl (rowS r.seats) 0 r.seats.length,.rsl (rowP r.feet) 0 r.feet.length,.int .i64 r.frame,.int .i64 r.c.x,.int .i64 r.c.y,.int .i64 r.c.z,.int .i64 r.empty,.int .i64 r.full,.rsl (Qq (Qa r.feet)) 0 ((Qa r.feet).length),.int .i64 (Qe r)] 0] 0,.rptr [.int .i64 ln] 0,.rptr [.int .i64 ph] 0]] 0]++unds (Try.f95.ntmps - 3),[]⟩:=by
 obtain ⟨h1,h⟩:=h
 obtain ⟨h2,h⟩:=h
 obtain ⟨q2_0,h⟩:=h
 exact p95_start_0 a b r ln ph hE ⟨(u93 (yP r ph ln b h1)),(u93 (yP r ph ln a h2)),q2_0,trivial⟩ (AvLe.of_eq (by rw [h]; try rfl))
theorem cmp_ok (r:Rg) (ph ln x y:Int) (h:Xq r ph ln∧(0≤x∧x<r.seats.length)∧(0≤y∧y<r.seats.length)):Pure Try.prog 95 [.int .i64 x,.int .i64 y,.rptr [.clos 93 [] [.rptr [rigV r] 0,.rptr [.int .i64 ln] 0,.rptr [.int .i64 ph] 0]] 0] (.int .i64 (Qx r ph ln y - Qx r ph ln x)):=Qw Try.func95 f95b fun E hE=>by
 obtain ⟨-,-,-,-,-,-,-,a7,a8⟩:=Yn (i:=x) ⟨h.1,h.2.1⟩
 obtain ⟨-,-,-,-,-,-,-,b7,b8⟩:=Yn (i:=y) ⟨h.1,h.2.2⟩
 exact f95W x y r ln ph (rv:=Qx r ph ln y - Qx r ph ln x) hE ⟨⟨h.1,h.2.2⟩,⟨h.1,h.2.1⟩,by omega,rfl⟩
theorem f96b:Try.f96.body=some (Qd Try.prog 96):=by kernel_rfl
theorem u96 {a c k:List AV} {r:AV} (h:Pure Try.prog 96 (a++c++k) r):Qb Try.prog (.clos 96 a k) c r:=Qo Try.func96 (by kernel_rfl) f96b h
def Kg (P:Program):List Item:=kAt 400 [.code (Qd P 96)] [.stop]
def f96S0 (n:Int) (f:Int) (o:List Int) (r:Rg) (ln ph:Int) (n1:Int) (sum:Int) (i:Nat):St:=⟨([.int .i64 n1,.int .i64 f,J,.rptr [.clos 93 [] [.rptr [.rptr [.rsl (rowS r.seats) 0 r.seats.length,.rsl (rowP r.feet) 0 r.feet.length,.int .i64 r.frame,.int .i64 r.c.x,.int .i64 r.c.y,.int .i64 r.c.z,.int .i64 r.empty,.int .i64 r.full,.rsl (Qq (Qa r.feet)) 0 ((Qa r.feet).length),.int .i64 (Qe r)] 0] 0,.rptr [.int .i64 ln] 0,.rptr [.int .i64 ph] 0]] 0,J,J,J,.int .i64 sum,J,J,.rsl (rowI o) 0 o.length,.int .i64 (o.length:Int),.int .i64 (i:Int)]++Js 19),[]⟩
def f96G0 (E:Env) (n:Int) (f:Int) (o:List Int) (r:Rg) (ln ph:Int) (n1:Int) (sum:Int) (i:Nat):Prop:=G Try.prog E (Kg Try.prog) (f96S0 n f o r ln ph n1 sum i )
theorem p96_start_0 (n:Int) (f:Int) (o:List Int) (r:Rg) (ln ph:Int) {E:Env} {rv:AV} (hE:Qh Try.prog 96 rv E) (ho:AllP [])
 (hg:G Try.prog E (Kg Try.prog) ⟨([.int .i64 n,.int .i64 f,J,.rptr [.clos 93 [] [.rptr [.rptr [.rsl (rowS r.seats) 0 r.seats.length,.rsl (rowP r.feet) 0 r.feet.length,.int .i64 r.frame,.int .i64 r.c.x,.int .i64 r.c.y,.int .i64 r.c.z,.int .i64 r.empty,.int .i64 r.full,.rsl (Qq (Qa r.feet)) 0 ((Qa r.feet).length),.int .i64 (Qe r)] 0] 0,.rptr [.int .i64 ln] 0,.rptr [.int .i64 ph] 0]] 0,J,J,J,.int .i64 0,J,J,.rsl (rowI o) 0 o.length,.int .i64 (o.length:Int),.int .i64 0]++Js 19),[]⟩):G Try.prog E [.code (Qd Try.prog 96)] ⟨[.int .i64 n,.int .i64 f,.rptr [.rsl (rowI o) 0 o.length] 0,.rptr [.clos 93 [] [.rptr [.rptr [.rsl (rowS r.seats) 0 r.seats.length,.rsl (rowP r.feet) 0 r.feet.length,.int .i64 r.frame,.int .i64 r.c.x,.int .i64 r.c.y,.int .i64 r.c.z,.int .i64 r.empty,.int .i64 r.full,.rsl (Qq (Qa r.feet)) 0 ((Qa r.feet).length),.int .i64 (Qe r)] 0] 0,.rptr [.int .i64 ln] 0,.rptr [.int .i64 ph] 0]] 0]++unds (Try.f96.ntmps - 4),[]⟩ :=
 Qn (n:=400) (ds:=[]) (cs:=[]) (live:=[0,1,3,7,10,11,12]) (m:=0) (evs:=[.stop]) (obs:=_) hE.2.1 (hE.nogh _) Qj (by kernel_rfl) ho hg
theorem f96W (n:Int) (f:Int) (o:List Int) (r:Rg) (ln ph:Int) {E:Env} {rv:Int} (hE:Qh Try.prog 96 (.int .i64 rv) E)
 (h:f96G0 E n f o r ln ph n 0 0):G Try.prog E [.code (Qd Try.prog 96)] ⟨[.int .i64 n,.int .i64 f,.rptr [.rsl (rowI o) 0 o.length] 0,.rptr [.clos 93 [] [.rptr [.rptr [.rsl (rowS r.seats) 0 r.seats.length,.rsl (rowP r.feet) 0 r.feet.length,.int .i64 r.frame,.int .i64 r.c.x,.int .i64 r.c.y,.int .i64 r.c.z,.int .i64 r.empty,.int .i64 r.full,.rsl (Qq (Qa r.feet)) 0 ((Qa r.feet).length),.int .i64 (Qe r)] 0] 0,.rptr [.int .i64 ln] 0,.rptr [.int .i64 ph] 0]] 0]++unds (Try.f96.ntmps - 4),[]⟩:=by
 exact p96_start_0 n f o r ln ph hE trivial h
theorem p96_0_0 (n:Int) (f:Int) (o:List Int) (r:Rg) (ln ph:Int) (n1:Int) (sum:Int) (i:Nat) (e:Int) {E:Env} {rv:AV} (hE:Qh Try.prog 96 rv E) (ho:AllP [(decide ((i:Int)<(o.length:Int)))=true,0≤(i:Int)∧(i:Int)<(o.length:Int),((rowI o).drop (0+(Int.toNat (i:Int))*1)).take 1=[.int .i64 e],(decide (e≥f))=true,(decide (n1 > 0))=true,Qb Try.prog (.clos 93 [] [.rptr [.rptr [.rsl (rowS r.seats) 0 r.seats.length,.rsl (rowP r.feet) 0 r.feet.length,.int .i64 r.frame,.int .i64 r.c.x,.int .i64 r.c.y,.int .i64 r.c.z,.int .i64 r.empty,.int .i64 r.full,.rsl (Qq (Qa r.feet)) 0 ((Qa r.feet).length),.int .i64 (Qe r)] 0] 0,.rptr [.int .i64 ln] 0,.rptr [.int .i64 ph] 0]) [.int .i64 e] (.int .i64 (Qx r ph ln e)),InR .i64 (sum+(Qx r ph ln e)),InR .i64 (n1 - 1),InR .i64 ((i:Int)+1)])
 (hg:G Try.prog E (Kg Try.prog) ⟨([.int .i64 (n1 - 1),.int .i64 f,J,.rptr [.clos 93 [] [.rptr [.rptr [.rsl (rowS r.seats) 0 r.seats.length,.rsl (rowP r.feet) 0 r.feet.length,.int .i64 r.frame,.int .i64 r.c.x,.int .i64 r.c.y,.int .i64 r.c.z,.int .i64 r.empty,.int .i64 r.full,.rsl (Qq (Qa r.feet)) 0 ((Qa r.feet).length),.int .i64 (Qe r)] 0] 0,.rptr [.int .i64 ln] 0,.rptr [.int .i64 ph] 0]] 0,J,J,J,.int .i64 (sum+(Qx r ph ln e)),J,J,.rsl (rowI o) 0 o.length,.int .i64 (o.length:Int),.int .i64 ((i:Int)+1)]++Js 19),[]⟩):G Try.prog E (Kg Try.prog) (f96S0 n f o r ln ph n1 sum i ) :=
 Qn (n:=400) (ds:=[]) (cs:=[]) (live:=[0,1,3,7,10,11,12]) (m:=0) (evs:=[.b true,.ld (.int .i64 e),.b true,.b true,.v (.int .i64 (Qx r ph ln e)),.stop]) (obs:=_) hE.2.1 (hE.nogh _) Qj (by kernel_rfl) ho hg
theorem p96_0_1 (n:Int) (f:Int) (o:List Int) (r:Rg) (ln ph:Int) (n1:Int) (sum:Int) (i:Nat) (e:Int) {E:Env} {rv:AV} (hE:Qh Try.prog 96 rv E) (ho:AllP [(decide ((i:Int)<(o.length:Int)))=true,0≤(i:Int)∧(i:Int)<(o.length:Int),((rowI o).drop (0+(Int.toNat (i:Int))*1)).take 1=[.int .i64 e],(decide (e≥f))=true,(decide (n1 > 0))=false,InR .i64 ((i:Int)+1)])
 (hg:G Try.prog E (Kg Try.prog) ⟨([.int .i64 n1,.int .i64 f,J,.rptr [.clos 93 [] [.rptr [.rptr [.rsl (rowS r.seats) 0 r.seats.length,.rsl (rowP r.feet) 0 r.feet.length,.int .i64 r.frame,.int .i64 r.c.x,.int .i64 r.c.y,.int .i64 r.c.z,.int .i64 r.empty,.int .i64 r.full,.rsl (Qq (Qa r.feet)) 0 ((Qa r.feet).length),.int .i64 (Qe r)] 0] 0,.rptr [.int .i64 ln] 0,.rptr [.int .i64 ph] 0]] 0,J,J,J,.int .i64 sum,J,J,.rsl (rowI o) 0 o.length,.int .i64 (o.length:Int),.int .i64 ((i:Int)+1)]++Js 19),[]⟩):G Try.prog E (Kg Try.prog) (f96S0 n f o r ln ph n1 sum i ) :=
 Qn (n:=400) (ds:=[]) (cs:=[]) (live:=[0,1,3,7,10,11,12]) (m:=0) (evs:=[.b true,.ld (.int .i64 e),.b true,.b false,.stop]) (obs:=_) hE.2.1 (hE.nogh _) Qj (by kernel_rfl) ho hg
theorem p96_0_2 (n:Int) (f:Int) (o:List Int) (r:Rg) (ln ph:Int) (n1:Int) (sum:Int) (i:Nat) (e:Int) {E:Env} {rv:AV} (hE:Qh Try.prog 96 rv E) (ho:AllP [(decide ((i:Int)<(o.length:Int)))=true,0≤(i:Int)∧(i:Int)<(o.length:Int),((rowI o).drop (0+(Int.toNat (i:Int))*1)).take 1=[.int .i64 e],(decide (e≥f))=false,false=false,InR .i64 ((i:Int)+1)])
 (hg:G Try.prog E (Kg Try.prog) ⟨([.int .i64 n1,.int .i64 f,J,.rptr [.clos 93 [] [.rptr [.rptr [.rsl (rowS r.seats) 0 r.seats.length,.rsl (rowP r.feet) 0 r.feet.length,.int .i64 r.frame,.int .i64 r.c.x,.int .i64 r.c.y,.int .i64 r.c.z,.int .i64 r.empty,.int .i64 r.full,.rsl (Qq (Qa r.feet)) 0 ((Qa r.feet).length),.int .i64 (Qe r)] 0] 0,.rptr [.int .i64 ln] 0,.rptr [.int .i64 ph] 0]] 0,J,J,J,.int .i64 sum,J,J,.rsl (rowI o) 0 o.length,.int .i64 (o.length:Int),.int .i64 ((i:Int)+1)]++Js 19),[]⟩):G Try.prog E (Kg Try.prog) (f96S0 n f o r ln ph n1 sum i ) :=
 Qn (n:=400) (ds:=[]) (cs:=[]) (live:=[0,1,3,7,10,11,12]) (m:=0) (evs:=[.b true,.ld (.int .i64 e),.b false,.b false,.stop]) (obs:=_) hE.2.1 (hE.nogh _) Qj (by kernel_rfl) ho hg
theorem p96_0_3 (n:Int) (f:Int) (o:List Int) (r:Rg) (ln ph:Int) (n1:Int) (sum:Int) (i:Nat) {E:Env} {res:AV} (hE:Qh Try.prog 96 res E) (ho:AllP [(decide ((i:Int)<(o.length:Int)))=false])
 (hr:AvLe (.int .i64 sum) res):G Try.prog E (Kg Try.prog) (f96S0 n f o r ln ph n1 sum i ) :=
 Qg (n:=400) (evs:=[.b false]) (obs:=_) hE Try.func96 Qj (by kernel_rfl) ho hr
theorem f96W0 (n:Int) (f:Int) (o:List Int) (r:Rg) (ln ph:Int) (n1:Int) (sum:Int) (i:Nat) {E:Env} {rv:Int} (hE:Qh Try.prog 96 (.int .i64 rv) E)
 (h:(((i:Int)<(o.length:Int)→(∃ e:Int,o[i]?=some e∧((e≥f→((n1 > 0→((Xq r ph ln∧0≤e∧e<r.seats.length)∧((I6 (sum+(Qx r ph ln e)))∧((I6 (n1 - 1))∧((I6 ((i:Int)+1))∧f96G0 E n f o r ln ph (n1 - 1) (sum+(Qx r ph ln e)) (i+1))))))∧(¬ (n1 > 0)→((I6 ((i:Int)+1))∧f96G0 E n f o r ln ph n1 sum (i+1)))))∧(¬ (e≥f)→((I6 ((i:Int)+1))∧f96G0 E n f o r ln ph n1 sum (i+1))))))∧(¬ ((i:Int)<(o.length:Int))→rv=sum))):f96G0 E n f o r ln ph n1 sum i:=by
 rcases bft (decide ((i:Int)<(o.length:Int))) with hc0 | hc0
 · have h:=h.1 (odt hc0)
   obtain ⟨e,h1,h⟩:=h
   rcases bft (decide (e≥f)) with hc1 | hc1
   · have h:=h.1 (odt hc1)
     rcases bft (decide (n1 > 0)) with hc2 | hc2
     · have h:=h.1 (odt hc2)
       obtain ⟨h2,h⟩:=h
       obtain ⟨q7_3,h⟩:=h
       obtain ⟨q8_3,h⟩:=h
       obtain ⟨q9_3,h⟩:=h
       exact p96_0_0 n f o r ln ph n1 sum i e hE ⟨hc0,(QJ h1),(rp cI 1 0 1 h1),hc1,hc2,(u93 (yP r ph ln e h2)),q7_3,q8_3,q9_3,trivial⟩ h
     · have h:=h.2 (odf hc2)
       obtain ⟨q6_3,h⟩:=h
       exact p96_0_1 n f o r ln ph n1 sum i e hE ⟨hc0,(QJ h1),(rp cI 1 0 1 h1),hc1,hc2,q6_3,trivial⟩ h
   · have h:=h.2 (odf hc1)
     obtain ⟨q6_2,h⟩:=h
     exact p96_0_2 n f o r ln ph n1 sum i e hE ⟨hc0,(QJ h1),(rp cI 1 0 1 h1),hc1,rfl,q6_2,trivial⟩ h
 · have h:=h.2 (odf hc0)
   exact p96_0_3 n f o r ln ph n1 sum i hE ⟨hc0,trivial⟩ (AvLe.of_eq (by rw [h]; try rfl))
theorem qp (r:Rg) (ph ln:Int) (o:List Int) (n f:Int) (h:(Xq r ph ln∧∀ x ∈ o,0≤x∧x<(r.seats.length:Int))∧o.length≤20∧(0≤n∧n≤1000)):Pure Try.prog 96 [.int .i64 n,.int .i64 f,.rptr [.rsl (rowI o) 0 o.length] 0,.rptr [.clos 93 [] [.rptr [rigV r] 0,.rptr [.int .i64 ln] 0,.rptr [.int .i64 ph] 0]] 0] (.int .i64 (QF (Qx r ph ln) o (Int.toNat n) f)):=Qw Try.func96 f96b fun E hE=>by
 obtain ⟨⟨hm,hin⟩,hl,hn⟩:=h
 have key:∀ (d i:Nat) (n1 sum:Int),i+d=o.length→0≤n1→n1≤1000→-(1600000000000000*(i:Int))≤sum→sum≤1600000000000000*(i:Int)→QF (Qx r ph ln) o (Int.toNat n) f=sum+QF (Qx r ph ln) (o.drop i) (Int.toNat n1) f→f96G0 E n f o r ln ph n1 sum i:=by
  intro d
  induction d with
  | zero =>
   intro i n1 sum hi h0 h1 s0 s1 he
   refine f96W0 n f o r ln ph n1 sum i (rv:=QF (Qx r ph ln) o (Int.toNat n) f) hE ⟨fun h=>by omega,fun _=>?_⟩
   rw [he,List.drop_eq_nil_of_le (by omega)]; simp [QF]
  | succ d ih =>
   intro i n1 sum hi h0 h1 s0 s1 he
   have hx:o[i]?=some (o[i]'(by omega)):=List.getElem?_eq_getElem (by omega)
   rw [List.drop_eq_getElem_cons (by omega)] at he
   generalize o[i]'(by omega)=x at hx he
   have hxi:=hin x (List.mem_of_getElem? hx)
   obtain ⟨-,-,-,-,-,-,-,a7,a8⟩:=Yn (i:=x) ⟨hm,hxi⟩
   have skip:¬ x≥f→QF (Qx r ph ln) (x :: o.drop (i+1)) (Int.toNat n1) f=QF (Qx r ph ln) (o.drop (i+1)) (Int.toNat n1) f:=fun hc=>by
    unfold QF; rw [List.filter_cons_of_neg (by simpa using hc)]
   have none:¬ n1 > 0→QF (Qx r ph ln) (x :: o.drop (i+1)) (Int.toNat n1) f=QF (Qx r ph ln) (o.drop (i+1)) (Int.toNat n1) f:=fun hc=>by
    rw [show Int.toNat n1=0 by omega,YM,YM]
   have more:x≥f→n1 > 0→QF (Qx r ph ln) (x :: o.drop (i+1)) (Int.toNat n1) f=Qx r ph ln x+QF (Qx r ph ln) (o.drop (i+1)) (Int.toNat (n1 - 1)) f:=fun hc h2=>by
    unfold QF; rw [List.filter_cons_of_pos (by simpa using hc),show Int.toNat n1=Int.toNat (n1 - 1)+1 by omega,List.take_succ_cons,List.map_cons,List.sum_cons]
   refine f96W0 n f o r ln ph n1 sum i (rv:=QF (Qx r ph ln) o (Int.toNat n) f) hE ⟨fun _=>⟨x,hx,fun c1=>⟨fun c2=>⟨⟨hm,hxi⟩,by omega,by omega,by omega,?_⟩,fun c2=>⟨by omega,?_⟩⟩,fun c1=>⟨by omega,?_⟩⟩,fun h=>by omega⟩
   · exact ih (i+1) (n1 - 1) _ (by omega) (by omega) (by omega) (by omega) (by omega) (by rw [he,more c1 c2]; omega)
   · exact ih (i+1) n1 sum (by omega) h0 h1 (by omega) (by omega) (by rw [he,none c2])
   · exact ih (i+1) n1 sum (by omega) h0 h1 (by omega) (by omega) (by rw [he,skip c1])
 exact f96W n f o r ln ph (rv:=QF (Qx r ph ln) o (Int.toNat n) f) hE (key o.length 0 n 0 (by omega) hn.1 hn.2 (by omega) (by omega) (by rw [List.drop_zero]; omega))
theorem f101b:Try.f101.body=some (Qd Try.prog 101):=by kernel_rfl
def yB (P:Program):List Item:=kAt 400 [.code (Qd P 101)] [.stop]
def f101S0 (a:Int) (b:Int) (l:List Int) (r:Rg) (ln ph:Int) (n0:Nat) (v0:List Int) (i:Int):St:=⟨([.sl 0 n0 0 v0.length 1,.int .i64 a,.int .i64 b,.clos 95 [] [.ptr 1 0 0],J,J,J,J,.int .i64 i]++Js 44),[⟨true,n0,1,true,(rowI v0),true⟩,⟨true,0,1,false,[.clos 93 [] [.ptr 2 0 0,.ptr 3 0 0,.ptr 4 0 0]],false⟩,⟨true,0,1,true,[.rptr [.rsl (rowS r.seats) 0 r.seats.length,.rsl (rowP r.feet) 0 r.feet.length,.int .i64 r.frame,.int .i64 r.c.x,.int .i64 r.c.y,.int .i64 r.c.z,.int .i64 r.empty,.int .i64 r.full,.rsl (Qq (Qa r.feet)) 0 ((Qa r.feet).length),.int .i64 (Qe r)] 0],false⟩,⟨true,0,1,true,[.int .i64 ln],false⟩,⟨true,0,1,true,[.int .i64 ph],false⟩]⟩
def yC (E:Env) (a:Int) (b:Int) (l:List Int) (r:Rg) (ln ph:Int) (n0:Nat) (v0:List Int) (i:Int):Prop:=G Try.prog E (yB Try.prog) (f101S0 a b l r ln ph n0 v0 i )
def yA (P:Program):List Item:=kAt 400 [.code (Qd P 101)] [.b true,.stop]
def f101S1 (a:Int) (b:Int) (l:List Int) (r:Rg) (ln ph:Int) (n0:Nat) (j:Int) (v0:List Int) (i:Int):St:=⟨([.sl 0 n0 0 v0.length 1,.int .i64 a,.int .i64 b,.clos 95 [] [.ptr 1 0 0],J,J,J,J,.int .i64 i,.int .i64 j]++Js 43),[⟨true,n0,1,true,(rowI v0),true⟩,⟨true,0,1,false,[.clos 93 [] [.ptr 2 0 0,.ptr 3 0 0,.ptr 4 0 0]],false⟩,⟨true,0,1,true,[.rptr [.rsl (rowS r.seats) 0 r.seats.length,.rsl (rowP r.feet) 0 r.feet.length,.int .i64 r.frame,.int .i64 r.c.x,.int .i64 r.c.y,.int .i64 r.c.z,.int .i64 r.empty,.int .i64 r.full,.rsl (Qq (Qa r.feet)) 0 ((Qa r.feet).length),.int .i64 (Qe r)] 0],false⟩,⟨true,0,1,true,[.int .i64 ln],false⟩,⟨true,0,1,true,[.int .i64 ph],false⟩]⟩
def f101G1 (E:Env) (a:Int) (b:Int) (l:List Int) (r:Rg) (ln ph:Int) (n0:Nat) (j:Int) (v0:List Int) (i:Int):Prop:=G Try.prog E (yA Try.prog) (f101S1 a b l r ln ph n0 j v0 i )
theorem p101_start_0 (a:Int) (b:Int) (l:List Int) (r:Rg) (ln ph:Int) (n0:Nat) {E:Env} {rv:AV} {bs2:List Blk} (hE:LentE Try.prog 101 [.sl 4 0 0 0 1] rv bs2 E) (ho:AllP [InR .i64 (a+1)])
 (hg:G Try.prog E (yB Try.prog) ⟨([.sl 0 n0 0 l.length 1,.int .i64 a,.int .i64 b,.clos 95 [] [.ptr 1 0 0],J,J,J,J,.int .i64 (a+1)]++Js 44),[⟨true,n0,1,true,(rowI l),true⟩,⟨true,0,1,false,[.clos 93 [] [.ptr 2 0 0,.ptr 3 0 0,.ptr 4 0 0]],false⟩,⟨true,0,1,true,[.rptr [.rsl (rowS r.seats) 0 r.seats.length,.rsl (rowP r.feet) 0 r.feet.length,.int .i64 r.frame,.int .i64 r.c.x,.int .i64 r.c.y,.int .i64 r.c.z,.int .i64 r.empty,.int .i64 r.full,.rsl (Qq (Qa r.feet)) 0 ((Qa r.feet).length),.int .i64 (Qe r)] 0],false⟩,⟨true,0,1,true,[.int .i64 ln],false⟩,⟨true,0,1,true,[.int .i64 ph],false⟩]⟩):G Try.prog E [.code (Qd Try.prog 101)] ⟨[.sl 0 n0 0 l.length 1,.int .i64 a,.int .i64 b,.clos 95 [] [.ptr 1 0 0]]++unds (Try.f101.ntmps - 4),[⟨true,n0,1,true,(rowI l),true⟩,⟨true,0,1,false,[.clos 93 [] [.ptr 2 0 0,.ptr 3 0 0,.ptr 4 0 0]],false⟩,⟨true,0,1,true,[.rptr [.rsl (rowS r.seats) 0 r.seats.length,.rsl (rowP r.feet) 0 r.feet.length,.int .i64 r.frame,.int .i64 r.c.x,.int .i64 r.c.y,.int .i64 r.c.z,.int .i64 r.empty,.int .i64 r.full,.rsl (Qq (Qa r.feet)) 0 ((Qa r.feet).length),.int .i64 (Qe r)] 0],false⟩,⟨true,0,1,true,[.int .i64 ln],false⟩,⟨true,0,1,true,[.int .i64 ph],false⟩]⟩ :=
 Qn (n:=400) (ds:=[]) (cs:=[]) (live:=[0,1,2,3,8]) (m:=5) (evs:=[.stop]) (obs:=_) hE.kind (hE.nogh (by kernel_rfl)) Qj (by kernel_rfl) ho hg
theorem f101W (a:Int) (b:Int) (l:List Int) (r:Rg) (ln ph:Int) (n0:Nat) {E:Env} {rv:Unit} {lo:List Int} (hE:LentE Try.prog 101 [.sl 4 0 0 0 1] (.tup []) [⟨true,n0,1,true,(rowI lo),true⟩,⟨true,0,1,false,[.clos 93 [] [.ptr 2 0 0,.ptr 3 0 0,.ptr 4 0 0]],false⟩,⟨true,0,1,true,[.rptr [.rsl (rowS r.seats) 0 r.seats.length,.rsl (rowP r.feet) 0 r.feet.length,.int .i64 r.frame,.int .i64 r.c.x,.int .i64 r.c.y,.int .i64 r.c.z,.int .i64 r.empty,.int .i64 r.full,.rsl (Qq (Qa r.feet)) 0 ((Qa r.feet).length),.int .i64 (Qe r)] 0],false⟩,⟨true,0,1,true,[.int .i64 ln],false⟩,⟨true,0,1,true,[.int .i64 ph],false⟩] E)
 (h:((I6 (a+1))∧yC E a b l r ln ph n0 l (a+1))):G Try.prog E [.code (Qd Try.prog 101)] ⟨[.sl 0 n0 0 l.length 1,.int .i64 a,.int .i64 b,.clos 95 [] [.ptr 1 0 0]]++unds (Try.f101.ntmps - 4),[⟨true,n0,1,true,(rowI l),true⟩,⟨true,0,1,false,[.clos 93 [] [.ptr 2 0 0,.ptr 3 0 0,.ptr 4 0 0]],false⟩,⟨true,0,1,true,[.rptr [.rsl (rowS r.seats) 0 r.seats.length,.rsl (rowP r.feet) 0 r.feet.length,.int .i64 r.frame,.int .i64 r.c.x,.int .i64 r.c.y,.int .i64 r.c.z,.int .i64 r.empty,.int .i64 r.full,.rsl (Qq (Qa r.feet)) 0 ((Qa r.feet).length),.int .i64 (Qe r)] 0],false⟩,⟨true,0,1,true,[.int .i64 ln],false⟩,⟨true,0,1,true,[.int .i64 ph],false⟩]⟩:=by
 obtain ⟨q0_0,h⟩:=h
 exact p101_start_0 a b l r ln ph n0 hE ⟨q0_0,trivial⟩ h
theorem p101_0_0 (a:Int) (b:Int) (l:List Int) (r:Rg) (ln ph:Int) (n0:Nat) (v0:List Int) (i:Int) {E:Env} {rv:AV} {bs2:List Blk} (hE:LentE Try.prog 101 [.sl 4 0 0 0 1] rv bs2 E) (ho:AllP [(decide (i<b))=true])
 (hg:G Try.prog E (yA Try.prog) ⟨([.sl 0 n0 0 v0.length 1,.int .i64 a,.int .i64 b,.clos 95 [] [.ptr 1 0 0],J,J,J,J,.int .i64 i,.int .i64 i]++Js 43),[⟨true,n0,1,true,(rowI v0),true⟩,⟨true,0,1,false,[.clos 93 [] [.ptr 2 0 0,.ptr 3 0 0,.ptr 4 0 0]],false⟩,⟨true,0,1,true,[.rptr [.rsl (rowS r.seats) 0 r.seats.length,.rsl (rowP r.feet) 0 r.feet.length,.int .i64 r.frame,.int .i64 r.c.x,.int .i64 r.c.y,.int .i64 r.c.z,.int .i64 r.empty,.int .i64 r.full,.rsl (Qq (Qa r.feet)) 0 ((Qa r.feet).length),.int .i64 (Qe r)] 0],false⟩,⟨true,0,1,true,[.int .i64 ln],false⟩,⟨true,0,1,true,[.int .i64 ph],false⟩]⟩):G Try.prog E (yB Try.prog) (f101S0 a b l r ln ph n0 v0 i ) :=
 Qn (n:=400) (ds:=[]) (cs:=[]) (live:=[0,1,2,3,8,9]) (m:=5) (evs:=[.b true,.stop]) (obs:=_) hE.kind (hE.nogh (by kernel_rfl)) Qj (by kernel_rfl) ho hg
theorem p101_0_1 (a:Int) (b:Int) (l:List Int) (r:Rg) (ln ph:Int) (n0:Nat) (v0:List Int) (i:Int) {E:Env} {res:AV} {bs2:List Blk} (hE:LentE Try.prog 101 [.sl 4 0 0 0 1] res bs2 E) (ho:AllP [(decide (i<b))=false])
 (hr:(.tup [])=res) (hb:[⟨true,n0,1,true,(rowI v0),true⟩,⟨true,0,1,false,[.clos 93 [] [.ptr 2 0 0,.ptr 3 0 0,.ptr 4 0 0]],false⟩,⟨true,0,1,true,[.rptr [.rsl (rowS r.seats) 0 r.seats.length,.rsl (rowP r.feet) 0 r.feet.length,.int .i64 r.frame,.int .i64 r.c.x,.int .i64 r.c.y,.int .i64 r.c.z,.int .i64 r.empty,.int .i64 r.full,.rsl (Qq (Qa r.feet)) 0 ((Qa r.feet).length),.int .i64 (Qe r)] 0],false⟩,⟨true,0,1,true,[.int .i64 ln],false⟩,⟨true,0,1,true,[.int .i64 ph],false⟩]=bs2):G Try.prog E (yB Try.prog) (f101S0 a b l r ln ph n0 v0 i ) :=
 qE (n:=400) (live:=[]) (m:=5) (evs:=[.b false]) (obs:=_) hE (hE.nogh (by kernel_rfl)) Try.func101 Qj (by kernel_rfl) ho hr hb
theorem f101W0 (a:Int) (b:Int) (l:List Int) (r:Rg) (ln ph:Int) (n0:Nat) (v0:List Int) (i:Int) {E:Env} {rv:Unit} {lo:List Int} (hE:LentE Try.prog 101 [.sl 4 0 0 0 1] (.tup []) [⟨true,n0,1,true,(rowI lo),true⟩,⟨true,0,1,false,[.clos 93 [] [.ptr 2 0 0,.ptr 3 0 0,.ptr 4 0 0]],false⟩,⟨true,0,1,true,[.rptr [.rsl (rowS r.seats) 0 r.seats.length,.rsl (rowP r.feet) 0 r.feet.length,.int .i64 r.frame,.int .i64 r.c.x,.int .i64 r.c.y,.int .i64 r.c.z,.int .i64 r.empty,.int .i64 r.full,.rsl (Qq (Qa r.feet)) 0 ((Qa r.feet).length),.int .i64 (Qe r)] 0],false⟩,⟨true,0,1,true,[.int .i64 ln],false⟩,⟨true,0,1,true,[.int .i64 ph],false⟩] E)
 (h:((i<b→f101G1 E a b l r ln ph n0 i v0 i)∧(¬ (i<b)→lo=v0))):yC E a b l r ln ph n0 v0 i:=by
 rcases bft (decide (i<b)) with hc0 | hc0
 · have h:=h.1 (odt hc0)
   exact p101_0_0 a b l r ln ph n0 v0 i hE ⟨hc0,trivial⟩ h
 · have h:=h.2 (odf hc0)
   have qe0:=h
   exact p101_0_1 a b l r ln ph n0 v0 i hE ⟨hc0,trivial⟩ (by try rfl) (by rw [qe0]; all_goals (first | rfl | (simp only [List.length_set]; done) | (simp only [List.length_set]; rfl)))
theorem p101_1_0 (a:Int) (b:Int) (l:List Int) (r:Rg) (ln ph:Int) (n0:Nat) (j:Int) (v0:List Int) (i:Int) (e:Int) (e1:Int) (e2:Int) {E:Env} {rv:AV} {bs2:List Blk} (hE:LentE Try.prog 101 [.sl 4 0 0 0 1] rv bs2 E) (ho:AllP [(decide (j > a))=true,0≤j∧j<(v0.length:Int),n0=n0,n0=n0,((rowI v0).drop (0+(Int.toNat j)*1)).take 1=[.int .i64 e],InR .i64 (j - 1),0≤(j - 1)∧(j - 1)<(v0.length:Int),n0=n0,n0=n0,((rowI v0).drop (0+(Int.toNat (j - 1))*1)).take 1=[.int .i64 e1],Qb Try.prog (.clos 95 [] [.rptr [.clos 93 [] [.rptr [.rptr [.rsl (rowS r.seats) 0 r.seats.length,.rsl (rowP r.feet) 0 r.feet.length,.int .i64 r.frame,.int .i64 r.c.x,.int .i64 r.c.y,.int .i64 r.c.z,.int .i64 r.empty,.int .i64 r.full,.rsl (Qq (Qa r.feet)) 0 ((Qa r.feet).length),.int .i64 (Qe r)] 0] 0,.rptr [.int .i64 ln] 0,.rptr [.int .i64 ph] 0]] 0]) [.int .i64 e,.int .i64 e1] (.int .i64 (Qx r ph ln e1 - Qx r ph ln e)),(decide ((Qx r ph ln e1 - Qx r ph ln e)<0))=true,InR .i64 (j - 1),InR .i64 (j - 1),0≤(j - 1)∧(j - 1)<(v0.length:Int),n0=n0,n0=n0,((rowI v0).drop (0+(Int.toNat (j - 1))*1)).take 1=[.int .i64 e1],0≤j∧j<(v0.length:Int),n0=n0,n0=n0,((rowI v0).drop (0+(Int.toNat j)*1)).take 1=[.int .i64 e],0≤j∧j<(v0.length:Int),n0=n0,((0+(Int.toNat j)*1)+1)≤(rowI v0).length,n0=n0,0≤(j - 1)∧(j - 1)<(v0.length:Int),n0=n0,((0+(Int.toNat (j - 1))*1)+1)≤(Xf (rowI v0) (0+(Int.toNat j)*1) [.int .i64 e1]).length,n0=n0,InR .i64 (j - 1)])
 (hg:G Try.prog E (yA Try.prog) ⟨([.sl 0 n0 0 v0.length 1,.int .i64 a,.int .i64 b,.clos 95 [] [.ptr 1 0 0],J,J,J,J,.int .i64 i,.int .i64 (j - 1)]++Js 43),[⟨true,n0,1,true,(Xf (Xf (rowI v0) (0+(Int.toNat j)*1) [.int .i64 e1]) (0+(Int.toNat (j - 1))*1) [.int .i64 e]),true⟩,⟨true,0,1,false,[.clos 93 [] [.ptr 2 0 0,.ptr 3 0 0,.ptr 4 0 0]],false⟩,⟨true,0,1,true,[.rptr [.rsl (rowS r.seats) 0 r.seats.length,.rsl (rowP r.feet) 0 r.feet.length,.int .i64 r.frame,.int .i64 r.c.x,.int .i64 r.c.y,.int .i64 r.c.z,.int .i64 r.empty,.int .i64 r.full,.rsl (Qq (Qa r.feet)) 0 ((Qa r.feet).length),.int .i64 (Qe r)] 0],false⟩,⟨true,0,1,true,[.int .i64 ln],false⟩,⟨true,0,1,true,[.int .i64 ph],false⟩]⟩):G Try.prog E (yA Try.prog) (f101S1 a b l r ln ph n0 j v0 i ) :=
 Qn (n:=400) (ds:=[]) (cs:=[]) (live:=[0,1,2,3,8,9]) (m:=5) (evs:=[.b true,.ld (.int .i64 e),.ld (.int .i64 e1),.v (.int .i64 (Qx r ph ln e1 - Qx r ph ln e)),.b true,.ld (.int .i64 e1),.ld (.int .i64 e),.stop]) (obs:=_) hE.kind (hE.nogh (by kernel_rfl)) Qj (by kernel_rfl) ho hg
theorem p101_1_1 (a:Int) (b:Int) (l:List Int) (r:Rg) (ln ph:Int) (n0:Nat) (j:Int) (v0:List Int) (i:Int) (e:Int) (e1:Int) {E:Env} {rv:AV} {bs2:List Blk} (hE:LentE Try.prog 101 [.sl 4 0 0 0 1] rv bs2 E) (ho:AllP [(decide (j > a))=true,0≤j∧j<(v0.length:Int),n0=n0,n0=n0,((rowI v0).drop (0+(Int.toNat j)*1)).take 1=[.int .i64 e],InR .i64 (j - 1),0≤(j - 1)∧(j - 1)<(v0.length:Int),n0=n0,n0=n0,((rowI v0).drop (0+(Int.toNat (j - 1))*1)).take 1=[.int .i64 e1],Qb Try.prog (.clos 95 [] [.rptr [.clos 93 [] [.rptr [.rptr [.rsl (rowS r.seats) 0 r.seats.length,.rsl (rowP r.feet) 0 r.feet.length,.int .i64 r.frame,.int .i64 r.c.x,.int .i64 r.c.y,.int .i64 r.c.z,.int .i64 r.empty,.int .i64 r.full,.rsl (Qq (Qa r.feet)) 0 ((Qa r.feet).length),.int .i64 (Qe r)] 0] 0,.rptr [.int .i64 ln] 0,.rptr [.int .i64 ph] 0]] 0]) [.int .i64 e,.int .i64 e1] (.int .i64 (Qx r ph ln e1 - Qx r ph ln e)),(decide ((Qx r ph ln e1 - Qx r ph ln e)<0))=false,InR .i64 (i+1)])
 (hg:G Try.prog E (yB Try.prog) ⟨([.sl 0 n0 0 v0.length 1,.int .i64 a,.int .i64 b,.clos 95 [] [.ptr 1 0 0],J,J,J,J,.int .i64 (i+1)]++Js 44),[⟨true,n0,1,true,(rowI v0),true⟩,⟨true,0,1,false,[.clos 93 [] [.ptr 2 0 0,.ptr 3 0 0,.ptr 4 0 0]],false⟩,⟨true,0,1,true,[.rptr [.rsl (rowS r.seats) 0 r.seats.length,.rsl (rowP r.feet) 0 r.feet.length,.int .i64 r.frame,.int .i64 r.c.x,.int .i64 r.c.y,.int .i64 r.c.z,.int .i64 r.empty,.int .i64 r.full,.rsl (Qq (Qa r.feet)) 0 ((Qa r.feet).length),.int .i64 (Qe r)] 0],false⟩,⟨true,0,1,true,[.int .i64 ln],false⟩,⟨true,0,1,true,[.int .i64 ph],false⟩]⟩):G Try.prog E (yA Try.prog) (f101S1 a b l r ln ph n0 j v0 i ) :=
 Qn (n:=400) (ds:=[]) (cs:=[]) (live:=[0,1,2,3,8]) (m:=5) (evs:=[.b true,.ld (.int .i64 e),.ld (.int .i64 e1),.v (.int .i64 (Qx r ph ln e1 - Qx r ph ln e)),.b false,.stop]) (obs:=_) hE.kind (hE.nogh (by kernel_rfl)) Qj (by kernel_rfl) ho hg
theorem p101_1_2 (a:Int) (b:Int) (l:List Int) (r:Rg) (ln ph:Int) (n0:Nat) (j:Int) (v0:List Int) (i:Int) {E:Env} {rv:AV} {bs2:List Blk} (hE:LentE Try.prog 101 [.sl 4 0 0 0 1] rv bs2 E) (ho:AllP [(decide (j > a))=false,false=false,InR .i64 (i+1)])
 (hg:G Try.prog E (yB Try.prog) ⟨([.sl 0 n0 0 v0.length 1,.int .i64 a,.int .i64 b,.clos 95 [] [.ptr 1 0 0],J,J,J,J,.int .i64 (i+1)]++Js 44),[⟨true,n0,1,true,(rowI v0),true⟩,⟨true,0,1,false,[.clos 93 [] [.ptr 2 0 0,.ptr 3 0 0,.ptr 4 0 0]],false⟩,⟨true,0,1,true,[.rptr [.rsl (rowS r.seats) 0 r.seats.length,.rsl (rowP r.feet) 0 r.feet.length,.int .i64 r.frame,.int .i64 r.c.x,.int .i64 r.c.y,.int .i64 r.c.z,.int .i64 r.empty,.int .i64 r.full,.rsl (Qq (Qa r.feet)) 0 ((Qa r.feet).length),.int .i64 (Qe r)] 0],false⟩,⟨true,0,1,true,[.int .i64 ln],false⟩,⟨true,0,1,true,[.int .i64 ph],false⟩]⟩):G Try.prog E (yA Try.prog) (f101S1 a b l r ln ph n0 j v0 i ) :=
 Qn (n:=400) (ds:=[]) (cs:=[]) (live:=[0,1,2,3,8]) (m:=5) (evs:=[.b false,.b false,.stop]) (obs:=_) hE.kind (hE.nogh (by kernel_rfl)) Qj (by kernel_rfl) ho hg
theorem f101W1 (a:Int) (b:Int) (l:List Int) (r:Rg) (ln ph:Int) (n0:Nat) (j:Int) (v0:List Int) (i:Int) {E:Env} {rv:Unit} {lo:List Int} (hE:LentE Try.prog 101 [.sl 4 0 0 0 1] (.tup []) [⟨true,n0,1,true,(rowI lo),true⟩,⟨true,0,1,false,[.clos 93 [] [.ptr 2 0 0,.ptr 3 0 0,.ptr 4 0 0]],false⟩,⟨true,0,1,true,[.rptr [.rsl (rowS r.seats) 0 r.seats.length,.rsl (rowP r.feet) 0 r.feet.length,.int .i64 r.frame,.int .i64 r.c.x,.int .i64 r.c.y,.int .i64 r.c.z,.int .i64 r.empty,.int .i64 r.full,.rsl (Qq (Qa r.feet)) 0 ((Qa r.feet).length),.int .i64 (Qe r)] 0],false⟩,⟨true,0,1,true,[.int .i64 ln],false⟩,⟨true,0,1,true,[.int .i64 ph],false⟩] E)
 (h:((j > a→(0≤j∧(∃ e:Int,v0[Int.toNat j]?=some e∧((I6 (j - 1))∧(0≤(j - 1)∧(∃ e1:Int,v0[Int.toNat (j - 1)]?=some e1∧((Xq r ph ln∧(0≤e∧e<r.seats.length)∧(0≤e1∧e1<r.seats.length))∧(((Qx r ph ln e1 - Qx r ph ln e)<0→((I6 (j - 1))∧((I6 (j - 1))∧(0≤(j - 1)∧(∃ e2:Int,(v0.set (Int.toNat j) e1)[Int.toNat (j - 1)]?=some e2∧((I6 (j - 1))∧f101G1 E a b l r ln ph n0 (j - 1) ((v0.set (Int.toNat j) e1).set (Int.toNat (j - 1)) e) i))))))∧(¬ ((Qx r ph ln e1 - Qx r ph ln e)<0)→((I6 (i+1))∧yC E a b l r ln ph n0 v0 (i+1)))))))))))∧(¬ (j > a)→((I6 (i+1))∧yC E a b l r ln ph n0 v0 (i+1))))):f101G1 E a b l r ln ph n0 j v0 i:=by
 rcases bft (decide (j > a)) with hc0 | hc0
 · have h:=h.1 (odt hc0)
   obtain ⟨h2,h⟩:=h
   obtain ⟨e,h1,h⟩:=h
   obtain ⟨q6_1,h⟩:=h
   obtain ⟨h4,h⟩:=h
   obtain ⟨e1,h3,h⟩:=h
   obtain ⟨h5,h⟩:=h
   rcases bft (decide ((Qx r ph ln e1 - Qx r ph ln e)<0)) with hc1 | hc1
   · have h:=h.1 (odt hc1)
     obtain ⟨q14_2,h⟩:=h
     obtain ⟨q15_2,h⟩:=h
     obtain ⟨h7,h⟩:=h
     obtain ⟨e2,h6,h⟩:=h
     obtain ⟨q33_2,h⟩:=h
     refine p101_1_0 a b l r ln ph n0 j v0 i e e1 e2 hE ⟨hc0,(Xh h2 h1),rfl,rfl,(rp cI 1 0 1 h1),q6_1,(Xh h4 h3),rfl,rfl,(rp cI 1 0 1 h3),(u95 (cmp_ok r ph ln e e1 h5)),hc1,q14_2,q15_2,(Xh h4 h3),rfl,rfl,(rp cI 1 0 1 h3),(Xh h2 h1),rfl,rfl,(rp cI 1 0 1 h1),(Xh h2 h1),rfl,(rf cI 1 0 1 h1),rfl,(by have hx:=Xh h7 h6; simpa using hx),rfl,(by rw [(show Xf (rowI v0) (0+(Int.toNat j)*1) [.int .i64 e1]=rowI (v0.set (Int.toNat j) e1) from XR cI (s:=1) (k:=0) (fun _=>rfl) h1 rfl (by first | decide | simp))]; exact rf cI 1 0 1 h6),rfl,q33_2,trivial⟩ ?_
     have h:=h
     simp only [f101G1,f101S1,List.length_set] at h
     rw [(show Xf (rowI v0) (0+(Int.toNat j)*1) [.int .i64 e1]=rowI (v0.set (Int.toNat j) e1) from XR cI (s:=1) (k:=0) (fun _=>rfl) h1 rfl (by first | decide | simp))]; rw [(show Xf (rowI (v0.set (Int.toNat j) e1)) (0+(Int.toNat (j - 1))*1) [.int .i64 e]=rowI ((v0.set (Int.toNat j) e1).set (Int.toNat (j - 1)) e) from XR cI (s:=1) (k:=0) (fun _=>rfl) h6 rfl (by first | decide | simp))]
     exact h
   · have h:=h.2 (odf hc1)
     obtain ⟨q14_2,h⟩:=h
     exact p101_1_1 a b l r ln ph n0 j v0 i e e1 hE ⟨hc0,(Xh h2 h1),rfl,rfl,(rp cI 1 0 1 h1),q6_1,(Xh h4 h3),rfl,rfl,(rp cI 1 0 1 h3),(u95 (cmp_ok r ph ln e e1 h5)),hc1,q14_2,trivial⟩ h
 · have h:=h.2 (odf hc0)
   obtain ⟨q2_1,h⟩:=h
   exact p101_1_2 a b l r ln ph n0 j v0 i hE ⟨hc0,rfl,q2_1,trivial⟩ h
theorem swap_mem {l:List Int} {d:Nat} {e e1 x:Int} (h1:l[d+1]?=some e) (h2:l[d]?=some e1) (h:x ∈ (l.set (d+1) e1).set d e):x ∈ l:=by
 rcases List.mem_or_eq_of_mem_set h with h | rfl
 · rcases List.mem_or_eq_of_mem_set h with h | rfl
   · exact h
   · exact List.mem_of_getElem? h2
 · exact List.mem_of_getElem? h1
theorem yS {lt:Int→Int→Bool}:∀ {d:Nat} {l:List Int},(sink lt d l).length=l.length
 | 0,l=>rfl
 | d+1,l=>by
  simp only [sink]
  split
  · split
    · rw [yS]; simp
    · rfl
  · rfl
theorem qd {lt:Int→Int→Bool} {l:List Int}:(XQ lt l).length=l.length:=by
 have:∀ (xs:List Nat) (l:List Int),(xs.foldl (fun l k=>sink lt (k+1) l) l).length=l.length:=by
  intro xs
  induction xs with
  | nil=>intro l; rfl
  | cons x xs ih=>intro l; rw [List.foldl_cons,ih,yS]
 exact this _ _
theorem sink_mem {lt:Int→Int→Bool}:∀ {d:Nat} {l:List Int} {x:Int},x ∈ sink lt d l→x ∈ l
 | 0,l,x,h=>h
 | d+1,l,x,h=>by
  simp only [sink] at h
  split at h
  · rename_i e e1 h1 h2
    split at h
    · exact swap_mem h1 h2 (sink_mem h)
    · exact h
  · exact h
theorem ins_all (l:List Int) (r:Rg) (ln ph:Int) (n0:Nat) (hm:Xq r ph ln) (hk:∀ x ∈ l,0≤x∧x<(r.seats.length:Int)) (hl:l.length≤1000) :
 Lent Try.prog 101 [.sl 0 n0 0 l.length 1,.int .i64 0,.int .i64 (l.length:Int),.clos 95 [] [.ptr 1 0 0]] [⟨true,n0,1,true,rowI l,true⟩,⟨true,0,1,false,[.clos 93 [] [.ptr 2 0 0,.ptr 3 0 0,.ptr 4 0 0]],false⟩,⟨true,0,1,true,[rigV r],false⟩,⟨true,0,1,true,[.int .i64 ln],false⟩,⟨true,0,1,true,[.int .i64 ph],false⟩] (.tup []) [⟨true,n0,1,true,rowI (XQ (ltT r ph ln) l),true⟩,⟨true,0,1,false,[.clos 93 [] [.ptr 2 0 0,.ptr 3 0 0,.ptr 4 0 0]],false⟩,⟨true,0,1,true,[rigV r],false⟩,⟨true,0,1,true,[.int .i64 ln],false⟩,⟨true,0,1,true,[.int .i64 ph],false⟩]:=by
 refine lent_of _ Try.func101 f101b rfl rfl fun E hE=>?_
 have inner:∀ (d:Nat) (l':List Int) (j i:Int),j=d→(∀ x ∈ l',0≤x∧x<(r.seats.length:Int))→d<l'.length→l'.length≤1000→(0≤i∧i≤1000)→yC E 0 (l.length:Int) l r ln ph n0 (sink (ltT r ph ln) d l') (i+1)→f101G1 E 0 (l.length:Int) l r ln ph n0 j l' i:=by
  intro d
  induction d with
  | zero =>
   intro l' j i hj hk hd hl hi hg
   exact f101W1 0 _ l r ln ph n0 j l' i (rv:=()) hE ⟨fun h=>by omega,fun _=>⟨by omega,hg⟩⟩
  | succ d ih =>
   intro l' j i hj hk hd hl hi hg
   have h1:l'[d+1]?=some l'[d+1]:=List.getElem?_eq_getElem hd
   have h2:l'[d]?=some l'[d]:=List.getElem?_eq_getElem (by omega)
   have e1:Int.toNat j=d+1:=by omega
   have e2:Int.toNat (j - 1)=d:=by omega
   have k1:=hk _ (List.mem_of_getElem? h1)
   have k2:=hk _ (List.mem_of_getElem? h2)
   simp only [sink,h1,h2] at hg
   refine f101W1 0 _ l r ln ph n0 j l' i (rv:=()) hE ⟨fun _=>⟨by omega,l'[d+1],by rw [e1]; exact h1,by omega,by omega,l'[d],by rw [e2]; exact h2,⟨hm,k1,k2⟩,fun h=>⟨by omega,by omega,by omega,l'[d],?_,by omega,?_⟩,fun h=>⟨by omega,?_⟩⟩,fun h=>by omega⟩
   · rw [e1,e2,List.getElem?_set_ne (by omega)]; exact h2
   · rw [e1,e2]
     rw [if_pos (by simp only [ltT]; exact decide_eq_true h)] at hg
     refine ih _ _ i (by omega) (fun x hx=>hk x (swap_mem h1 h2 hx)) (by simp; omega) (by simp; omega) hi hg
   · rw [if_neg (by simp only [ltT]; simpa using h)] at hg
     exact hg
 have outer:∀ (m k:Nat) (l':List Int),(k+1)+m=l.length→l'=(List.range k).foldl (fun l k=>sink (ltT r ph ln) (k+1) l) l→l'.length=l.length→(∀ x ∈ l',0≤x∧x<(r.seats.length:Int))→yC E 0 (l.length:Int) l r ln ph n0 l' (0+1+(k:Int)):=by
  intro m
  induction m with
  | zero =>
   intro k l' hkm hl' hlen hk'
   refine f101W0 0 _ l r ln ph n0 l' _ (rv:=()) hE ⟨fun h=>by omega,fun _=>?_⟩
   rw [hl',XQ]; congr 2; omega
  | succ m ih =>
   intro k l' hkm hl' hlen hk'
   refine f101W0 0 _ l r ln ph n0 l' _ (rv:=()) hE ⟨fun _=>inner (k+1) l' _ _ (by omega) hk' (by omega) (by omega) (by omega) ?_,fun h=>by omega⟩
   have:=ih (k+1) (sink (ltT r ph ln) (k+1) l') (by omega) (by rw [List.range_succ,List.foldl_append,← hl']; rfl) (by rw [yS]; exact hlen) (fun x hx=>hk' x (sink_mem hx))
   have e:(0+1+(k:Int)+1)=0+1+((k+1:Nat):Int):=by omega
   rw [e]; exact this
 refine f101W 0 _ l r ln ph n0 (rv:=()) hE ⟨by omega,?_⟩
 by_cases h0:l.length=0
 · refine f101W0 0 _ l r ln ph n0 l _ (rv:=()) hE ⟨fun h=>by omega,fun _=>?_⟩
   rw [XQ,h0]; rfl
 · exact outer (l.length - 1) 0 l (by omega) rfl rfl hk
theorem ins_ok (l:List Int) (r:Rg) (ln ph:Int) (n0:Nat) (a b:Int) (h:(Xq r ph ln∧∀ x ∈ l,0≤x∧x<(r.seats.length:Int))∧l.length≤20∧a=0∧b=(l.length:Int)) :
 Lent Try.prog 101 [.sl 0 n0 0 l.length 1,.int .i64 a,.int .i64 b,.clos 95 [] [.ptr 1 0 0]] [⟨true,n0,1,true,rowI l,true⟩,⟨true,0,1,false,[.clos 93 [] [.ptr 2 0 0,.ptr 3 0 0,.ptr 4 0 0]],false⟩,⟨true,0,1,true,[rigV r],false⟩,⟨true,0,1,true,[.int .i64 ln],false⟩,⟨true,0,1,true,[.int .i64 ph],false⟩] (.tup []) [⟨true,n0,1,true,rowI (XQ (ltT r ph ln) l),true⟩,⟨true,0,1,false,[.clos 93 [] [.ptr 2 0 0,.ptr 3 0 0,.ptr 4 0 0]],false⟩,⟨true,0,1,true,[rigV r],false⟩,⟨true,0,1,true,[.int .i64 ln],false⟩,⟨true,0,1,true,[.int .i64 ph],false⟩]:=by
 obtain ⟨h1,h2,rfl,rfl⟩:=h
 exact ins_all l r ln ph n0 h1.1 h1.2 (by omega)
theorem f100b:Try.f100.body=some (Qd Try.prog 100):=by kernel_rfl
def f100K0 (P:Program):List Item:=kAt 400 [.code (Qd P 100)] [.stop]
def f100S0 (n:Int) (l:List Int) (r:Rg) (ln ph:Int) (n0:Nat) (a:Nat) (b:Nat) (v0:List Int):St:=⟨([.sl 0 n0 0 v0.length 1,.int .i64 n,.clos 95 [] [.ptr 1 0 0],J,J,J,.int .i64 20,.int .i64 (a:Int),.int .i64 (b:Int)]++Js 54),[⟨true,n0,1,true,(rowI v0),true⟩,⟨true,0,1,false,[.clos 93 [] [.ptr 2 0 0,.ptr 3 0 0,.ptr 4 0 0]],false⟩,⟨true,0,1,true,[.rptr [.rsl (rowS r.seats) 0 r.seats.length,.rsl (rowP r.feet) 0 r.feet.length,.int .i64 r.frame,.int .i64 r.c.x,.int .i64 r.c.y,.int .i64 r.c.z,.int .i64 r.empty,.int .i64 r.full,.rsl (Qq (Qa r.feet)) 0 ((Qa r.feet).length),.int .i64 (Qe r)] 0],false⟩,⟨true,0,1,true,[.int .i64 ln],false⟩,⟨true,0,1,true,[.int .i64 ph],false⟩]⟩
def f100G0 (E:Env) (n:Int) (l:List Int) (r:Rg) (ln ph:Int) (n0:Nat) (a:Nat) (b:Nat) (v0:List Int):Prop:=G Try.prog E (f100K0 Try.prog) (f100S0 n l r ln ph n0 a b v0 )
def f100K1 (P:Program):List Item:=kAt 400 [.code (Qd P 100)] [.b false,.stop]
def f100S1 (n:Int) (l:List Int) (r:Rg) (ln ph:Int) (n0:Nat) (v0:List Int) (blockSize:Int):St:=⟨([.sl 0 n0 0 v0.length 1,.int .i64 n,.clos 95 [] [.ptr 1 0 0],J,J,J,.int .i64 blockSize]++Js 56),[⟨true,n0,1,true,(rowI v0),true⟩,⟨true,0,1,false,[.clos 93 [] [.ptr 2 0 0,.ptr 3 0 0,.ptr 4 0 0]],false⟩,⟨true,0,1,true,[.rptr [.rsl (rowS r.seats) 0 r.seats.length,.rsl (rowP r.feet) 0 r.feet.length,.int .i64 r.frame,.int .i64 r.c.x,.int .i64 r.c.y,.int .i64 r.c.z,.int .i64 r.empty,.int .i64 r.full,.rsl (Qq (Qa r.feet)) 0 ((Qa r.feet).length),.int .i64 (Qe r)] 0],false⟩,⟨true,0,1,true,[.int .i64 ln],false⟩,⟨true,0,1,true,[.int .i64 ph],false⟩]⟩
def f100G1 (E:Env) (n:Int) (l:List Int) (r:Rg) (ln ph:Int) (n0:Nat) (v0:List Int) (blockSize:Int):Prop:=G Try.prog E (f100K1 Try.prog) (f100S1 n l r ln ph n0 v0 blockSize )
def f100K2 (P:Program):List Item:=kAt 400 [.code (Qd P 100)] [.b false,.b true,.stop]
def f100S2 (n:Int) (l:List Int) (r:Rg) (ln ph:Int) (n0:Nat) (v0:List Int) (blockSize:Int) (b:Int):St:=⟨([.sl 0 n0 0 v0.length 1,.int .i64 n,.clos 95 [] [.ptr 1 0 0],J,J,J,.int .i64 blockSize,.int .i64 0,.int .i64 b]++Js 54),[⟨true,n0,1,true,(rowI v0),true⟩,⟨true,0,1,false,[.clos 93 [] [.ptr 2 0 0,.ptr 3 0 0,.ptr 4 0 0]],false⟩,⟨true,0,1,true,[.rptr [.rsl (rowS r.seats) 0 r.seats.length,.rsl (rowP r.feet) 0 r.feet.length,.int .i64 r.frame,.int .i64 r.c.x,.int .i64 r.c.y,.int .i64 r.c.z,.int .i64 r.empty,.int .i64 r.full,.rsl (Qq (Qa r.feet)) 0 ((Qa r.feet).length),.int .i64 (Qe r)] 0],false⟩,⟨true,0,1,true,[.int .i64 ln],false⟩,⟨true,0,1,true,[.int .i64 ph],false⟩]⟩
def f100G2 (E:Env) (n:Int) (l:List Int) (r:Rg) (ln ph:Int) (n0:Nat) (v0:List Int) (blockSize:Int) (b:Int):Prop:=G Try.prog E (f100K2 Try.prog) (f100S2 n l r ln ph n0 v0 blockSize b )
theorem p100_start_0 (n:Int) (l:List Int) (r:Rg) (ln ph:Int) (n0:Nat) {E:Env} {rv:AV} {bs2:List Blk} (hE:LentE Try.prog 100 [.sl 4 0 0 0 1] rv bs2 E) (ho:AllP [])
 (hg:G Try.prog E (f100K0 Try.prog) ⟨([.sl 0 n0 0 l.length 1,.int .i64 n,.clos 95 [] [.ptr 1 0 0],J,J,J,.int .i64 20,.int .i64 0,.int .i64 20]++Js 54),[⟨true,n0,1,true,(rowI l),true⟩,⟨true,0,1,false,[.clos 93 [] [.ptr 2 0 0,.ptr 3 0 0,.ptr 4 0 0]],false⟩,⟨true,0,1,true,[.rptr [.rsl (rowS r.seats) 0 r.seats.length,.rsl (rowP r.feet) 0 r.feet.length,.int .i64 r.frame,.int .i64 r.c.x,.int .i64 r.c.y,.int .i64 r.c.z,.int .i64 r.empty,.int .i64 r.full,.rsl (Qq (Qa r.feet)) 0 ((Qa r.feet).length),.int .i64 (Qe r)] 0],false⟩,⟨true,0,1,true,[.int .i64 ln],false⟩,⟨true,0,1,true,[.int .i64 ph],false⟩]⟩):G Try.prog E [.code (Qd Try.prog 100)] ⟨[.sl 0 n0 0 l.length 1,.int .i64 n,.clos 95 [] [.ptr 1 0 0]]++unds (Try.f100.ntmps - 3),[⟨true,n0,1,true,(rowI l),true⟩,⟨true,0,1,false,[.clos 93 [] [.ptr 2 0 0,.ptr 3 0 0,.ptr 4 0 0]],false⟩,⟨true,0,1,true,[.rptr [.rsl (rowS r.seats) 0 r.seats.length,.rsl (rowP r.feet) 0 r.feet.length,.int .i64 r.frame,.int .i64 r.c.x,.int .i64 r.c.y,.int .i64 r.c.z,.int .i64 r.empty,.int .i64 r.full,.rsl (Qq (Qa r.feet)) 0 ((Qa r.feet).length),.int .i64 (Qe r)] 0],false⟩,⟨true,0,1,true,[.int .i64 ln],false⟩,⟨true,0,1,true,[.int .i64 ph],false⟩]⟩ :=
 Qn (n:=400) (ds:=[]) (cs:=[]) (live:=[0,1,2,6,7,8]) (m:=5) (evs:=[.stop]) (obs:=_) hE.kind (hE.nogh (by kernel_rfl)) Qj (by kernel_rfl) ho hg
theorem f100W (n:Int) (l:List Int) (r:Rg) (ln ph:Int) (n0:Nat) {E:Env} {rv:Unit} {lo:List Int} (hE:LentE Try.prog 100 [.sl 4 0 0 0 1] (.tup []) [⟨true,n0,1,true,(rowI lo),true⟩,⟨true,0,1,false,[.clos 93 [] [.ptr 2 0 0,.ptr 3 0 0,.ptr 4 0 0]],false⟩,⟨true,0,1,true,[.rptr [.rsl (rowS r.seats) 0 r.seats.length,.rsl (rowP r.feet) 0 r.feet.length,.int .i64 r.frame,.int .i64 r.c.x,.int .i64 r.c.y,.int .i64 r.c.z,.int .i64 r.empty,.int .i64 r.full,.rsl (Qq (Qa r.feet)) 0 ((Qa r.feet).length),.int .i64 (Qe r)] 0],false⟩,⟨true,0,1,true,[.int .i64 ln],false⟩,⟨true,0,1,true,[.int .i64 ph],false⟩] E)
 (h:f100G0 E n l r ln ph n0 0 20 l):G Try.prog E [.code (Qd Try.prog 100)] ⟨[.sl 0 n0 0 l.length 1,.int .i64 n,.clos 95 [] [.ptr 1 0 0]]++unds (Try.f100.ntmps - 3),[⟨true,n0,1,true,(rowI l),true⟩,⟨true,0,1,false,[.clos 93 [] [.ptr 2 0 0,.ptr 3 0 0,.ptr 4 0 0]],false⟩,⟨true,0,1,true,[.rptr [.rsl (rowS r.seats) 0 r.seats.length,.rsl (rowP r.feet) 0 r.feet.length,.int .i64 r.frame,.int .i64 r.c.x,.int .i64 r.c.y,.int .i64 r.c.z,.int .i64 r.empty,.int .i64 r.full,.rsl (Qq (Qa r.feet)) 0 ((Qa r.feet).length),.int .i64 (Qe r)] 0],false⟩,⟨true,0,1,true,[.int .i64 ln],false⟩,⟨true,0,1,true,[.int .i64 ph],false⟩]⟩:=by
 exact p100_start_0 n l r ln ph n0 hE trivial h
theorem p100_0_0 (n:Int) (l:List Int) (r:Rg) (ln ph:Int) (n0:Nat) (a:Nat) (b:Nat) (v0:List Int) {E:Env} {rv:AV} {bs2:List Blk} (hE:LentE Try.prog 100 [.sl 4 0 0 0 1] rv bs2 E) (ho:AllP [(decide ((b:Int)≤n))=true,LentF Try.prog (.clos 101 [] []) [.sl 0 n0 0 v0.length 1,.int .i64 (a:Int),.int .i64 (b:Int),.clos 95 [] [.ptr 1 0 0]] [⟨true,n0,1,true,(rowI v0),true⟩,⟨true,0,1,false,[.clos 93 [] [.ptr 2 0 0,.ptr 3 0 0,.ptr 4 0 0]],false⟩,⟨true,0,1,true,[.rptr [.rsl (rowS r.seats) 0 r.seats.length,.rsl (rowP r.feet) 0 r.feet.length,.int .i64 r.frame,.int .i64 r.c.x,.int .i64 r.c.y,.int .i64 r.c.z,.int .i64 r.empty,.int .i64 r.full,.rsl (Qq (Qa r.feet)) 0 ((Qa r.feet).length),.int .i64 (Qe r)] 0],false⟩,⟨true,0,1,true,[.int .i64 ln],false⟩,⟨true,0,1,true,[.int .i64 ph],false⟩] (.tup []) [⟨true,n0,1,true,(rowI (XQ (ltT r ph ln) v0)),true⟩,⟨true,0,1,false,[.clos 93 [] [.ptr 2 0 0,.ptr 3 0 0,.ptr 4 0 0]],false⟩,⟨true,0,1,true,[.rptr [.rsl (rowS r.seats) 0 r.seats.length,.rsl (rowP r.feet) 0 r.feet.length,.int .i64 r.frame,.int .i64 r.c.x,.int .i64 r.c.y,.int .i64 r.c.z,.int .i64 r.empty,.int .i64 r.full,.rsl (Qq (Qa r.feet)) 0 ((Qa r.feet).length),.int .i64 (Qe r)] 0],false⟩,⟨true,0,1,true,[.int .i64 ln],false⟩,⟨true,0,1,true,[.int .i64 ph],false⟩],InR .i64 ((b:Int)+20)])
 (hg:G Try.prog E (f100K0 Try.prog) ⟨([.sl 0 n0 0 v0.length 1,.int .i64 n,.clos 95 [] [.ptr 1 0 0],J,J,J,.int .i64 20,.int .i64 (b:Int),.int .i64 ((b:Int)+20)]++Js 54),[⟨true,n0,1,true,(rowI (XQ (ltT r ph ln) v0)),true⟩,⟨true,0,1,false,[.clos 93 [] [.ptr 2 0 0,.ptr 3 0 0,.ptr 4 0 0]],false⟩,⟨true,0,1,true,[.rptr [.rsl (rowS r.seats) 0 r.seats.length,.rsl (rowP r.feet) 0 r.feet.length,.int .i64 r.frame,.int .i64 r.c.x,.int .i64 r.c.y,.int .i64 r.c.z,.int .i64 r.empty,.int .i64 r.full,.rsl (Qq (Qa r.feet)) 0 ((Qa r.feet).length),.int .i64 (Qe r)] 0],false⟩,⟨true,0,1,true,[.int .i64 ln],false⟩,⟨true,0,1,true,[.int .i64 ph],false⟩]⟩):G Try.prog E (f100K0 Try.prog) (f100S0 n l r ln ph n0 a b v0 ) :=
 Qn (n:=400) (ds:=[]) (cs:=[]) (live:=[0,1,2,6,7,8]) (m:=5) (evs:=[.b true,.lent [0,1,2,3,4] (.tup []) [⟨true,n0,1,true,(rowI (XQ (ltT r ph ln) v0)),true⟩,⟨true,0,1,false,[.clos 93 [] [.ptr 2 0 0,.ptr 3 0 0,.ptr 4 0 0]],false⟩,⟨true,0,1,true,[.rptr [.rsl (rowS r.seats) 0 r.seats.length,.rsl (rowP r.feet) 0 r.feet.length,.int .i64 r.frame,.int .i64 r.c.x,.int .i64 r.c.y,.int .i64 r.c.z,.int .i64 r.empty,.int .i64 r.full,.rsl (Qq (Qa r.feet)) 0 ((Qa r.feet).length),.int .i64 (Qe r)] 0],false⟩,⟨true,0,1,true,[.int .i64 ln],false⟩,⟨true,0,1,true,[.int .i64 ph],false⟩],.stop]) (obs:=_) hE.kind (hE.nogh (by kernel_rfl)) Qj (by kernel_rfl) ho hg
theorem p100_0_1 (n:Int) (l:List Int) (r:Rg) (ln ph:Int) (n0:Nat) (a:Nat) (b:Nat) (v0:List Int) {E:Env} {rv:AV} {bs2:List Blk} (hE:LentE Try.prog 100 [.sl 4 0 0 0 1] rv bs2 E) (ho:AllP [(decide ((b:Int)≤n))=false,LentF Try.prog (.clos 101 [] []) [.sl 0 n0 0 v0.length 1,.int .i64 (a:Int),.int .i64 n,.clos 95 [] [.ptr 1 0 0]] [⟨true,n0,1,true,(rowI v0),true⟩,⟨true,0,1,false,[.clos 93 [] [.ptr 2 0 0,.ptr 3 0 0,.ptr 4 0 0]],false⟩,⟨true,0,1,true,[.rptr [.rsl (rowS r.seats) 0 r.seats.length,.rsl (rowP r.feet) 0 r.feet.length,.int .i64 r.frame,.int .i64 r.c.x,.int .i64 r.c.y,.int .i64 r.c.z,.int .i64 r.empty,.int .i64 r.full,.rsl (Qq (Qa r.feet)) 0 ((Qa r.feet).length),.int .i64 (Qe r)] 0],false⟩,⟨true,0,1,true,[.int .i64 ln],false⟩,⟨true,0,1,true,[.int .i64 ph],false⟩] (.tup []) [⟨true,n0,1,true,(rowI (XQ (ltT r ph ln) v0)),true⟩,⟨true,0,1,false,[.clos 93 [] [.ptr 2 0 0,.ptr 3 0 0,.ptr 4 0 0]],false⟩,⟨true,0,1,true,[.rptr [.rsl (rowS r.seats) 0 r.seats.length,.rsl (rowP r.feet) 0 r.feet.length,.int .i64 r.frame,.int .i64 r.c.x,.int .i64 r.c.y,.int .i64 r.c.z,.int .i64 r.empty,.int .i64 r.full,.rsl (Qq (Qa r.feet)) 0 ((Qa r.feet).length),.int .i64 (Qe r)] 0],false⟩,⟨true,0,1,true,[.int .i64 ln],false⟩,⟨true,0,1,true,[.int .i64 ph],false⟩]])
 (hg:G Try.prog E (f100K1 Try.prog) ⟨([.sl 0 n0 0 v0.length 1,.int .i64 n,.clos 95 [] [.ptr 1 0 0],J,J,J,.int .i64 20]++Js 56),[⟨true,n0,1,true,(rowI (XQ (ltT r ph ln) v0)),true⟩,⟨true,0,1,false,[.clos 93 [] [.ptr 2 0 0,.ptr 3 0 0,.ptr 4 0 0]],false⟩,⟨true,0,1,true,[.rptr [.rsl (rowS r.seats) 0 r.seats.length,.rsl (rowP r.feet) 0 r.feet.length,.int .i64 r.frame,.int .i64 r.c.x,.int .i64 r.c.y,.int .i64 r.c.z,.int .i64 r.empty,.int .i64 r.full,.rsl (Qq (Qa r.feet)) 0 ((Qa r.feet).length),.int .i64 (Qe r)] 0],false⟩,⟨true,0,1,true,[.int .i64 ln],false⟩,⟨true,0,1,true,[.int .i64 ph],false⟩]⟩):G Try.prog E (f100K0 Try.prog) (f100S0 n l r ln ph n0 a b v0 ) :=
 Qn (n:=400) (ds:=[]) (cs:=[]) (live:=[0,1,2,6]) (m:=5) (evs:=[.b false,.lent [0,1,2,3,4] (.tup []) [⟨true,n0,1,true,(rowI (XQ (ltT r ph ln) v0)),true⟩,⟨true,0,1,false,[.clos 93 [] [.ptr 2 0 0,.ptr 3 0 0,.ptr 4 0 0]],false⟩,⟨true,0,1,true,[.rptr [.rsl (rowS r.seats) 0 r.seats.length,.rsl (rowP r.feet) 0 r.feet.length,.int .i64 r.frame,.int .i64 r.c.x,.int .i64 r.c.y,.int .i64 r.c.z,.int .i64 r.empty,.int .i64 r.full,.rsl (Qq (Qa r.feet)) 0 ((Qa r.feet).length),.int .i64 (Qe r)] 0],false⟩,⟨true,0,1,true,[.int .i64 ln],false⟩,⟨true,0,1,true,[.int .i64 ph],false⟩],.stop]) (obs:=_) hE.kind (hE.nogh (by kernel_rfl)) Qj (by kernel_rfl) ho hg
theorem f100W0 (n:Int) (l:List Int) (r:Rg) (ln ph:Int) (n0:Nat) (a:Nat) (b:Nat) (v0:List Int) {E:Env} {rv:Unit} {lo:List Int} (hE:LentE Try.prog 100 [.sl 4 0 0 0 1] (.tup []) [⟨true,n0,1,true,(rowI lo),true⟩,⟨true,0,1,false,[.clos 93 [] [.ptr 2 0 0,.ptr 3 0 0,.ptr 4 0 0]],false⟩,⟨true,0,1,true,[.rptr [.rsl (rowS r.seats) 0 r.seats.length,.rsl (rowP r.feet) 0 r.feet.length,.int .i64 r.frame,.int .i64 r.c.x,.int .i64 r.c.y,.int .i64 r.c.z,.int .i64 r.empty,.int .i64 r.full,.rsl (Qq (Qa r.feet)) 0 ((Qa r.feet).length),.int .i64 (Qe r)] 0],false⟩,⟨true,0,1,true,[.int .i64 ln],false⟩,⟨true,0,1,true,[.int .i64 ph],false⟩] E)
 (h:(((b:Int)≤n→(((Xq r ph ln∧∀ x ∈ v0,0≤x∧x<(r.seats.length:Int))∧v0.length≤20∧(a:Int)=0∧(b:Int)=(v0.length:Int))∧((I6 ((b:Int)+20))∧f100G0 E n l r ln ph n0 b (b+20) (XQ (ltT r ph ln) v0))))∧(¬ ((b:Int)≤n)→(((Xq r ph ln∧∀ x ∈ v0,0≤x∧x<(r.seats.length:Int))∧v0.length≤20∧(a:Int)=0∧n=(v0.length:Int))∧f100G1 E n l r ln ph n0 (XQ (ltT r ph ln) v0) 20)))):f100G0 E n l r ln ph n0 a b v0:=by
 rcases bft (decide ((b:Int)≤n)) with hc0 | hc0
 · have h:=h.1 (odt hc0)
   obtain ⟨h1,h⟩:=h
   obtain ⟨q2_1,h⟩:=h
   refine p100_0_0 n l r ln ph n0 a b v0 hE ⟨hc0,(WS Try.func101 (by kernel_rfl) f101b (ins_ok v0 r ln ph n0 (a:Int) (b:Int) h1)),q2_1,trivial⟩ ?_
   have h:=h
   simp only [f100G0,f100S0,List.length_set,qd] at h
   skip
   exact h
 · have h:=h.2 (odf hc0)
   obtain ⟨h1,h⟩:=h
   refine p100_0_1 n l r ln ph n0 a b v0 hE ⟨hc0,(WS Try.func101 (by kernel_rfl) f101b (ins_ok v0 r ln ph n0 (a:Int) n h1)),trivial⟩ ?_
   have h:=h
   simp only [f100G1,f100S1,List.length_set,qd] at h
   skip
   exact h
theorem p100_1_0 (n:Int) (l:List Int) (r:Rg) (ln ph:Int) (n0:Nat) (v0:List Int) (blockSize:Int) {E:Env} {rv:AV} {bs2:List Blk} (hE:LentE Try.prog 100 [.sl 4 0 0 0 1] rv bs2 E) (ho:AllP [(decide (blockSize<n))=true,InR .i64 (2*blockSize)])
 (hg:G Try.prog E (f100K2 Try.prog) ⟨([.sl 0 n0 0 v0.length 1,.int .i64 n,.clos 95 [] [.ptr 1 0 0],J,J,J,.int .i64 blockSize,.int .i64 0,.int .i64 (2*blockSize)]++Js 54),[⟨true,n0,1,true,(rowI v0),true⟩,⟨true,0,1,false,[.clos 93 [] [.ptr 2 0 0,.ptr 3 0 0,.ptr 4 0 0]],false⟩,⟨true,0,1,true,[.rptr [.rsl (rowS r.seats) 0 r.seats.length,.rsl (rowP r.feet) 0 r.feet.length,.int .i64 r.frame,.int .i64 r.c.x,.int .i64 r.c.y,.int .i64 r.c.z,.int .i64 r.empty,.int .i64 r.full,.rsl (Qq (Qa r.feet)) 0 ((Qa r.feet).length),.int .i64 (Qe r)] 0],false⟩,⟨true,0,1,true,[.int .i64 ln],false⟩,⟨true,0,1,true,[.int .i64 ph],false⟩]⟩):G Try.prog E (f100K1 Try.prog) (f100S1 n l r ln ph n0 v0 blockSize ) :=
 Qn (n:=400) (ds:=[]) (cs:=[]) (live:=[0,1,2,6,7,8]) (m:=5) (evs:=[.b true,.stop]) (obs:=_) hE.kind (hE.nogh (by kernel_rfl)) Qj (by kernel_rfl) ho hg
theorem p100_1_1 (n:Int) (l:List Int) (r:Rg) (ln ph:Int) (n0:Nat) (v0:List Int) (blockSize:Int) {E:Env} {res:AV} {bs2:List Blk} (hE:LentE Try.prog 100 [.sl 4 0 0 0 1] res bs2 E) (ho:AllP [(decide (blockSize<n))=false])
 (hr:(.tup [])=res) (hb:[⟨true,n0,1,true,(rowI v0),true⟩,⟨true,0,1,false,[.clos 93 [] [.ptr 2 0 0,.ptr 3 0 0,.ptr 4 0 0]],false⟩,⟨true,0,1,true,[.rptr [.rsl (rowS r.seats) 0 r.seats.length,.rsl (rowP r.feet) 0 r.feet.length,.int .i64 r.frame,.int .i64 r.c.x,.int .i64 r.c.y,.int .i64 r.c.z,.int .i64 r.empty,.int .i64 r.full,.rsl (Qq (Qa r.feet)) 0 ((Qa r.feet).length),.int .i64 (Qe r)] 0],false⟩,⟨true,0,1,true,[.int .i64 ln],false⟩,⟨true,0,1,true,[.int .i64 ph],false⟩]=bs2):G Try.prog E (f100K1 Try.prog) (f100S1 n l r ln ph n0 v0 blockSize ) :=
 qE (n:=400) (live:=[]) (m:=5) (evs:=[.b false]) (obs:=_) hE (hE.nogh (by kernel_rfl)) Try.func100 Qj (by kernel_rfl) ho hr hb
theorem f100W1 (n:Int) (l:List Int) (r:Rg) (ln ph:Int) (n0:Nat) (v0:List Int) (blockSize:Int) {E:Env} {rv:Unit} {lo:List Int} (hE:LentE Try.prog 100 [.sl 4 0 0 0 1] (.tup []) [⟨true,n0,1,true,(rowI lo),true⟩,⟨true,0,1,false,[.clos 93 [] [.ptr 2 0 0,.ptr 3 0 0,.ptr 4 0 0]],false⟩,⟨true,0,1,true,[.rptr [.rsl (rowS r.seats) 0 r.seats.length,.rsl (rowP r.feet) 0 r.feet.length,.int .i64 r.frame,.int .i64 r.c.x,.int .i64 r.c.y,.int .i64 r.c.z,.int .i64 r.empty,.int .i64 r.full,.rsl (Qq (Qa r.feet)) 0 ((Qa r.feet).length),.int .i64 (Qe r)] 0],false⟩,⟨true,0,1,true,[.int .i64 ln],false⟩,⟨true,0,1,true,[.int .i64 ph],false⟩] E)
 (h:((blockSize<n→((I6 (2*blockSize))∧f100G2 E n l r ln ph n0 v0 blockSize (2*blockSize)))∧(¬ (blockSize<n)→lo=v0))):f100G1 E n l r ln ph n0 v0 blockSize:=by
 rcases bft (decide (blockSize<n)) with hc0 | hc0
 · have h:=h.1 (odt hc0)
   obtain ⟨q1_1,h⟩:=h
   exact p100_1_0 n l r ln ph n0 v0 blockSize hE ⟨hc0,q1_1,trivial⟩ h
 · have h:=h.2 (odf hc0)
   have qe0:=h
   exact p100_1_1 n l r ln ph n0 v0 blockSize hE ⟨hc0,trivial⟩ (by try rfl) (by rw [qe0]; all_goals (first | rfl | (simp only [List.length_set]; done) | (simp only [List.length_set]; rfl)))
theorem stable_ok (l:List Int) (r:Rg) (ln ph:Int) (n0:Nat) (n:Int) (h:(Xq r ph ln∧∀ x ∈ l,0≤x∧x<(r.seats.length:Int))∧l.length≤19∧n=(l.length:Int)) :
 Lent Try.prog 100 [.sl 0 n0 0 l.length 1,.int .i64 n,.clos 95 [] [.ptr 1 0 0]] [⟨true,n0,1,true,rowI l,true⟩,⟨true,0,1,false,[.clos 93 [] [.ptr 2 0 0,.ptr 3 0 0,.ptr 4 0 0]],false⟩,⟨true,0,1,true,[rigV r],false⟩,⟨true,0,1,true,[.int .i64 ln],false⟩,⟨true,0,1,true,[.int .i64 ph],false⟩] (.tup []) [⟨true,n0,1,true,rowI (XQ (ltT r ph ln) l),true⟩,⟨true,0,1,false,[.clos 93 [] [.ptr 2 0 0,.ptr 3 0 0,.ptr 4 0 0]],false⟩,⟨true,0,1,true,[rigV r],false⟩,⟨true,0,1,true,[.int .i64 ln],false⟩,⟨true,0,1,true,[.int .i64 ph],false⟩]:=by
 obtain ⟨h1,h2,rfl⟩:=h
 refine lent_of _ Try.func100 f100b rfl rfl fun E hE=>?_
 refine f100W _ l r ln ph n0 (rv:=()) hE ?_
 refine f100W0 _ l r ln ph n0 _ _ _ (rv:=()) hE ⟨fun h=>by omega,fun _=>⟨⟨h1,by omega,rfl,rfl⟩,?_⟩⟩
 exact f100W1 _ l r ln ph n0 _ _ (rv:=()) hE ⟨fun h=>by omega,fun _=>rfl⟩
theorem f94b:Try.f94.body=some (Qd Try.prog 94):=by kernel_rfl
theorem p94_start_0 (l:List Int) (r:Rg) (ln ph:Int) (n0:Nat) {E:Env} {res:AV} {bs2:List Blk} (hE:LentE Try.prog 94 [.sl 4 0 0 0 1] res bs2 E) (ho:AllP [n0=n0,LentF Try.prog (.clos 100 [] []) [.sl 0 n0 0 l.length 1,.int .i64 (l.length:Int),.clos 95 [] [.ptr 1 0 0]] [⟨true,n0,1,true,(rowI l),true⟩,⟨true,0,1,false,[.clos 93 [] [.ptr 2 0 0,.ptr 3 0 0,.ptr 4 0 0]],false⟩,⟨true,0,1,true,[.rptr [.rsl (rowS r.seats) 0 r.seats.length,.rsl (rowP r.feet) 0 r.feet.length,.int .i64 r.frame,.int .i64 r.c.x,.int .i64 r.c.y,.int .i64 r.c.z,.int .i64 r.empty,.int .i64 r.full,.rsl (Qq (Qa r.feet)) 0 ((Qa r.feet).length),.int .i64 (Qe r)] 0],false⟩,⟨true,0,1,true,[.int .i64 ln],false⟩,⟨true,0,1,true,[.int .i64 ph],false⟩] (.tup []) [⟨true,n0,1,true,(rowI (XQ (ltT r ph ln) l)),true⟩,⟨true,0,1,false,[.clos 93 [] [.ptr 2 0 0,.ptr 3 0 0,.ptr 4 0 0]],false⟩,⟨true,0,1,true,[.rptr [.rsl (rowS r.seats) 0 r.seats.length,.rsl (rowP r.feet) 0 r.feet.length,.int .i64 r.frame,.int .i64 r.c.x,.int .i64 r.c.y,.int .i64 r.c.z,.int .i64 r.empty,.int .i64 r.full,.rsl (Qq (Qa r.feet)) 0 ((Qa r.feet).length),.int .i64 (Qe r)] 0],false⟩,⟨true,0,1,true,[.int .i64 ln],false⟩,⟨true,0,1,true,[.int .i64 ph],false⟩]])
 (hr:(.tup [])=res) (hb:[⟨true,n0,1,true,(rowI (XQ (ltT r ph ln) l)),true⟩,⟨true,0,1,false,[.clos 93 [] [.ptr 2 0 0,.ptr 3 0 0,.ptr 4 0 0]],false⟩,⟨true,0,1,true,[.rptr [.rsl (rowS r.seats) 0 r.seats.length,.rsl (rowP r.feet) 0 r.feet.length,.int .i64 r.frame,.int .i64 r.c.x,.int .i64 r.c.y,.int .i64 r.c.z,.int .i64 r.empty,.int .i64 r.full,.rsl (Qq (Qa r.feet)) 0 ((Qa r.feet).length),.int .i64 (Qe r)] 0],false⟩,⟨true,0,1,true,[.int .i64 ln],false⟩,⟨true,0,1,true,[.int .i64 ph],false⟩]=bs2):G Try.prog E [.code (Qd Try.prog 94)] ⟨[.sl 0 n0 0 l.length 1,.clos 95 [] [.ptr 1 0 0]]++unds (Try.f94.ntmps - 2),[⟨true,n0,1,true,(rowI l),true⟩,⟨true,0,1,false,[.clos 93 [] [.ptr 2 0 0,.ptr 3 0 0,.ptr 4 0 0]],false⟩,⟨true,0,1,true,[.rptr [.rsl (rowS r.seats) 0 r.seats.length,.rsl (rowP r.feet) 0 r.feet.length,.int .i64 r.frame,.int .i64 r.c.x,.int .i64 r.c.y,.int .i64 r.c.z,.int .i64 r.empty,.int .i64 r.full,.rsl (Qq (Qa r.feet)) 0 ((Qa r.feet).length),.int .i64 (Qe r)] 0],false⟩,⟨true,0,1,true,[.int .i64 ln],false⟩,⟨true,0,1,true,[.int .i64 ph],false⟩]⟩ :=
 qE (n:=400) (live:=[]) (m:=5) (evs:=[.lent [0,1,2,3,4] (.tup []) [⟨true,n0,1,true,(rowI (XQ (ltT r ph ln) l)),true⟩,⟨true,0,1,false,[.clos 93 [] [.ptr 2 0 0,.ptr 3 0 0,.ptr 4 0 0]],false⟩,⟨true,0,1,true,[.rptr [.rsl (rowS r.seats) 0 r.seats.length,.rsl (rowP r.feet) 0 r.feet.length,.int .i64 r.frame,.int .i64 r.c.x,.int .i64 r.c.y,.int .i64 r.c.z,.int .i64 r.empty,.int .i64 r.full,.rsl (Qq (Qa r.feet)) 0 ((Qa r.feet).length),.int .i64 (Qe r)] 0],false⟩,⟨true,0,1,true,[.int .i64 ln],false⟩,⟨true,0,1,true,[.int .i64 ph],false⟩]]) (obs:=_) hE (hE.nogh (by kernel_rfl)) Try.func94 Qj (by kernel_rfl) ho hr hb
theorem f94W (l:List Int) (r:Rg) (ln ph:Int) (n0:Nat) {E:Env} {rv:Unit} {lo:List Int} (hE:LentE Try.prog 94 [.sl 4 0 0 0 1] (.tup []) [⟨true,n0,1,true,(rowI lo),true⟩,⟨true,0,1,false,[.clos 93 [] [.ptr 2 0 0,.ptr 3 0 0,.ptr 4 0 0]],false⟩,⟨true,0,1,true,[.rptr [.rsl (rowS r.seats) 0 r.seats.length,.rsl (rowP r.feet) 0 r.feet.length,.int .i64 r.frame,.int .i64 r.c.x,.int .i64 r.c.y,.int .i64 r.c.z,.int .i64 r.empty,.int .i64 r.full,.rsl (Qq (Qa r.feet)) 0 ((Qa r.feet).length),.int .i64 (Qe r)] 0],false⟩,⟨true,0,1,true,[.int .i64 ln],false⟩,⟨true,0,1,true,[.int .i64 ph],false⟩] E)
 (h:(((Xq r ph ln∧∀ x ∈ l,0≤x∧x<(r.seats.length:Int))∧l.length≤19∧(l.length:Int)=(l.length:Int))∧lo=(XQ (ltT r ph ln) l))):G Try.prog E [.code (Qd Try.prog 94)] ⟨[.sl 0 n0 0 l.length 1,.clos 95 [] [.ptr 1 0 0]]++unds (Try.f94.ntmps - 2),[⟨true,n0,1,true,(rowI l),true⟩,⟨true,0,1,false,[.clos 93 [] [.ptr 2 0 0,.ptr 3 0 0,.ptr 4 0 0]],false⟩,⟨true,0,1,true,[.rptr [.rsl (rowS r.seats) 0 r.seats.length,.rsl (rowP r.feet) 0 r.feet.length,.int .i64 r.frame,.int .i64 r.c.x,.int .i64 r.c.y,.int .i64 r.c.z,.int .i64 r.empty,.int .i64 r.full,.rsl (Qq (Qa r.feet)) 0 ((Qa r.feet).length),.int .i64 (Qe r)] 0],false⟩,⟨true,0,1,true,[.int .i64 ln],false⟩,⟨true,0,1,true,[.int .i64 ph],false⟩]⟩:=by
 obtain ⟨h1,h⟩:=h
 have qe0:=h
 exact p94_start_0 l r ln ph n0 hE ⟨rfl,(WS Try.func100 (by kernel_rfl) f100b (stable_ok l r ln ph n0 (l.length:Int) h1)),trivial⟩ (by try rfl) (by rw [qe0]; all_goals (first | rfl | (simp only [List.length_set]; done) | (simp only [List.length_set]; rfl)))
theorem sort_ok (l:List Int) (r:Rg) (ln ph:Int) (n0:Nat) (h:(Xq r ph ln∧∀ x ∈ l,0≤x∧x<(r.seats.length:Int))∧l.length≤19) :
 Lent Try.prog 94 [.sl 0 n0 0 l.length 1,.clos 95 [] [.ptr 1 0 0]] [⟨true,n0,1,true,rowI l,true⟩,⟨true,0,1,false,[.clos 93 [] [.ptr 2 0 0,.ptr 3 0 0,.ptr 4 0 0]],false⟩,⟨true,0,1,true,[rigV r],false⟩,⟨true,0,1,true,[.int .i64 ln],false⟩,⟨true,0,1,true,[.int .i64 ph],false⟩] (.tup []) [⟨true,n0,1,true,rowI (XQ (ltT r ph ln) l),true⟩,⟨true,0,1,false,[.clos 93 [] [.ptr 2 0 0,.ptr 3 0 0,.ptr 4 0 0]],false⟩,⟨true,0,1,true,[rigV r],false⟩,⟨true,0,1,true,[.int .i64 ln],false⟩,⟨true,0,1,true,[.int .i64 ph],false⟩]:=by
 refine lent_of _ Try.func94 f94b rfl rfl fun E hE=>?_
 exact f94W l r ln ph n0 (rv:=()) hE ⟨⟨h.1,h.2,rfl⟩,rfl⟩
theorem f57Fb:Try.f57.body=some (Qd Try.prog 57):=by kernel_rfl
def qz (P:Program):List Item:=kAt 400 [.code (Qd P 57)] [.stop]
def f57FS0 (r:Rg) (ph:Int) (ln:Int) (bs:List Bool) (sum:Int) (v0_0:Int) (v0_1:Int) (v0_2:Int) (v0_3:Int) (v0_4:Int) (v0_5:Int) (i:Nat):St:=⟨([.rptr [.rsl (rowS r.seats) 0 r.seats.length,.rsl (rowP r.feet) 0 r.feet.length,.int .i64 r.frame,.int .i64 r.c.x,.int .i64 r.c.y,.int .i64 r.c.z,.int .i64 r.empty,.int .i64 r.full,.rsl (Qq (Qa r.feet)) 0 ((Qa r.feet).length),.int .i64 (Qe r)] 0,.int .i64 ph,J,.clos 92 [] [.rptr [.rsl (rowB bs) 0 bs.length] 0]]++jj 5 ([.ptr 0 0 0,.int .i64 sum]++jj 28 ([.rsl (rowS r.seats) 0 r.seats.length,.int .i64 (r.seats.length:Int),.int .i64 (i:Int)]++Js 31))),[⟨true,0,1,true,[.int .i64 v0_0,.int .i64 v0_1,.int .i64 v0_2,.int .i64 v0_3,.int .i64 v0_4,.int .i64 v0_5],false⟩]⟩
def f57FG0 (E:Env) (r:Rg) (ph:Int) (ln:Int) (bs:List Bool) (sum:Int) (v0_0:Int) (v0_1:Int) (v0_2:Int) (v0_3:Int) (v0_4:Int) (v0_5:Int) (i:Nat):Prop:=G Try.prog E (qz Try.prog) (f57FS0 r ph ln bs sum v0_0 v0_1 v0_2 v0_3 v0_4 v0_5 i )
theorem p57F_start_0 (r:Rg) (ph:Int) (ln:Int) (bs:List Bool) (pe:(Pt × Pt)) {E:Env} {rv:AV} (hE:Qh Try.prog 57 rv E) (ho:AllP [0≤ln∧ln<(((Qa r.feet).length:Nat):Int),((Qq (Qa r.feet)).drop (0+(Int.toNat ln)*6)).take 6=[.int .i64 pe.1.x,.int .i64 pe.1.y,.int .i64 pe.1.z,.int .i64 pe.2.x,.int .i64 pe.2.y,.int .i64 pe.2.z],6≤6,Qb Try.prog (.clos 87 [] []) [.agg [.int .i64 pe.1.x,.int .i64 pe.1.y,.int .i64 pe.1.z,.int .i64 pe.2.x,.int .i64 pe.2.y,.int .i64 pe.2.z],.agg [.int .i64 r.c.x,.int .i64 r.c.y,.int .i64 r.c.z]] (.int .i64 (arm pe.1 pe.2 r.c)),InR .i64 (r.frame*(arm pe.1 pe.2 r.c))])
 (hg:G Try.prog E (qz Try.prog) ⟨([.rptr [.rsl (rowS r.seats) 0 r.seats.length,.rsl (rowP r.feet) 0 r.feet.length,.int .i64 r.frame,.int .i64 r.c.x,.int .i64 r.c.y,.int .i64 r.c.z,.int .i64 r.empty,.int .i64 r.full,.rsl (Qq (Qa r.feet)) 0 ((Qa r.feet).length),.int .i64 (Qe r)] 0,.int .i64 ph,J,.clos 92 [] [.rptr [.rsl (rowB bs) 0 bs.length] 0]]++jj 5 ([.ptr 0 0 0,.int .i64 (r.frame*(arm pe.1 pe.2 r.c))]++jj 28 ([.rsl (rowS r.seats) 0 r.seats.length,.int .i64 (r.seats.length:Int),.int .i64 0]++Js 31))),[⟨true,0,1,true,[.int .i64 pe.1.x,.int .i64 pe.1.y,.int .i64 pe.1.z,.int .i64 pe.2.x,.int .i64 pe.2.y,.int .i64 pe.2.z],false⟩]⟩):G Try.prog E [.code (Qd Try.prog 57)] ⟨[.rptr [.rsl (rowS r.seats) 0 r.seats.length,.rsl (rowP r.feet) 0 r.feet.length,.int .i64 r.frame,.int .i64 r.c.x,.int .i64 r.c.y,.int .i64 r.c.z,.int .i64 r.empty,.int .i64 r.full,.rsl (Qq (Qa r.feet)) 0 ((Qa r.feet).length),.int .i64 (Qe r)] 0,.int .i64 ph,.int .i64 ln,.clos 92 [] [.rptr [.rsl (rowB bs) 0 bs.length] 0]]++unds (Try.f57.ntmps - 4),[]⟩ :=
 Qn (n:=400) (ds:=[]) (cs:=[]) (live:=[0,1,3,9,10,39,40,41]) (m:=1) (evs:=[.auto,.ld (.agg [.int .i64 pe.1.x,.int .i64 pe.1.y,.int .i64 pe.1.z,.int .i64 pe.2.x,.int .i64 pe.2.y,.int .i64 pe.2.z]),.v (.int .i64 (arm pe.1 pe.2 r.c)),.stop]) (obs:=_) hE.2.1 (hE.nogh _) Qj (by kernel_rfl) ho hg
theorem f57FW (r:Rg) (ph:Int) (ln:Int) (bs:List Bool) {E:Env} {rv:Int} (hE:Qh Try.prog 57 (.int .i64 rv) E)
 (h:(0≤ln∧(∃ pe:(Pt × Pt),(Qa r.feet)[Int.toNat ln]?=some pe∧((Yg pe.1 pe.2 r.c)∧((I6 (r.frame*(arm pe.1 pe.2 r.c)))∧f57FG0 E r ph ln bs (r.frame*(arm pe.1 pe.2 r.c)) pe.1.x pe.1.y pe.1.z pe.2.x pe.2.y pe.2.z 0))))):G Try.prog E [.code (Qd Try.prog 57)] ⟨[.rptr [.rsl (rowS r.seats) 0 r.seats.length,.rsl (rowP r.feet) 0 r.feet.length,.int .i64 r.frame,.int .i64 r.c.x,.int .i64 r.c.y,.int .i64 r.c.z,.int .i64 r.empty,.int .i64 r.full,.rsl (Qq (Qa r.feet)) 0 ((Qa r.feet).length),.int .i64 (Qe r)] 0,.int .i64 ph,.int .i64 ln,.clos 92 [] [.rptr [.rsl (rowB bs) 0 bs.length] 0]]++unds (Try.f57.ntmps - 4),[]⟩:=by
 obtain ⟨h2,h⟩:=h
 obtain ⟨pe,h1,h⟩:=h
 obtain ⟨h3,h⟩:=h
 obtain ⟨q5_0,h⟩:=h
 exact p57F_start_0 r ph ln bs pe hE ⟨(Xh h2 h1),(QM (fun s:Pt × Pt=>cP s.1++cP s.2) (s:=6) (k:=0) (m:=6) (fun _=>rfl) (by decide) h1),(by decide),(u87 (Kl pe r.c h3)),q5_0,trivial⟩ h
theorem p57F_0_0 (r:Rg) (ph:Int) (ln:Int) (bs:List Bool) (sum:Int) (v0_0:Int) (v0_1:Int) (v0_2:Int) (v0_3:Int) (v0_4:Int) (v0_5:Int) (i:Nat) (le:(List Pt)) (pe:Pt) {E:Env} {rv:AV} (hE:Qh Try.prog 57 rv E) (ho:AllP [(decide ((i:Int)<(r.seats.length:Int)))=true,0≤(i:Int)∧(i:Int)<(r.seats.length:Int),((rowS r.seats).drop (0+(Int.toNat (i:Int))*1)).take 1=[.rsl (rowP le) 0 le.length],0≤ph∧ph<(le.length:Int),((rowP le).drop (0+(Int.toNat ph)*3)).take 3=[.int .i64 pe.x,.int .i64 pe.y,.int .i64 pe.z],Qb Try.prog (.clos 87 [] []) [.agg [.int .i64 v0_0,.int .i64 v0_1,.int .i64 v0_2,.int .i64 v0_3,.int .i64 v0_4,.int .i64 v0_5],.agg [.int .i64 pe.x,.int .i64 pe.y,.int .i64 pe.z]] (.int .i64 (arm ((⟨v0_0,v0_1,v0_2⟩:Pt),(⟨v0_3,v0_4,v0_5⟩:Pt)).1 ((⟨v0_0,v0_1,v0_2⟩:Pt),(⟨v0_3,v0_4,v0_5⟩:Pt)).2 pe)),Qb Try.prog (.clos 92 [] [.rptr [.rsl (rowB bs) 0 bs.length] 0]) [.int .i64 (i:Int),.int .i64 (arm ((⟨v0_0,v0_1,v0_2⟩:Pt),(⟨v0_3,v0_4,v0_5⟩:Pt)).1 ((⟨v0_0,v0_1,v0_2⟩:Pt),(⟨v0_3,v0_4,v0_5⟩:Pt)).2 pe)] (.bool (bs.getD (Int.toNat (i:Int)) false)),(bs.getD (Int.toNat (i:Int)) false)=true,InR .i64 (r.full*(arm ((⟨v0_0,v0_1,v0_2⟩:Pt),(⟨v0_3,v0_4,v0_5⟩:Pt)).1 ((⟨v0_0,v0_1,v0_2⟩:Pt),(⟨v0_3,v0_4,v0_5⟩:Pt)).2 pe)),InR .i64 (sum+(r.full*(arm ((⟨v0_0,v0_1,v0_2⟩:Pt),(⟨v0_3,v0_4,v0_5⟩:Pt)).1 ((⟨v0_0,v0_1,v0_2⟩:Pt),(⟨v0_3,v0_4,v0_5⟩:Pt)).2 pe))),InR .i64 ((i:Int)+1)])
 (hg:G Try.prog E (qz Try.prog) ⟨([.rptr [.rsl (rowS r.seats) 0 r.seats.length,.rsl (rowP r.feet) 0 r.feet.length,.int .i64 r.frame,.int .i64 r.c.x,.int .i64 r.c.y,.int .i64 r.c.z,.int .i64 r.empty,.int .i64 r.full,.rsl (Qq (Qa r.feet)) 0 ((Qa r.feet).length),.int .i64 (Qe r)] 0,.int .i64 ph,J,.clos 92 [] [.rptr [.rsl (rowB bs) 0 bs.length] 0]]++jj 5 ([.ptr 0 0 0,.int .i64 (sum+(r.full*(arm ((⟨v0_0,v0_1,v0_2⟩:Pt),(⟨v0_3,v0_4,v0_5⟩:Pt)).1 ((⟨v0_0,v0_1,v0_2⟩:Pt),(⟨v0_3,v0_4,v0_5⟩:Pt)).2 pe)))]++jj 28 ([.rsl (rowS r.seats) 0 r.seats.length,.int .i64 (r.seats.length:Int),.int .i64 ((i:Int)+1)]++Js 31))),[⟨true,0,1,true,[.int .i64 v0_0,.int .i64 v0_1,.int .i64 v0_2,.int .i64 v0_3,.int .i64 v0_4,.int .i64 v0_5],false⟩]⟩):G Try.prog E (qz Try.prog) (f57FS0 r ph ln bs sum v0_0 v0_1 v0_2 v0_3 v0_4 v0_5 i ) :=
 Qn (n:=400) (ds:=[]) (cs:=[]) (live:=[0,1,3,9,10,39,40,41]) (m:=1) (evs:=[.b true,.ld (.rsl (rowP le) 0 le.length),.auto,.ld (.agg [.int .i64 pe.x,.int .i64 pe.y,.int .i64 pe.z]),.v (.int .i64 (arm ((⟨v0_0,v0_1,v0_2⟩:Pt),(⟨v0_3,v0_4,v0_5⟩:Pt)).1 ((⟨v0_0,v0_1,v0_2⟩:Pt),(⟨v0_3,v0_4,v0_5⟩:Pt)).2 pe)),.v (.bool (bs.getD (Int.toNat (i:Int)) false)),.b true,.stop]) (obs:=_) hE.2.1 (hE.nogh _) Qj (by kernel_rfl) ho hg
theorem p57F_0_1 (r:Rg) (ph:Int) (ln:Int) (bs:List Bool) (sum:Int) (v0_0:Int) (v0_1:Int) (v0_2:Int) (v0_3:Int) (v0_4:Int) (v0_5:Int) (i:Nat) (le:(List Pt)) (pe:Pt) {E:Env} {rv:AV} (hE:Qh Try.prog 57 rv E) (ho:AllP [(decide ((i:Int)<(r.seats.length:Int)))=true,0≤(i:Int)∧(i:Int)<(r.seats.length:Int),((rowS r.seats).drop (0+(Int.toNat (i:Int))*1)).take 1=[.rsl (rowP le) 0 le.length],0≤ph∧ph<(le.length:Int),((rowP le).drop (0+(Int.toNat ph)*3)).take 3=[.int .i64 pe.x,.int .i64 pe.y,.int .i64 pe.z],Qb Try.prog (.clos 87 [] []) [.agg [.int .i64 v0_0,.int .i64 v0_1,.int .i64 v0_2,.int .i64 v0_3,.int .i64 v0_4,.int .i64 v0_5],.agg [.int .i64 pe.x,.int .i64 pe.y,.int .i64 pe.z]] (.int .i64 (arm ((⟨v0_0,v0_1,v0_2⟩:Pt),(⟨v0_3,v0_4,v0_5⟩:Pt)).1 ((⟨v0_0,v0_1,v0_2⟩:Pt),(⟨v0_3,v0_4,v0_5⟩:Pt)).2 pe)),Qb Try.prog (.clos 92 [] [.rptr [.rsl (rowB bs) 0 bs.length] 0]) [.int .i64 (i:Int),.int .i64 (arm ((⟨v0_0,v0_1,v0_2⟩:Pt),(⟨v0_3,v0_4,v0_5⟩:Pt)).1 ((⟨v0_0,v0_1,v0_2⟩:Pt),(⟨v0_3,v0_4,v0_5⟩:Pt)).2 pe)] (.bool (bs.getD (Int.toNat (i:Int)) false)),(bs.getD (Int.toNat (i:Int)) false)=false,InR .i64 (r.empty*(arm ((⟨v0_0,v0_1,v0_2⟩:Pt),(⟨v0_3,v0_4,v0_5⟩:Pt)).1 ((⟨v0_0,v0_1,v0_2⟩:Pt),(⟨v0_3,v0_4,v0_5⟩:Pt)).2 pe)),InR .i64 (sum+(r.empty*(arm ((⟨v0_0,v0_1,v0_2⟩:Pt),(⟨v0_3,v0_4,v0_5⟩:Pt)).1 ((⟨v0_0,v0_1,v0_2⟩:Pt),(⟨v0_3,v0_4,v0_5⟩:Pt)).2 pe))),InR .i64 ((i:Int)+1)])
 (hg:G Try.prog E (qz Try.prog) ⟨([.rptr [.rsl (rowS r.seats) 0 r.seats.length,.rsl (rowP r.feet) 0 r.feet.length,.int .i64 r.frame,.int .i64 r.c.x,.int .i64 r.c.y,.int .i64 r.c.z,.int .i64 r.empty,.int .i64 r.full,.rsl (Qq (Qa r.feet)) 0 ((Qa r.feet).length),.int .i64 (Qe r)] 0,.int .i64 ph,J,.clos 92 [] [.rptr [.rsl (rowB bs) 0 bs.length] 0]]++jj 5 ([.ptr 0 0 0,.int .i64 (sum+(r.empty*(arm ((⟨v0_0,v0_1,v0_2⟩:Pt),(⟨v0_3,v0_4,v0_5⟩:Pt)).1 ((⟨v0_0,v0_1,v0_2⟩:Pt),(⟨v0_3,v0_4,v0_5⟩:Pt)).2 pe)))]++jj 28 ([.rsl (rowS r.seats) 0 r.seats.length,.int .i64 (r.seats.length:Int),.int .i64 ((i:Int)+1)]++Js 31))),[⟨true,0,1,true,[.int .i64 v0_0,.int .i64 v0_1,.int .i64 v0_2,.int .i64 v0_3,.int .i64 v0_4,.int .i64 v0_5],false⟩]⟩):G Try.prog E (qz Try.prog) (f57FS0 r ph ln bs sum v0_0 v0_1 v0_2 v0_3 v0_4 v0_5 i ) :=
 Qn (n:=400) (ds:=[]) (cs:=[]) (live:=[0,1,3,9,10,39,40,41]) (m:=1) (evs:=[.b true,.ld (.rsl (rowP le) 0 le.length),.auto,.ld (.agg [.int .i64 pe.x,.int .i64 pe.y,.int .i64 pe.z]),.v (.int .i64 (arm ((⟨v0_0,v0_1,v0_2⟩:Pt),(⟨v0_3,v0_4,v0_5⟩:Pt)).1 ((⟨v0_0,v0_1,v0_2⟩:Pt),(⟨v0_3,v0_4,v0_5⟩:Pt)).2 pe)),.v (.bool (bs.getD (Int.toNat (i:Int)) false)),.b false,.stop]) (obs:=_) hE.2.1 (hE.nogh _) Qj (by kernel_rfl) ho hg
theorem p57F_0_2 (r:Rg) (ph:Int) (ln:Int) (bs:List Bool) (sum:Int) (v0_0:Int) (v0_1:Int) (v0_2:Int) (v0_3:Int) (v0_4:Int) (v0_5:Int) (i:Nat) {E:Env} {res:AV} (hE:Qh Try.prog 57 res E) (ho:AllP [(decide ((i:Int)<(r.seats.length:Int)))=false])
 (hr:AvLe (.int .i64 sum) res):G Try.prog E (qz Try.prog) (f57FS0 r ph ln bs sum v0_0 v0_1 v0_2 v0_3 v0_4 v0_5 i ) :=
 Qg (n:=400) (evs:=[.b false]) (obs:=_) hE Try.func57 Qj (by kernel_rfl) ho hr
theorem f57FW0 (r:Rg) (ph:Int) (ln:Int) (bs:List Bool) (sum:Int) (v0_0:Int) (v0_1:Int) (v0_2:Int) (v0_3:Int) (v0_4:Int) (v0_5:Int) (i:Nat) {E:Env} {rv:Int} (hE:Qh Try.prog 57 (.int .i64 rv) E)
 (h:(((i:Int)<(r.seats.length:Int)→(∃ le:(List Pt),r.seats[i]?=some le∧(0≤ph∧(∃ pe:Pt,le[Int.toNat ph]?=some pe∧((Yg ((⟨v0_0,v0_1,v0_2⟩:Pt),(⟨v0_3,v0_4,v0_5⟩:Pt)).1 ((⟨v0_0,v0_1,v0_2⟩:Pt),(⟨v0_3,v0_4,v0_5⟩:Pt)).2 pe)∧((0≤(i:Int)∧(i:Int)<bs.length)∧(((bs.getD (Int.toNat (i:Int)) false)=true→((I6 (r.full*(arm ((⟨v0_0,v0_1,v0_2⟩:Pt),(⟨v0_3,v0_4,v0_5⟩:Pt)).1 ((⟨v0_0,v0_1,v0_2⟩:Pt),(⟨v0_3,v0_4,v0_5⟩:Pt)).2 pe)))∧((I6 (sum+(r.full*(arm ((⟨v0_0,v0_1,v0_2⟩:Pt),(⟨v0_3,v0_4,v0_5⟩:Pt)).1 ((⟨v0_0,v0_1,v0_2⟩:Pt),(⟨v0_3,v0_4,v0_5⟩:Pt)).2 pe))))∧((I6 ((i:Int)+1))∧f57FG0 E r ph ln bs (sum+(r.full*(arm ((⟨v0_0,v0_1,v0_2⟩:Pt),(⟨v0_3,v0_4,v0_5⟩:Pt)).1 ((⟨v0_0,v0_1,v0_2⟩:Pt),(⟨v0_3,v0_4,v0_5⟩:Pt)).2 pe))) v0_0 v0_1 v0_2 v0_3 v0_4 v0_5 (i+1)))))∧((bs.getD (Int.toNat (i:Int)) false)=false→((I6 (r.empty*(arm ((⟨v0_0,v0_1,v0_2⟩:Pt),(⟨v0_3,v0_4,v0_5⟩:Pt)).1 ((⟨v0_0,v0_1,v0_2⟩:Pt),(⟨v0_3,v0_4,v0_5⟩:Pt)).2 pe)))∧((I6 (sum+(r.empty*(arm ((⟨v0_0,v0_1,v0_2⟩:Pt),(⟨v0_3,v0_4,v0_5⟩:Pt)).1 ((⟨v0_0,v0_1,v0_2⟩:Pt),(⟨v0_3,v0_4,v0_5⟩:Pt)).2 pe))))∧((I6 ((i:Int)+1))∧f57FG0 E r ph ln bs (sum+(r.empty*(arm ((⟨v0_0,v0_1,v0_2⟩:Pt),(⟨v0_3,v0_4,v0_5⟩:Pt)).1 ((⟨v0_0,v0_1,v0_2⟩:Pt),(⟨v0_3,v0_4,v0_5⟩:Pt)).2 pe))) v0_0 v0_1 v0_2 v0_3 v0_4 v0_5 (i+1))))))))))))∧(¬ ((i:Int)<(r.seats.length:Int))→rv=sum))):f57FG0 E r ph ln bs sum v0_0 v0_1 v0_2 v0_3 v0_4 v0_5 i:=by
 rcases bft (decide ((i:Int)<(r.seats.length:Int))) with hc0 | hc0
 · have h:=h.1 (odt hc0)
   obtain ⟨le,h1,h⟩:=h
   obtain ⟨h3,h⟩:=h
   obtain ⟨pe,h2,h⟩:=h
   obtain ⟨h4,h⟩:=h
   obtain ⟨h5,h⟩:=h
   rcases bft (bs.getD (Int.toNat (i:Int)) false) with hc1 | hc1
   · have h:=h.1 hc1
     obtain ⟨q10_2,h⟩:=h
     obtain ⟨q11_2,h⟩:=h
     obtain ⟨q12_2,h⟩:=h
     exact p57F_0_0 r ph ln bs sum v0_0 v0_1 v0_2 v0_3 v0_4 v0_5 i le pe hE ⟨hc0,(QJ h1),(QM (fun s:List Pt=>[AV.rsl (rowP s) 0 s.length]) (s:=1) (k:=0) (m:=1) (fun _=>rfl) (by decide) h1),(Xh h3 h2),(rp cP 3 0 3 h2),(u87 (Kl ((⟨v0_0,v0_1,v0_2⟩:Pt),(⟨v0_3,v0_4,v0_5⟩:Pt)) pe h4)),(u92 (yq bs (i:Int) (arm ((⟨v0_0,v0_1,v0_2⟩:Pt),(⟨v0_3,v0_4,v0_5⟩:Pt)).1 ((⟨v0_0,v0_1,v0_2⟩:Pt),(⟨v0_3,v0_4,v0_5⟩:Pt)).2 pe) h5)),hc1,q10_2,q11_2,q12_2,trivial⟩ h
   · have h:=h.2 hc1
     obtain ⟨q10_2,h⟩:=h
     obtain ⟨q11_2,h⟩:=h
     obtain ⟨q12_2,h⟩:=h
     exact p57F_0_1 r ph ln bs sum v0_0 v0_1 v0_2 v0_3 v0_4 v0_5 i le pe hE ⟨hc0,(QJ h1),(QM (fun s:List Pt=>[AV.rsl (rowP s) 0 s.length]) (s:=1) (k:=0) (m:=1) (fun _=>rfl) (by decide) h1),(Xh h3 h2),(rp cP 3 0 3 h2),(u87 (Kl ((⟨v0_0,v0_1,v0_2⟩:Pt),(⟨v0_3,v0_4,v0_5⟩:Pt)) pe h4)),(u92 (yq bs (i:Int) (arm ((⟨v0_0,v0_1,v0_2⟩:Pt),(⟨v0_3,v0_4,v0_5⟩:Pt)).1 ((⟨v0_0,v0_1,v0_2⟩:Pt),(⟨v0_3,v0_4,v0_5⟩:Pt)).2 pe) h5)),hc1,q10_2,q11_2,q12_2,trivial⟩ h
 · have h:=h.2 (odf hc0)
   exact p57F_0_2 r ph ln bs sum v0_0 v0_1 v0_2 v0_3 v0_4 v0_5 i hE ⟨hc0,trivial⟩ (AvLe.of_eq (by rw [h]; try rfl))
theorem YN (r:Rg) (ph ln:Int) (bs:List Bool) (h:Xq r ph ln∧bs.length=r.seats.length):Pure Try.prog 57 [rigV r,.int .i64 ph,.int .i64 ln,.clos 92 [] [.rptr [.rsl (rowB bs) 0 bs.length] 0]] (.int .i64 (Qs r ph ln bs)):=Qw Try.func57 f57Fb fun E hE=>by
 obtain ⟨⟨h0,h1,h2,h3,h4⟩,h5⟩:=h
 obtain ⟨p,rfl⟩:=Int.eq_ofNat_of_zero_le h1
 obtain ⟨v,rfl⟩:=Int.eq_ofNat_of_zero_le h3
 obtain ⟨l1,l2⟩:=YP h0.ok (v:=v) (by omega)
 obtain ⟨k1,k2,k3⟩:=VF h0.ok l1 l2
 have hmom:Qs r p v bs=XV r p (QD r v) fun i _=>bs.getD i false:=rfl
 rw [hmom] at hE
 have hlg:=XW (r:=r) (v:=v) (by omega)
 refine f57FW r p v bs hE ⟨h3,QD r v,hlg,k1,by omega,?_⟩
 generalize hab:QD r v=ab at *
 obtain ⟨a,b⟩:=ab
 have l1:Qm a=true:=l1
 have l2:Qm b=true:=l2
 have k2:-800000000000000≤r.frame*arm a b r.c:=k2
 have k3:r.frame*arm a b r.c≤800000000000000:=k3
 have h20:=h0.ok.seats
 have key:∀ (d i:Nat) (sum:Int),i+d=r.seats.length→-(800000000000000*(i+1))≤sum→sum≤800000000000000*(i+1)→Xi r a b p (fun i _=>bs.getD i false) (r.seats.drop i) i sum=XV r p (a,b) (fun i _=>bs.getD i false) →
  f57FG0 E r p v bs sum a.x a.y a.z b.x b.y b.z i:=by
  intro d
  induction d with
  | zero =>
   intro i sum hd _ _ hs
   rw [List.drop_eq_nil_of_le (by omega)] at hs
   exact f57FW0 r p v bs sum _ _ _ _ _ _ i hE ⟨fun h=>by omega,fun _=>by rw [← hs]; rfl⟩
  | succ d ih =>
   intro i sum hd hs1 hs2 hs
   have hi:i<r.seats.length:=by omega
   have hg:r.seats[i]?=some r.seats[i]:=by simp [hi]
   have sf:=YJ h0.ok (ph:=p) (by omega) l1 l2 hg
   rw [List.drop_eq_getElem_cons hi] at hs
   simp only [Xi] at hs
   have e0:=sf.e0
   have e1:=sf.e1
   have f0:=sf.f0
   have f1:=sf.f1
   refine f57FW0 r p v bs sum _ _ _ _ _ _ i hE ⟨fun _=>⟨_,hg,h1,_,sf.get,sf.ok,⟨by omega,by omega⟩,fun hb=>⟨?_,?_,by omega,?_⟩,fun hb=>⟨?_,?_,by omega,?_⟩⟩,fun h=>by omega⟩
   · show -9223372036854775808≤r.full*arm a b _∧r.full*arm a b _≤_; omega
   · show -9223372036854775808≤sum+r.full*arm a b _∧sum+r.full*arm a b _≤_; omega
   · have hb':bs.getD i false=true:=hb
     rw [hb'] at hs
     exact ih (i+1) _ (by omega) (by show _≤sum+r.full*arm a b _; omega) (by show sum+r.full*arm a b _≤_; omega) hs
   · show -9223372036854775808≤r.empty*arm a b _∧r.empty*arm a b _≤_; omega
   · show -9223372036854775808≤sum+r.empty*arm a b _∧sum+r.empty*arm a b _≤_; omega
   · have hb':bs.getD i false=false:=hb
     rw [hb'] at hs
     exact ih (i+1) _ (by omega) (by show _≤sum+r.empty*arm a b _; omega) (by show sum+r.empty*arm a b _≤_; omega) hs
 exact key r.seats.length 0 _ (by omega) (by show _≤r.frame*arm a b r.c; omega) (by show r.frame*arm a b r.c≤_; omega) rfl
/-! ### The plain law: the loading of 'fewest' does not stand -/
theorem yb {r:Rg} {a b:Pt} {ph t:Nat} {f g:Nat→Int→Bool} (hfg:∀ j q,j ≠ t→g j q=f j q) (h1:∀ q,f t q=false) (h2:∀ q,g t q=true):∀ (ss:List (List Pt)) (i:Nat) (x:Int) (s:List Pt),i≤t→ss[t - i]?=some s →
 Xi r a b ph g ss i x=Xi r a b ph f ss i x+(r.full - r.empty)*arm a b (s.getD ph ⟨0,0,0⟩)
 | [],i,x,s,_,h=>by simp at h
 | q :: ss,i,x,s,hi,h=>by
  simp only [Xi]
  rcases Nat.eq_or_lt_of_le hi with e | e
  · subst e
    simp only [Nat.sub_self,List.getElem?_cons_zero,Option.some.injEq] at h
    subst h
    rw [h1,h2]
    simp only [cond_true,cond_false]
    have h3:=seatsM_eq (r:=r) (a:=a) (b:=b) (ph:=ph) (f:=g) (g:=f) ss (i+1) (x+r.full*arm a b (q.getD ph ⟨0,0,0⟩)) fun j t _=>by
     simp only [conM]
     rw [hfg _ _ (by omega)]
    rw [h3,← Wb]
    congr 1
    rw [Int.sub_mul]; omega
  · rw [hfg i _ (by omega)]
    have h3:t - i=(t - (i+1))+1:=by omega
    rw [h3,List.getElem?_cons_succ] at h
    exact yb hfg h1 h2 ss (i+1) _ s (by omega) h
theorem VC {r:Rg} {ph ln:Int} {bs:List Bool} {i:Nat} (hl:bs.length=r.seats.length) (h:bs[i]?=some false):Qs r ph ln (bs.set i true)=Qs r ph ln bs - Qx r ph ln (i:Int):=by
 have hi:i<bs.length:=Vb h
 have hs:r.seats[i]?=some (r.seats.getD i []):=by simp [List.getD,show i<r.seats.length by omega]
 have h1:=yb (r:=r) (a:=(QD r ln.toNat).1) (b:=(QD r ln.toNat).2) (ph:=ph.toNat) (t:=i) (f:=fun j _=>bs.getD j false) (g:=fun j _=>(bs.set i true).getD j false)
  (fun j q hj=>by simp only [List.getD_eq_getElem?_getD]; rw [List.getElem?_set_ne (fun h=>hj h.symm)]) (fun q=>by simp only [List.getD_eq_getElem?_getD,h,Option.getD_some]) (fun q=>by simp only [List.getD_eq_getElem?_getD]; rw [List.getElem?_set_self hi]; rfl)
  r.seats 0 (r.frame*arm (QD r ln.toNat).1 (QD r ln.toNat).2 r.c) (r.seats.getD i []) (by omega) (by simpa using hs)
 unfold Qs XV Qx
 rw [h1,Int.toNat_natCast,show r.full - r.empty=-(r.empty - r.full) by omega,Int.neg_mul]; omega
theorem yc {r:Rg} {a b:Pt} {ph:Nat} {tk:Int→Int} (he:r.empty≤r.full):∀ (ss:List (List Pt)) (i:Nat) (x:Int),(∀ j s,ss[j]?=some s→tk ((i+j:Nat):Int)=(r.empty - r.full)*arm a b (s.getD ph ⟨0,0,0⟩)) →
 Xi r a b ph outF ss i x=Xi r a b ph (fun _ _=>false) ss i x - (((((List.range' i ss.length).map fun (j:Nat)=>(j:Int))).filter fun s=>decide (0<tk s)).map tk).sum
 | [],i,x,_=>by simp [Xi]
 | s :: ss,i,x,h=>by
  have h0:=h 0 s rfl
  have ih:=fun y=>yc he ss (i+1) y fun j t ht=>by
   rw [show i+1+j=i+(j+1) by omega]; exact h (j+1) t (by simpa using ht)
  rw [Nat.add_zero] at h0
  simp only [Xi,List.length_cons,List.range'_succ,List.map_cons,cond_false,outF]
  generalize arm a b (s.getD ph ⟨0,0,0⟩)=q at h0 ⊢
  by_cases hq:q<0
  · have hd:decide (q<0)=true:=by simpa using hq
    rw [hd,cond_true,ih]
    rcases Int.lt_or_eq_of_le he with e | e
    · have hp:0<tk i:=by rw [h0]; exact Int.mul_pos_of_neg_of_neg (by omega) hq
      rw [List.filter_cons_of_pos (by simpa using hp),List.map_cons,List.sum_cons,h0]
      have e2:x+r.full*q=(x+r.empty*q)+-((r.empty - r.full)*q):=by rw [Int.sub_mul]; omega
      rw [e2,Wb]; omega
    · have hp:¬ 0<tk i:=by rw [h0,show r.empty - r.full=0 by omega,Int.zero_mul]; omega
      rw [List.filter_cons_of_neg (by simpa using hp),e]
  · have hd:decide (q<0)=false:=by simpa using hq
    have hp:¬ 0<tk i:=by rw [h0]; have:=Int.mul_nonneg (a:=r.full - r.empty) (b:=q) (by omega) (by omega); rw [show r.empty - r.full=-(r.full - r.empty) by omega,Int.neg_mul]; omega
    rw [hd,cond_false,ih,List.filter_cons_of_neg (by simpa using hp)]
theorem perm_sum {a b:List Int} (h:a.Perm b):a.sum=b.sum:=by
 induction h with
 | nil=>rfl
 | cons x _ ih=>simp only [List.sum_cons,ih]
 | swap x y l=>simp only [List.sum_cons]; omega
 | trans _ _ h1 h2=>exact h1.trans h2
def seatL (r:Rg):List Int:=(List.range r.seats.length).map fun (j:Nat)=>(j:Int)
def ordF (r:Rg) (ph ln:Int):List Int:=XQ (ltT r ph ln) (seatL r)
def posN (r:Rg) (ph ln:Int):Nat:=((ordF r ph ln).filter fun s=>decide (0<Qx r ph ln s)).length
def YT (r:Rg):List Bool:=List.replicate r.seats.length false
def WI (r:Rg) (ph ln:Int):Nat:=qO (Qs r ph ln (YT r)) (Qx r ph ln) (ordF r ph ln) (posN r ph ln) 0
def QS (r:Rg) (ph ln:Int):List Bool:=YH (Qs r ph ln) (Qx r ph ln) (ordF r ph ln) r.seats.length r.seats.length 0 (YT r) (WI r ph ln)
theorem ltT_eq (r:Rg) (ph ln:Int):ltT r ph ln=fun a c=>decide (Qx r ph ln c<Qx r ph ln a):=by
 funext x y
 unfold ltT
 exact decide_eq_decide.2 (by omega)
theorem WR (r:Rg) (ph ln:Int):(ordF r ph ln).Perm (seatL r):=by
 unfold ordF; rw [ltT_eq]; exact (sort_spec _).1
theorem yV (r:Rg) (ph ln:Int):(ordF r ph ln).Pairwise fun a c=>Qx r ph ln c≤Qx r ph ln a:=by
 unfold ordF; rw [ltT_eq]; exact (sort_spec _).2
theorem seatL_mem {r:Rg} {s:Int}:s ∈ seatL r ↔ 0≤s∧s<(r.seats.length:Int):=by
 unfold seatL
 rw [List.mem_map]
 constructor
 · rintro ⟨j,hj,rfl⟩
   rw [List.mem_range] at hj
   omega
 · intro h
   exact ⟨s.toNat,by rw [List.mem_range]; omega,by omega⟩
theorem Wi (r:Rg) (ph ln:Int):Ord (ordF r ph ln) r.seats.length:=by
 refine ⟨(WR r ph ln).nodup_iff.2 ?_,fun s=>by rw [(WR r ph ln).mem_iff,seatL_mem],by rw [(WR r ph ln).length_eq]; simp [seatL]⟩
 unfold seatL
 unfold List.Nodup
 rw [List.pairwise_map]
 exact List.nodup_range.imp fun h=>by omega
theorem ord_pos (r:Rg) (ph ln:Int) (he:r.empty≤r.full):Qs r ph ln (YT r) - QF (Qx r ph ln) (ordF r ph ln) (posN r ph ln) 0=Yd r ph ln:=by
 unfold posN
 rw [most_enough (Wi r ph ln) (yV r ph ln),perm_sum (((WR r ph ln).filter _).map _)]
 unfold Qs Yd XV seatL YT
 rw [List.range_eq_range']
 have e2:(fun (j:Nat) (_:Int)=>(List.replicate r.seats.length false).getD j false)=fun _ _=>false:=by funext j _; exact qN _ j
 rw [e2]
 refine (yc (tk:=Qx r ph ln) he r.seats 0 _ fun j s hs=>?_).symm
 unfold Qx
 have e:r.seats.getD j []=s:=by rw [List.getD_eq_getElem?_getD,hs]; rfl
 rw [Nat.zero_add,Int.toNat_natCast,e]
theorem VQ {r:Rg} {ph ln:Int} (h:Xq r ph ln∧Yd r ph ln<0):Qs r ph ln (YT r) - QF (Qx r ph ln) (ordF r ph ln) (WI r ph ln) 0<0∧WI r ph ln≤posN r ph ln :=
 yu (by rw [ord_pos r ph ln h.1.1.ok.empty1]; exact h.2) (posN r ph ln) 0 (by omega)
theorem pos_le (r:Rg) (ph ln:Int):posN r ph ln≤r.seats.length:=by
 have:=(Wi r ph ln).len
 rw [← this]; exact List.length_filter_le _ _
theorem fewest_neg {r:Rg} {ph ln:Int} (h:Xq r ph ln∧Yd r ph ln<0):Qs r ph ln (QS r ph ln)<0∧(QS r ph ln).length=r.seats.length:=by
 obtain ⟨l1,l2⟩:=VQ h
 have:=pos_le r ph ln
 refine qx (Wi r ph ln) (fun bs i hb hi=>VC hb hi) r.seats.length 0 (YT r) (WI r ph ln) (by omega) (by simp [YT]) (fun j _ hj=>by simp [YT,hj]) ?_ (by omega)
 exact l1
theorem f74b:Try.f74.body=some (Qd Try.prog 74):=by kernel_rfl
theorem u74 {a c k:List AV} {r:AV} (h:Pure Try.prog 74 (a++c++k) r):Qb Try.prog (.clos 74 a k) c r:=Qo Try.func74 (by kernel_rfl) f74b h
def f74K0 (P:Program):List Item:=kAt 400 [.code (Qd P 74)] [.stop]
def f74S0 (r:Rg) (ph:Int) (ln:Int) (v3:List Bool) (i:Nat) (v7:List Int) (g3:Nat) (g7:Nat):St:=⟨([J,J,J,.ptr 0 0 0,.ptr 1 0 0,.ptr 2 0 0,J,.ptr 4 0 0,.clos 92 [] [.ptr 4 0 0],.ptr 5 0 0,.ptr 6 0 0]++jj 18 ([.int .i64 (r.seats.length:Int),.int .i64 (i:Int)]++Js 63)),[⟨true,0,1,true,[.rptr [.rsl (rowS r.seats) 0 r.seats.length,.rsl (rowP r.feet) 0 r.feet.length,.int .i64 r.frame,.int .i64 r.c.x,.int .i64 r.c.y,.int .i64 r.c.z,.int .i64 r.empty,.int .i64 r.full,.rsl (Qq (Qa r.feet)) 0 ((Qa r.feet).length),.int .i64 (Qe r)] 0],false⟩,⟨true,0,1,true,[.int .i64 ph],false⟩,⟨true,0,1,true,[.int .i64 ln],false⟩,⟨true,g3,1,true,(rowB v3),true⟩,⟨true,0,1,false,[.sl 3 g3 0 v3.length 1],false⟩,⟨true,0,1,false,[.clos 93 [] [.ptr 0 0 0,.ptr 2 0 0,.ptr 1 0 0]],false⟩,⟨true,0,1,false,[.sl 7 g7 0 v7.length 1],false⟩,⟨true,g7,1,true,(rowI v7),true⟩]⟩
def f74G0 (E:Env) (r:Rg) (ph:Int) (ln:Int) (v3:List Bool) (i:Nat) (v7:List Int):Prop:=∀ g3 g7:Nat,G Try.prog E (f74K0 Try.prog) (f74S0 r ph ln v3 i v7 g3 g7)
def f74K1 (P:Program):List Item:=kAt 400 [.code (Qd P 74)] [.b false,.stop]
def f74S1 (r:Rg) (ph:Int) (ln:Int) (v3:List Bool) (v7:List Int) (left:Nat) (g3:Nat) (g7:Nat):St:=⟨([J,J,J,.ptr 0 0 0,.ptr 1 0 0,.ptr 2 0 0,J,.ptr 4 0 0,.clos 92 [] [.ptr 4 0 0],J,J,J,.clos 96 [] [.ptr 6 0 0,.ptr 5 0 0],.int .i64 (left:Int)]++Js 80),[⟨true,0,1,true,[.rptr [.rsl (rowS r.seats) 0 r.seats.length,.rsl (rowP r.feet) 0 r.feet.length,.int .i64 r.frame,.int .i64 r.c.x,.int .i64 r.c.y,.int .i64 r.c.z,.int .i64 r.empty,.int .i64 r.full,.rsl (Qq (Qa r.feet)) 0 ((Qa r.feet).length),.int .i64 (Qe r)] 0],false⟩,⟨true,0,1,true,[.int .i64 ph],false⟩,⟨true,0,1,true,[.int .i64 ln],false⟩,⟨true,g3,1,true,(rowB v3),true⟩,⟨true,0,1,false,[.sl 3 g3 0 v3.length 1],false⟩,⟨true,0,1,false,[.clos 93 [] [.ptr 0 0 0,.ptr 2 0 0,.ptr 1 0 0]],false⟩,⟨true,0,1,false,[.sl 7 g7 0 v7.length 1],false⟩,⟨true,g7,1,true,(rowI v7),true⟩]⟩
def f74G1 (E:Env) (r:Rg) (ph:Int) (ln:Int) (v3:List Bool) (v7:List Int) (left:Nat):Prop:=∀ g3 g7:Nat,G Try.prog E (f74K1 Try.prog) (f74S1 r ph ln v3 v7 left g3 g7)
def qR (P:Program):List Item:=kAt 400 [.code (Qd P 74)] [.b false,.b false,.stop]
def Kh (r:Rg) (ph:Int) (ln:Int) (left:Int) (j:Nat) (v3:List Bool) (v7:List Int) (j1:Nat) (g3:Nat) (g7:Nat):St:=⟨([J,J,J,.ptr 0 0 0,.ptr 1 0 0,.ptr 2 0 0,J,.ptr 4 0 0,.clos 92 [] [.ptr 4 0 0],J,J,J,.clos 96 [] [.ptr 6 0 0,.ptr 5 0 0],.int .i64 left]++jj 41 ([.int .i64 (j:Int),.int .i64 (j1:Int)]++Js 37)),[⟨true,0,1,true,[.rptr [.rsl (rowS r.seats) 0 r.seats.length,.rsl (rowP r.feet) 0 r.feet.length,.int .i64 r.frame,.int .i64 r.c.x,.int .i64 r.c.y,.int .i64 r.c.z,.int .i64 r.empty,.int .i64 r.full,.rsl (Qq (Qa r.feet)) 0 ((Qa r.feet).length),.int .i64 (Qe r)] 0],false⟩,⟨true,0,1,true,[.int .i64 ph],false⟩,⟨true,0,1,true,[.int .i64 ln],false⟩,⟨true,g3,1,true,(rowB v3),true⟩,⟨true,0,1,false,[.sl 3 g3 0 v3.length 1],false⟩,⟨true,0,1,false,[.clos 93 [] [.ptr 0 0 0,.ptr 2 0 0,.ptr 1 0 0]],false⟩,⟨true,0,1,false,[.sl 7 g7 0 v7.length 1],false⟩,⟨true,g7,1,true,(rowI v7),true⟩]⟩
def f74G2 (E:Env) (r:Rg) (ph:Int) (ln:Int) (left:Int) (j:Nat) (v3:List Bool) (v7:List Int) (j1:Nat):Prop:=∀ g3 g7:Nat,G Try.prog E (qR Try.prog) (Kh r ph ln left j v3 v7 j1 g3 g7)
theorem p74_start_0 (r:Rg) (ph:Int) (ln:Int) {E:Env} {rv:AV} (hE:Qh Try.prog 74 rv E) (ho:AllP [0≤(r.seats.length:Int)∧(r.seats.length:Int)≤(r.seats.length:Int)∧(r.seats.length:Int)≤2147483648,1≤1,1≤1])
 (hg:G Try.prog E (f74K0 Try.prog) ⟨([J,J,J,.ptr 0 0 0,.ptr 1 0 0,.ptr 2 0 0,J,.ptr 4 0 0,.clos 92 [] [.ptr 4 0 0],.ptr 5 0 0,.ptr 6 0 0]++jj 18 ([.int .i64 (r.seats.length:Int),.int .i64 0]++Js 63)),[⟨true,0,1,true,[.rptr [.rsl (rowS r.seats) 0 r.seats.length,.rsl (rowP r.feet) 0 r.feet.length,.int .i64 r.frame,.int .i64 r.c.x,.int .i64 r.c.y,.int .i64 r.c.z,.int .i64 r.empty,.int .i64 r.full,.rsl (Qq (Qa r.feet)) 0 ((Qa r.feet).length),.int .i64 (Qe r)] 0],false⟩,⟨true,0,1,true,[.int .i64 ph],false⟩,⟨true,0,1,true,[.int .i64 ln],false⟩,⟨true,0,1,true,((List.replicate (Int.toNat (r.seats.length:Int)) ([.bool false]:List AV)).flatten),true⟩,⟨true,0,1,false,[.sl 3 0 0 (Int.toNat (r.seats.length:Int)) 1],false⟩,⟨true,0,1,false,[.clos 93 [] [.ptr 0 0 0,.ptr 2 0 0,.ptr 1 0 0]],false⟩,⟨true,0,1,false,[.sl 7 0 0 0 1],false⟩,⟨true,0,1,true,[],true⟩]⟩):G Try.prog E [.code (Qd Try.prog 74)] ⟨[.rptr [.rsl (rowS r.seats) 0 r.seats.length,.rsl (rowP r.feet) 0 r.feet.length,.int .i64 r.frame,.int .i64 r.c.x,.int .i64 r.c.y,.int .i64 r.c.z,.int .i64 r.empty,.int .i64 r.full,.rsl (Qq (Qa r.feet)) 0 ((Qa r.feet).length),.int .i64 (Qe r)] 0,.int .i64 ph,.int .i64 ln]++unds (Try.f74.ntmps - 3),[]⟩ :=
 Qn (n:=400) (ds:=[]) (cs:=[(6,0,1)]) (live:=[3,4,5,7,8,9,10,29,30]) (m:=8) (evs:=[.stop]) (obs:=_) hE.2.1 (hE.nogh _) Qj (by kernel_rfl) ho hg
theorem f74W (r:Rg) (ph:Int) (ln:Int) {E:Env} {rv:(List Bool)} (hE:Qh Try.prog 74 (.rsl (rowB rv) 0 rv.length) E)
 (h:(r.seats.length≤2147483648∧f74G0 E r ph ln (List.replicate r.seats.length (false:Bool)) 0 ([]))):G Try.prog E [.code (Qd Try.prog 74)] ⟨[.rptr [.rsl (rowS r.seats) 0 r.seats.length,.rsl (rowP r.feet) 0 r.feet.length,.int .i64 r.frame,.int .i64 r.c.x,.int .i64 r.c.y,.int .i64 r.c.z,.int .i64 r.empty,.int .i64 r.full,.rsl (Qq (Qa r.feet)) 0 ((Qa r.feet).length),.int .i64 (Qe r)] 0,.int .i64 ph,.int .i64 ln]++unds (Try.f74.ntmps - 3),[]⟩:=by
 obtain ⟨h1,h⟩:=h
 refine p74_start_0 r ph ln hE ⟨⟨by omega,by omega,by have:=h1; omega⟩,(by decide),(by decide),trivial⟩ ?_
 have h:=(h 0 0)
 simp only [f74G0,f74S0,List.length_set,List.length_replicate] at h
 rw [(show (List.replicate (Int.toNat (r.seats.length:Int)) ([.bool false]:List AV)).flatten=rowB (List.replicate r.seats.length (false:Bool)) from row_rep cB _ _)]
 exact h
theorem p74_0_0 (r:Rg) (ph:Int) (ln:Int) (v3:List Bool) (i:Nat) (v7:List Int) (g3:Nat) (g7:Nat) {E:Env} {rv:AV} (hE:Qh Try.prog 74 rv E) (ho:AllP [(decide ((i:Int)<(r.seats.length:Int)))=true,g7=g7,(0+(v7.length*1))=(rowI v7).length,(v7.length+1)≤2147483648,0=0,1≤1,InR .i64 ((i:Int)+1)])
 (hg:G Try.prog E (f74K0 Try.prog) ⟨([J,J,J,.ptr 0 0 0,.ptr 1 0 0,.ptr 2 0 0,J,.ptr 4 0 0,.clos 92 [] [.ptr 4 0 0],.ptr 5 0 0,.ptr 6 0 0]++jj 18 ([.int .i64 (r.seats.length:Int),.int .i64 ((i:Int)+1)]++Js 63)),[⟨true,0,1,true,[.rptr [.rsl (rowS r.seats) 0 r.seats.length,.rsl (rowP r.feet) 0 r.feet.length,.int .i64 r.frame,.int .i64 r.c.x,.int .i64 r.c.y,.int .i64 r.c.z,.int .i64 r.empty,.int .i64 r.full,.rsl (Qq (Qa r.feet)) 0 ((Qa r.feet).length),.int .i64 (Qe r)] 0],false⟩,⟨true,0,1,true,[.int .i64 ph],false⟩,⟨true,0,1,true,[.int .i64 ln],false⟩,⟨true,g3,1,true,(rowB v3),true⟩,⟨true,0,1,false,[.sl 3 g3 0 v3.length 1],false⟩,⟨true,0,1,false,[.clos 93 [] [.ptr 0 0 0,.ptr 2 0 0,.ptr 1 0 0]],false⟩,⟨true,0,1,false,[.sl 7 (g7+1) 0 (v7.length+1) 1],false⟩,⟨true,(g7+1),1,true,((rowI v7)++[.int .i64 (i:Int)]),true⟩]⟩):G Try.prog E (f74K0 Try.prog) (f74S0 r ph ln v3 i v7 g3 g7) :=
 Qn (n:=400) (ds:=[]) (cs:=[]) (live:=[3,4,5,7,8,9,10,29,30]) (m:=8) (evs:=[.b true,.stop]) (obs:=_) hE.2.1 (hE.nogh _) Qj (by kernel_rfl) ho hg
theorem p74_0_1 (r:Rg) (ph:Int) (ln:Int) (v3:List Bool) (i:Nat) (v7:List Int) (g3:Nat) (g7:Nat) {E:Env} {rv:AV} (hE:Qh Try.prog 74 rv E) (ho:AllP [(decide ((i:Int)<(r.seats.length:Int)))=false,LentF Try.prog (.clos 94 [] []) [.sl 0 g7 0 v7.length 1,.clos 95 [] [.ptr 1 0 0]] [⟨true,g7,1,true,(rowI v7),true⟩,⟨true,0,1,false,[.clos 93 [] [.ptr 2 0 0,.ptr 3 0 0,.ptr 4 0 0]],false⟩,⟨true,0,1,true,[.rptr [.rsl (rowS r.seats) 0 r.seats.length,.rsl (rowP r.feet) 0 r.feet.length,.int .i64 r.frame,.int .i64 r.c.x,.int .i64 r.c.y,.int .i64 r.c.z,.int .i64 r.empty,.int .i64 r.full,.rsl (Qq (Qa r.feet)) 0 ((Qa r.feet).length),.int .i64 (Qe r)] 0],false⟩,⟨true,0,1,true,[.int .i64 ln],false⟩,⟨true,0,1,true,[.int .i64 ph],false⟩] (.tup []) [⟨true,g7,1,true,(rowI (XQ (ltT r ph ln) v7)),true⟩,⟨true,0,1,false,[.clos 93 [] [.ptr 2 0 0,.ptr 3 0 0,.ptr 4 0 0]],false⟩,⟨true,0,1,true,[.rptr [.rsl (rowS r.seats) 0 r.seats.length,.rsl (rowP r.feet) 0 r.feet.length,.int .i64 r.frame,.int .i64 r.c.x,.int .i64 r.c.y,.int .i64 r.c.z,.int .i64 r.empty,.int .i64 r.full,.rsl (Qq (Qa r.feet)) 0 ((Qa r.feet).length),.int .i64 (Qe r)] 0],false⟩,⟨true,0,1,true,[.int .i64 ln],false⟩,⟨true,0,1,true,[.int .i64 ph],false⟩]])
 (hg:G Try.prog E (f74K1 Try.prog) ⟨([J,J,J,.ptr 0 0 0,.ptr 1 0 0,.ptr 2 0 0,J,.ptr 4 0 0,.clos 92 [] [.ptr 4 0 0],J,J,J,.clos 96 [] [.ptr 6 0 0,.ptr 5 0 0],.int .i64 0]++Js 80),[⟨true,0,1,true,[.rptr [.rsl (rowS r.seats) 0 r.seats.length,.rsl (rowP r.feet) 0 r.feet.length,.int .i64 r.frame,.int .i64 r.c.x,.int .i64 r.c.y,.int .i64 r.c.z,.int .i64 r.empty,.int .i64 r.full,.rsl (Qq (Qa r.feet)) 0 ((Qa r.feet).length),.int .i64 (Qe r)] 0],false⟩,⟨true,0,1,true,[.int .i64 ph],false⟩,⟨true,0,1,true,[.int .i64 ln],false⟩,⟨true,g3,1,true,(rowB v3),true⟩,⟨true,0,1,false,[.sl 3 g3 0 v3.length 1],false⟩,⟨true,0,1,false,[.clos 93 [] [.ptr 0 0 0,.ptr 2 0 0,.ptr 1 0 0]],false⟩,⟨true,0,1,false,[.sl 7 g7 0 v7.length 1],false⟩,⟨true,g7,1,true,(rowI (XQ (ltT r ph ln) v7)),true⟩]⟩):G Try.prog E (f74K0 Try.prog) (f74S0 r ph ln v3 i v7 g3 g7) :=
 Qn (n:=400) (ds:=[]) (cs:=[]) (live:=[3,4,5,7,8,12,13]) (m:=8) (evs:=[.b false,.lent [7,5,0,2,1] (.tup []) [⟨true,g7,1,true,(rowI (XQ (ltT r ph ln) v7)),true⟩,⟨true,0,1,false,[.clos 93 [] [.ptr 2 0 0,.ptr 3 0 0,.ptr 4 0 0]],false⟩,⟨true,0,1,true,[.rptr [.rsl (rowS r.seats) 0 r.seats.length,.rsl (rowP r.feet) 0 r.feet.length,.int .i64 r.frame,.int .i64 r.c.x,.int .i64 r.c.y,.int .i64 r.c.z,.int .i64 r.empty,.int .i64 r.full,.rsl (Qq (Qa r.feet)) 0 ((Qa r.feet).length),.int .i64 (Qe r)] 0],false⟩,⟨true,0,1,true,[.int .i64 ln],false⟩,⟨true,0,1,true,[.int .i64 ph],false⟩],.stop]) (obs:=_) hE.2.1 (hE.nogh _) Qj (by kernel_rfl) ho hg
theorem f74W0 (r:Rg) (ph:Int) (ln:Int) (v3:List Bool) (i:Nat) (v7:List Int) {E:Env} {rv:(List Bool)} (hE:Qh Try.prog 74 (.rsl (rowB rv) 0 rv.length) E)
 (h:(((i:Int)<(r.seats.length:Int)→((v7.length+1)≤2147483648∧((I6 ((i:Int)+1))∧f74G0 E r ph ln v3 (i+1) (v7++[(i:Int)]))))∧(¬ ((i:Int)<(r.seats.length:Int))→(((Xq r ph ln∧∀ x ∈ v7,0≤x∧x<(r.seats.length:Int))∧v7.length≤19)∧f74G1 E r ph ln v3 (XQ (ltT r ph ln) v7) 0)))):f74G0 E r ph ln v3 i v7:=by
 intro g3 g7
 rcases bft (decide ((i:Int)<(r.seats.length:Int))) with hc0 | hc0
 · have h:=h.1 (odt hc0)
   obtain ⟨h1,h⟩:=h
   obtain ⟨q6_1,h⟩:=h
   refine p74_0_0 r ph ln v3 i v7 g3 g7 hE ⟨hc0,rfl,(by have hx:=XH cI (s:=1) (fun _=>rfl) v7; simp only [rowI] at hx ⊢; rw [hx]; simp),h1,rfl,(by decide),q6_1,trivial⟩ ?_
   rw [(show rowI v7++[.int .i64 (i:Int)]=rowI (v7++[(i:Int)]) from (VB cI v7 [(i:Int)]).symm)]; rw [(show (v7.length+1)=(v7++[(i:Int)]).length from by simp)]; exact (h g3 (g7+1))
 · have h:=h.2 (odf hc0)
   obtain ⟨h1,h⟩:=h
   refine p74_0_1 r ph ln v3 i v7 g3 g7 hE ⟨hc0,(WS Try.func94 (by kernel_rfl) f94b (sort_ok v7 r ln ph g7 h1)),trivial⟩ ?_
   have h:=(h g3 g7)
   simp only [f74G1,f74S1,List.length_set,qd] at h
   skip
   exact h
theorem p74_1_0 (r:Rg) (ph:Int) (ln:Int) (v3:List Bool) (v7:List Int) (left:Nat) (g3:Nat) (g7:Nat) {E:Env} {rv:AV} (hE:Qh Try.prog 74 rv E) (ho:AllP [Qb Try.prog (.clos 57 [] []) [.rptr [.rsl (rowS r.seats) 0 r.seats.length,.rsl (rowP r.feet) 0 r.feet.length,.int .i64 r.frame,.int .i64 r.c.x,.int .i64 r.c.y,.int .i64 r.c.z,.int .i64 r.empty,.int .i64 r.full,.rsl (Qq (Qa r.feet)) 0 ((Qa r.feet).length),.int .i64 (Qe r)] 0,.int .i64 ph,.int .i64 ln,.clos 92 [] [.rptr [.rsl (rowB v3) 0 v3.length] 0]] (.int .i64 (Qs r ph ln v3)),g3=g3,Qb Try.prog (.clos 96 [] [.rptr [.rsl (rowI v7) 0 v7.length] 0,.rptr [.clos 93 [] [.rptr [.rptr [.rsl (rowS r.seats) 0 r.seats.length,.rsl (rowP r.feet) 0 r.feet.length,.int .i64 r.frame,.int .i64 r.c.x,.int .i64 r.c.y,.int .i64 r.c.z,.int .i64 r.empty,.int .i64 r.full,.rsl (Qq (Qa r.feet)) 0 ((Qa r.feet).length),.int .i64 (Qe r)] 0] 0,.rptr [.int .i64 ln] 0,.rptr [.int .i64 ph] 0]] 0]) [.int .i64 (left:Int),.int .i64 0] (.int .i64 (QF (Qx r ph ln) v7 (Int.toNat (left:Int)) 0)),g7=g7,InR .i64 ((Qs r ph ln v3) - (QF (Qx r ph ln) v7 (Int.toNat (left:Int)) 0)),(decide (((Qs r ph ln v3) - (QF (Qx r ph ln) v7 (Int.toNat (left:Int)) 0))≥0))=true,InR .i64 ((left:Int)+1)])
 (hg:G Try.prog E (f74K1 Try.prog) ⟨([J,J,J,.ptr 0 0 0,.ptr 1 0 0,.ptr 2 0 0,J,.ptr 4 0 0,.clos 92 [] [.ptr 4 0 0],J,J,J,.clos 96 [] [.ptr 6 0 0,.ptr 5 0 0],.int .i64 ((left:Int)+1)]++Js 80),[⟨true,0,1,true,[.rptr [.rsl (rowS r.seats) 0 r.seats.length,.rsl (rowP r.feet) 0 r.feet.length,.int .i64 r.frame,.int .i64 r.c.x,.int .i64 r.c.y,.int .i64 r.c.z,.int .i64 r.empty,.int .i64 r.full,.rsl (Qq (Qa r.feet)) 0 ((Qa r.feet).length),.int .i64 (Qe r)] 0],false⟩,⟨true,0,1,true,[.int .i64 ph],false⟩,⟨true,0,1,true,[.int .i64 ln],false⟩,⟨true,g3,1,true,(rowB v3),true⟩,⟨true,0,1,false,[.sl 3 g3 0 v3.length 1],false⟩,⟨true,0,1,false,[.clos 93 [] [.ptr 0 0 0,.ptr 2 0 0,.ptr 1 0 0]],false⟩,⟨true,0,1,false,[.sl 7 g7 0 v7.length 1],false⟩,⟨true,g7,1,true,(rowI v7),true⟩]⟩):G Try.prog E (f74K1 Try.prog) (f74S1 r ph ln v3 v7 left g3 g7) :=
 Qn (n:=400) (ds:=[]) (cs:=[]) (live:=[3,4,5,7,8,12,13]) (m:=8) (evs:=[.v (.int .i64 (Qs r ph ln v3)),.v (.int .i64 (QF (Qx r ph ln) v7 (Int.toNat (left:Int)) 0)),.b true,.stop]) (obs:=_) hE.2.1 (hE.nogh _) Qj (by kernel_rfl) ho hg
theorem p74_1_1 (r:Rg) (ph:Int) (ln:Int) (v3:List Bool) (v7:List Int) (left:Nat) (g3:Nat) (g7:Nat) {E:Env} {rv:AV} (hE:Qh Try.prog 74 rv E) (ho:AllP [Qb Try.prog (.clos 57 [] []) [.rptr [.rsl (rowS r.seats) 0 r.seats.length,.rsl (rowP r.feet) 0 r.feet.length,.int .i64 r.frame,.int .i64 r.c.x,.int .i64 r.c.y,.int .i64 r.c.z,.int .i64 r.empty,.int .i64 r.full,.rsl (Qq (Qa r.feet)) 0 ((Qa r.feet).length),.int .i64 (Qe r)] 0,.int .i64 ph,.int .i64 ln,.clos 92 [] [.rptr [.rsl (rowB v3) 0 v3.length] 0]] (.int .i64 (Qs r ph ln v3)),g3=g3,Qb Try.prog (.clos 96 [] [.rptr [.rsl (rowI v7) 0 v7.length] 0,.rptr [.clos 93 [] [.rptr [.rptr [.rsl (rowS r.seats) 0 r.seats.length,.rsl (rowP r.feet) 0 r.feet.length,.int .i64 r.frame,.int .i64 r.c.x,.int .i64 r.c.y,.int .i64 r.c.z,.int .i64 r.empty,.int .i64 r.full,.rsl (Qq (Qa r.feet)) 0 ((Qa r.feet).length),.int .i64 (Qe r)] 0] 0,.rptr [.int .i64 ln] 0,.rptr [.int .i64 ph] 0]] 0]) [.int .i64 (left:Int),.int .i64 0] (.int .i64 (QF (Qx r ph ln) v7 (Int.toNat (left:Int)) 0)),g7=g7,InR .i64 ((Qs r ph ln v3) - (QF (Qx r ph ln) v7 (Int.toNat (left:Int)) 0)),(decide (((Qs r ph ln v3) - (QF (Qx r ph ln) v7 (Int.toNat (left:Int)) 0))≥0))=false,g3=g3])
 (hg:G Try.prog E (qR Try.prog) ⟨([J,J,J,.ptr 0 0 0,.ptr 1 0 0,.ptr 2 0 0,J,.ptr 4 0 0,.clos 92 [] [.ptr 4 0 0],J,J,J,.clos 96 [] [.ptr 6 0 0,.ptr 5 0 0],.int .i64 (left:Int)]++jj 41 ([.int .i64 (v3.length:Int),.int .i64 0]++Js 37)),[⟨true,0,1,true,[.rptr [.rsl (rowS r.seats) 0 r.seats.length,.rsl (rowP r.feet) 0 r.feet.length,.int .i64 r.frame,.int .i64 r.c.x,.int .i64 r.c.y,.int .i64 r.c.z,.int .i64 r.empty,.int .i64 r.full,.rsl (Qq (Qa r.feet)) 0 ((Qa r.feet).length),.int .i64 (Qe r)] 0],false⟩,⟨true,0,1,true,[.int .i64 ph],false⟩,⟨true,0,1,true,[.int .i64 ln],false⟩,⟨true,g3,1,true,(rowB v3),true⟩,⟨true,0,1,false,[.sl 3 g3 0 v3.length 1],false⟩,⟨true,0,1,false,[.clos 93 [] [.ptr 0 0 0,.ptr 2 0 0,.ptr 1 0 0]],false⟩,⟨true,0,1,false,[.sl 7 g7 0 v7.length 1],false⟩,⟨true,g7,1,true,(rowI v7),true⟩]⟩):G Try.prog E (f74K1 Try.prog) (f74S1 r ph ln v3 v7 left g3 g7) :=
 Qn (n:=400) (ds:=[]) (cs:=[]) (live:=[3,4,5,7,8,12,13,55,56]) (m:=8) (evs:=[.v (.int .i64 (Qs r ph ln v3)),.v (.int .i64 (QF (Qx r ph ln) v7 (Int.toNat (left:Int)) 0)),.b false,.stop]) (obs:=_) hE.2.1 (hE.nogh _) Qj (by kernel_rfl) ho hg
theorem f74W1 (r:Rg) (ph:Int) (ln:Int) (v3:List Bool) (v7:List Int) (left:Nat) {E:Env} {rv:(List Bool)} (hE:Qh Try.prog 74 (.rsl (rowB rv) 0 rv.length) E)
 (h:((Xq r ph ln∧v3.length=r.seats.length)∧(((Xq r ph ln∧∀ x ∈ v7,0≤x∧x<(r.seats.length:Int))∧v7.length≤20∧(0≤(left:Int)∧(left:Int)≤1000))∧((I6 ((Qs r ph ln v3) - (QF (Qx r ph ln) v7 (Int.toNat (left:Int)) 0)))∧((((Qs r ph ln v3) - (QF (Qx r ph ln) v7 (Int.toNat (left:Int)) 0))≥0→((I6 ((left:Int)+1))∧f74G1 E r ph ln v3 v7 (left+1)))∧(¬ (((Qs r ph ln v3) - (QF (Qx r ph ln) v7 (Int.toNat (left:Int)) 0))≥0)→f74G2 E r ph ln (left:Int) v3.length v3 v7 0)))))):f74G1 E r ph ln v3 v7 left:=by
 intro g3 g7
 obtain ⟨h1,h⟩:=h
 obtain ⟨h2,h⟩:=h
 obtain ⟨q4_0,h⟩:=h
 rcases bft (decide (((Qs r ph ln v3) - (QF (Qx r ph ln) v7 (Int.toNat (left:Int)) 0))≥0)) with hc0 | hc0
 · have h:=h.1 (odt hc0)
   obtain ⟨q6_1,h⟩:=h
   exact p74_1_0 r ph ln v3 v7 left g3 g7 hE ⟨(Qo Try.func57 (by kernel_rfl) f57Fb (YN r ph ln v3 h1)),rfl,(u96 (qp r ph ln v7 (left:Int) 0 h2)),rfl,q4_0,hc0,q6_1,trivial⟩ (h g3 g7)
 · have h:=h.2 (odf hc0)
   exact p74_1_1 r ph ln v3 v7 left g3 g7 hE ⟨(Qo Try.func57 (by kernel_rfl) f57Fb (YN r ph ln v3 h1)),rfl,(u96 (qp r ph ln v7 (left:Int) 0 h2)),rfl,q4_0,hc0,rfl,trivial⟩ (h g3 g7)
theorem p74_2_0 (r:Rg) (ph:Int) (ln:Int) (left:Int) (j:Nat) (v3:List Bool) (v7:List Int) (j1:Nat) (g3:Nat) (g7:Nat) {E:Env} {res:AV} (hE:Qh Try.prog 74 res E) (ho:AllP [(decide ((j1:Int)<(j:Int)))=true,(left == 0)=true,g3=g3])
 (hr:AvLe (.rsl (rowB v3) 0 v3.length) res):G Try.prog E (qR Try.prog) (Kh r ph ln left j v3 v7 j1 g3 g7) :=
 Qg (n:=400) (evs:=[.b true,.b true]) (obs:=_) hE Try.func74 Qj (by kernel_rfl) ho hr
theorem p74_2_1 (r:Rg) (ph:Int) (ln:Int) (left:Int) (j:Nat) (v3:List Bool) (v7:List Int) (j1:Nat) (g3:Nat) (g7:Nat) (eb:Bool) {E:Env} {rv:AV} (hE:Qh Try.prog 74 rv E) (ho:AllP [(decide ((j1:Int)<(j:Int)))=true,(left == 0)=false,0≤(j1:Int)∧(j1:Int)<(v3.length:Int),g3=g3,((0+(Int.toNat (j1:Int))*1)+1)≤(rowB v3).length,g3=g3,Qb Try.prog (.clos 57 [] []) [.rptr [.rsl (rowS r.seats) 0 r.seats.length,.rsl (rowP r.feet) 0 r.feet.length,.int .i64 r.frame,.int .i64 r.c.x,.int .i64 r.c.y,.int .i64 r.c.z,.int .i64 r.empty,.int .i64 r.full,.rsl (Qq (Qa r.feet)) 0 ((Qa r.feet).length),.int .i64 (Qe r)] 0,.int .i64 ph,.int .i64 ln,.clos 92 [] [.rptr [.rsl (Xf (rowB v3) (0+(Int.toNat (j1:Int))*1) [.bool true]) 0 v3.length] 0]] (.int .i64 (Qs r ph ln (v3.set j1 true))),g3=g3,InR .i64 (left - 1),InR .i64 ((j1:Int)+1),Qb Try.prog (.clos 96 [] [.rptr [.rsl (rowI v7) 0 v7.length] 0,.rptr [.clos 93 [] [.rptr [.rptr [.rsl (rowS r.seats) 0 r.seats.length,.rsl (rowP r.feet) 0 r.feet.length,.int .i64 r.frame,.int .i64 r.c.x,.int .i64 r.c.y,.int .i64 r.c.z,.int .i64 r.empty,.int .i64 r.full,.rsl (Qq (Qa r.feet)) 0 ((Qa r.feet).length),.int .i64 (Qe r)] 0] 0,.rptr [.int .i64 ln] 0,.rptr [.int .i64 ph] 0]] 0]) [.int .i64 (left - 1),.int .i64 ((j1:Int)+1)] (.int .i64 (QF (Qx r ph ln) v7 (Int.toNat (left - 1)) ((j1:Int)+1))),g7=g7,InR .i64 ((Qs r ph ln (v3.set j1 true)) - (QF (Qx r ph ln) v7 (Int.toNat (left - 1)) ((j1:Int)+1))),(decide (((Qs r ph ln (v3.set j1 true)) - (QF (Qx r ph ln) v7 (Int.toNat (left - 1)) ((j1:Int)+1)))<0))=true,InR .i64 (left - 1),g3=g3,InR .i64 ((v3.length:Int) - (j1:Int)),InR .i64 (((v3.length:Int) - (j1:Int)) - 1),(decide ((left - 1)≤(((v3.length:Int) - (j1:Int)) - 1)))=true,InR .i64 (left - 1),InR .i64 ((j1:Int)+1)])
 (hg:G Try.prog E (qR Try.prog) ⟨([J,J,J,.ptr 0 0 0,.ptr 1 0 0,.ptr 2 0 0,J,.ptr 4 0 0,.clos 92 [] [.ptr 4 0 0],J,J,J,.clos 96 [] [.ptr 6 0 0,.ptr 5 0 0],.int .i64 (left - 1)]++jj 41 ([.int .i64 (j:Int),.int .i64 ((j1:Int)+1)]++Js 37)),[⟨true,0,1,true,[.rptr [.rsl (rowS r.seats) 0 r.seats.length,.rsl (rowP r.feet) 0 r.feet.length,.int .i64 r.frame,.int .i64 r.c.x,.int .i64 r.c.y,.int .i64 r.c.z,.int .i64 r.empty,.int .i64 r.full,.rsl (Qq (Qa r.feet)) 0 ((Qa r.feet).length),.int .i64 (Qe r)] 0],false⟩,⟨true,0,1,true,[.int .i64 ph],false⟩,⟨true,0,1,true,[.int .i64 ln],false⟩,⟨true,g3,1,true,(Xf (rowB v3) (0+(Int.toNat (j1:Int))*1) [.bool true]),true⟩,⟨true,0,1,false,[.sl 3 g3 0 v3.length 1],false⟩,⟨true,0,1,false,[.clos 93 [] [.ptr 0 0 0,.ptr 2 0 0,.ptr 1 0 0]],false⟩,⟨true,0,1,false,[.sl 7 g7 0 v7.length 1],false⟩,⟨true,g7,1,true,(rowI v7),true⟩]⟩):G Try.prog E (qR Try.prog) (Kh r ph ln left j v3 v7 j1 g3 g7) :=
 Qn (n:=400) (ds:=[]) (cs:=[]) (live:=[3,4,5,7,8,12,13,55,56]) (m:=8) (evs:=[.b true,.b false,.v (.int .i64 (Qs r ph ln (v3.set j1 true))),.v (.int .i64 (QF (Qx r ph ln) v7 (Int.toNat (left - 1)) ((j1:Int)+1))),.b true,.b true,.stop]) (obs:=_) hE.2.1 (hE.nogh _) Qj (by kernel_rfl) ho hg
theorem p74_2_2 (r:Rg) (ph:Int) (ln:Int) (left:Int) (j:Nat) (v3:List Bool) (v7:List Int) (j1:Nat) (g3:Nat) (g7:Nat) (eb:Bool) (eb1:Bool) {E:Env} {rv:AV} (hE:Qh Try.prog 74 rv E) (ho:AllP [(decide ((j1:Int)<(j:Int)))=true,(left == 0)=false,0≤(j1:Int)∧(j1:Int)<(v3.length:Int),g3=g3,((0+(Int.toNat (j1:Int))*1)+1)≤(rowB v3).length,g3=g3,Qb Try.prog (.clos 57 [] []) [.rptr [.rsl (rowS r.seats) 0 r.seats.length,.rsl (rowP r.feet) 0 r.feet.length,.int .i64 r.frame,.int .i64 r.c.x,.int .i64 r.c.y,.int .i64 r.c.z,.int .i64 r.empty,.int .i64 r.full,.rsl (Qq (Qa r.feet)) 0 ((Qa r.feet).length),.int .i64 (Qe r)] 0,.int .i64 ph,.int .i64 ln,.clos 92 [] [.rptr [.rsl (Xf (rowB v3) (0+(Int.toNat (j1:Int))*1) [.bool true]) 0 v3.length] 0]] (.int .i64 (Qs r ph ln (v3.set j1 true))),g3=g3,InR .i64 (left - 1),InR .i64 ((j1:Int)+1),Qb Try.prog (.clos 96 [] [.rptr [.rsl (rowI v7) 0 v7.length] 0,.rptr [.clos 93 [] [.rptr [.rptr [.rsl (rowS r.seats) 0 r.seats.length,.rsl (rowP r.feet) 0 r.feet.length,.int .i64 r.frame,.int .i64 r.c.x,.int .i64 r.c.y,.int .i64 r.c.z,.int .i64 r.empty,.int .i64 r.full,.rsl (Qq (Qa r.feet)) 0 ((Qa r.feet).length),.int .i64 (Qe r)] 0] 0,.rptr [.int .i64 ln] 0,.rptr [.int .i64 ph] 0]] 0]) [.int .i64 (left - 1),.int .i64 ((j1:Int)+1)] (.int .i64 (QF (Qx r ph ln) v7 (Int.toNat (left - 1)) ((j1:Int)+1))),g7=g7,InR .i64 ((Qs r ph ln (v3.set j1 true)) - (QF (Qx r ph ln) v7 (Int.toNat (left - 1)) ((j1:Int)+1))),(decide (((Qs r ph ln (v3.set j1 true)) - (QF (Qx r ph ln) v7 (Int.toNat (left - 1)) ((j1:Int)+1)))<0))=true,InR .i64 (left - 1),g3=g3,InR .i64 ((v3.length:Int) - (j1:Int)),InR .i64 (((v3.length:Int) - (j1:Int)) - 1),(decide ((left - 1)≤(((v3.length:Int) - (j1:Int)) - 1)))=false,0≤(j1:Int)∧(j1:Int)<(v3.length:Int),g3=g3,((0+(Int.toNat (j1:Int))*1)+1)≤(Xf (rowB v3) (0+(Int.toNat (j1:Int))*1) [.bool true]).length,g3=g3,InR .i64 ((j1:Int)+1)])
 (hg:G Try.prog E (qR Try.prog) ⟨([J,J,J,.ptr 0 0 0,.ptr 1 0 0,.ptr 2 0 0,J,.ptr 4 0 0,.clos 92 [] [.ptr 4 0 0],J,J,J,.clos 96 [] [.ptr 6 0 0,.ptr 5 0 0],.int .i64 left]++jj 41 ([.int .i64 (j:Int),.int .i64 ((j1:Int)+1)]++Js 37)),[⟨true,0,1,true,[.rptr [.rsl (rowS r.seats) 0 r.seats.length,.rsl (rowP r.feet) 0 r.feet.length,.int .i64 r.frame,.int .i64 r.c.x,.int .i64 r.c.y,.int .i64 r.c.z,.int .i64 r.empty,.int .i64 r.full,.rsl (Qq (Qa r.feet)) 0 ((Qa r.feet).length),.int .i64 (Qe r)] 0],false⟩,⟨true,0,1,true,[.int .i64 ph],false⟩,⟨true,0,1,true,[.int .i64 ln],false⟩,⟨true,g3,1,true,(Xf (Xf (rowB v3) (0+(Int.toNat (j1:Int))*1) [.bool true]) (0+(Int.toNat (j1:Int))*1) [.bool false]),true⟩,⟨true,0,1,false,[.sl 3 g3 0 v3.length 1],false⟩,⟨true,0,1,false,[.clos 93 [] [.ptr 0 0 0,.ptr 2 0 0,.ptr 1 0 0]],false⟩,⟨true,0,1,false,[.sl 7 g7 0 v7.length 1],false⟩,⟨true,g7,1,true,(rowI v7),true⟩]⟩):G Try.prog E (qR Try.prog) (Kh r ph ln left j v3 v7 j1 g3 g7) :=
 Qn (n:=400) (ds:=[]) (cs:=[]) (live:=[3,4,5,7,8,12,13,55,56]) (m:=8) (evs:=[.b true,.b false,.v (.int .i64 (Qs r ph ln (v3.set j1 true))),.v (.int .i64 (QF (Qx r ph ln) v7 (Int.toNat (left - 1)) ((j1:Int)+1))),.b true,.b false,.stop]) (obs:=_) hE.2.1 (hE.nogh _) Qj (by kernel_rfl) ho hg
theorem p74_2_3 (r:Rg) (ph:Int) (ln:Int) (left:Int) (j:Nat) (v3:List Bool) (v7:List Int) (j1:Nat) (g3:Nat) (g7:Nat) (eb:Bool) (eb1:Bool) {E:Env} {rv:AV} (hE:Qh Try.prog 74 rv E) (ho:AllP [(decide ((j1:Int)<(j:Int)))=true,(left == 0)=false,0≤(j1:Int)∧(j1:Int)<(v3.length:Int),g3=g3,((0+(Int.toNat (j1:Int))*1)+1)≤(rowB v3).length,g3=g3,Qb Try.prog (.clos 57 [] []) [.rptr [.rsl (rowS r.seats) 0 r.seats.length,.rsl (rowP r.feet) 0 r.feet.length,.int .i64 r.frame,.int .i64 r.c.x,.int .i64 r.c.y,.int .i64 r.c.z,.int .i64 r.empty,.int .i64 r.full,.rsl (Qq (Qa r.feet)) 0 ((Qa r.feet).length),.int .i64 (Qe r)] 0,.int .i64 ph,.int .i64 ln,.clos 92 [] [.rptr [.rsl (Xf (rowB v3) (0+(Int.toNat (j1:Int))*1) [.bool true]) 0 v3.length] 0]] (.int .i64 (Qs r ph ln (v3.set j1 true))),g3=g3,InR .i64 (left - 1),InR .i64 ((j1:Int)+1),Qb Try.prog (.clos 96 [] [.rptr [.rsl (rowI v7) 0 v7.length] 0,.rptr [.clos 93 [] [.rptr [.rptr [.rsl (rowS r.seats) 0 r.seats.length,.rsl (rowP r.feet) 0 r.feet.length,.int .i64 r.frame,.int .i64 r.c.x,.int .i64 r.c.y,.int .i64 r.c.z,.int .i64 r.empty,.int .i64 r.full,.rsl (Qq (Qa r.feet)) 0 ((Qa r.feet).length),.int .i64 (Qe r)] 0] 0,.rptr [.int .i64 ln] 0,.rptr [.int .i64 ph] 0]] 0]) [.int .i64 (left - 1),.int .i64 ((j1:Int)+1)] (.int .i64 (QF (Qx r ph ln) v7 (Int.toNat (left - 1)) ((j1:Int)+1))),g7=g7,InR .i64 ((Qs r ph ln (v3.set j1 true)) - (QF (Qx r ph ln) v7 (Int.toNat (left - 1)) ((j1:Int)+1))),(decide (((Qs r ph ln (v3.set j1 true)) - (QF (Qx r ph ln) v7 (Int.toNat (left - 1)) ((j1:Int)+1)))<0))=false,false=false,0≤(j1:Int)∧(j1:Int)<(v3.length:Int),g3=g3,((0+(Int.toNat (j1:Int))*1)+1)≤(Xf (rowB v3) (0+(Int.toNat (j1:Int))*1) [.bool true]).length,g3=g3,InR .i64 ((j1:Int)+1)])
 (hg:G Try.prog E (qR Try.prog) ⟨([J,J,J,.ptr 0 0 0,.ptr 1 0 0,.ptr 2 0 0,J,.ptr 4 0 0,.clos 92 [] [.ptr 4 0 0],J,J,J,.clos 96 [] [.ptr 6 0 0,.ptr 5 0 0],.int .i64 left]++jj 41 ([.int .i64 (j:Int),.int .i64 ((j1:Int)+1)]++Js 37)),[⟨true,0,1,true,[.rptr [.rsl (rowS r.seats) 0 r.seats.length,.rsl (rowP r.feet) 0 r.feet.length,.int .i64 r.frame,.int .i64 r.c.x,.int .i64 r.c.y,.int .i64 r.c.z,.int .i64 r.empty,.int .i64 r.full,.rsl (Qq (Qa r.feet)) 0 ((Qa r.feet).length),.int .i64 (Qe r)] 0],false⟩,⟨true,0,1,true,[.int .i64 ph],false⟩,⟨true,0,1,true,[.int .i64 ln],false⟩,⟨true,g3,1,true,(Xf (Xf (rowB v3) (0+(Int.toNat (j1:Int))*1) [.bool true]) (0+(Int.toNat (j1:Int))*1) [.bool false]),true⟩,⟨true,0,1,false,[.sl 3 g3 0 v3.length 1],false⟩,⟨true,0,1,false,[.clos 93 [] [.ptr 0 0 0,.ptr 2 0 0,.ptr 1 0 0]],false⟩,⟨true,0,1,false,[.sl 7 g7 0 v7.length 1],false⟩,⟨true,g7,1,true,(rowI v7),true⟩]⟩):G Try.prog E (qR Try.prog) (Kh r ph ln left j v3 v7 j1 g3 g7) :=
 Qn (n:=400) (ds:=[]) (cs:=[]) (live:=[3,4,5,7,8,12,13,55,56]) (m:=8) (evs:=[.b true,.b false,.v (.int .i64 (Qs r ph ln (v3.set j1 true))),.v (.int .i64 (QF (Qx r ph ln) v7 (Int.toNat (left - 1)) ((j1:Int)+1))),.b false,.b false,.stop]) (obs:=_) hE.2.1 (hE.nogh _) Qj (by kernel_rfl) ho hg
theorem p74_2_4 (r:Rg) (ph:Int) (ln:Int) (left:Int) (j:Nat) (v3:List Bool) (v7:List Int) (j1:Nat) (g3:Nat) (g7:Nat) {E:Env} {res:AV} (hE:Qh Try.prog 74 res E) (ho:AllP [(decide ((j1:Int)<(j:Int)))=false,g3=g3])
 (hr:AvLe (.rsl (rowB v3) 0 v3.length) res):G Try.prog E (qR Try.prog) (Kh r ph ln left j v3 v7 j1 g3 g7) :=
 Qg (n:=400) (evs:=[.b false]) (obs:=_) hE Try.func74 Qj (by kernel_rfl) ho hr
theorem f74W2 (r:Rg) (ph:Int) (ln:Int) (left:Int) (j:Nat) (v3:List Bool) (v7:List Int) (j1:Nat) {E:Env} {rv:(List Bool)} (hE:Qh Try.prog 74 (.rsl (rowB rv) 0 rv.length) E)
 (h:(((j1:Int)<(j:Int)→((left=0→rv=v3)∧(¬ (left=0)→(∃ eb:Bool,v3[j1]?=some eb∧((Xq r ph ln∧(v3.set j1 true).length=r.seats.length)∧((I6 (left - 1))∧((I6 ((j1:Int)+1))∧(((Xq r ph ln∧∀ x ∈ v7,0≤x∧x<(r.seats.length:Int))∧v7.length≤20∧(0≤(left - 1)∧(left - 1)≤1000))∧((I6 ((Qs r ph ln (v3.set j1 true)) - (QF (Qx r ph ln) v7 (Int.toNat (left - 1)) ((j1:Int)+1))))∧((((Qs r ph ln (v3.set j1 true)) - (QF (Qx r ph ln) v7 (Int.toNat (left - 1)) ((j1:Int)+1)))<0→((I6 (left - 1))∧((I6 ((v3.length:Int) - (j1:Int)))∧((I6 (((v3.length:Int) - (j1:Int)) - 1))∧(((left - 1)≤(((v3.length:Int) - (j1:Int)) - 1)→((I6 (left - 1))∧((I6 ((j1:Int)+1))∧f74G2 E r ph ln (left - 1) j (v3.set j1 true) v7 (j1+1))))∧(¬ ((left - 1)≤(((v3.length:Int) - (j1:Int)) - 1))→(∃ eb1:Bool,(v3.set j1 true)[j1]?=some eb1∧((I6 ((j1:Int)+1))∧f74G2 E r ph ln left j ((v3.set j1 true).set j1 false) v7 (j1+1)))))))))∧(¬ (((Qs r ph ln (v3.set j1 true)) - (QF (Qx r ph ln) v7 (Int.toNat (left - 1)) ((j1:Int)+1)))<0)→(∃ eb1:Bool,(v3.set j1 true)[j1]?=some eb1∧((I6 ((j1:Int)+1))∧f74G2 E r ph ln left j ((v3.set j1 true).set j1 false) v7 (j1+1))))))))))))))∧(¬ ((j1:Int)<(j:Int))→rv=v3))):f74G2 E r ph ln left j v3 v7 j1:=by
 intro g3 g7
 rcases bft (decide ((j1:Int)<(j:Int))) with hc0 | hc0
 · have h:=h.1 (odt hc0)
   rcases bft (left == 0) with hc1 | hc1
   · have h:=h.1 (eq_of_beq hc1)
     exact p74_2_0 r ph ln left j v3 v7 j1 g3 g7 hE ⟨hc0,hc1,rfl,trivial⟩ (AvLe.of_eq (by rw [h]; try rfl))
   · have h:=h.2 (ne_of_beq_false hc1)
     obtain ⟨eb,h1,h⟩:=h
     obtain ⟨h2,h⟩:=h
     obtain ⟨q9_2,h⟩:=h
     obtain ⟨q10_2,h⟩:=h
     obtain ⟨h3,h⟩:=h
     obtain ⟨q13_2,h⟩:=h
     rcases bft (decide (((Qs r ph ln (v3.set j1 true)) - (QF (Qx r ph ln) v7 (Int.toNat (left - 1)) ((j1:Int)+1)))<0)) with hc2 | hc2
     · have h:=h.1 (odt hc2)
       obtain ⟨q15_3,h⟩:=h
       obtain ⟨q17_3,h⟩:=h
       obtain ⟨q18_3,h⟩:=h
       rcases bft (decide ((left - 1)≤(((v3.length:Int) - (j1:Int)) - 1))) with hc3 | hc3
       · have h:=h.1 (odt hc3)
         obtain ⟨q20_4,h⟩:=h
         obtain ⟨q21_4,h⟩:=h
         refine p74_2_1 r ph ln left j v3 v7 j1 g3 g7 eb hE ⟨hc0,hc1,(QJ h1),rfl,(rf cB 1 0 1 h1),rfl,(by rw [(show AV.rsl (Xf (rowB v3) (0+(Int.toNat (j1:Int))*1) [.bool true]) 0 v3.length=AV.rsl (rowB (v3.set j1 true)) 0 (v3.set j1 true).length from by rw [(show Xf (rowB v3) (0+(Int.toNat (j1:Int))*1) [.bool true]=rowB (v3.set j1 true) from XR cB (s:=1) (k:=0) (fun _=>rfl) h1 rfl (by first | decide | simp))]; rw [show v3.length=(v3.set j1 true).length from by simp])]; exact (Qo Try.func57 (by kernel_rfl) f57Fb (YN r ph ln (v3.set j1 true) h2))),rfl,q9_2,q10_2,(u96 (qp r ph ln v7 (left - 1) ((j1:Int)+1) h3)),rfl,q13_2,hc2,q15_3,rfl,q17_3,q18_3,hc3,q20_4,q21_4,trivial⟩ ?_
         have h:=(h g3 g7)
         simp only [Kh,List.length_set] at h
         rw [(show Xf (rowB v3) (0+(Int.toNat (j1:Int))*1) [.bool true]=rowB (v3.set j1 true) from XR cB (s:=1) (k:=0) (fun _=>rfl) h1 rfl (by first | decide | simp))]
         exact h
       · have h:=h.2 (odf hc3)
         obtain ⟨eb1,h4,h⟩:=h
         obtain ⟨q25_4,h⟩:=h
         refine p74_2_2 r ph ln left j v3 v7 j1 g3 g7 eb eb1 hE ⟨hc0,hc1,(QJ h1),rfl,(rf cB 1 0 1 h1),rfl,(by rw [(show AV.rsl (Xf (rowB v3) (0+(Int.toNat (j1:Int))*1) [.bool true]) 0 v3.length=AV.rsl (rowB (v3.set j1 true)) 0 (v3.set j1 true).length from by rw [(show Xf (rowB v3) (0+(Int.toNat (j1:Int))*1) [.bool true]=rowB (v3.set j1 true) from XR cB (s:=1) (k:=0) (fun _=>rfl) h1 rfl (by first | decide | simp))]; rw [show v3.length=(v3.set j1 true).length from by simp])]; exact (Qo Try.func57 (by kernel_rfl) f57Fb (YN r ph ln (v3.set j1 true) h2))),rfl,q9_2,q10_2,(u96 (qp r ph ln v7 (left - 1) ((j1:Int)+1) h3)),rfl,q13_2,hc2,q15_3,rfl,q17_3,q18_3,hc3,(by have hx:=QJ h4; simpa using hx),rfl,(by rw [(show Xf (rowB v3) (0+(Int.toNat (j1:Int))*1) [.bool true]=rowB (v3.set j1 true) from XR cB (s:=1) (k:=0) (fun _=>rfl) h1 rfl (by first | decide | simp))]; exact rf cB 1 0 1 h4),rfl,q25_4,trivial⟩ ?_
         have h:=(h g3 g7)
         simp only [Kh,List.length_set] at h
         rw [(show Xf (rowB v3) (0+(Int.toNat (j1:Int))*1) [.bool true]=rowB (v3.set j1 true) from XR cB (s:=1) (k:=0) (fun _=>rfl) h1 rfl (by first | decide | simp))]; rw [(show Xf (rowB (v3.set j1 true)) (0+(Int.toNat (j1:Int))*1) [.bool false]=rowB ((v3.set j1 true).set j1 false) from XR cB (s:=1) (k:=0) (fun _=>rfl) h4 rfl (by first | decide | simp))]
         exact h
     · have h:=h.2 (odf hc2)
       obtain ⟨eb1,h4,h⟩:=h
       obtain ⟨q21_3,h⟩:=h
       refine p74_2_3 r ph ln left j v3 v7 j1 g3 g7 eb eb1 hE ⟨hc0,hc1,(QJ h1),rfl,(rf cB 1 0 1 h1),rfl,(by rw [(show AV.rsl (Xf (rowB v3) (0+(Int.toNat (j1:Int))*1) [.bool true]) 0 v3.length=AV.rsl (rowB (v3.set j1 true)) 0 (v3.set j1 true).length from by rw [(show Xf (rowB v3) (0+(Int.toNat (j1:Int))*1) [.bool true]=rowB (v3.set j1 true) from XR cB (s:=1) (k:=0) (fun _=>rfl) h1 rfl (by first | decide | simp))]; rw [show v3.length=(v3.set j1 true).length from by simp])]; exact (Qo Try.func57 (by kernel_rfl) f57Fb (YN r ph ln (v3.set j1 true) h2))),rfl,q9_2,q10_2,(u96 (qp r ph ln v7 (left - 1) ((j1:Int)+1) h3)),rfl,q13_2,hc2,rfl,(by have hx:=QJ h4; simpa using hx),rfl,(by rw [(show Xf (rowB v3) (0+(Int.toNat (j1:Int))*1) [.bool true]=rowB (v3.set j1 true) from XR cB (s:=1) (k:=0) (fun _=>rfl) h1 rfl (by first | decide | simp))]; exact rf cB 1 0 1 h4),rfl,q21_3,trivial⟩ ?_
       have h:=(h g3 g7)
       simp only [Kh,List.length_set] at h
       rw [(show Xf (rowB v3) (0+(Int.toNat (j1:Int))*1) [.bool true]=rowB (v3.set j1 true) from XR cB (s:=1) (k:=0) (fun _=>rfl) h1 rfl (by first | decide | simp))]; rw [(show Xf (rowB (v3.set j1 true)) (0+(Int.toNat (j1:Int))*1) [.bool false]=rowB ((v3.set j1 true).set j1 false) from XR cB (s:=1) (k:=0) (fun _=>rfl) h4 rfl (by first | decide | simp))]
       exact h
 · have h:=h.2 (odf hc0)
   exact p74_2_4 r ph ln left j v3 v7 j1 g3 g7 hE ⟨hc0,rfl,trivial⟩ (AvLe.of_eq (by rw [h]; try rfl))
/-! ### fewest -/
theorem seatsM_bd {r:Rg} {a b:Pt} {ph n:Nat} {fl:Nat→Int→Bool} (h:RgOk r n) (hph:ph<n) (ha:Qm a=true) (hb:Qm b=true):∀ (ss:List (List Pt)) (i:Nat) (x:Int),(∀ s ∈ ss,s ∈ r.seats)→x - 800000000000000*(ss.length:Int)≤Xi r a b ph fl ss i x∧Xi r a b ph fl ss i x≤x+800000000000000*(ss.length:Int)
 | [],i,x,_=>by simp only [Xi,List.length_nil]; omega
 | s :: ss,i,x,hs=>by
  obtain ⟨k,hk⟩:=List.getElem?_of_mem (hs s List.mem_cons_self)
  have sf:=YJ h hph ha hb hk
  have e0:=sf.e0
  have e1:=sf.e1
  have f0:=sf.f0
  have f1:=sf.f1
  have ih:=fun y=>seatsM_bd (fl:=fl) h hph ha hb ss (i+1) y (fun t ht=>hs t (List.mem_cons_of_mem _ ht))
  simp only [Xi,List.length_cons]
  cases fl i (arm a b (s.getD ph ⟨0,0,0⟩))
  · have:=ih (x+r.empty*arm a b (s.getD ph ⟨0,0,0⟩))
    simp only [cond_false]; omega
  · have:=ih (x+r.full*arm a b (s.getD ph ⟨0,0,0⟩))
    simp only [cond_true]; omega
theorem yn {r:Rg} {ph ln:Int} (h:Xq r ph ln) (bs:List Bool):-17000000000000000≤Qs r ph ln bs∧Qs r ph ln bs≤17000000000000000:=by
 obtain ⟨h0,h1,h2,h3,h4⟩:=h
 obtain ⟨l1,l2⟩:=YP h0.ok (v:=ln.toNat) (by omega)
 obtain ⟨k1,k2,k3⟩:=VF h0.ok l1 l2
 have h20:=h0.ok.seats
 have:=seatsM_bd (fl:=fun i _=>bs.getD i false) h0.ok (ph:=ph.toNat) (by omega) l1 l2 r.seats 0 (r.frame*arm (QD r ln.toNat).1 (QD r ln.toNat).2 r.c) (fun s h=>h)
 unfold Qs XV
 omega
theorem sum_bd {tk:Int→Int} {B:Int} (hB:0≤B):∀ (l:List Int),(∀ x ∈ l,-B≤tk x∧tk x≤B)→-(B*(l.length:Int))≤(l.map tk).sum∧(l.map tk).sum≤B*(l.length:Int)
 | [],_=>by simp
 | x :: l,h=>by
  have h1:=h x List.mem_cons_self
  have h2:=sum_bd hB l fun y hy=>h y (List.mem_cons_of_mem _ hy)
  simp only [List.map_cons,List.sum_cons,List.length_cons]
  rw [show (((l.length+1:Nat)):Int)=(l.length:Int)+1 by omega,Int.mul_add]
  omega
theorem yY {r:Rg} {ph ln:Int} (h:Xq r ph ln) (o:List Int) (ho:∀ x ∈ o,0≤x∧x<(r.seats.length:Int)) (hl:o.length≤20) (n:Nat) (f:Int):-32000000000000000≤QF (Qx r ph ln) o n f∧QF (Qx r ph ln) o n f≤32000000000000000:=by
 have h1:=sum_bd (tk:=Qx r ph ln) (B:=1600000000000000) (by omega) ((o.filter fun s=>decide (f≤s)).take n) fun x hx=>by
  obtain ⟨-,-,-,-,-,-,-,a7,a8⟩:=Yn (i:=x) ⟨h,ho x (List.mem_filter.1 (List.mem_of_mem_take hx)).1⟩
  exact ⟨a7,a8⟩
 have h2:((o.filter fun s=>decide (f≤s)).take n).length≤20:=by
  have:=List.length_filter_le (fun s=>decide (f≤s)) o
  rw [List.length_take]; omega
 unfold QF
 omega
theorem set_back {bs:List Bool} {i:Nat}:(bs.set i true)[i]?=if i<bs.length then some true else none:=by
 rw [List.getElem?_set]; simp
theorem fewest_ok (r:Rg) (ph ln:Int) (h:(Xq r ph ln∧Yd r ph ln<0)∧r.seats.length≤19):Pure Try.prog 74 [rigV r,.int .i64 ph,.int .i64 ln] (.rsl (rowB (QS r ph ln)) 0 (QS r ph ln).length):=Qw Try.func74 f74b fun E hE=>by
 obtain ⟨h,h19⟩:=h
 obtain ⟨hleft1,hleft2⟩:=VQ h
 have hposle:=pos_le r ph ln
 have hm:=h.1
 have hord:=Wi r ph ln
 have hin:∀ x ∈ ordF r ph ln,0≤x∧x<(r.seats.length:Int):=fun x hx=>(hord.mem x).1 hx
 have hlen:=hord.len
 have l2:∀ (m i:Nat) (bs:List Bool) (left:Nat),i+m=r.seats.length→bs.length=r.seats.length→left≤19→QS r ph ln=YH (Qs r ph ln) (Qx r ph ln) (ordF r ph ln) r.seats.length m i bs left→f74G2 E r ph ln left r.seats.length bs (ordF r ph ln) i:=by
  intro m
  induction m with
  | zero =>
   intro i bs left hi hb hl he
   exact f74W2 r ph ln left r.seats.length bs (ordF r ph ln) i (rv:=QS r ph ln) hE ⟨fun h=>by omega,fun _=>he⟩
  | succ m ih =>
   intro i bs left hi hb hl he
   unfold YH at he
   have g1:bs[i]?=some (bs[i]'(by omega)):=List.getElem?_eq_getElem (by omega)
   have g2:(bs.set i true)[i]?=some true:=by rw [set_back,if_pos (by omega)]
   have b1:=yn hm (bs.set i true)
   have b2:=yY hm (ordF r ph ln) hin (by omega) (Int.toNat ((left:Int) - 1)) ((i:Int)+1)
   have e1:Int.toNat ((left:Int) - 1)=left - 1:=by omega
   refine f74W2 r ph ln left r.seats.length bs (ordF r ph ln) i (rv:=QS r ph ln) hE ⟨fun _=>⟨fun h0=>?_,fun h0=>⟨_,g1,⟨hm,by simpa using hb⟩,by omega,by omega,⟨⟨hm,hin⟩,by omega,by omega,by omega⟩,by omega,fun hc=>⟨by omega,by omega,by omega,fun hd=>⟨by omega,by omega,?_⟩,fun hd=>⟨_,g2,by omega,?_⟩⟩,fun hc=>⟨_,g2,by omega,?_⟩⟩⟩,fun h=>by omega⟩
   · rw [if_pos (by omega)] at he; exact he
   · rw [if_neg (by omega),if_pos ⟨by rw [e1] at hc; exact hc,by omega⟩] at he
     have:=ih (i+1) _ (left - 1) (by omega) (by simpa using hb) (by omega) he
     rw [show ((left - 1:Nat):Int)=(left:Int) - 1 by omega] at this
     exact this
   · rw [if_neg (by omega),if_neg (by rw [e1] at hc; intro hh; omega)] at he
     exact ih (i+1) _ left (by omega) (by simpa using hb) hl he
   · rw [if_neg (by omega),if_neg (by rw [e1] at hc; exact fun hh=>hc hh.1)] at he
     exact ih (i+1) _ left (by omega) (by simpa using hb) hl he
 have hn:(YT r).length=r.seats.length:=by simp [YT]
 have l1:∀ (m l:Nat),l+m=posN r ph ln→WI r ph ln=qO (Qs r ph ln (YT r)) (Qx r ph ln) (ordF r ph ln) m l→f74G1 E r ph ln (YT r) (ordF r ph ln) l:=by
  intro m
  have b1:=yn hm (YT r)
  induction m with
  | zero =>
   intro l hl he
   have b2:=yY hm (ordF r ph ln) hin (by omega) (Int.toNat (l:Int)) 0
   have hp:=ord_pos r ph ln hm.1.ok.empty1
   refine f74W1 r ph ln (YT r) (ordF r ph ln) l (rv:=QS r ph ln) hE ⟨⟨hm,hn⟩,⟨⟨hm,hin⟩,by omega,by omega,by omega⟩,by omega,fun hc=>?_,fun _=>?_⟩
   · exfalso
     have e1:Int.toNat (l:Int)=posN r ph ln:=by omega
     rw [e1] at hc
     have:=h.2
     omega
   · rw [hn]
     refine l2 r.seats.length 0 (YT r) l (by omega) hn (by omega) ?_
     have:WI r ph ln=l:=by rw [he]; rfl
     unfold QS; rw [this]
  | succ m ih =>
   intro l hl he
   have b2:=yY hm (ordF r ph ln) hin (by omega) (Int.toNat (l:Int)) 0
   have e1:Int.toNat (l:Int)=l:=by omega
   simp only [qO] at he
   refine f74W1 r ph ln (YT r) (ordF r ph ln) l (rv:=QS r ph ln) hE ⟨⟨hm,hn⟩,⟨⟨hm,hin⟩,by omega,by omega,by omega⟩,by omega,fun hc=>⟨by omega,?_⟩,fun hc=>?_⟩
   · rw [e1] at hc
     rw [if_pos hc] at he
     exact ih (l+1) (by omega) he
   · rw [e1] at hc
     rw [if_neg hc] at he
     rw [hn]
     refine l2 r.seats.length 0 (YT r) l (by omega) hn (by omega) ?_
     unfold QS; rw [he]
 have l0:∀ (d i:Nat),i+d=r.seats.length→f74G0 E r ph ln (YT r) i ((List.range i).map fun (j:Nat)=>(j:Int)):=by
  intro d
  induction d with
  | zero =>
   intro i hi
   have hi':i=r.seats.length:=by omega
   subst hi'
   refine f74W0 r ph ln _ _ _ (rv:=QS r ph ln) hE ⟨fun h=>by omega,fun _=>⟨⟨⟨hm,fun x hx=>seatL_mem.1 hx⟩,by simpa using h19⟩,?_⟩⟩
   exact l1 (posN r ph ln) 0 (by omega) rfl
  | succ d ih =>
   intro i hi
   refine f74W0 r ph ln _ _ _ (rv:=QS r ph ln) hE ⟨fun _=>⟨by simp; omega,by omega,?_⟩,fun h=>by omega⟩
   have:=ih (i+1) (by omega)
   rw [List.range_succ,List.map_append] at this
   exact this
 exact f74W r ph ln (rv:=QS r ph ln) hE ⟨by omega,l0 r.seats.length 0 (by omega)⟩
end Go.Proofs.Ytideokfbnegkjaa
namespace Go.Proofs.Ytideokfbnegkjaa
open Go Ax
open Go.Proofs
theorem f41b:Try.f41.body=some (Qd Try.prog 41):=by kernel_rfl
theorem u41 {a c k:List AV} {r:AV} (h:Pure Try.prog 41 (a++c++k) r):Qb Try.prog (.clos 41 a k) c r:=Qo Try.func41 (by kernel_rfl) f41b h
def YQ (P:Program):List Item:=kAt 400 [.code (Qd P 41)] [.b false]
def Yt (r:Rg) (s:(List Bool) × Nat × Nat × Bool):St:=⟨([J,J,.ptr 1 0 0,.ptr 2 0 0,.ptr 3 0 0,.ptr 4 0 0,.ptr 5 0 0,.ptr 6 0 0]++jj 11 ([.clos 61 [.rptr [.rsl (rowS r.seats) 0 r.seats.length,.rsl (rowP r.feet) 0 r.feet.length,.int .i64 r.frame,.int .i64 r.c.x,.int .i64 r.c.y,.int .i64 r.c.z,.int .i64 r.empty,.int .i64 r.full,.rsl (Qq (Qa r.feet)) 0 ((Qa r.feet).length),.int .i64 (Qe r)] 0] []]++Js 14)),[⟨true,0,1,true,[.rsl (rowS r.seats) 0 r.seats.length,.rsl (rowP r.feet) 0 r.feet.length,.int .i64 r.frame,.int .i64 r.c.x,.int .i64 r.c.y,.int .i64 r.c.z,.int .i64 r.empty,.int .i64 r.full],false⟩,⟨true,0,1,true,[.rsl (rowB s.1) 0 s.1.length],false⟩,⟨true,0,1,true,[.int .i64 (s.2.1:Int)],false⟩,⟨true,0,1,true,[.int .i64 (s.2.2.1:Int)],false⟩,⟨true,0,1,true,[.bool s.2.2.2],false⟩,⟨true,0,1,true,[.int .i64 0],false⟩,⟨true,0,1,true,[.rptr [.rsl (rowS r.seats) 0 r.seats.length,.rsl (rowP r.feet) 0 r.feet.length,.int .i64 r.frame,.int .i64 r.c.x,.int .i64 r.c.y,.int .i64 r.c.z,.int .i64 r.empty,.int .i64 r.full,.rsl (Qq (Qa r.feet)) 0 ((Qa r.feet).length),.int .i64 (Qe r)] 0],false⟩]⟩
def f41Gr0 (E:Env) (r:Rg) (s:(List Bool) × Nat × Nat × Bool):Prop:=G Try.prog E (YQ Try.prog) (Yt r s)
def f41Tr0 (r:Rg) (s:(List Bool) × Nat × Nat × Bool) (x:Nat × Nat):St:=⟨([J,J,.ptr 1 0 0,.ptr 2 0 0,.ptr 3 0 0,.ptr 4 0 0,.ptr 5 0 0,.ptr 6 0 0,J,.ptr 7 0 0,.int .i64 (QK r x)]++jj 8 ([.clos 61 [.rptr [.rsl (rowS r.seats) 0 r.seats.length,.rsl (rowP r.feet) 0 r.feet.length,.int .i64 r.frame,.int .i64 r.c.x,.int .i64 r.c.y,.int .i64 r.c.z,.int .i64 r.empty,.int .i64 r.full,.rsl (Qq (Qa r.feet)) 0 ((Qa r.feet).length),.int .i64 (Qe r)] 0] [],.agg [.int .i64 (x.1:Int),.int .i64 (x.2:Int)],.int .i64 (QK r x)]++Js 12)),[⟨true,0,1,true,[.rsl (rowS r.seats) 0 r.seats.length,.rsl (rowP r.feet) 0 r.feet.length,.int .i64 r.frame,.int .i64 r.c.x,.int .i64 r.c.y,.int .i64 r.c.z,.int .i64 r.empty,.int .i64 r.full],false⟩,⟨true,0,1,true,[.rsl (rowB s.1) 0 s.1.length],false⟩,⟨true,0,1,true,[.int .i64 (s.2.1:Int)],false⟩,⟨true,0,1,true,[.int .i64 (s.2.2.1:Int)],false⟩,⟨true,0,1,true,[.bool s.2.2.2],false⟩,⟨true,0,1,true,[.int .i64 0],false⟩,⟨true,0,1,true,[.rptr [.rsl (rowS r.seats) 0 r.seats.length,.rsl (rowP r.feet) 0 r.feet.length,.int .i64 r.frame,.int .i64 r.c.x,.int .i64 r.c.y,.int .i64 r.c.z,.int .i64 r.empty,.int .i64 r.full,.rsl (Qq (Qa r.feet)) 0 ((Qa r.feet).length),.int .i64 (Qe r)] 0],false⟩,⟨true,0,1,true,[.int .i64 (x.1:Int),.int .i64 (x.2:Int)],false⟩]⟩
theorem p41_start_0 (r:Rg) {E:Env} {rv:AV} (hE:Qh Try.prog 41 rv E) (ho:AllP [Qb Try.prog (.clos 56 [] []) [.agg [.rsl (rowS r.seats) 0 r.seats.length,.rsl (rowP r.feet) 0 r.feet.length,.int .i64 r.frame,.int .i64 r.c.x,.int .i64 r.c.y,.int .i64 r.c.z,.int .i64 r.empty,.int .i64 r.full]] (.tup [.rptr [.rsl (rowS r.seats) 0 r.seats.length,.rsl (rowP r.feet) 0 r.feet.length,.int .i64 r.frame,.int .i64 r.c.x,.int .i64 r.c.y,.int .i64 r.c.z,.int .i64 r.empty,.int .i64 r.full,.rsl (Qq (Qa r.feet)) 0 ((Qa r.feet).length),.int .i64 (Qe r)] 0,.bool true]),1≤1,false=false])
 (hg:G Try.prog E (YQ Try.prog) ⟨([J,J,.ptr 1 0 0,.ptr 2 0 0,.ptr 3 0 0,.ptr 4 0 0,.ptr 5 0 0,.ptr 6 0 0]++jj 11 ([.clos 61 [.rptr [.rsl (rowS r.seats) 0 r.seats.length,.rsl (rowP r.feet) 0 r.feet.length,.int .i64 r.frame,.int .i64 r.c.x,.int .i64 r.c.y,.int .i64 r.c.z,.int .i64 r.empty,.int .i64 r.full,.rsl (Qq (Qa r.feet)) 0 ((Qa r.feet).length),.int .i64 (Qe r)] 0] []]++Js 14)),[⟨true,0,1,true,[.rsl (rowS r.seats) 0 r.seats.length,.rsl (rowP r.feet) 0 r.feet.length,.int .i64 r.frame,.int .i64 r.c.x,.int .i64 r.c.y,.int .i64 r.c.z,.int .i64 r.empty,.int .i64 r.full],false⟩,⟨true,0,1,true,[.nilSl],false⟩,⟨true,0,1,true,[.int .i64 0],false⟩,⟨true,0,1,true,[.int .i64 0],false⟩,⟨true,0,1,true,[.bool false],false⟩,⟨true,0,1,true,[.int .i64 0],false⟩,⟨true,0,1,true,[.rptr [.rsl (rowS r.seats) 0 r.seats.length,.rsl (rowP r.feet) 0 r.feet.length,.int .i64 r.frame,.int .i64 r.c.x,.int .i64 r.c.y,.int .i64 r.c.z,.int .i64 r.empty,.int .i64 r.full,.rsl (Qq (Qa r.feet)) 0 ((Qa r.feet).length),.int .i64 (Qe r)] 0],false⟩]⟩):G Try.prog E [.code (Qd Try.prog 41)] ⟨[.agg [.rsl (rowS r.seats) 0 r.seats.length,.rsl (rowP r.feet) 0 r.feet.length,.int .i64 r.frame,.int .i64 r.c.x,.int .i64 r.c.y,.int .i64 r.c.z,.int .i64 r.empty,.int .i64 r.full]]++unds (Try.f41.ntmps - 1),[]⟩ :=
 Qn (n:=400) (ds:=[]) (cs:=[]) (live:=[2,3,4,5,6,7,19]) (m:=7) (evs:=[.v (.tup [.rptr [.rsl (rowS r.seats) 0 r.seats.length,.rsl (rowP r.feet) 0 r.feet.length,.int .i64 r.frame,.int .i64 r.c.x,.int .i64 r.c.y,.int .i64 r.c.z,.int .i64 r.empty,.int .i64 r.full,.rsl (Qq (Qa r.feet)) 0 ((Qa r.feet).length),.int .i64 (Qe r)] 0,.bool true]),.b false]) (obs:=_) hE.2.1 (hE.nogh _) Qj (by kernel_rfl) ho hg
theorem p41_start_1 (r:Rg) {E:Env} {res:AV} (hE:Qh Try.prog 41 res E) (ho:AllP [Qb Try.prog (.clos 56 [] []) [.agg [.rsl (rowS r.seats) 0 r.seats.length,.rsl (rowP r.feet) 0 r.feet.length,.int .i64 r.frame,.int .i64 r.c.x,.int .i64 r.c.y,.int .i64 r.c.z,.int .i64 r.empty,.int .i64 r.full]] (.tup [.rptr [.rsl (rowS r.seats) 0 r.seats.length,.rsl (rowP r.feet) 0 r.feet.length,.int .i64 r.frame,.int .i64 r.c.x,.int .i64 r.c.y,.int .i64 r.c.z,.int .i64 r.empty,.int .i64 r.full,.rsl (Qq (Qa r.feet)) 0 ((Qa r.feet).length),.int .i64 (Qe r)] 0,.bool false]),1≤1,true=true,1≤1,1≤1,1≤1,1≤1,1≤1])
 (hr:AvLe (.tup [.nilSl,.int .i64 0,.int .i64 0,.bool false,.int .i64 33]) res):G Try.prog E [.code (Qd Try.prog 41)] ⟨[.agg [.rsl (rowS r.seats) 0 r.seats.length,.rsl (rowP r.feet) 0 r.feet.length,.int .i64 r.frame,.int .i64 r.c.x,.int .i64 r.c.y,.int .i64 r.c.z,.int .i64 r.empty,.int .i64 r.full]]++unds (Try.f41.ntmps - 1),[]⟩ :=
 Qg (n:=400) (evs:=[.v (.tup [.rptr [.rsl (rowS r.seats) 0 r.seats.length,.rsl (rowP r.feet) 0 r.feet.length,.int .i64 r.frame,.int .i64 r.c.x,.int .i64 r.c.y,.int .i64 r.c.z,.int .i64 r.empty,.int .i64 r.full,.rsl (Qq (Qa r.feet)) 0 ((Qa r.feet).length),.int .i64 (Qe r)] 0,.bool false]),.b true]) (obs:=_) hE Try.func41 Qj (by kernel_rfl) ho hr
theorem p41_start_2 (r:Rg) {E:Env} {res:AV} (hE:Qh Try.prog 41 res E) (ho:AllP [Qb Try.prog (.clos 56 [] []) [.agg [.rsl (rowS r.seats) 0 r.seats.length,.rsl (rowP r.feet) 0 r.feet.length,.int .i64 r.frame,.int .i64 r.c.x,.int .i64 r.c.y,.int .i64 r.c.z,.int .i64 r.empty,.int .i64 r.full]] (.tup [.nilPtr,.bool false]),1≤1,true=true,1≤1,1≤1,1≤1,1≤1,1≤1])
 (hr:AvLe (.tup [.nilSl,.int .i64 0,.int .i64 0,.bool false,.int .i64 33]) res):G Try.prog E [.code (Qd Try.prog 41)] ⟨[.agg [.rsl (rowS r.seats) 0 r.seats.length,.rsl (rowP r.feet) 0 r.feet.length,.int .i64 r.frame,.int .i64 r.c.x,.int .i64 r.c.y,.int .i64 r.c.z,.int .i64 r.empty,.int .i64 r.full]]++unds (Try.f41.ntmps - 1),[]⟩ :=
 Qg (n:=400) (evs:=[.v (.tup [.nilPtr,.bool false]),.b true]) (obs:=_) hE Try.func41 Qj (by kernel_rfl) ho hr
theorem f41W (r:Rg) {E:Env} {rv:((List Bool) × Int × Int × Bool × Int)} (hE:Qh Try.prog 41 (.tup [.rsl (rowB rv.1) 0 rv.1.length,.int .i64 rv.2.1,.int .i64 rv.2.2.1,.bool rv.2.2.2.1,.int .i64 rv.2.2.2.2]) E)
 (h:(((Xw r)=true→((RigSmall r)∧f41Gr0 E r (([]:List Bool),0,0,false)))∧((Xw r)=false→(((Xj r)=true→((RigSmall r)∧rv=(([]:List Bool),0,0,false,33)))∧((Xj r)=false→((RigSmall r)∧rv=(([]:List Bool),0,0,false,33))))))):G Try.prog E [.code (Qd Try.prog 41)] ⟨[.agg [.rsl (rowS r.seats) 0 r.seats.length,.rsl (rowP r.feet) 0 r.feet.length,.int .i64 r.frame,.int .i64 r.c.x,.int .i64 r.c.y,.int .i64 r.c.z,.int .i64 r.empty,.int .i64 r.full]]++unds (Try.f41.ntmps - 1),[]⟩:=by
 rcases bft (Xw r) with hc0 | hc0
 · have h:=h.1 hc0
   obtain ⟨h1,h⟩:=h
   refine p41_start_0 r hE ⟨(by have hx:=YL r h1; rw [hc0,yl hc0] at hx; exact Qo Try.func56 (by kernel_rfl) f56b hx),(by decide),rfl,trivial⟩ ?_
   refine weakD_step (k:=1) (cells':=[.rsl [] 0 0]) rfl rfl (by simp) ⟨.inr ⟨rfl,rfl⟩,trivial⟩ ?_
   simp only [List.set_cons_succ,List.set_cons_zero]
   exact h
 · have h:=h.2 hc0
   rcases bft (Xj r) with hc1 | hc1
   · have h:=h.1 hc1
     obtain ⟨h1,h⟩:=h
     exact p41_start_1 r hE ⟨(by have hx:=YL r h1; rw [hc0,qn hc1] at hx; exact Qo Try.func56 (by kernel_rfl) f56b hx),(by decide),rfl,(by decide),(by decide),(by decide),(by decide),(by decide),trivial⟩ (by rw [h]; exact (WY ⟨VP,⟨AvLe.of_eq rfl,⟨AvLe.of_eq rfl,⟨AvLe.of_eq rfl,⟨AvLe.of_eq rfl,trivial⟩⟩⟩⟩⟩))
   · have h:=h.2 hc1
     obtain ⟨h1,h⟩:=h
     exact p41_start_2 r hE ⟨(by have hx:=YL r h1; rw [hc0,qo hc1] at hx; exact Qo Try.func56 (by kernel_rfl) f56b hx),(by decide),rfl,(by decide),(by decide),(by decide),(by decide),(by decide),trivial⟩ (by rw [h]; exact (WY ⟨VP,⟨AvLe.of_eq rfl,⟨AvLe.of_eq rfl,⟨AvLe.of_eq rfl,⟨AvLe.of_eq rfl,trivial⟩⟩⟩⟩⟩))
theorem p41_r0e_0 (r:Rg) (s:(List Bool) × Nat × Nat × Bool) {E:Env} {res:AV} (hE:Qh Try.prog 41 res E) (ho:AllP [1≤1,1≤1,1≤1,1≤1,1≤1])
 (hr:AvLe (.tup [.nilSl,.int .i64 0,.int .i64 0,.bool false,.int .i64 0]) res):G Try.prog E (Va (YQ Try.prog)) (Yt r s) :=
 Qg (n:=400) (evs:=[]) (obs:=_) hE Try.func41 Qj (by kernel_rfl) ho hr
theorem f41Wr0e (r:Rg) (s:(List Bool) × Nat × Nat × Bool) {E:Env} {rv:((List Bool) × Int × Int × Bool × Int)} (hE:Qh Try.prog 41 (.tup [.rsl (rowB rv.1) 0 rv.1.length,.int .i64 rv.2.1,.int .i64 rv.2.2.1,.bool rv.2.2.2.1,.int .i64 rv.2.2.2.2]) E)
 (h:rv=(([]:List Bool),0,0,false,0)):G Try.prog E (Va (YQ Try.prog)) (Yt r s):=by
 exact p41_r0e_0 r s hE ⟨(by decide),(by decide),(by decide),(by decide),(by decide),trivial⟩ (by rw [h]; exact (WY ⟨VP,⟨AvLe.of_eq rfl,⟨AvLe.of_eq rfl,⟨AvLe.of_eq rfl,⟨AvLe.of_eq rfl,trivial⟩⟩⟩⟩⟩))
theorem p41_r0j_0 (r:Rg) (s:(List Bool) × Nat × Nat × Bool) {E:Env} {res:AV} (hE:Qh Try.prog 41 res E) (ho:AllP [])
 (hr:AvLe (.tup [.rsl (rowB s.1) 0 s.1.length,.int .i64 (s.2.1:Int),.int .i64 (s.2.2.1:Int),.bool s.2.2.2,.int .i64 0]) res):G Try.prog E (.code (.ret) :: Va (YQ Try.prog)) (Yt r s) :=
 Qg (n:=400) (evs:=[]) (obs:=_) hE Try.func41 Qj (by kernel_rfl) ho hr
theorem f41Wr0j (r:Rg) (s:(List Bool) × Nat × Nat × Bool) {E:Env} {rv:((List Bool) × Int × Int × Bool × Int)} (hE:Qh Try.prog 41 (.tup [.rsl (rowB rv.1) 0 rv.1.length,.int .i64 rv.2.1,.int .i64 rv.2.2.1,.bool rv.2.2.2.1,.int .i64 rv.2.2.2.2]) E)
 (h:rv=(s.1,(s.2.1:Int),(s.2.2.1:Int),s.2.2.2,0)):G Try.prog E (.code (.ret) :: Va (YQ Try.prog)) (Yt r s):=by
 exact p41_r0j_0 r s hE trivial (AvLe.of_eq (by rw [h]; try rfl))
theorem f41Ar0 (r:Rg) (s:(List Bool) × Nat × Nat × Bool) (x:Nat × Nat) {E:Env} (hE:RoundE (Yt r s).tmps E) (hg:G Try.prog E [.beginRound,.code (Xv (YQ Try.prog))] (f41Tr0 r s x)):G Try.prog E [.code (VL (YQ Try.prog)),.beginRound,.code (Xv (YQ Try.prog))] ⟨Wg (Yt r s).tmps [20,21] ((argW r) x),(Yt r s).blks⟩ :=
 Qn (n:=400) (ds:=[]) (cs:=[]) (live:=[0,1,2,3,4,5,6,7,8,9,10,11,12,13,14,15,16,17,18,19,20,21,22,23,24,25,26,27,28,29,30,31,32,33]) (m:=8) (evs:=[]) (obs:=[2≤2]) hE.kind (by rw [hE.gA]; kernel_rfl) Qj (by kernel_rfl) ⟨(by decide),trivial⟩ hg
theorem f41Br0_0 (r:Rg) (s:(List Bool) × Nat × Nat × Bool) (x:Nat × Nat) {E:Env} (hE:RoundE (Yt r s).tmps E) (ho:AllP [(decide ((QK r x)<0))=true,(0:Int)≤0∧(0:Int)<((2:Nat):Int),(0:Int)≤1∧(1:Int)<((2:Nat):Int),Qb Try.prog (.clos 74 [] []) [.rptr [.rsl (rowS r.seats) 0 r.seats.length,.rsl (rowP r.feet) 0 r.feet.length,.int .i64 r.frame,.int .i64 r.c.x,.int .i64 r.c.y,.int .i64 r.c.z,.int .i64 r.empty,.int .i64 r.full,.rsl (Qq (Qa r.feet)) 0 ((Qa r.feet).length),.int .i64 (Qe r)] 0,.int .i64 (x.1:Int),.int .i64 (x.2:Int)] (.rsl (rowB (QS r (x.1:Int) (x.2:Int))) 0 ((QS r (x.1:Int) (x.2:Int)).length)),(0:Int)≤0∧(0:Int)<((2:Nat):Int),(0:Int)≤1∧(1:Int)<((2:Nat):Int),1≤1,1≤1,1≤1,1≤1,1≤1])
 (hg:G Try.prog E (kAt 400 [.code (Xv (YQ Try.prog))] [.b true]) ⟨(Js 34),[⟨true,0,1,true,[.rsl (rowS r.seats) 0 r.seats.length,.rsl (rowP r.feet) 0 r.feet.length,.int .i64 r.frame,.int .i64 r.c.x,.int .i64 r.c.y,.int .i64 r.c.z,.int .i64 r.empty,.int .i64 r.full],false⟩,⟨true,0,1,true,[.rsl (rowB (QS r (x.1:Int) (x.2:Int))) 0 ((QS r (x.1:Int) (x.2:Int)).length)],false⟩,⟨true,0,1,true,[.int .i64 (x.1:Int)],false⟩,⟨true,0,1,true,[.int .i64 (x.2:Int)],false⟩,⟨true,0,1,true,[.bool true],false⟩,⟨true,0,1,true,[.int .i64 0],false⟩,⟨true,0,1,true,[.rptr [.rsl (rowS r.seats) 0 r.seats.length,.rsl (rowP r.feet) 0 r.feet.length,.int .i64 r.frame,.int .i64 r.c.x,.int .i64 r.c.y,.int .i64 r.c.z,.int .i64 r.empty,.int .i64 r.full,.rsl (Qq (Qa r.feet)) 0 ((Qa r.feet).length),.int .i64 (Qe r)] 0],false⟩]⟩):G Try.prog E [.code (Xv (YQ Try.prog))] (f41Tr0 r s x) :=
 Qn (n:=400) (ds:=[]) (cs:=[]) (live:=[]) (m:=7) (evs:=[.b true,.v (.rsl (rowB (QS r (x.1:Int) (x.2:Int))) 0 ((QS r (x.1:Int) (x.2:Int)).length))]) (obs:=_) hE.kind (by rw [hE.gA]; kernel_rfl) Qj (by kernel_rfl) ho hg
theorem f41Br0_1 (r:Rg) (s:(List Bool) × Nat × Nat × Bool) (x:Nat × Nat) {E:Env} (hE:RoundE (Yt r s).tmps E) (ho:AllP [(decide ((QK r x)<0))=false])
 (hg:G Try.prog E [] ⟨(Js 34),[⟨true,0,1,true,[.rsl (rowS r.seats) 0 r.seats.length,.rsl (rowP r.feet) 0 r.feet.length,.int .i64 r.frame,.int .i64 r.c.x,.int .i64 r.c.y,.int .i64 r.c.z,.int .i64 r.empty,.int .i64 r.full],false⟩,⟨true,0,1,true,[.rsl (rowB s.1) 0 s.1.length],false⟩,⟨true,0,1,true,[.int .i64 (s.2.1:Int)],false⟩,⟨true,0,1,true,[.int .i64 (s.2.2.1:Int)],false⟩,⟨true,0,1,true,[.bool s.2.2.2],false⟩,⟨true,0,1,true,[.int .i64 0],false⟩,⟨true,0,1,true,[.rptr [.rsl (rowS r.seats) 0 r.seats.length,.rsl (rowP r.feet) 0 r.feet.length,.int .i64 r.frame,.int .i64 r.c.x,.int .i64 r.c.y,.int .i64 r.c.z,.int .i64 r.empty,.int .i64 r.full,.rsl (Qq (Qa r.feet)) 0 ((Qa r.feet).length),.int .i64 (Qe r)] 0],false⟩]⟩):G Try.prog E [.code (Xv (YQ Try.prog))] (f41Tr0 r s x) :=
 Qn (n:=400) (ds:=[]) (cs:=[]) (live:=[]) (m:=7) (evs:=[.b false]) (obs:=_) hE.kind (by rw [hE.gA]; kernel_rfl) Qj (by kernel_rfl) ho hg
theorem f41Br0 (r:Rg) (s:(List Bool) × Nat × Nat × Bool) (x:Nat × Nat) {rq:((List Bool) × Nat × Nat × Bool) × Bool} {E:Env} (hE:RoundE (Yt r s).tmps E) (hQ:yK (fun s=>(Yt r s).blks) (.ret) rq E)
 (h:(((QK r x)<0→(((Xq r (x.1:Int) (x.2:Int)∧Yd r (x.1:Int) (x.2:Int)<0)∧r.seats.length≤19)∧rq=(((QS r (x.1:Int) (x.2:Int)),x.1,x.2,true),false)))∧(¬ ((QK r x)<0)→rq=((s.1,s.2.1,s.2.2.1,s.2.2.2),true)))):G Try.prog E [.code (Xv (YQ Try.prog))] (f41Tr0 r s x):=by
 rcases bft (decide ((QK r x)<0)) with hc0 | hc0
 · have h:=h.1 (odt hc0)
   obtain ⟨h1,h⟩:=h
   exact f41Br0_0 r s x hE ⟨hc0,(⟨by decide,by decide⟩),(⟨by decide,by decide⟩),(u74 (fewest_ok r (x.1:Int) (x.2:Int) h1)),(⟨by decide,by decide⟩),(⟨by decide,by decide⟩),(by decide),(by decide),(by decide),(by decide),(by decide),trivial⟩ (round_jump hQ h (by kernel_rfl) rfl)
 · have h:=h.2 (odf hc0)
   exact f41Br0_1 r s x hE ⟨hc0,trivial⟩ (WP hQ h rfl)
theorem f41Rr0 (r:Rg) (s0:(List Bool) × Nat × Nat × Bool) {E:Env} {rv:((List Bool) × Int × Int × Bool × Int)} (hE:Qh Try.prog 41 (.tup [.rsl (rowB rv.1) 0 rv.1.length,.int .i64 rv.2.1,.int .i64 rv.2.2.1,.bool rv.2.2.2.1,.int .i64 rv.2.2.2.2]) E) (step:((List Bool) × Nat × Nat × Bool)→(Nat × Nat)→((List Bool) × Nat × Nat × Bool) × Bool)
 (h:RigMade r∧(∀ (i:Nat) (x:Nat × Nat) (s:(List Bool) × Nat × Nat × Bool),(Vc r)[i]?=some x→Qz step s0 ((Vc r).take i)=(s,true)→(((QK r x)<0→(((Xq r (x.1:Int) (x.2:Int)∧Yd r (x.1:Int) (x.2:Int)<0)∧r.seats.length≤19)∧step s x=(((QS r (x.1:Int) (x.2:Int)),x.1,x.2,true),false)))∧(¬ ((QK r x)<0)→step s x=((s.1,s.2.1,s.2.2.1,s.2.2.2),true))))∧(∀ s:(List Bool) × Nat × Nat × Bool,Qz step s0 (Vc r)=(s,true)→rv=(([]:List Bool),0,0,false,0))∧(∀ s:(List Bool) × Nat × Nat × Bool,Qz step s0 (Vc r)=(s,false)→rv=(s.1,(s.2.1:Int),(s.2.2.1:Int),s.2.2.2,0))):f41Gr0 E r s0:=by
 have hgA:E.gA=[]:=hE.2.2.2.2.1
 have hT:(Yt r s0).tmps++E.gA=(Yt r s0).tmps:=by rw [hgA,List.append_nil]
 refine yg (σ:=(List Bool) × Nat × Nat × Bool) (X:=Nat × Nat) (arg:=(argW r)) (L:=(Vc r)) (jump:=.ret) (g:=.tmp 19) (ps:=#[20,21]) (fun s=>(Yt r s).blks) (fun s x=>(f41Tr0 r s x)) step s0 hE.1 hE.2.1 (by kernel_rfl) rfl rfl (worst_it r h.1) rfl (fun x=>rfl) (fun s x E' hR hg=>?_) (fun i x s hx hs E' hR hQ=>?_) (fun s hs=>?_) (fun s hs=>?_)
 · rw [hT] at hR; exact f41Ar0 r s x hR hg
 · rw [hT] at hR; exact f41Br0 r s x hR hQ (h.2.1 i x s hx hs)
 · exact f41Wr0e r s hE (h.2.2.1 s hs)
 · exact f41Wr0j r s hE (h.2.2.2 s hs)
/-- The first phase and line at which the rig can tip. -/
def VZ (r:Rg):Option (Nat × Nat):=(Vc r).find? fun x=>decide (QK r x<0)
def XD (r:Rg):Bool:=Xw r && (VZ r).isSome
def Ql (r:Rg):Nat × Nat:=(VZ r).getD (0,0)
def Qk (r:Rg):List Bool:=QS r (((Ql r).1:Nat):Int) (((Ql r).2:Nat):Int)
def tipsS (r:Rg) (x:Nat × Nat):(List Bool) × Nat × Nat × Bool:=(QS r (x.1:Int) (x.2:Int),x.1,x.2,true)
def WN (r:Rg) (s:(List Bool) × Nat × Nat × Bool) (x:Nat × Nat):((List Bool) × Nat × Nat × Bool) × Bool:=if QK r x<0 then (tipsS r x,false) else (s,true)
theorem WZ {r:Rg} {s0:(List Bool) × Nat × Nat × Bool}:∀ (L:List (Nat × Nat)),Qz (WN r) s0 L=(match L.find? fun x=>decide (QK r x<0) with | some x=>(tipsS r x,false) | none=>(s0,true))
 | []=>rfl
 | x :: L=>by
  rw [Qz,List.find?_cons]
  by_cases c:QK r x<0
  · have e:WN r s0 x=(tipsS r x,false):=if_pos c
    have d:decide (QK r x<0)=true:=decide_eq_true c
    rw [e,d]; rfl
  · have e:WN r s0 x=(s0,true):=if_neg c
    have d:decide (QK r x<0)=false:=decide_eq_false c
    rw [e,d]
    exact WZ L
theorem tipsX_spec {r:Rg} {x:Nat × Nat} (h:VZ r=some x):x ∈ Vc r∧QK r x<0:=by
 unfold VZ at h
 exact ⟨List.mem_of_find?_eq_some h,by simpa using List.find?_some h⟩
def XU (r:Rg):(List Bool) × Int × Int × Bool × Int:=if Xw r=true then (match VZ r with
 | some x=>(QS r (x.1:Int) (x.2:Int),(x.1:Int),(x.2:Int),true,0)
 | none=>([],0,0,false,0)) else ([],0,0,false,33)
theorem mem_momOk {r:Rg} (hm:RigMade r) {x:Nat × Nat} (hx:x ∈ Vc r):Xq r (x.1:Int) (x.2:Int):=by
 obtain ⟨h1,h2⟩:=mem_rigPV.1 hx
 exact ⟨hm,by omega,by omega,by omega,by omega⟩
theorem Tips_ok (r:Rg) (hs:RigSmall r∧(Xw r=true→r.seats.length≤19)):Pure Try.prog 41 [.agg [.rsl (rowS r.seats) 0 r.seats.length,.rsl (rowP r.feet) 0 r.feet.length,.int .i64 r.frame,.int .i64 r.c.x,.int .i64 r.c.y,.int .i64 r.c.z,.int .i64 r.empty,.int .i64 r.full]] (.tup [.rsl (rowB (XU r).1) 0 (XU r).1.length,.int .i64 (XU r).2.1,.int .i64 (XU r).2.2.1,.bool (XU r).2.2.2.1,.int .i64 (XU r).2.2.2.2]):=Qw Try.func41 f41b fun E hE=>by
 obtain ⟨hs,h19⟩:=hs
 refine f41W r (rv:=XU r) hE ⟨fun h=>⟨hs,f41Rr0 r _ hE (WN r) ⟨Yh h,fun i x s hx hs=>⟨fun h1=>?_,fun h1=>?_⟩,fun s hs=>?_,fun s hs=>?_⟩⟩,fun h=>⟨fun _=>⟨hs,?_⟩,fun _=>⟨hs,?_⟩⟩⟩
 · exact ⟨⟨⟨mem_momOk (Yh h) (List.mem_of_getElem? hx),h1⟩,h19 h⟩,if_pos h1⟩
 · exact if_neg h1
 · rw [WZ] at hs
   have e:VZ r=none:=by
    unfold VZ
    cases hf:(Vc r).find? fun x=>decide (QK r x<0) with
    | none=>rfl
    | some x=>rw [hf] at hs; simp at hs
   rw [XU,if_pos h,e]
 · rw [WZ] at hs
   cases hf:(Vc r).find? fun x=>decide (QK r x<0) with
   | none=>rw [hf] at hs; simp at hs
   | some x =>
    rw [hf] at hs
    simp only [Prod.mk.injEq,and_true] at hs
    have e:VZ r=some x:=hf
    rw [XU,if_pos h,e,← hs]; rfl
 · rw [XU,if_neg (by rw [h]; exact Bool.false_ne_true)]
 · rw [XU,if_neg (by rw [h]; exact Bool.false_ne_true)]
theorem Xb (r:Rg) (hs:RigSmall r∧(Xw r=true→r.seats.length≤19)) (hf:XD r=true):Pure Try.prog 41 [.agg [.rsl (rowS r.seats) 0 r.seats.length,.rsl (rowP r.feet) 0 r.feet.length,.int .i64 r.frame,.int .i64 r.c.x,.int .i64 r.c.y,.int .i64 r.c.z,.int .i64 r.empty,.int .i64 r.full]] (.tup [.rsl (rowB (Qk r)) 0 (Qk r).length,.int .i64 (((Ql r).1:Nat):Int),.int .i64 (((Ql r).2:Nat):Int),.bool true,.int .i64 0]):=by
 have h:=Tips_ok r hs
 simp only [XD,Bool.and_eq_true] at hf
 cases hx:VZ r with
 | none=>rw [hx] at hf; simp at hf
 | some x =>
  have e:XU r=(Qk r,(((Ql r).1:Nat):Int),(((Ql r).2:Nat):Int),true,0):=by
   rw [XU,if_pos hf.1]; unfold Qk Ql; rw [hx]; rfl
  rw [e] at h; exact h
theorem Xm (r:Rg) (hs:RigSmall r∧(Xw r=true→r.seats.length≤19)) (hf:XD r=false):Pure Try.prog 41 [.agg [.rsl (rowS r.seats) 0 r.seats.length,.rsl (rowP r.feet) 0 r.feet.length,.int .i64 r.frame,.int .i64 r.c.x,.int .i64 r.c.y,.int .i64 r.c.z,.int .i64 r.empty,.int .i64 r.full]] (.tup [.rsl [] 0 0,.int .i64 0,.int .i64 0,.bool false,.int .i64 (Qf r)]):=by
 have h:=Tips_ok r hs
 have e:XU r=([],0,0,false,Qf r):=by
  rw [XU]
  cases hr:Xw r with
  | false=>simp [Qf,hr]
  | true =>
   rw [if_pos rfl]
   cases hx:VZ r with
   | some x=>simp [XD,hr,hx] at hf
   | none=>simp [Qf,hr]
 rw [e] at h; exact h
theorem qY {r:Rg} (h:XD r=true):Xw r=true∧VZ r=some (Ql r):=by
 simp only [XD,Bool.and_eq_true] at h
 refine ⟨h.1,?_⟩
 unfold Ql
 cases hx:VZ r with
 | none=>rw [hx] at h; simp at h
 | some x=>rfl
end Go.Proofs.Ytideokfbnegkjaa