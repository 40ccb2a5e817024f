/- A part of the proof: several texts, one behind the other. -/
import Derived.Test.YtideokfbnegkjaaLForceTipsB
import Derived.Defers
set_option linter.unusedVariables false
set_option linter.unusedSimpArgs false
set_option maxRecDepth 100000
namespace Go.Proofs.Ytideokfbnegkjaa
open Go Ax
open Go.Proofs
theorem f16b:Try.f16.body=some (Qd Try.prog 16):=by kernel_rfl
theorem u16 {a c k:List AV} {r:AV} (h:Pure Try.prog 16 (a++c++k) r):Qb Try.prog (.clos 16 a k) c r:=Qo Try.func16 (by kernel_rfl) f16b h
theorem p16_e (l:List Pt) (m:Mot) (x:Lim) (fails:Bool) (hl:l.length≤1000) {E:Env} {res:AV} (hE:Qh Try.prog 16 res E) (h2:((XO l m [x]) != 0)=true)
 (hr:.tup [.int .i64 0,.int .i64 (XO l m [x])]=res):G Try.prog E [.code (Qd Try.prog 16)] ⟨[.rsl (rowP l) 0 l.length,.agg [.int .i64 m.top,.int .i64 m.ease,.int .i64 m.jerk],.agg [.int .i64 x.side,.int .i64 x.low,.int .i64 x.high],.bool fails]++unds (Try.f16.ntmps - 4),[]⟩ :=
 Qp (n:=400) (evs:=[.v (.int .i64 (XO l m [x])),.b true]) (obs:=[Qb Try.prog (.clos 46 [] []) [.rsl (rowP l) 0 l.length,.agg [.int .i64 m.top,.int .i64 m.ease,.int .i64 m.jerk],.rsl [.int .i64 x.side,.int .i64 x.low,.int .i64 x.high] 0 1] (.int .i64 (XO l m [x])),0=0,((XO l m [x]) != 0)=true]) hE Try.func16 Qj (by kernel_rfl) ⟨(check_F l _ [x] hl (by simp)),rfl,h2,trivial⟩ hr
def f16K0 (P:Program):List Item:=kAt 400 [.code (Qd P 16)] [.b false,.stop]
def f16S0 (l:List Pt) (m:Mot) (x:Lim) (fails:Bool) (t:Int):St:=⟨([.rsl (rowP l) 0 l.length,J,J,.bool fails,J,.ptr 0 0 0,.ptr 1 0 0]++Js 33),[⟨true,0,1,true,[.int .i64 t,.int .i64 m.ease,.int .i64 m.jerk],false⟩,⟨true,0,1,true,[.int .i64 x.side,.int .i64 x.low,.int .i64 x.high],false⟩]⟩
theorem p16_s (l:List Pt) (m:Mot) (x:Lim) (fails:Bool) (hl:l.length≤1000) {E:Env} {res:AV} (hE:Qh Try.prog 16 res E) (h2:((XO l m [x]) != 0)=false)
 (hg:G Try.prog E (f16K0 Try.prog) (f16S0 l m x fails m.top)):G Try.prog E [.code (Qd Try.prog 16)] ⟨[.rsl (rowP l) 0 l.length,.agg [.int .i64 m.top,.int .i64 m.ease,.int .i64 m.jerk],.agg [.int .i64 x.side,.int .i64 x.low,.int .i64 x.high],.bool fails]++unds (Try.f16.ntmps - 4),[]⟩ :=
 Qy (n:=400) (ds:=[]) (live:=[0,3,5,6]) (m:=2) (evs:=[.v (.int .i64 (XO l m [x])),.b false,.stop]) (obs:=[Qb Try.prog (.clos 46 [] []) [.rsl (rowP l) 0 l.length,.agg [.int .i64 m.top,.int .i64 m.ease,.int .i64 m.jerk],.rsl [.int .i64 x.side,.int .i64 x.low,.int .i64 x.high] 0 1] (.int .i64 (XO l m [x])),0=0,((XO l m [x]) != 0)=false]) hE.2.1 (hE.nogh _) Qj (by kernel_rfl) ⟨(check_F l _ [x] hl (by simp)),rfl,h2,trivial⟩ hg
theorem p16_0 (l:List Pt) (m:Mot) (x:Lim) (fails:Bool) (t:Int) (bc:Chg) (kb:Bool) {E:Env} {res:AV} (hE:Qh Try.prog 16 res E) (h0:(decide (t > 0))=true) (h1:Qb Try.prog (.clos 47 [] []) [.rsl (rowP l) 0 l.length,.agg [.int .i64 t,.int .i64 m.ease,.int .i64 m.jerk],.agg [.int .i64 x.side,.int .i64 x.low,.int .i64 x.high],.bool fails] (.tup [.agg [.int .i64 bc.phase,.int .i64 bc.before,.int .i64 bc.after],.bool kb])) (h3:(!kb)=true)
 (hr:.tup [.int .i64 t,.int .i64 0]=res):G Try.prog E (f16K0 Try.prog) (f16S0 l m x fails t) :=
 Qp (n:=400) (evs:=[.b true,.v (.tup [.agg [.int .i64 bc.phase,.int .i64 bc.before,.int .i64 bc.after],.bool kb]),.b true]) (obs:=[(decide (t > 0))=true,Qb Try.prog (.clos 47 [] []) [.rsl (rowP l) 0 l.length,.agg [.int .i64 t,.int .i64 m.ease,.int .i64 m.jerk],.agg [.int .i64 x.side,.int .i64 x.low,.int .i64 x.high],.bool fails] (.tup [.agg [.int .i64 bc.phase,.int .i64 bc.before,.int .i64 bc.after],.bool kb]),3≤3,(!kb)=true]) hE Try.func16 Qj (by kernel_rfl) ⟨h0,h1,(by decide),h3,trivial⟩ hr
theorem p16_1 (l:List Pt) (m:Mot) (x:Lim) (fails:Bool) (t:Int) (bc:Chg) (kb:Bool) {E:Env} {res:AV} (hE:Qh Try.prog 16 res E) (h0:(decide (t > 0))=true) (h1:Qb Try.prog (.clos 47 [] []) [.rsl (rowP l) 0 l.length,.agg [.int .i64 t,.int .i64 m.ease,.int .i64 m.jerk],.agg [.int .i64 x.side,.int .i64 x.low,.int .i64 x.high],.bool fails] (.tup [.agg [.int .i64 bc.phase,.int .i64 bc.before,.int .i64 bc.after],.bool kb])) (h3:(!kb)=false) (h4:InR .i64 (t - 1))
 (hg:G Try.prog E (f16K0 Try.prog) (f16S0 l m x fails (t - 1))):G Try.prog E (f16K0 Try.prog) (f16S0 l m x fails t) :=
 Qy (n:=400) (ds:=[]) (live:=[0,3,5,6]) (m:=2) (evs:=[.b true,.v (.tup [.agg [.int .i64 bc.phase,.int .i64 bc.before,.int .i64 bc.after],.bool kb]),.b false,.stop]) (obs:=[(decide (t > 0))=true,Qb Try.prog (.clos 47 [] []) [.rsl (rowP l) 0 l.length,.agg [.int .i64 t,.int .i64 m.ease,.int .i64 m.jerk],.agg [.int .i64 x.side,.int .i64 x.low,.int .i64 x.high],.bool fails] (.tup [.agg [.int .i64 bc.phase,.int .i64 bc.before,.int .i64 bc.after],.bool kb]),3≤3,(!kb)=false,InR .i64 (t - 1),1≤3]) hE.2.1 (hE.nogh _) Qj (by kernel_rfl) ⟨h0,h1,(by decide),h3,h4,(by decide),trivial⟩ hg
theorem p16_2 (l:List Pt) (m:Mot) (x:Lim) (fails:Bool) (t:Int) {E:Env} {res:AV} (hE:Qh Try.prog 16 res E) (h0:(decide (t > 0))=false)
 (hr:.tup [.int .i64 0,.int .i64 3]=res):G Try.prog E (f16K0 Try.prog) (f16S0 l m x fails t) :=
 Qp (n:=400) (evs:=[.b false]) (obs:=[(decide (t > 0))=false]) hE Try.func16 Qj (by kernel_rfl) ⟨h0,trivial⟩ hr
theorem keepB_first (l:List Pt) (x:Lim) (st:Int) (T:Nat):(badC l x (chgs st T l.length)).isSome=!keepB l x st T:=by
 unfold keepB; cases badC l x (chgs st T l.length) <;> rfl
def Xr (l:List Pt) (m:Mot) (x:Lim) (fails:Bool):Int × Int :=
 bif XO l m [x] != 0 then (0,XO l m [x]) else fastR (keepB l x (ease m fails)) m.top.toNat
theorem checkE_zero {l:List Pt} {m:Mot} {x:Lim} (h:(XO l m [x] != 0)=false):QE l=true∧Xc m=true∧QC x=true:=by
 simp only [XO,List.any_cons,List.any_nil,Bool.or_false] at h
 rcases Bool.eq_false_or_eq_true (QE l) with a | a <;> rcases Bool.eq_false_or_eq_true (Xc m) with b | b <;> rcases Bool.eq_false_or_eq_true (QC x) with c | c <;>
  rw [a,b,c] at h <;> first | exact ⟨a,b,c⟩ | (exfalso; revert h; decide)
theorem Yk (l:List Pt) (m:Mot) (x:Lim) (fails:Bool) (hl:l.length≤1000) :
 Pure Try.prog 16 [.rsl (rowP l) 0 l.length,.agg [.int .i64 m.top,.int .i64 m.ease,.int .i64 m.jerk],.agg [.int .i64 x.side,.int .i64 x.low,.int .i64 x.high],.bool fails]
  (.tup [.int .i64 (Xr l m x fails).1,.int .i64 (Xr l m x fails).2]):=Qw Try.func16 f16b fun E hE=>by
 rcases Bool.eq_false_or_eq_true (XO l m [x] != 0) with hc | hc
 · exact p16_e l m x fails hl hE hc (by simp only [Xr,hc,cond_true])
 · obtain ⟨hv,hm,hx⟩:=checkE_zero hc
   have hb:=ym hm
   have he:=ease_bd hm fails
   have key:∀ t:Nat,t≤10→fastR (keepB l x (ease m fails)) t=Xr l m x fails→G Try.prog E (f16K0 Try.prog) (f16S0 l m x fails t):=by
    intro t
    induction t with
    | zero =>
     intro _ hr
     exact p16_2 l m x fails _ hE (by simp) (by rw [← hr]; rfl)
    | succ t ih =>
     intro ht hr
     have hK:=first_F l ⟨((t+1:Nat):Int),m.ease,m.jerk⟩ x fails (t+1) hv ⟨rfl,ht,he.1,he.2⟩ hx
     have hs:=keepB_first l x (ease m fails) (t+1)
     rcases Bool.eq_false_or_eq_true (keepB l x (ease m fails) (t+1)) with hk | hk
     · refine p16_0 l m x fails _ _ _ hE (by simp <;> omega) hK (by show (!Option.isSome _)=true; rw [show ease ⟨((t+1:Nat):Int),m.ease,m.jerk⟩ fails=ease m fails from rfl,hs,hk]; rfl) ?_
       rw [← hr]; simp only [fastR,hk,cond_true]
     · refine p16_1 l m x fails _ _ _ hE (by simp <;> omega) hK (by show (!Option.isSome _)=false; rw [show ease ⟨((t+1:Nat):Int),m.ease,m.jerk⟩ fails=ease m fails from rfl,hs,hk]; rfl) (by unfold InR; omega) ?_
       have e:((t+1:Nat):Int) - 1=(t:Nat):=by omega
       rw [e]
       refine ih (by omega) ?_
       rw [← hr]; simp only [fastR,hk,cond_false]
   refine p16_s l m x fails hl hE hc ?_
   have e:m.top=(m.top.toNat:Int):=by omega
   rw [e]
   exact key m.top.toNat (by omega) (by simp only [Xr,hc,cond_false])
end Go.Proofs.Ytideokfbnegkjaa
namespace Go.Proofs.Ytideokfbnegkjaa
open Go Ax
open Go.Proofs
def QG (p:Pt):Bool:=!Qm p || p.z != 0
theorem f85b:Try.f85.body=some (Qd Try.prog 85):=by kernel_rfl
theorem p85_0 (p:Pt) {E:Env} {res:AV} (hE:Qh Try.prog 85 res E) (h1:(!(Qm p))=true)
 (hr:.bool true=res):G Try.prog E [.code (Qd Try.prog 85)] ⟨[.agg [.int .i64 p.x,.int .i64 p.y,.int .i64 p.z]]++unds (Try.f85.ntmps - 1),[]⟩ :=
 Qp (n:=400) (evs:=[.v (.bool (Qm p)),.b true]) (obs:=[Qb Try.prog (.clos 82 [] []) [.agg [.int .i64 p.x,.int .i64 p.y,.int .i64 p.z]] (.bool (Qm p)),(!(Qm p))=true]) hE Try.func85 Qj (by kernel_rfl) ⟨(qc _),h1,trivial⟩ hr
theorem p85_1 (p:Pt) {E:Env} {res:AV} (hE:Qh Try.prog 85 res E) (h1:(!(Qm p))=false)
 (hr:.bool (p.z != 0)=res):G Try.prog E [.code (Qd Try.prog 85)] ⟨[.agg [.int .i64 p.x,.int .i64 p.y,.int .i64 p.z]]++unds (Try.f85.ntmps - 1),[]⟩ :=
 Qp (n:=400) (evs:=[.v (.bool (Qm p)),.b false]) (obs:=[Qb Try.prog (.clos 82 [] []) [.agg [.int .i64 p.x,.int .i64 p.y,.int .i64 p.z]] (.bool (Qm p)),(!(Qm p))=false]) hE Try.func85 Qj (by kernel_rfl) ⟨(qc _),h1,trivial⟩ hr
theorem foot1_ok (p:Pt):Pure Try.prog 85 [.agg [.int .i64 p.x,.int .i64 p.y,.int .i64 p.z]] (.bool (QG p)):=Qw Try.func85 f85b fun E hE=>by
 rcases Bool.eq_false_or_eq_true (!(Qm p)) with hc0 | hc0
 · exact p85_0 p hE hc0 (by simp [QG, *])
 · exact p85_1 p hE hc0 (by simp [QG, *])
theorem foot1_F (p:Pt):Qb Try.prog (.clos 85 [] []) [.agg [.int .i64 p.x,.int .i64 p.y,.int .i64 p.z]] (.bool (QG p)):=Qo Try.func85 (by kernel_rfl) f85b (by simpa using foot1_ok p )
theorem f99b:Try.f99.body=some (Qd Try.prog 99):=by kernel_rfl
def f99K0 (P:Program):List Item:=kAt 400 [.code (Qd P 99)] [.stop]
def f99S0 (l:List Pt) (i:Nat):St:=⟨([.rsl (rowP l) 0 l.length,.clos 85 [] []]++jj 5 ([.int .i64 (l.length:Int),.int .i64 (i:Int)]++Js 10)),[]⟩
theorem p99_s (l:List Pt) {E:Env} {res:AV} (hE:Qh Try.prog 99 res E)
 (hg:G Try.prog E (f99K0 Try.prog) (f99S0 l 0)):G Try.prog E [.code (Qd Try.prog 99)] ⟨[.rsl (rowP l) 0 l.length,.clos 85 [] []]++unds (Try.f99.ntmps - 2),[]⟩ :=
 Qy (n:=400) (ds:=[]) (live:=[0,1,7,8]) (m:=0) (evs:=[.stop]) (obs:=[]) hE.2.1 (hE.nogh _) Qj (by kernel_rfl) trivial hg
theorem p99_0 (l:List Pt) (i:Nat) (p:Pt) {E:Env} {res:AV} (hE:Qh Try.prog 99 res E) (h0:(decide ((i:Int)<(l.length:Int)))=true) (h1:0≤(i:Int)∧(i:Int)<(l.length:Int)) (h2:((rowP l).drop (0+((Int.toNat (i:Int))*3))).take 3=[.int .i64 p.x,.int .i64 p.y,.int .i64 p.z]) (h4:(QG p)=true)
 (hr:.int .i64 (i:Int)=res):G Try.prog E (f99K0 Try.prog) (f99S0 l i) :=
 Qp (n:=400) (evs:=[.b true,.ld (.agg [.int .i64 p.x,.int .i64 p.y,.int .i64 p.z]),.v (.bool (QG p)),.b true]) (obs:=[(decide ((i:Int)<(l.length:Int)))=true,0≤(i:Int)∧(i:Int)<(l.length:Int),((rowP l).drop (0+((Int.toNat (i:Int))*3))).take 3=[.int .i64 p.x,.int .i64 p.y,.int .i64 p.z],Qb Try.prog (.clos 85 [] []) [.agg [.int .i64 p.x,.int .i64 p.y,.int .i64 p.z]] (.bool (QG p)),(QG p)=true]) hE Try.func99 Qj (by kernel_rfl) ⟨h0,h1,h2,(foot1_F _),h4,trivial⟩ hr
theorem p99_1 (l:List Pt) (i:Nat) (p:Pt) {E:Env} {res:AV} (hE:Qh Try.prog 99 res E) (h0:(decide ((i:Int)<(l.length:Int)))=true) (h1:0≤(i:Int)∧(i:Int)<(l.length:Int)) (h2:((rowP l).drop (0+((Int.toNat (i:Int))*3))).take 3=[.int .i64 p.x,.int .i64 p.y,.int .i64 p.z]) (h4:(QG p)=false) (h5:InR .i64 ((i:Int)+1))
 (hg:G Try.prog E (f99K0 Try.prog) (f99S0 l (i+1))):G Try.prog E (f99K0 Try.prog) (f99S0 l i) :=
 Qy (n:=400) (ds:=[]) (live:=[0,1,7,8]) (m:=0) (evs:=[.b true,.ld (.agg [.int .i64 p.x,.int .i64 p.y,.int .i64 p.z]),.v (.bool (QG p)),.b false,.stop]) (obs:=[(decide ((i:Int)<(l.length:Int)))=true,0≤(i:Int)∧(i:Int)<(l.length:Int),((rowP l).drop (0+((Int.toNat (i:Int))*3))).take 3=[.int .i64 p.x,.int .i64 p.y,.int .i64 p.z],Qb Try.prog (.clos 85 [] []) [.agg [.int .i64 p.x,.int .i64 p.y,.int .i64 p.z]] (.bool (QG p)),(QG p)=false,InR .i64 ((i:Int)+1)]) hE.2.1 (hE.nogh _) Qj (by kernel_rfl) ⟨h0,h1,h2,(foot1_F _),h4,h5,trivial⟩ hg
theorem p99_2 (l:List Pt) (i:Nat) {E:Env} {res:AV} (hE:Qh Try.prog 99 res E) (h0:(decide ((i:Int)<(l.length:Int)))=false)
 (hr:.int .i64 (-1)=res):G Try.prog E (f99K0 Try.prog) (f99S0 l i) :=
 Qp (n:=400) (evs:=[.b false]) (obs:=[(decide ((i:Int)<(l.length:Int)))=false]) hE Try.func99 Qj (by kernel_rfl) ⟨h0,trivial⟩ hr
theorem idx99_ok (l:List Pt) (hl:l.length≤1000):Pure Try.prog 99 [.rsl (rowP l) 0 l.length,.clos 85 [] []] (.int .i64 (Xd QG l 0)):=Qw Try.func99 f99b fun E hE =>
 p99_s l hE (YK (Gi:=fun i=>G Try.prog E (f99K0 Try.prog) (f99S0 l i)) (p:=QG) (l:=l) (v:=Xd QG l 0)
  (fun i a h hp hv=>have hi:=Vb h; p99_0 l i a hE (by simpa using hi) (by omega) (Xx cP (fun _=>rfl) _ _ _ h) hp (by rw [hv]))
  (fun i a h hp hg=>have hi:=Vb h; p99_1 l i a hE (by simpa using hi) (by omega) (Xx cP (fun _=>rfl) _ _ _ h) hp (by unfold InR; omega) hg)
  (fun i h hv=>p99_2 l i hE (by simpa using h) (by rw [hv])) l.length 0 (by omega) rfl)
theorem idx99_F (l:List Pt) (hl:l.length≤1000):Qb Try.prog (.clos 99 [] []) [.rsl (rowP l) 0 l.length,.clos 85 [] []] (.int .i64 (Xd QG l 0)):=Qo Try.func99 (by kernel_rfl) f99b (by simpa using idx99_ok l hl)
theorem f84b:Try.f84.body=some (Qd Try.prog 84):=by kernel_rfl
theorem u84 {a c k:List AV} {r:AV} (h:Pure Try.prog 84 (a++c++k) r):Qb Try.prog (.clos 84 a k) c r:=Qo Try.func84 (by kernel_rfl) f84b h
theorem p84_0 (l:List Pt) (hl:l.length≤1000) {E:Env} {res:AV} (hE:Qh Try.prog 84 res E)
 (hr:.bool (decide ((Xd QG l 0)≥0))=res):G Try.prog E [.code (Qd Try.prog 84)] ⟨[.rsl (rowP l) 0 l.length,.clos 85 [] []]++unds (Try.f84.ntmps - 2),[]⟩ :=
 Qp (n:=400) (evs:=[.v (.int .i64 (Xd QG l 0))]) (obs:=[Qb Try.prog (.clos 99 [] []) [.rsl (rowP l) 0 l.length,.clos 85 [] []] (.int .i64 (Xd QG l 0))]) hE Try.func84 Qj (by kernel_rfl) ⟨(idx99_F l hl),trivial⟩ hr
theorem any84_ok (l:List Pt) (hl:l.length≤1000):Pure Try.prog 84 [.rsl (rowP l) 0 l.length,.clos 85 [] []] (.bool (l.any QG)):=Qw Try.func84 f84b fun E hE =>
 p84_0 l hl hE (by rw [Yj])
theorem f89b:Try.f89.body=some (Qd Try.prog 89):=by kernel_rfl
theorem p89_0 (n a:Int) {E:Env} {res:AV} (hE:Qh Try.prog 89 res E)
 (hr:.bool (decide (a<0))=res):G Try.prog E [.code (Qd Try.prog 89)] ⟨[.int .i64 n,.int .i64 a]++unds (Try.f89.ntmps - 2),[]⟩ :=
 Qp (n:=400) (evs:=[]) (obs:=[]) hE Try.func89 Qj (by kernel_rfl) trivial hr
theorem outside_ok (n a:Int):Pure Try.prog 89 [.int .i64 n,.int .i64 a] (.bool (decide (a<0))):=Qw Try.func89 f89b fun E hE=>by
 exact p89_0 n a hE (rfl)
theorem outside_F (n a:Int):Qb Try.prog (.clos 89 [] []) [.int .i64 n,.int .i64 a] (.bool (decide (a<0))):=Qo Try.func89 (by kernel_rfl) f89b (by simpa using outside_ok n a )
end Go.Proofs.Ytideokfbnegkjaa
namespace Go.Proofs.Ytideokfbnegkjaa
open Go Ax
open Go.Proofs
structure Rg where
 seats:List (List Pt)
 feet:List Pt
 frame:Int
 c:Pt
 empty:Int
 full:Int
def rowS (l:List (List Pt)):List AV:=l.flatMap fun s=>[.rsl (rowP s) 0 s.length]
def Qq (l:List (Pt × Pt)):List AV:=l.flatMap fun s=>cP s.1++cP s.2
def Qa (f:List Pt):List (Pt × Pt):=(List.range' 0 f.length).map fun i=>(f.getD i ⟨0,0,0⟩,f.getD ((i+1) % f.length) ⟨0,0,0⟩)
def Qe (r:Rg):Int:=match r.seats.getLast? with
 | some s=>s.length
 | none=>1
theorem f57b:Try.f57.body=some (Qd Try.prog 57):=by kernel_rfl
def f57K0 (P:Program):List Item:=kAt 400 [.code (Qd P 57)] [.stop]
def f57S0 (r:Rg) (ph ln:Nat) (a b:Pt) (i:Nat) (sum:Int):St:=⟨([.rptr [.rsl (rowS r.seats) 0 r.seats.length,.rsl (rowP r.feet) 0 r.feet.length,.int .i64 r.frame,.int .i64 r.c.x,.int .i64 r.c.y,.int .i64 r.c.z,.int .i64 r.empty,.int .i64 r.full,.rsl (Qq (Qa r.feet)) 0 ((Qa r.feet).length),.int .i64 (Qe r)] 0,.int .i64 (ph:Int),J,.clos 89 [] []]++jj 5 ([.ptr 0 0 0,.int .i64 sum]++jj 28 ([.rsl (rowS r.seats) 0 r.seats.length,.int .i64 (r.seats.length:Int),.int .i64 (i:Int)]++Js 31))),[⟨true,0,1,true,[.int .i64 a.x,.int .i64 a.y,.int .i64 a.z,.int .i64 b.x,.int .i64 b.y,.int .i64 b.z],false⟩]⟩
theorem p57_s (r:Rg) (ph ln:Nat) (a b:Pt) {E:Env} {res:AV} (hE:Qh Try.prog 57 res E) (h0:0≤(ln:Int)∧(ln:Int)<(((Qa r.feet).length:Nat):Int)) (h1:((Qq (Qa r.feet)).drop (0+((Int.toNat (ln:Int))*6))).take 6=[.int .i64 a.x,.int .i64 a.y,.int .i64 a.z,.int .i64 b.x,.int .i64 b.y,.int .i64 b.z]) (h3:Qb Try.prog (.clos 87 [] []) [.agg [.int .i64 a.x,.int .i64 a.y,.int .i64 a.z,.int .i64 b.x,.int .i64 b.y,.int .i64 b.z],.agg [.int .i64 r.c.x,.int .i64 r.c.y,.int .i64 r.c.z]] (.int .i64 (arm a b r.c))) (h4:InR .i64 (r.frame*(arm a b r.c)))
 (hg:G Try.prog E (f57K0 Try.prog) (f57S0 r ph ln a b 0 (r.frame*(arm a b r.c)))):G Try.prog E [.code (Qd Try.prog 57)] ⟨[.rptr [.rsl (rowS r.seats) 0 r.seats.length,.rsl (rowP r.feet) 0 r.feet.length,.int .i64 r.frame,.int .i64 r.c.x,.int .i64 r.c.y,.int .i64 r.c.z,.int .i64 r.empty,.int .i64 r.full,.rsl (Qq (Qa r.feet)) 0 ((Qa r.feet).length),.int .i64 (Qe r)] 0,.int .i64 (ph:Int),.int .i64 (ln:Int),.clos 89 [] []]++unds (Try.f57.ntmps - 4),[]⟩ :=
 Qy (n:=400) (ds:=[]) (live:=[0,1,3,9,10,39,40,41]) (m:=1) (evs:=[.auto,.ld (.agg [.int .i64 a.x,.int .i64 a.y,.int .i64 a.z,.int .i64 b.x,.int .i64 b.y,.int .i64 b.z]),.v (.int .i64 (arm a b r.c)),.stop]) (obs:=[0≤(ln:Int)∧(ln:Int)<(((Qa r.feet).length:Nat):Int),((Qq (Qa r.feet)).drop (0+((Int.toNat (ln:Int))*6))).take 6=[.int .i64 a.x,.int .i64 a.y,.int .i64 a.z,.int .i64 b.x,.int .i64 b.y,.int .i64 b.z],6≤6,Qb Try.prog (.clos 87 [] []) [.agg [.int .i64 a.x,.int .i64 a.y,.int .i64 a.z,.int .i64 b.x,.int .i64 b.y,.int .i64 b.z],.agg [.int .i64 r.c.x,.int .i64 r.c.y,.int .i64 r.c.z]] (.int .i64 (arm a b r.c)),InR .i64 (r.frame*(arm a b r.c))]) hE.2.1 (hE.nogh _) Qj (by kernel_rfl) ⟨h0,h1,(by decide),h3,h4,trivial⟩ hg
theorem p57_0 (r:Rg) (ph ln:Nat) (a b:Pt) (i:Nat) (sum:Int) (s:List Pt) (q:Pt) {E:Env} {res:AV} (hE:Qh Try.prog 57 res E) (h0:(decide ((i:Int)<(r.seats.length:Int)))=true) (h1:0≤(i:Int)∧(i:Int)<(r.seats.length:Int)) (h2:((rowS r.seats).drop (0+((Int.toNat (i:Int))*1))).take 1=[.rsl (rowP s) 0 s.length]) (h3:0≤(ph:Int)∧(ph:Int)<(s.length:Int)) (h4:((rowP s).drop (0+((Int.toNat (ph:Int))*3))).take 3=[.int .i64 q.x,.int .i64 q.y,.int .i64 q.z]) (h5:Qb Try.prog (.clos 87 [] []) [.agg [.int .i64 a.x,.int .i64 a.y,.int .i64 a.z,.int .i64 b.x,.int .i64 b.y,.int .i64 b.z],.agg [.int .i64 q.x,.int .i64 q.y,.int .i64 q.z]] (.int .i64 (arm a b q))) (h7:(decide ((arm a b q)<0))=true) (h8:InR .i64 (r.full*(arm a b q))) (h9:InR .i64 (sum+(r.full*(arm a b q)))) (h10:InR .i64 ((i:Int)+1))
 (hg:G Try.prog E (f57K0 Try.prog) (f57S0 r ph ln a b (i+1) (sum+(r.full*(arm a b q))))):G Try.prog E (f57K0 Try.prog) (f57S0 r ph ln a b i sum) :=
 Qy (n:=400) (ds:=[]) (live:=[0,1,3,9,10,39,40,41]) (m:=1) (evs:=[.b true,.ld (.rsl (rowP s) 0 s.length),.auto,.ld (.agg [.int .i64 q.x,.int .i64 q.y,.int .i64 q.z]),.v (.int .i64 (arm a b q)),.v (.bool (decide ((arm a b q)<0))),.b true,.stop]) (obs:=[(decide ((i:Int)<(r.seats.length:Int)))=true,0≤(i:Int)∧(i:Int)<(r.seats.length:Int),((rowS r.seats).drop (0+((Int.toNat (i:Int))*1))).take 1=[.rsl (rowP s) 0 s.length],0≤(ph:Int)∧(ph:Int)<(s.length:Int),((rowP s).drop (0+((Int.toNat (ph:Int))*3))).take 3=[.int .i64 q.x,.int .i64 q.y,.int .i64 q.z],Qb Try.prog (.clos 87 [] []) [.agg [.int .i64 a.x,.int .i64 a.y,.int .i64 a.z,.int .i64 b.x,.int .i64 b.y,.int .i64 b.z],.agg [.int .i64 q.x,.int .i64 q.y,.int .i64 q.z]] (.int .i64 (arm a b q)),Qb Try.prog (.clos 89 [] []) [.int .i64 (i:Int),.int .i64 (arm a b q)] (.bool (decide ((arm a b q)<0))),(decide ((arm a b q)<0))=true,InR .i64 (r.full*(arm a b q)),InR .i64 (sum+(r.full*(arm a b q))),InR .i64 ((i:Int)+1)]) hE.2.1 (hE.nogh _) Qj (by kernel_rfl) ⟨h0,h1,h2,h3,h4,h5,(outside_F _ _),h7,h8,h9,h10,trivial⟩ hg
theorem p57_1 (r:Rg) (ph ln:Nat) (a b:Pt) (i:Nat) (sum:Int) (s:List Pt) (q:Pt) {E:Env} {res:AV} (hE:Qh Try.prog 57 res E) (h0:(decide ((i:Int)<(r.seats.length:Int)))=true) (h1:0≤(i:Int)∧(i:Int)<(r.seats.length:Int)) (h2:((rowS r.seats).drop (0+((Int.toNat (i:Int))*1))).take 1=[.rsl (rowP s) 0 s.length]) (h3:0≤(ph:Int)∧(ph:Int)<(s.length:Int)) (h4:((rowP s).drop (0+((Int.toNat (ph:Int))*3))).take 3=[.int .i64 q.x,.int .i64 q.y,.int .i64 q.z]) (h5:Qb Try.prog (.clos 87 [] []) [.agg [.int .i64 a.x,.int .i64 a.y,.int .i64 a.z,.int .i64 b.x,.int .i64 b.y,.int .i64 b.z],.agg [.int .i64 q.x,.int .i64 q.y,.int .i64 q.z]] (.int .i64 (arm a b q))) (h7:(decide ((arm a b q)<0))=false) (h8:InR .i64 (r.empty*(arm a b q))) (h9:InR .i64 (sum+(r.empty*(arm a b q)))) (h10:InR .i64 ((i:Int)+1))
 (hg:G Try.prog E (f57K0 Try.prog) (f57S0 r ph ln a b (i+1) (sum+(r.empty*(arm a b q))))):G Try.prog E (f57K0 Try.prog) (f57S0 r ph ln a b i sum) :=
 Qy (n:=400) (ds:=[]) (live:=[0,1,3,9,10,39,40,41]) (m:=1) (evs:=[.b true,.ld (.rsl (rowP s) 0 s.length),.auto,.ld (.agg [.int .i64 q.x,.int .i64 q.y,.int .i64 q.z]),.v (.int .i64 (arm a b q)),.v (.bool (decide ((arm a b q)<0))),.b false,.stop]) (obs:=[(decide ((i:Int)<(r.seats.length:Int)))=true,0≤(i:Int)∧(i:Int)<(r.seats.length:Int),((rowS r.seats).drop (0+((Int.toNat (i:Int))*1))).take 1=[.rsl (rowP s) 0 s.length],0≤(ph:Int)∧(ph:Int)<(s.length:Int),((rowP s).drop (0+((Int.toNat (ph:Int))*3))).take 3=[.int .i64 q.x,.int .i64 q.y,.int .i64 q.z],Qb Try.prog (.clos 87 [] []) [.agg [.int .i64 a.x,.int .i64 a.y,.int .i64 a.z,.int .i64 b.x,.int .i64 b.y,.int .i64 b.z],.agg [.int .i64 q.x,.int .i64 q.y,.int .i64 q.z]] (.int .i64 (arm a b q)),Qb Try.prog (.clos 89 [] []) [.int .i64 (i:Int),.int .i64 (arm a b q)] (.bool (decide ((arm a b q)<0))),(decide ((arm a b q)<0))=false,InR .i64 (r.empty*(arm a b q)),InR .i64 (sum+(r.empty*(arm a b q))),InR .i64 ((i:Int)+1)]) hE.2.1 (hE.nogh _) Qj (by kernel_rfl) ⟨h0,h1,h2,h3,h4,h5,(outside_F _ _),h7,h8,h9,h10,trivial⟩ hg
theorem p57_2 (r:Rg) (ph ln:Nat) (a b:Pt) (i:Nat) (sum:Int) {E:Env} {res:AV} (hE:Qh Try.prog 57 res E) (h0:(decide ((i:Int)<(r.seats.length:Int)))=false)
 (hr:.int .i64 sum=res):G Try.prog E (f57K0 Try.prog) (f57S0 r ph ln a b i sum) :=
 Qp (n:=400) (evs:=[.b false]) (obs:=[(decide ((i:Int)<(r.seats.length:Int)))=false]) hE Try.func57 Qj (by kernel_rfl) ⟨h0,trivial⟩ hr
end Go.Proofs.Ytideokfbnegkjaa
namespace Go.Proofs.Ytideokfbnegkjaa
open Go Ax
open Go.Proofs
/-- What the seats add to a moment; 'fl': which are full. -/
def Xi (r:Rg) (a b:Pt) (ph:Nat) (fl:Nat→Int→Bool):List (List Pt)→Nat→Int→Int
 | [],_,sum=>sum
 | s :: ss,i,sum=>Xi r a b ph fl ss (i+1) (sum+(bif fl i (arm a b (s.getD ph ⟨0,0,0⟩)) then r.full else r.empty)*arm a b (s.getD ph ⟨0,0,0⟩))
def XV (r:Rg) (ph:Nat) (ab:Pt × Pt) (fl:Nat→Int→Bool):Int:=Xi r ab.1 ab.2 ph fl r.seats 0 (r.frame*arm ab.1 ab.2 r.c)
def outF (_:Nat) (a:Int):Bool:=decide (a<0)
structure RgOk (r:Rg) (n:Nat):Prop where
 seats:r.seats.length≤20
 each:∀ s ∈ r.seats,s.length=n∧QE s=true
 feet0:3≤r.feet.length
 feet1:r.feet.length≤8
 foot:∀ p ∈ r.feet,Qm p=true
 center:Qm r.c=true
 frame0:0≤r.frame
 frame1:r.frame≤1000000
 empty0:0≤r.empty
 empty1:r.empty≤r.full
 full1:r.full≤1000000
theorem Wy {x y A B:Int} (hx:-A≤x) (hx':x≤A) (hy:-B≤y) (hy':y≤B) (hA:0≤A) (hB:0≤B):-(A*B)≤x*y∧x*y≤A*B:=by
 have h1:(A - x)*(B - y)≥0:=Int.mul_nonneg (by omega) (by omega)
 have h2:(A+x)*(B+y)≥0:=Int.mul_nonneg (by omega) (by omega)
 have h3:(A - x)*(B+y)≥0:=Int.mul_nonneg (by omega) (by omega)
 have h4:(A+x)*(B - y)≥0:=Int.mul_nonneg (by omega) (by omega)
 simp only [Int.sub_mul,Int.mul_sub,Int.add_mul,Int.mul_add] at h1 h2 h3 h4
 constructor <;> omega
theorem yI {a b p:Pt} (ha:Qm a=true) (hb:Qm b=true) (hp:Qm p=true):Yg a b p∧-800000000≤arm a b p∧arm a b p≤800000000:=by
 have a1:=Vq ha
 have b1:=Vq hb
 have p1:=Vq hp
 have m1:=Wy (x:=b.x - a.x) (y:=p.y - a.y) (A:=20000) (B:=20000) (by omega) (by omega) (by omega) (by omega) (by omega) (by omega)
 have m2:=Wy (x:=b.y - a.y) (y:=p.x - a.x) (A:=20000) (B:=20000) (by omega) (by omega) (by omega) (by omega) (by omega) (by omega)
 unfold Yg arm InR
 omega
theorem moment_ok (r:Rg) (n ph ln:Nat) (h:RgOk r n) (hph:ph<n) (a b:Pt) (hl:(Qa r.feet)[ln]?=some (a,b)) (ha:Qm a=true) (hb:Qm b=true) :
 Pure Try.prog 57 [.rptr [.rsl (rowS r.seats) 0 r.seats.length,.rsl (rowP r.feet) 0 r.feet.length,.int .i64 r.frame,.int .i64 r.c.x,.int .i64 r.c.y,.int .i64 r.c.z,.int .i64 r.empty,.int .i64 r.full,.rsl (Qq (Qa r.feet)) 0 ((Qa r.feet).length),.int .i64 (Qe r)] 0,.int .i64 (ph:Int),.int .i64 (ln:Int),.clos 89 [] []]
  (.int .i64 (XV r ph (a,b) outF)):=Qw Try.func57 f57b fun E hE=>by
 have hli:=Vb hl
 obtain ⟨k1,k2,k3⟩:=yI ha hb h.center
 have hf:=h.frame0
 have hf':=h.frame1
 have hfr:=Wy (x:=r.frame) (y:=arm a b r.c) (A:=1000000) (B:=800000000) (by omega) hf' k2 k3 (by omega) (by omega)
 have he0:=h.empty0
 have he1:=h.empty1
 have hfu:=h.full1
 refine p57_s r ph ln a b hE (by omega) (Xx (fun s:Pt × Pt=>cP s.1++cP s.2) (fun _=>rfl) _ _ _ hl) (arm_F _ _ _ k1) (by unfold InR; omega) ?_
 have key:∀ (d i:Nat) (sum:Int),i+d=r.seats.length→-(800000000000000*(i+1))≤sum→sum≤800000000000000*(i+1)→Xi r a b ph outF (r.seats.drop i) i sum=XV r ph (a,b) outF →
  G Try.prog E (f57K0 Try.prog) (f57S0 r ph ln a b i sum):=by
  intro d
  induction d with
  | zero =>
   intro i sum hd _ _ hs
   rw [List.drop_eq_nil_of_le (by omega)] at hs
   exact p57_2 r ph ln a b i sum hE (by simp; omega) (by rw [← hs]; rfl)
  | succ d ih =>
   intro i sum hd hs1 hs2 hs
   have hi:i<r.seats.length:=by omega
   have hg:r.seats[i]?=some r.seats[i]:=by simp [hi]
   obtain ⟨hsl,hsv⟩:=h.each _ (List.mem_of_getElem? hg)
   generalize hse:r.seats[i]=s at hg hsl hsv
   have hq:s[ph]?=some (s.getD ph ⟨0,0,0⟩):=by simp [List.getD,hsl,hph]
   generalize hqe:s.getD ph ⟨0,0,0⟩=q at hq
   obtain ⟨q1,q2,q3⟩:=yI ha hb (yN hsv (List.mem_of_getElem? hq))
   rw [List.drop_eq_getElem_cons hi,hse] at hs
   simp only [Xi,hqe,outF] at hs
   have me:=Wy (x:=r.empty) (y:=arm a b q) (A:=1000000) (B:=800000000) (by omega) (by omega) q2 q3 (by omega) (by omega)
   have mf:=Wy (x:=r.full) (y:=arm a b q) (A:=1000000) (B:=800000000) (by omega) (by omega) q2 q3 (by omega) (by omega)
   have hb20:=h.seats
   rcases Bool.eq_false_or_eq_true (decide (arm a b q<0)) with hc | hc
   · rw [hc] at hs
     refine p57_0 r ph ln a b i sum s q hE (by simpa using hi) (by omega) (Xx (fun s:List Pt=>[AV.rsl (rowP s) 0 s.length]) (fun _=>rfl) _ _ _ hg) (by omega) (Xx cP (fun _=>rfl) _ _ _ hq) (arm_F _ _ _ q1) hc (by unfold InR; omega) (by unfold InR; omega) (by unfold InR; omega) ?_
     exact ih (i+1) _ (by omega) (by omega) (by omega) hs
   · rw [hc] at hs
     refine p57_1 r ph ln a b i sum s q hE (by simpa using hi) (by omega) (Xx (fun s:List Pt=>[AV.rsl (rowP s) 0 s.length]) (fun _=>rfl) _ _ _ hg) (by omega) (Xx cP (fun _=>rfl) _ _ _ hq) (arm_F _ _ _ q1) hc (by unfold InR; omega) (by unfold InR; omega) (by unfold InR; omega) ?_
     exact ih (i+1) _ (by omega) (by omega) (by omega) hs
 exact key r.seats.length 0 _ (by omega) (by omega) (by omega) rfl
end Go.Proofs.Ytideokfbnegkjaa
namespace Go.Proofs.Ytideokfbnegkjaa
open Go Ax
open Go.Proofs
theorem f61b:Try.f61.body=some (Qd Try.prog 61):=by kernel_rfl
def f61K0 (P:Program):List Item:=kAt 400 [.code (Qd P 61)] [.stop]
def f61S0 (r:Rg) (yv0:Value) (p:Nat):St:=⟨([.rptr [.rsl (rowS r.seats) 0 r.seats.length,.rsl (rowP r.feet) 0 r.feet.length,.int .i64 r.frame,.int .i64 r.c.x,.int .i64 r.c.y,.int .i64 r.c.z,.int .i64 r.empty,.int .i64 r.full,.rsl (Qq (Qa r.feet)) 0 ((Qa r.feet).length),.int .i64 (Qe r)] 0,.opq yv0]++jj 7 ([.int .i64 (Qe r),.int .i64 (p:Int)]++Js 22)),[]⟩
theorem p61_s (r:Rg) (yv0:Value) {E:Env} {xs:List (List AV)} {yv:Value} {Y:Option Nat→Sd} {cont:Nat→Bool} {e:Option Nat} {o:Option Nat} (hE:IterE Try.prog 61 xs yv Y cont e o E)
 (hg:G Try.prog E (f61K0 Try.prog) (f61S0 r yv0 0)):G Try.prog E [.code (Qd Try.prog 61)] ⟨[.rptr [.rsl (rowS r.seats) 0 r.seats.length,.rsl (rowP r.feet) 0 r.feet.length,.int .i64 r.frame,.int .i64 r.c.x,.int .i64 r.c.y,.int .i64 r.c.z,.int .i64 r.empty,.int .i64 r.full,.rsl (Qq (Qa r.feet)) 0 ((Qa r.feet).length),.int .i64 (Qe r)] 0,.opq yv0]++unds (Try.f61.ntmps - 2),[]⟩ :=
 Qy (n:=400) (ds:=[]) (live:=[0,1,9,10]) (m:=0) (evs:=[.stop]) (obs:=[]) hE.kind (hE.nogh _) Qj (by kernel_rfl) trivial hg
def f61K1 (P:Program):List Item:=kAt 400 [.code (Qd P 61)] [.b true,.stop]
def f61S1 (r:Rg) (yv0:Value) (p v:Nat):St:=⟨([.rptr [.rsl (rowS r.seats) 0 r.seats.length,.rsl (rowP r.feet) 0 r.feet.length,.int .i64 r.frame,.int .i64 r.c.x,.int .i64 r.c.y,.int .i64 r.c.z,.int .i64 r.empty,.int .i64 r.full,.rsl (Qq (Qa r.feet)) 0 ((Qa r.feet).length),.int .i64 (Qe r)] 0,.opq yv0,J,J,.int .i64 (p:Int),J,J,J,J,.int .i64 (Qe r),.int .i64 (p:Int)]++jj 6 ([.int .i64 (((Qa r.feet).length:Nat):Int),.int .i64 (v:Int)]++Js 14)),[]⟩
theorem p61_0n (r:Rg) (yv0:Value) (p:Nat) {E:Env} {xs:List (List AV)} {yv:Value} {Y:Option Nat→Sd} {cont:Nat→Bool} {e:Option Nat} {o:Option Nat} (hE:IterE Try.prog 61 xs yv Y cont e o E) (h0:(decide ((p:Int)<(Qe r)))=true)
 (hg:G Try.prog E (f61K1 Try.prog) (f61S1 r yv0 p 0)):G Try.prog E (f61K0 Try.prog) (f61S0 r yv0 p) :=
 Qy (n:=400) (ds:=[]) (live:=[0,1,4,9,10,17,18]) (m:=0) (evs:=[.b true,.stop]) (obs:=[(decide ((p:Int)<(Qe r)))=true]) hE.kind (hE.nogh _) Qj (by kernel_rfl) ⟨h0,trivial⟩ hg
theorem p61_0e (r:Rg) (yv0:Value) (p:Nat) {E:Env} {xs:List (List AV)} {yv:Value} {Y:Option Nat→Sd} {cont:Nat→Bool} {e:Option Nat} (hE:IterE Try.prog 61 xs yv Y cont e e E) (h0:(decide ((p:Int)<(Qe r)))=false):G Try.prog E (f61K0 Try.prog) (f61S0 r yv0 p) :=
 WT (n:=400) (evs:=[.b false]) (obs:=[(decide ((p:Int)<(Qe r)))=false]) hE Try.func61 (by kernel_rfl) Qj (by kernel_rfl) ⟨h0,trivial⟩
def f61Kh (P:Program):List Item:=toOp 8 (kReg 400 [.code (Qd P 61)] [.b true,.b true] 6)
def f61Sh (r:Rg) (yv0:Value) (p v:Nat) (mv:Int):St:=⟨([.rptr [.rsl (rowS r.seats) 0 r.seats.length,.rsl (rowP r.feet) 0 r.feet.length,.int .i64 r.frame,.int .i64 r.c.x,.int .i64 r.c.y,.int .i64 r.c.z,.int .i64 r.empty,.int .i64 r.full,.rsl (Qq (Qa r.feet)) 0 ((Qa r.feet).length),.int .i64 (Qe r)] 0,.opq yv0,J,J,.int .i64 (p:Int),.int .i64 (v:Int),J,J,J,.int .i64 (Qe r),.int .i64 (p:Int)]++jj 6 ([.int .i64 (((Qa r.feet).length:Nat):Int),.int .i64 (v:Int),.bool (decide ((v:Int)<(((Qa r.feet).length:Nat):Int))),.int .i64 (v:Int),.opq yv0,.int .i64 (p:Int),.int .i64 (v:Int),.agg [.int .i64 (p:Int),.int .i64 (v:Int)],.rptr [.rsl (rowS r.seats) 0 r.seats.length,.rsl (rowP r.feet) 0 r.feet.length,.int .i64 r.frame,.int .i64 r.c.x,.int .i64 r.c.y,.int .i64 r.c.z,.int .i64 r.empty,.int .i64 r.full,.rsl (Qq (Qa r.feet)) 0 ((Qa r.feet).length),.int .i64 (Qe r)] 0,.int .i64 (p:Int),.int .i64 (v:Int),.int .i64 mv,J,J,J,J])),[]⟩
def f61Kha (P:Program):List Item:=toOp 9 (kReg 400 [.code (Qd P 61)] [.b true,.b true] 6)
def f61Sha (r:Rg) (yv0:Value) (p v:Nat) (mv:Int) (b:Bool):St:=⟨([.rptr [.rsl (rowS r.seats) 0 r.seats.length,.rsl (rowP r.feet) 0 r.feet.length,.int .i64 r.frame,.int .i64 r.c.x,.int .i64 r.c.y,.int .i64 r.c.z,.int .i64 r.empty,.int .i64 r.full,.rsl (Qq (Qa r.feet)) 0 ((Qa r.feet).length),.int .i64 (Qe r)] 0,.opq yv0,J,J,.int .i64 (p:Int),.int .i64 (v:Int),J,J,J,.int .i64 (Qe r),.int .i64 (p:Int)]++jj 6 ([.int .i64 (((Qa r.feet).length:Nat):Int),.int .i64 (v:Int),.bool (decide ((v:Int)<(((Qa r.feet).length:Nat):Int))),.int .i64 (v:Int),.opq yv0,.int .i64 (p:Int),.int .i64 (v:Int),.agg [.int .i64 (p:Int),.int .i64 (v:Int)],.rptr [.rsl (rowS r.seats) 0 r.seats.length,.rsl (rowP r.feet) 0 r.feet.length,.int .i64 r.frame,.int .i64 r.c.x,.int .i64 r.c.y,.int .i64 r.c.z,.int .i64 r.empty,.int .i64 r.full,.rsl (Qq (Qa r.feet)) 0 ((Qa r.feet).length),.int .i64 (Qe r)] 0,.int .i64 (p:Int),.int .i64 (v:Int),.int .i64 mv,.bool b,J,J,J])),[]⟩
theorem f61_h (r:Rg) (yv0:Value) (p v:Nat) (mv:Int):yieldA (f61Kh Try.prog) (f61Sh r yv0 p v mv)=some (f61Kha Try.prog,some 29,yv0,[.agg [.int .i64 (p:Int),.int .i64 (v:Int)],.int .i64 mv]):=by kernel_rfl
theorem p61_1h (r:Rg) (yv0:Value) (p v:Nat) (mv:Int) {E:Env} {xs:List (List AV)} {yv:Value} {Y:Option Nat→Sd} {cont:Nat→Bool} {e:Option Nat} {o:Option Nat} (hE:IterE Try.prog 61 xs yv Y cont e o E) (h0:(decide ((v:Int)<(((Qa r.feet).length:Nat):Int)))=true) (h1:Qb Try.prog (.clos 57 [] []) [.rptr [.rsl (rowS r.seats) 0 r.seats.length,.rsl (rowP r.feet) 0 r.feet.length,.int .i64 r.frame,.int .i64 r.c.x,.int .i64 r.c.y,.int .i64 r.c.z,.int .i64 r.empty,.int .i64 r.full,.rsl (Qq (Qa r.feet)) 0 ((Qa r.feet).length),.int .i64 (Qe r)] 0,.int .i64 (p:Int),.int .i64 (v:Int),.clos 89 [] []] (.int .i64 mv))
 (hg:G Try.prog E (f61Kh Try.prog) (f61Sh r yv0 p v mv)):G Try.prog E (f61K1 Try.prog) (f61S1 r yv0 p v) :=
 Qy (n:=400) (ds:=[]) (live:=[0,1,2,3,4,5,6,7,8,9,10,11,12,13,14,15,16,17,18,19,20,21,22,23,24,25,26,27,28,29,30,31,32]) (m:=0) (evs:=[.b true,.v (.int .i64 mv),.hold 0]) (obs:=[(decide ((v:Int)<(((Qa r.feet).length:Nat):Int)))=true,Qb Try.prog (.clos 57 [] []) [.rptr [.rsl (rowS r.seats) 0 r.seats.length,.rsl (rowP r.feet) 0 r.feet.length,.int .i64 r.frame,.int .i64 r.c.x,.int .i64 r.c.y,.int .i64 r.c.z,.int .i64 r.empty,.int .i64 r.full,.rsl (Qq (Qa r.feet)) 0 ((Qa r.feet).length),.int .i64 (Qe r)] 0,.int .i64 (p:Int),.int .i64 (v:Int),.clos 89 [] []] (.int .i64 mv)]) hE.kind (hE.nogh _) Qj (by kernel_rfl) ⟨h0,h1,trivial⟩ hg
theorem p61_1e (r:Rg) (yv0:Value) (p v:Nat) {E:Env} {xs:List (List AV)} {yv:Value} {Y:Option Nat→Sd} {cont:Nat→Bool} {e:Option Nat} {o:Option Nat} (hE:IterE Try.prog 61 xs yv Y cont e o E) (h0:(decide ((v:Int)<(((Qa r.feet).length:Nat):Int)))=false) (h1:InR .i64 ((p:Int)+1))
 (hg:G Try.prog E (f61K0 Try.prog) (f61S0 r yv0 (p+1))):G Try.prog E (f61K1 Try.prog) (f61S1 r yv0 p v) :=
 Qy (n:=400) (ds:=[]) (live:=[0,1,9,10]) (m:=0) (evs:=[.b false,.stop]) (obs:=[(decide ((v:Int)<(((Qa r.feet).length:Nat):Int)))=false,InR .i64 ((p:Int)+1)]) hE.kind (hE.nogh _) Qj (by kernel_rfl) ⟨h0,h1,trivial⟩ hg
theorem p61_a0 (r:Rg) (yv0:Value) (p v:Nat) (mv:Int) (b:Bool) {E:Env} {xs:List (List AV)} {yv:Value} {Y:Option Nat→Sd} {cont:Nat→Bool} {e:Option Nat} (hE:IterE Try.prog 61 xs yv Y cont e e E) (h0:(!b)=true):G Try.prog E (f61Kha Try.prog) (f61Sha r yv0 p v mv b) :=
 WT (n:=400) (evs:=[.b true]) (obs:=[(!b)=true]) hE Try.func61 (by kernel_rfl) Qj (by kernel_rfl) ⟨h0,trivial⟩
theorem p61_a1 (r:Rg) (yv0:Value) (p v:Nat) (mv:Int) (b:Bool) {E:Env} {xs:List (List AV)} {yv:Value} {Y:Option Nat→Sd} {cont:Nat→Bool} {e:Option Nat} {o:Option Nat} (hE:IterE Try.prog 61 xs yv Y cont e o E) (h0:(!b)=false) (h1:InR .i64 ((v:Int)+1))
 (hg:G Try.prog E (f61K1 Try.prog) (f61S1 r yv0 p (v+1))):G Try.prog E (f61Kha Try.prog) (f61Sha r yv0 p v mv b) :=
 Qy (n:=400) (ds:=[]) (live:=[0,1,4,9,10,17,18]) (m:=0) (evs:=[.b false,.stop]) (obs:=[(!b)=false,InR .i64 ((v:Int)+1)]) hE.kind (hE.nogh _) Qj (by kernel_rfl) ⟨h0,h1,trivial⟩ hg
end Go.Proofs.Ytideokfbnegkjaa
namespace Go.Proofs.Ytideokfbnegkjaa
open Go Ax
open Go.Proofs
def QD (r:Rg) (v:Nat):Pt × Pt:=(Qa r.feet).getD v (⟨0,0,0⟩,⟨0,0,0⟩)
def QK (r:Rg) (pv:Nat × Nat):Int:=XV r pv.1 (QD r pv.2) outF
def argW (r:Rg) (pv:Nat × Nat):List AV:=[.agg [.int .i64 (pv.1:Int),.int .i64 (pv.2:Int)],.int .i64 (QK r pv)]
def wlV (k p v d:Nat):List (Nat × Nat):=(List.range' v d).map fun v=>(p,v)
def wlP (k p d:Nat):List (Nat × Nat):=(List.range' p d).flatMap fun p=>wlV k p 0 k
theorem XK (f:List Pt):(Qa f).length=f.length:=by simp [Qa]
theorem XW {r:Rg} {v:Nat} (h:v<r.feet.length):(Qa r.feet)[v]?=some (QD r v):=by
 have:v<(Qa r.feet).length:=by rw [XK]; exact h
 simp [QD,List.getD,this]
theorem YP {r:Rg} {n v:Nat} (hr:RgOk r n) (h:v<r.feet.length):Qm (QD r v).1=true∧Qm (QD r v).2=true:=by
 have hg:=XW h
 unfold Qa at hg
 rw [List.getElem?_map] at hg
 have e:(List.range' 0 r.feet.length)[v]?=some v:=by simp [h]
 rw [e] at hg
 simp only [Option.map_some,Option.some.injEq] at hg
 have h2:(v+1) % r.feet.length<r.feet.length:=Nat.mod_lt _ (by omega)
 rw [← hg]
 constructor
 · refine hr.foot _ ?_
   simp only [List.getD_eq_getElem?_getD,List.getElem?_eq_getElem h,Option.getD_some]; exact List.getElem_mem h
 · refine hr.foot _ ?_
   simp only [List.getD_eq_getElem?_getD,List.getElem?_eq_getElem h2,Option.getD_some]; exact List.getElem_mem h2
section
variable {L:List (Nat × Nat)} {yv:Value} {Y:Option Nat→Sd} {cont:Nat→Bool} {e:Option Nat} {r:Rg} {nn:Nat}
theorem iw_v (hr:RgOk r nn) {p:Nat} (hp:p<nn) (hn:nn≤1000) {R:List (Nat × Nat)} :
 ∀ (d v n:Nat) (E:Env),v+d=r.feet.length→IterE Try.prog 61 (L.map (argW r)) yv Y cont e (some n) E→Xa cont n (L.length - n)=e→L.drop n=wlV r.feet.length p v d++R →
  (∀ (E':Env) (n':Nat),IterE Try.prog 61 (L.map (argW r)) yv Y cont e (some n') E'→Xa cont n' (L.length - n')=e→L.drop n'=R→G Try.prog E' (f61K0 Try.prog) (f61S0 r yv (p+1))) →
  G Try.prog E (f61K1 Try.prog) (f61S1 r yv p v)
 | 0,v,n,E,hd,hE,hi,hL,hg=>by
  refine p61_1e r yv p v hE (by simp [XK]; omega) (by unfold InR; omega) (hg E n hE hi ?_)
  simpa [wlV] using hL
 | d+1,v,n,E,hd,hE,hi,hL,hg=>by
  have hcons:wlV r.feet.length p v (d+1)=(p,v) :: wlV r.feet.length p (v+1) d:=by simp [wlV,List.range'_succ]
  rw [hcons,List.cons_append] at hL
  obtain ⟨g1,g2,g3⟩:=drop_cons hL
  have hv:v<r.feet.length:=by omega
  obtain ⟨l1,l2⟩:=YP hr hv
  have hm:=moment_ok r nn p v hr hp (QD r v).1 (QD r v).2 (XW hv) l1 l2
  refine p61_1h r yv p v (QK r (p,v)) hE (by simp [XK]; omega) (Qo Try.func57 (by kernel_rfl) f57b hm) ?_
  refine WW (x:=argW r (p,v)) hE (by simp [g1]) (f61_h r yv p v _) rfl fun E' hE'=>?_
  have hst:L.length - n=(L.length - (n+1))+1:=by omega
  rw [hst] at hi
  simp only [Xa] at hi
  have hf8:=hr.feet1
  cases hc:cont n with
  | true =>
   simp only [nxt,hc,cond_true] at hE' hi
   refine p61_a1 r yv p v _ true hE' rfl (by unfold InR; omega) ?_
   exact iw_v hr hp hn d (v+1) (n+1) E' (by omega) hE' hi g2 hg
  | false =>
   simp only [nxt,hc,cond_false] at hE' hi
   subst hi
   exact p61_a0 r yv p v _ false hE' rfl
theorem iw_p (hr:RgOk r nn) (hph:Qe r=nn) (hn:nn≤1000) :
 ∀ (d p n:Nat) (E:Env),p+d=nn→IterE Try.prog 61 (L.map (argW r)) yv Y cont e (some n) E→Xa cont n (L.length - n)=e→L.drop n=wlP r.feet.length p d→G Try.prog E (f61K0 Try.prog) (f61S0 r yv p)
 | 0,p,n,E,hd,hE,hi,hL=>by
  have hn:L.length≤n:=by
   have:L.drop n=[]:=by rw [hL]; rfl
   exact List.drop_eq_nil_iff.1 this
  have e0:L.length - n=0:=by omega
  rw [e0] at hi
  simp only [Xa] at hi
  subst hi
  exact p61_0e r yv p hE (by rw [hph]; simp; omega)
 | d+1,p,n,E,hd,hE,hi,hL=>by
  have hcons:wlP r.feet.length p (d+1)=wlV r.feet.length p 0 r.feet.length++wlP r.feet.length (p+1) d:=by simp [wlP,List.range'_succ,List.flatMap_cons]
  rw [hcons] at hL
  refine p61_0n r yv p hE (by rw [hph]; simp; omega) ?_
  exact iw_v hr (by omega) hn r.feet.length 0 n E (by omega) hE hi hL fun E' n' hE' hi' hL'=>iw_p hr hph hn d (p+1) n' E' (by omega) hE' hi' hL'
end
theorem worst_iter (r:Rg) (n:Nat) (hr:RgOk r n) (hph:Qe r=n) (hn:n≤1000) :
 IterF Try.prog (.clos 61 [.rptr [.rsl (rowS r.seats) 0 r.seats.length,.rsl (rowP r.feet) 0 r.feet.length,.int .i64 r.frame,.int .i64 r.c.x,.int .i64 r.c.y,.int .i64 r.c.z,.int .i64 r.empty,.int .i64 r.full,.rsl (Qq (Qa r.feet)) 0 ((Qa r.feet).length),.int .i64 (Qe r)] 0] [])
  ((wlP r.feet.length 0 n).map (argW r)) :=
 iterF_of Try.func61 (by kernel_rfl) f61b fun E yv Y cont hE=>by
  have hx:((wlP r.feet.length 0 n).map (argW r)).length=(wlP r.feet.length 0 n).length:=by simp
  rw [hx] at hE
  exact p61_s r yv hE (iw_p hr hph hn n 0 0 E (by omega) hE (by simp) rfl)
end Go.Proofs.Ytideokfbnegkjaa
namespace Go.Proofs.Ytideokfbnegkjaa
open Go Ax
open Go.Proofs
theorem f86b:Try.f86.body=some (Qd Try.prog 86):=by kernel_rfl
def f86K0 (P:Program):List Item:=kAt 400 [.code (Qd P 86)] [.stop]
def f86S0 (r:Rg) (i:Nat):St:=⟨([.rptr [.rsl (rowS r.seats) 0 r.seats.length,.rsl (rowP r.feet) 0 r.feet.length,.int .i64 r.frame,.int .i64 r.c.x,.int .i64 r.c.y,.int .i64 r.c.z,.int .i64 r.empty,.int .i64 r.full,.rsl (Qq (Qa r.feet)) 0 ((Qa r.feet).length),.int .i64 (Qe r)] 0,J,J,.int .i64 (r.feet.length:Int)]++jj 13 ([.rsl (Qq (Qa r.feet)) 0 ((Qa r.feet).length),.int .i64 (((Qa r.feet).length:Nat):Int),.int .i64 (i:Int)]++Js 34)),[]⟩
theorem p86_s (r:Rg) {E:Env} {res:AV} (hE:Qh Try.prog 86 res E)
 (hg:G Try.prog E (f86K0 Try.prog) (f86S0 r 0)):G Try.prog E [.code (Qd Try.prog 86)] ⟨[.rptr [.rsl (rowS r.seats) 0 r.seats.length,.rsl (rowP r.feet) 0 r.feet.length,.int .i64 r.frame,.int .i64 r.c.x,.int .i64 r.c.y,.int .i64 r.c.z,.int .i64 r.empty,.int .i64 r.full,.rsl (Qq (Qa r.feet)) 0 ((Qa r.feet).length),.int .i64 (Qe r)] 0]++unds (Try.f86.ntmps - 1),[]⟩ :=
 Qy (n:=400) (ds:=[]) (live:=[0,3,17,18,19]) (m:=0) (evs:=[.stop]) (obs:=[]) hE.2.1 (hE.nogh _) Qj (by kernel_rfl) trivial hg
def qQ (P:Program):List Item:=kAt 400 [.code (Qd P 86)] [.b true,.stop]
def qP (r:Rg) (i k:Nat) (a b:Pt):St:=⟨([.rptr [.rsl (rowS r.seats) 0 r.seats.length,.rsl (rowP r.feet) 0 r.feet.length,.int .i64 r.frame,.int .i64 r.c.x,.int .i64 r.c.y,.int .i64 r.c.z,.int .i64 r.empty,.int .i64 r.full,.rsl (Qq (Qa r.feet)) 0 ((Qa r.feet).length),.int .i64 (Qe r)] 0,J,J,.int .i64 (r.feet.length:Int),.int .i64 (i:Int),.ptr 0 0 0]++jj 11 ([.rsl (Qq (Qa r.feet)) 0 ((Qa r.feet).length),.int .i64 (((Qa r.feet).length:Nat):Int),.int .i64 (i:Int)]++jj 8 ([.rsl (rowP r.feet) 0 r.feet.length,.int .i64 (r.feet.length:Int),.int .i64 (k:Int)]++Js 23))),[⟨true,0,1,true,[.int .i64 a.x,.int .i64 a.y,.int .i64 a.z,.int .i64 b.x,.int .i64 b.y,.int .i64 b.z],false⟩]⟩
theorem p86_0n (r:Rg) (i:Nat) (a b:Pt) {E:Env} {res:AV} (hE:Qh Try.prog 86 res E) (h0:(decide ((i:Int)<(((Qa r.feet).length:Nat):Int)))=true) (h1:0≤(i:Int)∧(i:Int)<(((Qa r.feet).length:Nat):Int)) (h2:((Qq (Qa r.feet)).drop (0+((Int.toNat (i:Int))*6))).take 6=[.int .i64 a.x,.int .i64 a.y,.int .i64 a.z,.int .i64 b.x,.int .i64 b.y,.int .i64 b.z])
 (hg:G Try.prog E (qQ Try.prog) (qP r i 0 a b)):G Try.prog E (f86K0 Try.prog) (f86S0 r i) :=
 Qy (n:=400) (ds:=[]) (live:=[0,3,4,5,17,18,19,28,29,30]) (m:=1) (evs:=[.b true,.ld (.agg [.int .i64 a.x,.int .i64 a.y,.int .i64 a.z,.int .i64 b.x,.int .i64 b.y,.int .i64 b.z]),.stop]) (obs:=[(decide ((i:Int)<(((Qa r.feet).length:Nat):Int)))=true,0≤(i:Int)∧(i:Int)<(((Qa r.feet).length:Nat):Int),((Qq (Qa r.feet)).drop (0+((Int.toNat (i:Int))*6))).take 6=[.int .i64 a.x,.int .i64 a.y,.int .i64 a.z,.int .i64 b.x,.int .i64 b.y,.int .i64 b.z],6≤6]) hE.2.1 (hE.nogh _) Qj (by kernel_rfl) ⟨h0,h1,h2,(by decide),trivial⟩ hg
theorem p86_0e (r:Rg) (i:Nat) {E:Env} {res:AV} (hE:Qh Try.prog 86 res E) (h0:(decide ((i:Int)<(((Qa r.feet).length:Nat):Int)))=false)
 (hr:.bool true=res):G Try.prog E (f86K0 Try.prog) (f86S0 r i) :=
 Qp (n:=400) (evs:=[.b false]) (obs:=[(decide ((i:Int)<(((Qa r.feet).length:Nat):Int)))=false]) hE Try.func86 Qj (by kernel_rfl) ⟨h0,trivial⟩ hr
theorem p86_1_0 (r:Rg) (i k:Nat) (a b:Pt) (q:Pt) {E:Env} {res:AV} (hE:Qh Try.prog 86 res E) (h0:(decide ((k:Int)<(r.feet.length:Int)))=true) (h1:0≤(k:Int)∧(k:Int)<(r.feet.length:Int)) (h2:((rowP r.feet).drop (0+((Int.toNat (k:Int))*3))).take 3=[.int .i64 q.x,.int .i64 q.y,.int .i64 q.z]) (h4:((k:Int) != (i:Int))=true) (h5:InR .i64 ((i:Int)+1)) (h6:(r.feet.length:Int) ≠ 0) (h7:((k:Int) != (Int.tmod ((i:Int)+1) (r.feet.length:Int)))=true) (h8:Qb Try.prog (.clos 87 [] []) [.agg [.int .i64 a.x,.int .i64 a.y,.int .i64 a.z,.int .i64 b.x,.int .i64 b.y,.int .i64 b.z],.agg [.int .i64 q.x,.int .i64 q.y,.int .i64 q.z]] (.int .i64 (arm a b q))) (h9:(decide ((arm a b q)≤0))=true)
 (hr:.bool false=res):G Try.prog E (qQ Try.prog) (qP r i k a b) :=
 Qp (n:=400) (evs:=[.b true,.ld (.agg [.int .i64 q.x,.int .i64 q.y,.int .i64 q.z]),.b true,.b true,.v (.int .i64 (arm a b q)),.b true]) (obs:=[(decide ((k:Int)<(r.feet.length:Int)))=true,0≤(k:Int)∧(k:Int)<(r.feet.length:Int),((rowP r.feet).drop (0+((Int.toNat (k:Int))*3))).take 3=[.int .i64 q.x,.int .i64 q.y,.int .i64 q.z],3≤3,((k:Int) != (i:Int))=true,InR .i64 ((i:Int)+1),(r.feet.length:Int) ≠ 0,((k:Int) != (Int.tmod ((i:Int)+1) (r.feet.length:Int)))=true,Qb Try.prog (.clos 87 [] []) [.agg [.int .i64 a.x,.int .i64 a.y,.int .i64 a.z,.int .i64 b.x,.int .i64 b.y,.int .i64 b.z],.agg [.int .i64 q.x,.int .i64 q.y,.int .i64 q.z]] (.int .i64 (arm a b q)),(decide ((arm a b q)≤0))=true]) hE Try.func86 Qj (by kernel_rfl) ⟨h0,h1,h2,(by decide),h4,h5,h6,h7,h8,h9,trivial⟩ hr
theorem p86_1_1 (r:Rg) (i k:Nat) (a b:Pt) (q:Pt) {E:Env} {res:AV} (hE:Qh Try.prog 86 res E) (h0:(decide ((k:Int)<(r.feet.length:Int)))=true) (h1:0≤(k:Int)∧(k:Int)<(r.feet.length:Int)) (h2:((rowP r.feet).drop (0+((Int.toNat (k:Int))*3))).take 3=[.int .i64 q.x,.int .i64 q.y,.int .i64 q.z]) (h4:((k:Int) != (i:Int))=true) (h5:InR .i64 ((i:Int)+1)) (h6:(r.feet.length:Int) ≠ 0) (h7:((k:Int) != (Int.tmod ((i:Int)+1) (r.feet.length:Int)))=true) (h8:Qb Try.prog (.clos 87 [] []) [.agg [.int .i64 a.x,.int .i64 a.y,.int .i64 a.z,.int .i64 b.x,.int .i64 b.y,.int .i64 b.z],.agg [.int .i64 q.x,.int .i64 q.y,.int .i64 q.z]] (.int .i64 (arm a b q))) (h9:(decide ((arm a b q)≤0))=false) (h10:InR .i64 ((k:Int)+1))
 (hg:G Try.prog E (qQ Try.prog) (qP r i (k+1) a b)):G Try.prog E (qQ Try.prog) (qP r i k a b) :=
 Qy (n:=400) (ds:=[]) (live:=[0,3,4,5,17,18,19,28,29,30]) (m:=1) (evs:=[.b true,.ld (.agg [.int .i64 q.x,.int .i64 q.y,.int .i64 q.z]),.b true,.b true,.v (.int .i64 (arm a b q)),.b false,.stop]) (obs:=[(decide ((k:Int)<(r.feet.length:Int)))=true,0≤(k:Int)∧(k:Int)<(r.feet.length:Int),((rowP r.feet).drop (0+((Int.toNat (k:Int))*3))).take 3=[.int .i64 q.x,.int .i64 q.y,.int .i64 q.z],3≤3,((k:Int) != (i:Int))=true,InR .i64 ((i:Int)+1),(r.feet.length:Int) ≠ 0,((k:Int) != (Int.tmod ((i:Int)+1) (r.feet.length:Int)))=true,Qb Try.prog (.clos 87 [] []) [.agg [.int .i64 a.x,.int .i64 a.y,.int .i64 a.z,.int .i64 b.x,.int .i64 b.y,.int .i64 b.z],.agg [.int .i64 q.x,.int .i64 q.y,.int .i64 q.z]] (.int .i64 (arm a b q)),(decide ((arm a b q)≤0))=false,InR .i64 ((k:Int)+1)]) hE.2.1 (hE.nogh _) Qj (by kernel_rfl) ⟨h0,h1,h2,(by decide),h4,h5,h6,h7,h8,h9,h10,trivial⟩ hg
theorem p86_1_2 (r:Rg) (i k:Nat) (a b:Pt) (q:Pt) {E:Env} {res:AV} (hE:Qh Try.prog 86 res E) (h0:(decide ((k:Int)<(r.feet.length:Int)))=true) (h1:0≤(k:Int)∧(k:Int)<(r.feet.length:Int)) (h2:((rowP r.feet).drop (0+((Int.toNat (k:Int))*3))).take 3=[.int .i64 q.x,.int .i64 q.y,.int .i64 q.z]) (h4:((k:Int) != (i:Int))=true) (h5:InR .i64 ((i:Int)+1)) (h6:(r.feet.length:Int) ≠ 0) (h7:((k:Int) != (Int.tmod ((i:Int)+1) (r.feet.length:Int)))=false) (h9:InR .i64 ((k:Int)+1))
 (hg:G Try.prog E (qQ Try.prog) (qP r i (k+1) a b)):G Try.prog E (qQ Try.prog) (qP r i k a b) :=
 Qy (n:=400) (ds:=[]) (live:=[0,3,4,5,17,18,19,28,29,30]) (m:=1) (evs:=[.b true,.ld (.agg [.int .i64 q.x,.int .i64 q.y,.int .i64 q.z]),.b true,.b false,.b false,.stop]) (obs:=[(decide ((k:Int)<(r.feet.length:Int)))=true,0≤(k:Int)∧(k:Int)<(r.feet.length:Int),((rowP r.feet).drop (0+((Int.toNat (k:Int))*3))).take 3=[.int .i64 q.x,.int .i64 q.y,.int .i64 q.z],3≤3,((k:Int) != (i:Int))=true,InR .i64 ((i:Int)+1),(r.feet.length:Int) ≠ 0,((k:Int) != (Int.tmod ((i:Int)+1) (r.feet.length:Int)))=false,false=false,InR .i64 ((k:Int)+1)]) hE.2.1 (hE.nogh _) Qj (by kernel_rfl) ⟨h0,h1,h2,(by decide),h4,h5,h6,h7,rfl,h9,trivial⟩ hg
theorem p86_1_3 (r:Rg) (i k:Nat) (a b:Pt) (q:Pt) {E:Env} {res:AV} (hE:Qh Try.prog 86 res E) (h0:(decide ((k:Int)<(r.feet.length:Int)))=true) (h1:0≤(k:Int)∧(k:Int)<(r.feet.length:Int)) (h2:((rowP r.feet).drop (0+((Int.toNat (k:Int))*3))).take 3=[.int .i64 q.x,.int .i64 q.y,.int .i64 q.z]) (h4:((k:Int) != (i:Int))=false) (h7:InR .i64 ((k:Int)+1))
 (hg:G Try.prog E (qQ Try.prog) (qP r i (k+1) a b)):G Try.prog E (qQ Try.prog) (qP r i k a b) :=
 Qy (n:=400) (ds:=[]) (live:=[0,3,4,5,17,18,19,28,29,30]) (m:=1) (evs:=[.b true,.ld (.agg [.int .i64 q.x,.int .i64 q.y,.int .i64 q.z]),.b false,.b false,.b false,.stop]) (obs:=[(decide ((k:Int)<(r.feet.length:Int)))=true,0≤(k:Int)∧(k:Int)<(r.feet.length:Int),((rowP r.feet).drop (0+((Int.toNat (k:Int))*3))).take 3=[.int .i64 q.x,.int .i64 q.y,.int .i64 q.z],3≤3,((k:Int) != (i:Int))=false,false=false,false=false,InR .i64 ((k:Int)+1)]) hE.2.1 (hE.nogh _) Qj (by kernel_rfl) ⟨h0,h1,h2,(by decide),h4,rfl,rfl,h7,trivial⟩ hg
theorem p86_1_4 (r:Rg) (i k:Nat) (a b:Pt) {E:Env} {res:AV} (hE:Qh Try.prog 86 res E) (h0:(decide ((k:Int)<(r.feet.length:Int)))=false) (h1:InR .i64 ((i:Int)+1))
 (hg:G Try.prog E (f86K0 Try.prog) (f86S0 r (i+1))):G Try.prog E (qQ Try.prog) (qP r i k a b) :=
 Qy (n:=400) (ds:=[]) (live:=[0,3,17,18,19]) (m:=0) (evs:=[.b false,.stop]) (obs:=[(decide ((k:Int)<(r.feet.length:Int)))=false,InR .i64 ((i:Int)+1)]) hE.2.1 (hE.nogh _) Qj (by kernel_rfl) ⟨h0,h1,trivial⟩ hg
end Go.Proofs.Ytideokfbnegkjaa
namespace Go.Proofs.Ytideokfbnegkjaa
open Go Ax
open Go.Proofs
def Vx (r:Rg) (k:Nat):Pt:=r.feet.getD k ⟨0,0,0⟩
def badF (r:Rg) (i k:Nat):Bool:=((k:Int) != (i:Int)) && (((k:Int) != Int.tmod ((i:Int)+1) (r.feet.length:Int)) && decide (arm (QD r i).1 (QD r i).2 (Vx r k)≤0))
def convR (r:Rg) (i:Nat):Nat→Nat→Bool
 | _,0=>true
 | k,d+1=>!badF r i k && convR r i (k+1) d
def convP (r:Rg):Nat→Nat→Bool
 | _,0=>true
 | i,d+1=>convR r i 0 r.feet.length && convP r (i+1) d
def YI (r:Rg):Bool:=convP r 0 r.feet.length
structure FeetOk (r:Rg):Prop where
 feet0:3≤r.feet.length
 feet1:r.feet.length≤8
 foot:∀ p ∈ r.feet,Qm p=true
theorem yr {r:Rg} {v:Nat} (hr:FeetOk r) (h:v<r.feet.length):Qm (QD r v).1=true∧Qm (QD r v).2=true:=by
 have hg:=XW h
 unfold Qa at hg
 rw [List.getElem?_map] at hg
 have e:(List.range' 0 r.feet.length)[v]?=some v:=by simp [h]
 rw [e] at hg
 simp only [Option.map_some,Option.some.injEq] at hg
 have h2:(v+1) % r.feet.length<r.feet.length:=Nat.mod_lt _ (by omega)
 rw [← hg]
 constructor
 · refine hr.foot _ ?_
   simp only [List.getD_eq_getElem?_getD,List.getElem?_eq_getElem h,Option.getD_some]; exact List.getElem_mem h
 · refine hr.foot _ ?_
   simp only [List.getD_eq_getElem?_getD,List.getElem?_eq_getElem h2,Option.getD_some]; exact List.getElem_mem h2
theorem conv_k {E:Env} {res:AV} {r:Rg} (hE:Qh Try.prog 86 res E) (hr:FeetOk r) {i:Nat} (hi:i<r.feet.length) {cont:Bool}
 (hg:res=.bool cont→G Try.prog E (f86K0 Try.prog) (f86S0 r (i+1))):∀ (d k:Nat),k+d=r.feet.length→res=.bool (convR r i k d && cont) →
   G Try.prog E (qQ Try.prog) (qP r i k (QD r i).1 (QD r i).2)
 | 0,k,hd,hr'=>p86_1_4 r i k _ _ hE (by simp; omega) (by have:=hr.feet1; unfold InR; omega) (hg (by rw [hr']; rfl))
 | d+1,k,hd,hr'=>by
  have hk:k<r.feet.length:=by omega
  have hq:r.feet[k]?=some (Vx r k):=by simp [Vx,List.getD,hk]
  obtain ⟨l1,l2⟩:=yr hr hi
  obtain ⟨q1,-,-⟩:=yI l1 l2 (hr.foot _ (List.mem_of_getElem? hq))
  have h8:=hr.feet1
  simp only [convR] at hr'
  have row:=Xx cP (s:=3) (fun _=>rfl) _ _ _ hq
  rcases Bool.eq_false_or_eq_true ((k:Int) != (i:Int)) with h1 | h1
  · rcases Bool.eq_false_or_eq_true ((k:Int) != Int.tmod ((i:Int)+1) (r.feet.length:Int)) with h2 | h2
    · rcases Bool.eq_false_or_eq_true (decide (arm (QD r i).1 (QD r i).2 (Vx r k)≤0)) with h3 | h3
      · refine p86_1_0 r i k _ _ (Vx r k) hE (by simpa using hk) (by omega) row h1 (by unfold InR; omega) (by omega) h2 (arm_F _ _ _ q1) h3 ?_
        rw [hr']; simp only [badF,h1,h2,h3]; rfl
      · refine p86_1_1 r i k _ _ (Vx r k) hE (by simpa using hk) (by omega) row h1 (by unfold InR; omega) (by omega) h2 (arm_F _ _ _ q1) h3 (by unfold InR; omega) ?_
        exact conv_k hE hr hi hg d (k+1) (by omega) (by rw [hr']; simp only [badF,h1,h2,h3]; rfl)
    · refine p86_1_2 r i k _ _ (Vx r k) hE (by simpa using hk) (by omega) row h1 (by unfold InR; omega) (by omega) h2 (by unfold InR; omega) ?_
      exact conv_k hE hr hi hg d (k+1) (by omega) (by rw [hr']; simp only [badF,h1,h2]; rfl)
  · refine p86_1_3 r i k _ _ (Vx r k) hE (by simpa using hk) (by omega) row h1 (by unfold InR; omega) ?_
    exact conv_k hE hr hi hg d (k+1) (by omega) (by rw [hr']; simp only [badF,h1]; rfl)
theorem conv_i {E:Env} {res:AV} {r:Rg} (hE:Qh Try.prog 86 res E) (hr:FeetOk r):∀ (d i:Nat),i+d=r.feet.length→res=.bool (convP r i d)→G Try.prog E (f86K0 Try.prog) (f86S0 r i)
 | 0,i,hd,hr'=>p86_0e r i hE (by simp [XK]; omega) (by rw [hr']; rfl)
 | d+1,i,hd,hr'=>by
  have hi:i<r.feet.length:=by omega
  refine p86_0n r i (QD r i).1 (QD r i).2 hE (by simp [XK]; omega) (by rw [XK]; omega) (Xx (fun s:Pt × Pt=>cP s.1++cP s.2) (fun _=>rfl) _ _ _ (XW hi)) ?_
  exact conv_k hE hr hi (cont:=convP r (i+1) d) (fun h=>conv_i hE hr d (i+1) (by omega) h) r.feet.length 0 (by omega) hr'
theorem convex_ok (r:Rg) (hr:FeetOk r):Pure Try.prog 86 [.rptr [.rsl (rowS r.seats) 0 r.seats.length,.rsl (rowP r.feet) 0 r.feet.length,.int .i64 r.frame,.int .i64 r.c.x,.int .i64 r.c.y,.int .i64 r.c.z,.int .i64 r.empty,.int .i64 r.full,.rsl (Qq (Qa r.feet)) 0 ((Qa r.feet).length),.int .i64 (Qe r)] 0]
 (.bool (YI r)):=Qw Try.func86 f86b fun E hE=>p86_s r hE (conv_i hE hr r.feet.length 0 (by omega) rfl)
end Go.Proofs.Ytideokfbnegkjaa
namespace Ax
open Go
def AvLe (a b:AV):Prop:=∀ (Z:Nat→Prop) (w:World) (c:Value),VR Z w C0 a c→VR Z w C0 b c
def AvLes:List AV→List AV→Prop
 | [],[]=>True
 | a :: as',b :: bs=>AvLe a b∧AvLes as' bs
 | _,_=>False
theorem AvLe.refl (a:AV):AvLe a a:=fun _ _ _ h=>h
theorem AvLe.of_eq {a b:AV} (h:a=b):AvLe a b:=h ▸ AvLe.refl a
theorem VP {row:List AV} {off:Nat}:AvLe .nilSl (.rsl row off 0):=fun _ _ _ h=>by cases h; exact .rsl0
theorem AvLes.vrs {Z:Nat→Prop} {w:World}:∀ {as' bs:List AV} {vs:List Value},AvLes as' bs→VRs Z w C0 as' vs→VRs Z w C0 bs vs
 | [],[],vs,_,h=>h
 | a :: as',b :: bs,[],_,h=>by have:=h.1; simp at this
 | a :: as',b :: bs,v :: vs,hl,h=>by
  have h1:VR Z w C0 a v:=h.2 0 a v rfl rfl
  have h2:VRs Z w C0 as' vs:=⟨by have:=h.1; simpa using this,fun i c v p q=>h.2 (i+1) c v (by simpa using p) (by simpa using q)⟩
  have h3:=AvLes.vrs hl.2 h2
  refine ⟨by simp [h3.1],fun i c x p q=>?_⟩
  cases i with
  | zero=>simp at p q; subst p; subst q; exact hl.1 _ _ _ h1
  | succ i=>exact h3.2 i c x (by simpa using p) (by simpa using q)
 | [],b :: bs,_,hl,_=>hl.elim
 | a :: as',[],_,hl,_=>hl.elim
theorem WY {xs ys:List AV} (h:AvLes xs ys):AvLe (.tup xs) (.tup ys):=fun Z w c hc=>by
 cases hc with
 | @tup _ _ arr hl h1 =>
  have:=h.vrs (vs:=arr.toList) ⟨by simpa using hl,fun i c v p q=>h1 i c v p (by simpa using q)⟩
  exact .tup (by simpa using this.1) fun i c v p q=>this.2 i c v p (by simpa using q)
section
variable {P:Program} {E:Env} {K K':List Item} {st st':St}
theorem Pure.le {f:FuncId} {args args':List AV} {res:AV} (h:Pure P f args res) (hl:AvLes args' args):Pure P f args' res :=
 fun Z w cargs hz ha=>h Z w cargs hz (hl.vrs ha)
theorem Qb.le {fv:AV} {args args':List AV} {res:AV} (h:Qb P fv args res) (hl:AvLes args' args):Qb P fv args' res :=
 fun Z w cf cargs hz hf ha=>h Z w cf cargs hz hf (hl.vrs ha)
theorem G.fin {F':Machine→Prop} (h:G P { E with Fin:=F' } K st) (hm:∀ m,F' m→E.Fin m):G P E K st:=fun C Z a w hr =>
 let ⟨m',hs,hf⟩:=h C Z a w hr
 ⟨m',hs,hm m' hf⟩
theorem VW.mono {f:FuncId} {cs:List Frame} {Q Q':Value→World→Prop} (hq:∀ v w,Q v w→Q' v w) {m:Machine} (h:VW P f cs Q m):VW P f cs Q' m:=by
 obtain ⟨v,w,fr,e,a,b,c⟩:=h
 exact ⟨v,w,fr,e,a,b,hq _ _ c⟩
theorem Qg {n:Nat} {f:FuncId} {fn:Func} {evs:List EV} {r res:AV} {obs:List Prop} (hE:Qh P f res E) (hf:P.funcs[f]?=some fn) (hmx:P.follows .mixedOrders=true)
 (h:endA P fn n K st evs=some (r,obs)) (ho:AllP obs) (hr:AvLe r res):G P E K st:=by
 obtain ⟨e1,e2,e3,e4,e5,e6,e7⟩:=hE
 refine G.fin (F':=VW P f E.cs fun v w'=>VR (Zx E.Z0 E.w0 w') w' C0 r v∧Fr E.w0 (fun _=>False) w') (Qp ⟨e1,e2,e3,e4,e5,rfl,e7⟩ hf hmx h ho rfl) fun m hm=>?_
 rw [e6]
 exact VW.mono (fun v w hq=>⟨hr _ _ _ hq.1,hq.2⟩) hm
end
end Ax
namespace Go.Proofs.Ytideokfbnegkjaa
open Go Ax
open Go.Proofs
theorem f56b:Try.f56.body=some (Qd Try.prog 56):=by kernel_rfl
def WJ (P:Program):List Item:=kAt 400 [.code (Qd P 56)] [.b false,.stop]
def qS (r:Rg) (i:Nat) (ph:Nat):St:=⟨([J,.ptr 0 0 0,J,J,.ptr 1 0 0]++jj 19 ([.rsl (rowS r.seats) 0 r.seats.length,.int .i64 (r.seats.length:Int),.int .i64 (i:Int)]++Js 82)),[⟨true,0,1,true,[.rsl (rowS r.seats) 0 r.seats.length,.rsl (rowP r.feet) 0 r.feet.length,.int .i64 r.frame,.int .i64 r.c.x,.int .i64 r.c.y,.int .i64 r.c.z,.int .i64 r.empty,.int .i64 r.full],false⟩,⟨true,0,1,true,[.rsl (rowS r.seats) 0 r.seats.length,.rsl (rowP r.feet) 0 r.feet.length,.int .i64 r.frame,.int .i64 r.c.x,.int .i64 r.c.y,.int .i64 r.c.z,.int .i64 r.empty,.int .i64 r.full,.nilSl,.int .i64 (ph:Int)],false⟩]⟩
def f56G0 (E:Env) (r:Rg) (i:Nat) (ph:Nat):Prop:=G Try.prog E (WJ Try.prog) (qS r i ph )
def f56K1 (P:Program):List Item:=kAt 400 [.code (Qd P 56)] [.b false,.b false,.b false,.b false,.stop]
def f56S1 (r:Rg) (ph:Nat) (k:Nat) (ls:List (Pt × Pt)) (g2:Nat):St:=⟨([J,.ptr 0 0 0,J,J,.ptr 1 0 0]++jj 72 ([.rsl (rowP r.feet) 0 r.feet.length,.int .i64 (r.feet.length:Int),.int .i64 (k:Int)]++Js 29)),[⟨true,0,1,true,[.rsl (rowS r.seats) 0 r.seats.length,.rsl (rowP r.feet) 0 r.feet.length,.int .i64 r.frame,.int .i64 r.c.x,.int .i64 r.c.y,.int .i64 r.c.z,.int .i64 r.empty,.int .i64 r.full],false⟩,⟨true,0,1,false,[.rsl (rowS r.seats) 0 r.seats.length,.rsl (rowP r.feet) 0 r.feet.length,.int .i64 r.frame,.int .i64 r.c.x,.int .i64 r.c.y,.int .i64 r.c.z,.int .i64 r.empty,.int .i64 r.full,.sl 2 g2 0 ls.length 6,.int .i64 (ph:Int)],false⟩,⟨true,g2,6,true,(Qq ls),true⟩]⟩
def f56G1 (E:Env) (r:Rg) (ph:Nat) (k:Nat) (ls:List (Pt × Pt)):Prop:=∀ g2:Nat,G Try.prog E (f56K1 Try.prog) (f56S1 r ph k ls g2)
theorem p56_start_0 (r:Rg) {E:Env} {res:AV} (hE:Qh Try.prog 56 res E) (ho:AllP [(decide ((r.seats.length:Int) > 20))=true,true=true])
 (hr:AvLe (.tup [.nilPtr,.bool false]) res):G Try.prog E [.code (Qd Try.prog 56)] ⟨[.agg [.rsl (rowS r.seats) 0 r.seats.length,.rsl (rowP r.feet) 0 r.feet.length,.int .i64 r.frame,.int .i64 r.c.x,.int .i64 r.c.y,.int .i64 r.c.z,.int .i64 r.empty,.int .i64 r.full]]++unds (Try.f56.ntmps - 1),[]⟩ :=
 Qg (n:=400) (evs:=[.b true,.b true]) (obs:=_) hE Try.func56 Qj (by kernel_rfl) ho hr
theorem p56_start_1 (r:Rg) {E:Env} {res:AV} (hE:Qh Try.prog 56 res E) (ho:AllP [(decide ((r.seats.length:Int) > 20))=false,Qb Try.prog (.clos 51 [] []) [.int .i64 (r.feet.length:Int),.int .i64 3,.int .i64 8] (.bool (Qc (r.feet.length:Int) 3 8)),(!(Qc (r.feet.length:Int) 3 8))=true])
 (hr:AvLe (.tup [.nilPtr,.bool false]) res):G Try.prog E [.code (Qd Try.prog 56)] ⟨[.agg [.rsl (rowS r.seats) 0 r.seats.length,.rsl (rowP r.feet) 0 r.feet.length,.int .i64 r.frame,.int .i64 r.c.x,.int .i64 r.c.y,.int .i64 r.c.z,.int .i64 r.empty,.int .i64 r.full]]++unds (Try.f56.ntmps - 1),[]⟩ :=
 Qg (n:=400) (evs:=[.b false,.v (.bool (Qc (r.feet.length:Int) 3 8)),.b true]) (obs:=_) hE Try.func56 Qj (by kernel_rfl) ho hr
theorem p56_start_2 (r:Rg) {E:Env} {rv:AV} (hE:Qh Try.prog 56 rv E) (ho:AllP [(decide ((r.seats.length:Int) > 20))=false,Qb Try.prog (.clos 51 [] []) [.int .i64 (r.feet.length:Int),.int .i64 3,.int .i64 8] (.bool (Qc (r.feet.length:Int) 3 8)),(!(Qc (r.feet.length:Int) 3 8))=false])
 (hg:G Try.prog E (WJ Try.prog) ⟨([J,.ptr 0 0 0,J,J,.ptr 1 0 0]++jj 19 ([.rsl (rowS r.seats) 0 r.seats.length,.int .i64 (r.seats.length:Int),.int .i64 0]++Js 82)),[⟨true,0,1,true,[.rsl (rowS r.seats) 0 r.seats.length,.rsl (rowP r.feet) 0 r.feet.length,.int .i64 r.frame,.int .i64 r.c.x,.int .i64 r.c.y,.int .i64 r.c.z,.int .i64 r.empty,.int .i64 r.full],false⟩,⟨true,0,1,true,[.rsl (rowS r.seats) 0 r.seats.length,.rsl (rowP r.feet) 0 r.feet.length,.int .i64 r.frame,.int .i64 r.c.x,.int .i64 r.c.y,.int .i64 r.c.z,.int .i64 r.empty,.int .i64 r.full,.nilSl,.int .i64 1],false⟩]⟩):G Try.prog E [.code (Qd Try.prog 56)] ⟨[.agg [.rsl (rowS r.seats) 0 r.seats.length,.rsl (rowP r.feet) 0 r.feet.length,.int .i64 r.frame,.int .i64 r.c.x,.int .i64 r.c.y,.int .i64 r.c.z,.int .i64 r.empty,.int .i64 r.full]]++unds (Try.f56.ntmps - 1),[]⟩ :=
 Qn (n:=400) (ds:=[]) (cs:=[]) (live:=[1,4,24,25,26]) (m:=2) (evs:=[.b false,.v (.bool (Qc (r.feet.length:Int) 3 8)),.b false,.stop]) (obs:=_) hE.2.1 (hE.nogh _) Qj (by kernel_rfl) ho hg
theorem f56W (r:Rg) {E:Env} {rv:AV} (hE:Qh Try.prog 56 rv E)
 (h:(((r.seats.length:Int) > 20→rv=(.tup [.nilPtr,.bool false]))∧(¬ ((r.seats.length:Int) > 20)→(((Qc (r.feet.length:Int) 3 8)=false→rv=(.tup [.nilPtr,.bool false]))∧((Qc (r.feet.length:Int) 3 8)=true→f56G0 E r 0 1))))):G Try.prog E [.code (Qd Try.prog 56)] ⟨[.agg [.rsl (rowS r.seats) 0 r.seats.length,.rsl (rowP r.feet) 0 r.feet.length,.int .i64 r.frame,.int .i64 r.c.x,.int .i64 r.c.y,.int .i64 r.c.z,.int .i64 r.empty,.int .i64 r.full]]++unds (Try.f56.ntmps - 1),[]⟩:=by
 rcases bft (decide ((r.seats.length:Int) > 20)) with hc0 | hc0
 · have h:=h.1 (odt hc0)
   exact p56_start_0 r hE ⟨hc0,rfl,trivial⟩ (AvLe.of_eq (by rw [h]; try rfl))
 · have h:=h.2 (odf hc0)
   rcases bft (!(Qc (r.feet.length:Int) 3 8)) with hc1 | hc1
   · have h:=h.1 (bnT hc1)
     exact p56_start_1 r hE ⟨hc0,(u51 (QR (r.feet.length:Int) 3 8)),hc1,trivial⟩ (AvLe.of_eq (by rw [h]; try rfl))
   · have h:=h.2 (bnF hc1)
     exact p56_start_2 r hE ⟨hc0,(u51 (QR (r.feet.length:Int) 3 8)),hc1,trivial⟩ h
theorem p56_0_0 (r:Rg) (i:Nat) (ph:Nat) (le:(List Pt)) {E:Env} {res:AV} (hE:Qh Try.prog 56 res E) (ho:AllP [(decide ((i:Int)<(r.seats.length:Int)))=true,0≤(i:Int)∧(i:Int)<(r.seats.length:Int),((rowS r.seats).drop (0+(Int.toNat (i:Int))*1)).take 1=[.rsl (rowP le) 0 le.length],Qb Try.prog (.clos 50 [] []) [.rsl (rowP le) 0 le.length] (.bool (QE le)),(!(QE le))=true,true=true])
 (hr:AvLe (.tup [.nilPtr,.bool false]) res):G Try.prog E (WJ Try.prog) (qS r i ph ) :=
 Qg (n:=400) (evs:=[.b true,.ld (.rsl (rowP le) 0 le.length),.v (.bool (QE le)),.b true,.b true]) (obs:=_) hE Try.func56 Qj (by kernel_rfl) ho hr
theorem p56_0_1 (r:Rg) (i:Nat) (ph:Nat) (le:(List Pt)) (le1:(List Pt)) {E:Env} {res:AV} (hE:Qh Try.prog 56 res E) (ho:AllP [(decide ((i:Int)<(r.seats.length:Int)))=true,0≤(i:Int)∧(i:Int)<(r.seats.length:Int),((rowS r.seats).drop (0+(Int.toNat (i:Int))*1)).take 1=[.rsl (rowP le) 0 le.length],Qb Try.prog (.clos 50 [] []) [.rsl (rowP le) 0 le.length] (.bool (QE le)),(!(QE le))=false,(0:Int)≤0∧(0:Int)<(r.seats.length:Int),((rowS r.seats).drop (0+0*1)).take 1=[.rsl (rowP le1) 0 le1.length],((le.length:Int) != (le1.length:Int))=true])
 (hr:AvLe (.tup [.nilPtr,.bool false]) res):G Try.prog E (WJ Try.prog) (qS r i ph ) :=
 Qg (n:=400) (evs:=[.b true,.ld (.rsl (rowP le) 0 le.length),.v (.bool (QE le)),.b false,.auto,.ld (.rsl (rowP le1) 0 le1.length),.b true]) (obs:=_) hE Try.func56 Qj (by kernel_rfl) ho hr
theorem p56_0_2 (r:Rg) (i:Nat) (ph:Nat) (le:(List Pt)) (le1:(List Pt)) {E:Env} {rv:AV} (hE:Qh Try.prog 56 rv E) (ho:AllP [(decide ((i:Int)<(r.seats.length:Int)))=true,0≤(i:Int)∧(i:Int)<(r.seats.length:Int),((rowS r.seats).drop (0+(Int.toNat (i:Int))*1)).take 1=[.rsl (rowP le) 0 le.length],Qb Try.prog (.clos 50 [] []) [.rsl (rowP le) 0 le.length] (.bool (QE le)),(!(QE le))=false,(0:Int)≤0∧(0:Int)<(r.seats.length:Int),((rowS r.seats).drop (0+0*1)).take 1=[.rsl (rowP le1) 0 le1.length],((le.length:Int) != (le1.length:Int))=false,10≤10,InR .i64 ((i:Int)+1)])
 (hg:G Try.prog E (WJ Try.prog) ⟨([J,.ptr 0 0 0,J,J,.ptr 1 0 0]++jj 19 ([.rsl (rowS r.seats) 0 r.seats.length,.int .i64 (r.seats.length:Int),.int .i64 ((i:Int)+1)]++Js 82)),[⟨true,0,1,true,[.rsl (rowS r.seats) 0 r.seats.length,.rsl (rowP r.feet) 0 r.feet.length,.int .i64 r.frame,.int .i64 r.c.x,.int .i64 r.c.y,.int .i64 r.c.z,.int .i64 r.empty,.int .i64 r.full],false⟩,⟨true,0,1,true,[.rsl (rowS r.seats) 0 r.seats.length,.rsl (rowP r.feet) 0 r.feet.length,.int .i64 r.frame,.int .i64 r.c.x,.int .i64 r.c.y,.int .i64 r.c.z,.int .i64 r.empty,.int .i64 r.full,.nilSl,.int .i64 (le.length:Int)],false⟩]⟩):G Try.prog E (WJ Try.prog) (qS r i ph ) :=
 Qn (n:=400) (ds:=[]) (cs:=[]) (live:=[1,4,24,25,26]) (m:=2) (evs:=[.b true,.ld (.rsl (rowP le) 0 le.length),.v (.bool (QE le)),.b false,.auto,.ld (.rsl (rowP le1) 0 le1.length),.b false,.stop]) (obs:=_) hE.2.1 (hE.nogh _) Qj (by kernel_rfl) ho hg
theorem p56_0_3 (r:Rg) (i:Nat) (ph:Nat) {E:Env} {res:AV} (hE:Qh Try.prog 56 res E) (ho:AllP [(decide ((i:Int)<(r.seats.length:Int)))=false,Qb Try.prog (.clos 51 [] []) [.int .i64 r.frame,.int .i64 0,.int .i64 1000000] (.bool (Qc r.frame 0 1000000)),(!(Qc r.frame 0 1000000))=true,true=true,true=true,true=true])
 (hr:AvLe (.tup [.nilPtr,.bool false]) res):G Try.prog E (WJ Try.prog) (qS r i ph ) :=
 Qg (n:=400) (evs:=[.b false,.v (.bool (Qc r.frame 0 1000000)),.b true,.b true,.b true,.b true]) (obs:=_) hE Try.func56 Qj (by kernel_rfl) ho hr
theorem p56_0_4 (r:Rg) (i:Nat) (ph:Nat) {E:Env} {res:AV} (hE:Qh Try.prog 56 res E) (ho:AllP [(decide ((i:Int)<(r.seats.length:Int)))=false,Qb Try.prog (.clos 51 [] []) [.int .i64 r.frame,.int .i64 0,.int .i64 1000000] (.bool (Qc r.frame 0 1000000)),(!(Qc r.frame 0 1000000))=false,Qb Try.prog (.clos 51 [] []) [.int .i64 r.full,.int .i64 0,.int .i64 1000000] (.bool (Qc r.full 0 1000000)),(!(Qc r.full 0 1000000))=true,true=true,true=true])
 (hr:AvLe (.tup [.nilPtr,.bool false]) res):G Try.prog E (WJ Try.prog) (qS r i ph ) :=
 Qg (n:=400) (evs:=[.b false,.v (.bool (Qc r.frame 0 1000000)),.b false,.v (.bool (Qc r.full 0 1000000)),.b true,.b true,.b true]) (obs:=_) hE Try.func56 Qj (by kernel_rfl) ho hr
theorem p56_0_5 (r:Rg) (i:Nat) (ph:Nat) {E:Env} {res:AV} (hE:Qh Try.prog 56 res E) (ho:AllP [(decide ((i:Int)<(r.seats.length:Int)))=false,Qb Try.prog (.clos 51 [] []) [.int .i64 r.frame,.int .i64 0,.int .i64 1000000] (.bool (Qc r.frame 0 1000000)),(!(Qc r.frame 0 1000000))=false,Qb Try.prog (.clos 51 [] []) [.int .i64 r.full,.int .i64 0,.int .i64 1000000] (.bool (Qc r.full 0 1000000)),(!(Qc r.full 0 1000000))=false,Qb Try.prog (.clos 51 [] []) [.int .i64 r.empty,.int .i64 0,.int .i64 r.full] (.bool (Qc r.empty 0 r.full)),(!(Qc r.empty 0 r.full))=true,true=true])
 (hr:AvLe (.tup [.nilPtr,.bool false]) res):G Try.prog E (WJ Try.prog) (qS r i ph ) :=
 Qg (n:=400) (evs:=[.b false,.v (.bool (Qc r.frame 0 1000000)),.b false,.v (.bool (Qc r.full 0 1000000)),.b false,.v (.bool (Qc r.empty 0 r.full)),.b true,.b true]) (obs:=_) hE Try.func56 Qj (by kernel_rfl) ho hr
theorem p56_0_6 (r:Rg) (i:Nat) (ph:Nat) {E:Env} {res:AV} (hE:Qh Try.prog 56 res E) (ho:AllP [(decide ((i:Int)<(r.seats.length:Int)))=false,Qb Try.prog (.clos 51 [] []) [.int .i64 r.frame,.int .i64 0,.int .i64 1000000] (.bool (Qc r.frame 0 1000000)),(!(Qc r.frame 0 1000000))=false,Qb Try.prog (.clos 51 [] []) [.int .i64 r.full,.int .i64 0,.int .i64 1000000] (.bool (Qc r.full 0 1000000)),(!(Qc r.full 0 1000000))=false,Qb Try.prog (.clos 51 [] []) [.int .i64 r.empty,.int .i64 0,.int .i64 r.full] (.bool (Qc r.empty 0 r.full)),(!(Qc r.empty 0 r.full))=false,Qb Try.prog (.clos 82 [] []) [.agg [.int .i64 r.c.x,.int .i64 r.c.y,.int .i64 r.c.z]] (.bool (Qm r.c)),(!(Qm r.c))=true])
 (hr:AvLe (.tup [.nilPtr,.bool false]) res):G Try.prog E (WJ Try.prog) (qS r i ph ) :=
 Qg (n:=400) (evs:=[.b false,.v (.bool (Qc r.frame 0 1000000)),.b false,.v (.bool (Qc r.full 0 1000000)),.b false,.v (.bool (Qc r.empty 0 r.full)),.b false,.v (.bool (Qm r.c)),.b true]) (obs:=_) hE Try.func56 Qj (by kernel_rfl) ho hr
theorem p56_0_7 (r:Rg) (i:Nat) (ph:Nat) {E:Env} {res:AV} (hE:Qh Try.prog 56 res E) (ho:AllP [(decide ((i:Int)<(r.seats.length:Int)))=false,Qb Try.prog (.clos 51 [] []) [.int .i64 r.frame,.int .i64 0,.int .i64 1000000] (.bool (Qc r.frame 0 1000000)),(!(Qc r.frame 0 1000000))=false,Qb Try.prog (.clos 51 [] []) [.int .i64 r.full,.int .i64 0,.int .i64 1000000] (.bool (Qc r.full 0 1000000)),(!(Qc r.full 0 1000000))=false,Qb Try.prog (.clos 51 [] []) [.int .i64 r.empty,.int .i64 0,.int .i64 r.full] (.bool (Qc r.empty 0 r.full)),(!(Qc r.empty 0 r.full))=false,Qb Try.prog (.clos 82 [] []) [.agg [.int .i64 r.c.x,.int .i64 r.c.y,.int .i64 r.c.z]] (.bool (Qm r.c)),(!(Qm r.c))=false,Qb Try.prog (.clos 84 [] []) [.rsl (rowP r.feet) 0 r.feet.length,.clos 85 [] []] (.bool (r.feet.any QG)),(r.feet.any QG)=true])
 (hr:AvLe (.tup [.nilPtr,.bool false]) res):G Try.prog E (WJ Try.prog) (qS r i ph ) :=
 Qg (n:=400) (evs:=[.b false,.v (.bool (Qc r.frame 0 1000000)),.b false,.v (.bool (Qc r.full 0 1000000)),.b false,.v (.bool (Qc r.empty 0 r.full)),.b false,.v (.bool (Qm r.c)),.b false,.v (.bool (r.feet.any QG)),.b true]) (obs:=_) hE Try.func56 Qj (by kernel_rfl) ho hr
theorem p56_0_8 (r:Rg) (i:Nat) (ph:Nat) {E:Env} {rv:AV} (hE:Qh Try.prog 56 rv E) (ho:AllP [(decide ((i:Int)<(r.seats.length:Int)))=false,Qb Try.prog (.clos 51 [] []) [.int .i64 r.frame,.int .i64 0,.int .i64 1000000] (.bool (Qc r.frame 0 1000000)),(!(Qc r.frame 0 1000000))=false,Qb Try.prog (.clos 51 [] []) [.int .i64 r.full,.int .i64 0,.int .i64 1000000] (.bool (Qc r.full 0 1000000)),(!(Qc r.full 0 1000000))=false,Qb Try.prog (.clos 51 [] []) [.int .i64 r.empty,.int .i64 0,.int .i64 r.full] (.bool (Qc r.empty 0 r.full)),(!(Qc r.empty 0 r.full))=false,Qb Try.prog (.clos 82 [] []) [.agg [.int .i64 r.c.x,.int .i64 r.c.y,.int .i64 r.c.z]] (.bool (Qm r.c)),(!(Qm r.c))=false,Qb Try.prog (.clos 84 [] []) [.rsl (rowP r.feet) 0 r.feet.length,.clos 85 [] []] (.bool (r.feet.any QG)),(r.feet.any QG)=false])
 (hg:G Try.prog E (f56K1 Try.prog) ⟨([J,.ptr 0 0 0,J,J,.ptr 1 0 0]++jj 72 ([.rsl (rowP r.feet) 0 r.feet.length,.int .i64 (r.feet.length:Int),.int .i64 0]++Js 29)),[⟨true,0,1,true,[.rsl (rowS r.seats) 0 r.seats.length,.rsl (rowP r.feet) 0 r.feet.length,.int .i64 r.frame,.int .i64 r.c.x,.int .i64 r.c.y,.int .i64 r.c.z,.int .i64 r.empty,.int .i64 r.full],false⟩,⟨true,0,1,false,[.rsl (rowS r.seats) 0 r.seats.length,.rsl (rowP r.feet) 0 r.feet.length,.int .i64 r.frame,.int .i64 r.c.x,.int .i64 r.c.y,.int .i64 r.c.z,.int .i64 r.empty,.int .i64 r.full,.sl 2 0 0 0 6,.int .i64 (ph:Int)],false⟩,⟨true,0,6,true,[],true⟩]⟩):G Try.prog E (WJ Try.prog) (qS r i ph ) :=
 Qn (n:=400) (ds:=[]) (cs:=[(1,8,6)]) (live:=[1,4,77,78,79]) (m:=3) (evs:=[.b false,.v (.bool (Qc r.frame 0 1000000)),.b false,.v (.bool (Qc r.full 0 1000000)),.b false,.v (.bool (Qc r.empty 0 r.full)),.b false,.v (.bool (Qm r.c)),.b false,.v (.bool (r.feet.any QG)),.b false,.stop]) (obs:=_) hE.2.1 (hE.nogh _) Qj (by kernel_rfl) ho hg
theorem f56W0 (r:Rg) (i:Nat) (ph:Nat) {E:Env} {rv:AV} (hE:Qh Try.prog 56 rv E)
 (h:(((i:Int)<(r.seats.length:Int)→(∃ le:(List Pt),r.seats[i]?=some le∧((le.length≤1000)∧(((QE le)=false→rv=(.tup [.nilPtr,.bool false]))∧((QE le)=true→(∃ le1:(List Pt),r.seats[0]?=some le1∧((¬ ((le.length:Int)=(le1.length:Int))→rv=(.tup [.nilPtr,.bool false]))∧((le.length:Int)=(le1.length:Int)→((I6 ((i:Int)+1))∧f56G0 E r (i+1) le.length)))))))))∧(¬ ((i:Int)<(r.seats.length:Int))→(((Qc r.frame 0 1000000)=false→rv=(.tup [.nilPtr,.bool false]))∧((Qc r.frame 0 1000000)=true→(((Qc r.full 0 1000000)=false→rv=(.tup [.nilPtr,.bool false]))∧((Qc r.full 0 1000000)=true→(((Qc r.empty 0 r.full)=false→rv=(.tup [.nilPtr,.bool false]))∧((Qc r.empty 0 r.full)=true→(((Qm r.c)=false→rv=(.tup [.nilPtr,.bool false]))∧((Qm r.c)=true→((r.feet.length≤1000)∧(((r.feet.any QG)=true→rv=(.tup [.nilPtr,.bool false]))∧((r.feet.any QG)=false→f56G1 E r ph 0 ([]))))))))))))))):f56G0 E r i ph:=by
 rcases bft (decide ((i:Int)<(r.seats.length:Int))) with hc0 | hc0
 · have h:=h.1 (odt hc0)
   obtain ⟨le,h1,h⟩:=h
   obtain ⟨h2,h⟩:=h
   rcases bft (!(QE le)) with hc1 | hc1
   · have h:=h.1 (bnT hc1)
     exact p56_0_0 r i ph le hE ⟨hc0,(QJ h1),(QM (fun s:List Pt=>[AV.rsl (rowP s) 0 s.length]) (s:=1) (k:=0) (m:=1) (fun _=>rfl) (by decide) h1),(u50 (WM le h2)),hc1,rfl,trivial⟩ (AvLe.of_eq (by rw [h]; try rfl))
   · have h:=h.2 (bnF hc1)
     obtain ⟨le1,h3,h⟩:=h
     rcases bft ((le.length:Int) != (le1.length:Int)) with hc2 | hc2
     · have h:=h.1 (bneT hc2)
       exact p56_0_1 r i ph le le1 hE ⟨hc0,(QJ h1),(QM (fun s:List Pt=>[AV.rsl (rowP s) 0 s.length]) (s:=1) (k:=0) (m:=1) (fun _=>rfl) (by decide) h1),(u50 (WM le h2)),hc1,(QJ h3),(QM (fun s:List Pt=>[AV.rsl (rowP s) 0 s.length]) (s:=1) (k:=0) (m:=1) (fun _=>rfl) (by decide) h3),hc2,trivial⟩ (AvLe.of_eq (by rw [h]; try rfl))
     · have h:=h.2 (bneF hc2)
       obtain ⟨q11_3,h⟩:=h
       exact p56_0_2 r i ph le le1 hE ⟨hc0,(QJ h1),(QM (fun s:List Pt=>[AV.rsl (rowP s) 0 s.length]) (s:=1) (k:=0) (m:=1) (fun _=>rfl) (by decide) h1),(u50 (WM le h2)),hc1,(QJ h3),(QM (fun s:List Pt=>[AV.rsl (rowP s) 0 s.length]) (s:=1) (k:=0) (m:=1) (fun _=>rfl) (by decide) h3),hc2,(by decide),q11_3,trivial⟩ h
 · have h:=h.2 (odf hc0)
   rcases bft (!(Qc r.frame 0 1000000)) with hc1 | hc1
   · have h:=h.1 (bnT hc1)
     exact p56_0_3 r i ph hE ⟨hc0,(u51 (QR r.frame 0 1000000)),hc1,rfl,rfl,rfl,trivial⟩ (AvLe.of_eq (by rw [h]; try rfl))
   · have h:=h.2 (bnF hc1)
     rcases bft (!(Qc r.full 0 1000000)) with hc2 | hc2
     · have h:=h.1 (bnT hc2)
       exact p56_0_4 r i ph hE ⟨hc0,(u51 (QR r.frame 0 1000000)),hc1,(u51 (QR r.full 0 1000000)),hc2,rfl,rfl,trivial⟩ (AvLe.of_eq (by rw [h]; try rfl))
     · have h:=h.2 (bnF hc2)
       rcases bft (!(Qc r.empty 0 r.full)) with hc3 | hc3
       · have h:=h.1 (bnT hc3)
         exact p56_0_5 r i ph hE ⟨hc0,(u51 (QR r.frame 0 1000000)),hc1,(u51 (QR r.full 0 1000000)),hc2,(u51 (QR r.empty 0 r.full)),hc3,rfl,trivial⟩ (AvLe.of_eq (by rw [h]; try rfl))
       · have h:=h.2 (bnF hc3)
         rcases bft (!(Qm r.c)) with hc4 | hc4
         · have h:=h.1 (bnT hc4)
           exact p56_0_6 r i ph hE ⟨hc0,(u51 (QR r.frame 0 1000000)),hc1,(u51 (QR r.full 0 1000000)),hc2,(u51 (QR r.empty 0 r.full)),hc3,(u82 (Vp r.c)),hc4,trivial⟩ (AvLe.of_eq (by rw [h]; try rfl))
         · have h:=h.2 (bnF hc4)
           obtain ⟨h1,h⟩:=h
           rcases bft (r.feet.any QG) with hc5 | hc5
           · have h:=h.1 hc5
             exact p56_0_7 r i ph hE ⟨hc0,(u51 (QR r.frame 0 1000000)),hc1,(u51 (QR r.full 0 1000000)),hc2,(u51 (QR r.empty 0 r.full)),hc3,(u82 (Vp r.c)),hc4,(u84 (any84_ok r.feet h1)),hc5,trivial⟩ (AvLe.of_eq (by rw [h]; try rfl))
           · have h:=h.2 hc5
             exact p56_0_8 r i ph hE ⟨hc0,(u51 (QR r.frame 0 1000000)),hc1,(u51 (QR r.full 0 1000000)),hc2,(u51 (QR r.empty 0 r.full)),hc3,(u82 (Vp r.c)),hc4,(u84 (any84_ok r.feet h1)),hc5,trivial⟩ (h 0)
theorem p56_1_0 (r:Rg) (ph:Nat) (k:Nat) (ls:List (Pt × Pt)) (g2:Nat) (pe:Pt) (pe1:Pt) {E:Env} {rv:AV} (hE:Qh Try.prog 56 rv E) (ho:AllP [(decide ((k:Int)<(r.feet.length:Int)))=true,0≤(k:Int)∧(k:Int)<(r.feet.length:Int),((rowP r.feet).drop (0+(Int.toNat (k:Int))*3)).take 3=[.int .i64 pe.x,.int .i64 pe.y,.int .i64 pe.z],3≤3,InR .i64 ((k:Int)+1),(r.feet.length:Int) ≠ 0,0≤(Int.tmod ((k:Int)+1) (r.feet.length:Int))∧(Int.tmod ((k:Int)+1) (r.feet.length:Int))<(r.feet.length:Int),((rowP r.feet).drop (0+(Int.toNat (Int.tmod ((k:Int)+1) (r.feet.length:Int)))*3)).take 3=[.int .i64 pe1.x,.int .i64 pe1.y,.int .i64 pe1.z],g2=g2,(0+(ls.length*6))=(Qq ls).length,(ls.length+1)≤2147483648,0=0,9≤10,InR .i64 ((k:Int)+1)])
 (hg:G Try.prog E (f56K1 Try.prog) ⟨([J,.ptr 0 0 0,J,J,.ptr 1 0 0]++jj 72 ([.rsl (rowP r.feet) 0 r.feet.length,.int .i64 (r.feet.length:Int),.int .i64 ((k:Int)+1)]++Js 29)),[⟨true,0,1,true,[.rsl (rowS r.seats) 0 r.seats.length,.rsl (rowP r.feet) 0 r.feet.length,.int .i64 r.frame,.int .i64 r.c.x,.int .i64 r.c.y,.int .i64 r.c.z,.int .i64 r.empty,.int .i64 r.full],false⟩,⟨true,0,1,false,[.rsl (rowS r.seats) 0 r.seats.length,.rsl (rowP r.feet) 0 r.feet.length,.int .i64 r.frame,.int .i64 r.c.x,.int .i64 r.c.y,.int .i64 r.c.z,.int .i64 r.empty,.int .i64 r.full,.sl 2 (g2+1) 0 (ls.length+1) 6,.int .i64 (ph:Int)],false⟩,⟨true,(g2+1),6,true,((Qq ls)++[.int .i64 pe.x,.int .i64 pe.y,.int .i64 pe.z,.int .i64 pe1.x,.int .i64 pe1.y,.int .i64 pe1.z]),true⟩]⟩):G Try.prog E (f56K1 Try.prog) (f56S1 r ph k ls g2) :=
 Qn (n:=400) (ds:=[]) (cs:=[]) (live:=[1,4,77,78,79]) (m:=3) (evs:=[.b true,.ld (.agg [.int .i64 pe.x,.int .i64 pe.y,.int .i64 pe.z]),.auto,.auto,.auto,.auto,.ld (.agg [.int .i64 pe1.x,.int .i64 pe1.y,.int .i64 pe1.z]),.stop]) (obs:=_) hE.2.1 (hE.nogh _) Qj (by kernel_rfl) ho hg
theorem p56_1_1 (r:Rg) (ph:Nat) (k:Nat) (ls:List (Pt × Pt)) (g2:Nat) {E:Env} {res:AV} (hE:Qh Try.prog 56 res E) (ho:AllP [(decide ((k:Int)<(r.feet.length:Int)))=false,Qb Try.prog (.clos 86 [] []) [.rptr [.rsl (rowS r.seats) 0 r.seats.length,.rsl (rowP r.feet) 0 r.feet.length,.int .i64 r.frame,.int .i64 r.c.x,.int .i64 r.c.y,.int .i64 r.c.z,.int .i64 r.empty,.int .i64 r.full,.rsl (Qq ls) 0 ls.length,.int .i64 (ph:Int)] 0] (.bool (YI r)),g2=g2,g2=g2])
 (hr:AvLe (.tup [.rptr [.rsl (rowS r.seats) 0 r.seats.length,.rsl (rowP r.feet) 0 r.feet.length,.int .i64 r.frame,.int .i64 r.c.x,.int .i64 r.c.y,.int .i64 r.c.z,.int .i64 r.empty,.int .i64 r.full,.rsl (Qq ls) 0 ls.length,.int .i64 (ph:Int)] 0,.bool (YI r)]) res):G Try.prog E (f56K1 Try.prog) (f56S1 r ph k ls g2) :=
 Qg (n:=400) (evs:=[.b false,.v (.bool (YI r))]) (obs:=_) hE Try.func56 Qj (by kernel_rfl) ho hr
theorem f56W1 (r:Rg) (ph:Nat) (k:Nat) (ls:List (Pt × Pt)) {E:Env} {rv:AV} (hE:Qh Try.prog 56 rv E)
 (h:(((k:Int)<(r.feet.length:Int)→(∃ pe:Pt,r.feet[k]?=some pe∧((I6 ((k:Int)+1))∧((r.feet.length:Int) ≠ 0∧(0≤(Int.tmod ((k:Int)+1) (r.feet.length:Int))∧(∃ pe1:Pt,r.feet[Int.toNat (Int.tmod ((k:Int)+1) (r.feet.length:Int))]?=some pe1∧((ls.length+1)≤2147483648∧((I6 ((k:Int)+1))∧f56G1 E r ph (k+1) (ls++[(pe,pe1)])))))))))∧(¬ ((k:Int)<(r.feet.length:Int))→((FeetOk r∧ls=Qa r.feet∧(ph:Int)=Qe r)∧rv=(.tup [.rptr [.rsl (rowS r.seats) 0 r.seats.length,.rsl (rowP r.feet) 0 r.feet.length,.int .i64 r.frame,.int .i64 r.c.x,.int .i64 r.c.y,.int .i64 r.c.z,.int .i64 r.empty,.int .i64 r.full,.rsl (Qq ls) 0 ls.length,.int .i64 (ph:Int)] 0,.bool (YI r)]))))):f56G1 E r ph k ls:=by
 intro g2
 rcases bft (decide ((k:Int)<(r.feet.length:Int))) with hc0 | hc0
 · have h:=h.1 (odt hc0)
   obtain ⟨pe,h1,h⟩:=h
   obtain ⟨q5_1,h⟩:=h
   obtain ⟨q6_1,h⟩:=h
   obtain ⟨h3,h⟩:=h
   obtain ⟨pe1,h2,h⟩:=h
   obtain ⟨h4,h⟩:=h
   obtain ⟨q15_1,h⟩:=h
   refine p56_1_0 r ph k ls g2 pe pe1 hE ⟨hc0,(QJ h1),(rp cP 3 0 3 h1),(by decide),q5_1,q6_1,(Xh h3 h2),(rp cP 3 0 3 h2),rfl,(by have hx:=XH (fun s:Pt × Pt=>cP s.1++cP s.2) (s:=6) (fun _=>rfl) ls; simp only [Qq] at hx ⊢; rw [hx]; simp),h4,rfl,(by decide),q15_1,trivial⟩ ?_
   rw [(show Qq ls++[.int .i64 pe.x,.int .i64 pe.y,.int .i64 pe.z,.int .i64 pe1.x,.int .i64 pe1.y,.int .i64 pe1.z]=Qq (ls++[(pe,pe1)]) from (VB (fun s:Pt × Pt=>cP s.1++cP s.2) ls [(pe,pe1)]).symm)]; rw [(show (ls.length+1)=(ls++[(pe,pe1)]).length from by simp)]; exact (h (g2+1))
 · have h:=h.2 (odf hc0)
   obtain ⟨h1,h⟩:=h
   exact p56_1_1 r ph k ls g2 hE ⟨hc0,(by obtain ⟨a,b,c⟩:=h1; rw [b,c]; exact Qo Try.func86 (by kernel_rfl) f86b (convex_ok r a)),rfl,rfl,trivial⟩ (AvLe.of_eq (by rw [h]; try rfl))
structure RigSmall (r:Rg):Prop where
 seats:r.seats.length≤1000
 feet:r.feet.length≤1000
 each:∀ s ∈ r.seats,s.length≤1000
def Ye (r:Rg) (s:List Pt):Bool:=QE s && ((s.length:Int) == ((r.seats.getD 0 []).length:Int))
def Xj (r:Rg):Bool:=decide ((r.seats.length:Int)≤20) && (Qc r.feet.length 3 8 && (r.seats.all (Ye r) && (Qc r.frame 0 1000000 && (Qc r.full 0 1000000 && (Qc r.empty 0 r.full && (Qm r.c && !r.feet.any QG))))))
def Xw (r:Rg):Bool:=Xj r && YI r
def rigV (r:Rg):AV:=.rptr [.rsl (rowS r.seats) 0 r.seats.length,.rsl (rowP r.feet) 0 r.feet.length,.int .i64 r.frame,.int .i64 r.c.x,.int .i64 r.c.y,.int .i64 r.c.z,.int .i64 r.empty,.int .i64 r.full,.rsl (Qq (Qa r.feet)) 0 (Qa r.feet).length,.int .i64 (Qe r)] 0
def Yr (r:Rg):AV:=bif Xj r then rigV r else .nilPtr
theorem Vr {r:Rg} {rv:AV} (hr:rv=.tup [Yr r,.bool (Xw r)]) (h:Xj r=false):rv=.tup [.nilPtr,.bool false]:=by
 rw [hr]; simp [Yr,Xw,h]
theorem qy {r:Rg} (h1:Qc r.feet.length 3 8=true) (h2:r.feet.any QG=false):FeetOk r:=by
 simp only [Qc,Bool.and_eq_true,decide_eq_true_eq] at h1
 refine ⟨by omega,by omega,fun p hp=>?_⟩
 have:=(List.any_eq_false.1 h2) p hp
 simp only [QG] at this
 cases hs:Qm p with
 | true=>rfl
 | false=>simp [hs] at this
theorem linesOf_take {l:List Pt} {k:Nat} {a b:Pt} (ha:l[k]?=some a) (hb:l[(k+1) % l.length]?=some b):(Qa l).take (k+1)=(Qa l).take k++[(a,b)]:=by
 have hk:=Vb ha
 have:(Qa l)[k]?=some (a,b):=by
  unfold Qa
  rw [List.getElem?_map]
  have e:(List.range' 0 l.length)[k]?=some k:=by simp [hk]
  rw [e]
  simp [List.getD,ha,hb]
 rw [List.take_add_one,this]; rfl
theorem newRig_k {E:Env} {rv:AV} (hE:Qh Try.prog 56 rv E) {r:Rg} (hf:FeetOk r) (hr:rv=.tup [rigV r,.bool (YI r)]) {ph:Nat} (hph:(ph:Int)=Qe r) :
 ∀ (d k:Nat),k+d=r.feet.length→f56G1 E r ph k ((Qa r.feet).take k)
 | 0,k,hd=>by
  have e:(Qa r.feet).take k=Qa r.feet:=List.take_of_length_le (by rw [XK]; omega)
  refine f56W1 r ph k _ hE ⟨fun h=>by omega,fun _=>⟨⟨hf,e,hph⟩,?_⟩⟩
  rw [hr,e,hph]; rfl
 | d+1,k,hd=>by
  have h8:=hf.feet1
  have hk:k<r.feet.length:=by omega
  have ha:r.feet[k]?=some r.feet[k]:=by simp [hk]
  have hm:(k+1) % r.feet.length<r.feet.length:=Nat.mod_lt _ (by omega)
  have hb:r.feet[(k+1) % r.feet.length]?=some r.feet[(k+1) % r.feet.length]:=by simp [hm]
  have et:Int.tmod ((k:Int)+1) (r.feet.length:Int)=(((k+1) % r.feet.length:Nat):Int):=by
   rw [Int.tmod_eq_emod_of_nonneg (by omega)]; rfl
  refine f56W1 r ph k _ hE ⟨fun _=>⟨_,ha,by omega,by omega,by rw [et]; omega,r.feet[(k+1) % r.feet.length],by rw [et]; exact hb,?_,by omega,?_⟩,fun h=>by omega⟩
  · rw [List.length_take]; omega
  · rw [← linesOf_take ha hb]; exact newRig_k hE hf hr hph d (k+1) (by omega)
theorem newRig_i {E:Env} {rv:AV} (hE:Qh Try.prog 56 rv E) {r:Rg} (hs:RigSmall r) (h0:(r.seats.length:Int)≤20) (hf:Qc r.feet.length 3 8=true) (hr:rv=.tup [Yr r,.bool (Xw r)]) :
 ∀ (d i ph:Nat),i+d=r.seats.length→(∀ s ∈ r.seats.take i,Ye r s=true)→(ph:Int)=(match (r.seats.take i).getLast? with | some s=>(s.length:Int) | none=>1)→f56G0 E r i ph
 | 0,i,ph,hd,hall,hph=>by
  have e:r.seats.take i=r.seats:=List.take_of_length_le (by omega)
  rw [e] at hall hph
  have ha:r.seats.all (Ye r)=true:=List.all_eq_true.2 hall
  refine f56W0 r i ph hE ⟨fun h=>by omega,fun _=>⟨fun h=>?_,fun h1=>⟨fun h=>?_,fun h2=>⟨fun h=>?_,fun h3=>⟨fun h=>?_,fun h4=>⟨hs.feet,fun h=>?_,fun h5=>?_⟩⟩⟩⟩⟩⟩
  all_goals first | (refine Vr hr ?_; simp [Xj, *]; done) | skip
  refine newRig_k hE (qy hf h5) ?_ hph r.feet.length 0 (by omega)
  have hp:Xj r=true:=by simp [Xj, *]
  rw [hr]; simp [Yr,Xw,hp]
 | d+1,i,ph,hd,hall,hph=>by
  have hi:i<r.seats.length:=by omega
  have ha:r.seats[i]?=some r.seats[i]:=by simp [hi]
  have h00:r.seats[0]?=some (r.seats.getD 0 []):=by simp [List.getD,show 0<r.seats.length by omega]
  have hno:∀ (h:Ye r r.seats[i]=false),rv=.tup [.nilPtr,.bool false]:=fun h=>by
   refine Vr hr ?_
   have:r.seats.all (Ye r)=false:=by
    rw [Bool.eq_false_iff]; intro hh
    rw [List.all_eq_true.1 hh _ (List.mem_of_getElem? ha)] at h; cases h
   simp [Xj,this]
  refine f56W0 r i ph hE ⟨fun _=>⟨_,ha,hs.each _ (List.mem_of_getElem? ha),fun h=>hno (by simp [Ye,h]),fun h1=>⟨_,h00,fun h=>hno (by simp only [Ye,h1,Bool.true_and]; simpa using h),fun h2=>⟨by omega,?_⟩⟩⟩,fun h=>by omega⟩
  have et:r.seats.take (i+1)=r.seats.take i++[r.seats[i]]:=by rw [List.take_add_one,ha]; rfl
  refine newRig_i hE hs h0 hf hr d (i+1) _ (by omega) (fun s h=>?_) ?_
  · rw [et] at h
    rcases List.mem_append.1 h with h | h
    · exact hall s h
    · rw [List.mem_singleton.1 h]; simp only [Ye,h1,Bool.true_and]; simpa using h2
  · rw [et,List.getLast?_concat]
theorem YL (r:Rg) (hs:RigSmall r):Pure Try.prog 56 [.agg [.rsl (rowS r.seats) 0 r.seats.length,.rsl (rowP r.feet) 0 r.feet.length,.int .i64 r.frame,.int .i64 r.c.x,.int .i64 r.c.y,.int .i64 r.c.z,.int .i64 r.empty,.int .i64 r.full]]
 (.tup [Yr r,.bool (Xw r)]):=Qw Try.func56 f56b fun E hE=>by
 refine f56W r hE ⟨fun h1=>?_,fun h1=>⟨fun h2=>?_,fun h2=>?_⟩⟩
 · exact Vr rfl (by have:¬ ((r.seats.length:Int)≤20):=(by omega); simp only [Xj,this]; rfl)
 · exact Vr rfl (by simp [Xj,h2])
 · exact newRig_i hE hs (by omega) h2 rfl r.seats.length 0 1 (by omega) (by simp) (by simp)
end Go.Proofs.Ytideokfbnegkjaa
namespace Go.Proofs.Ytideokfbnegkjaa
open Go Ax
open Go.Proofs
def phN (r:Rg):Nat:=(Qe r).toNat
structure RigMade (r:Rg):Prop where
 ok:RgOk r (phN r)
 ph:Qe r=(phN r:Nat)
 le:phN r≤60
 pos:1≤phN r
 conv:YI r=true
def Vc (r:Rg):List (Nat × Nat):=wlP r.feet.length 0 (phN r)
theorem Yh {r:Rg} (h:Xw r=true):RigMade r:=by
 simp only [Xw,Xj,Bool.and_eq_true,decide_eq_true_eq,Bool.not_eq_true'] at h
 obtain ⟨⟨h0,h1,h2,h3,h4,h5,h6,h7⟩,h8⟩:=h
 have hf:=qy h1 h7
 simp only [Qc,Bool.and_eq_true,decide_eq_true_eq] at h1 h3 h4 h5
 have hall:∀ s ∈ r.seats,QE s=true∧s.length=(r.seats.getD 0 []).length:=fun s hs=>by
  have:=List.all_eq_true.1 h2 s hs
  simp only [Ye,Bool.and_eq_true,beq_iff_eq] at this
  exact ⟨this.1,by omega⟩
 have hp:(∃ n:Nat,Qe r=n∧1≤n∧n≤60∧∀ s ∈ r.seats,s.length=n):=by
  unfold Qe
  cases hg:r.seats.getLast? with
  | none =>
   refine ⟨1,rfl,by omega,by omega,fun s hs=>?_⟩
   rw [List.getLast?_eq_none_iff] at hg
   rw [hg] at hs; cases hs
  | some s =>
   have hm:=List.mem_of_getLast? hg
   obtain ⟨hv,hl⟩:=hall s hm
   have:=VH hv
   exact ⟨s.length,rfl,by omega,by omega,fun t ht=>by rw [(hall t ht).2,hl]⟩
 obtain ⟨n,p1,p2,p3,p4⟩:=hp
 have hn:phN r=n:=by unfold phN; omega
 exact ⟨⟨by omega,fun s hs=>⟨by rw [hn]; exact p4 s hs,(hall s hs).1⟩,hf.feet0,hf.feet1,hf.foot,h6,h3.1,h3.2,h5.1,h5.2,h4.2⟩,by rw [p1,hn],by omega,by omega,h8⟩
theorem yl {r:Rg} (h:Xw r=true):Yr r=rigV r:=by
 simp only [Xw,Bool.and_eq_true] at h
 simp only [Yr,h.1,cond_true]
theorem qn {r:Rg} (h:Xj r=true):Yr r=rigV r:=by simp only [Yr,h,cond_true]
theorem qo {r:Rg} (h:Xj r=false):Yr r=.nilPtr:=by simp only [Yr,h,cond_false]
theorem worst_it (r:Rg) (h:RigMade r):IterF Try.prog (.clos 61 [rigV r] []) ((Vc r).map (argW r)):=worst_iter r (phN r) h.ok h.ph (by have:=h.le; omega)
theorem f26b:Try.f26.body=some (Qd Try.prog 26):=by kernel_rfl
theorem u26 {a c k:List AV} {r:AV} (h:Pure Try.prog 26 (a++c++k) r):Qb Try.prog (.clos 26 a k) c r:=Qo Try.func26 (by kernel_rfl) f26b h
def Vj (P:Program):List Item:=kAt 400 [.code (Qd P 26)] [.b false]
def YE (r:Rg) (s:Int × Nat × Nat × Bool):St:=⟨([J,J,.ptr 1 0 0,.ptr 2 0 0,.ptr 3 0 0,J,J,J,.ptr 4 0 0]++jj 10 ([.clos 61 [.rptr [.rsl (rowS r.seats) 0 r.seats.length,.rsl (rowP r.feet) 0 r.feet.length,.int .i64 r.frame,.int .i64 r.c.x,.int .i64 r.c.y,.int .i64 r.c.z,.int .i64 r.empty,.int .i64 r.full,.rsl (Qq (Qa r.feet)) 0 ((Qa r.feet).length),.int .i64 (Qe r)] 0] []]++Js 17)),[⟨true,0,1,true,[.rsl (rowS r.seats) 0 r.seats.length,.rsl (rowP r.feet) 0 r.feet.length,.int .i64 r.frame,.int .i64 r.c.x,.int .i64 r.c.y,.int .i64 r.c.z,.int .i64 r.empty,.int .i64 r.full],false⟩,⟨true,0,1,true,[.int .i64 s.1],false⟩,⟨true,0,1,true,[.int .i64 (s.2.1:Int)],false⟩,⟨true,0,1,true,[.int .i64 (s.2.2.1:Int)],false⟩,⟨true,0,1,true,[.bool s.2.2.2],false⟩]⟩
def f26Gr0 (E:Env) (r:Rg) (s:Int × Nat × Nat × Bool):Prop:=G Try.prog E (Vj Try.prog) (YE r s)
def yz (r:Rg) (s:Int × Nat × Nat × Bool) (x:Nat × Nat):St:=⟨([J,J,.ptr 1 0 0,.ptr 2 0 0,.ptr 3 0 0,J,J,J,.ptr 4 0 0,.ptr 5 0 0,.int .i64 (QK r x)]++jj 8 ([.clos 61 [.rptr [.rsl (rowS r.seats) 0 r.seats.length,.rsl (rowP r.feet) 0 r.feet.length,.int .i64 r.frame,.int .i64 r.c.x,.int .i64 r.c.y,.int .i64 r.c.z,.int .i64 r.empty,.int .i64 r.full,.rsl (Qq (Qa r.feet)) 0 ((Qa r.feet).length),.int .i64 (Qe r)] 0] [],.agg [.int .i64 (x.1:Int),.int .i64 (x.2:Int)],.int .i64 (QK r x)]++Js 15)),[⟨true,0,1,true,[.rsl (rowS r.seats) 0 r.seats.length,.rsl (rowP r.feet) 0 r.feet.length,.int .i64 r.frame,.int .i64 r.c.x,.int .i64 r.c.y,.int .i64 r.c.z,.int .i64 r.empty,.int .i64 r.full],false⟩,⟨true,0,1,true,[.int .i64 s.1],false⟩,⟨true,0,1,true,[.int .i64 (s.2.1:Int)],false⟩,⟨true,0,1,true,[.int .i64 (s.2.2.1:Int)],false⟩,⟨true,0,1,true,[.bool s.2.2.2],false⟩,⟨true,0,1,true,[.int .i64 (x.1:Int),.int .i64 (x.2:Int)],false⟩]⟩
theorem p26_start_0 (r:Rg) {E:Env} {rv:AV} (hE:Qh Try.prog 26 rv E) (ho:AllP [Qb Try.prog (.clos 56 [] []) [.agg [.rsl (rowS r.seats) 0 r.seats.length,.rsl (rowP r.feet) 0 r.feet.length,.int .i64 r.frame,.int .i64 r.c.x,.int .i64 r.c.y,.int .i64 r.c.z,.int .i64 r.empty,.int .i64 r.full]] (.tup [.rptr [.rsl (rowS r.seats) 0 r.seats.length,.rsl (rowP r.feet) 0 r.feet.length,.int .i64 r.frame,.int .i64 r.c.x,.int .i64 r.c.y,.int .i64 r.c.z,.int .i64 r.empty,.int .i64 r.full,.rsl (Qq (Qa r.feet)) 0 ((Qa r.feet).length),.int .i64 (Qe r)] 0,.bool true]),false=false,1≤1])
 (hg:G Try.prog E (Vj Try.prog) ⟨([J,J,.ptr 1 0 0,.ptr 2 0 0,.ptr 3 0 0,J,J,J,.ptr 4 0 0]++jj 10 ([.clos 61 [.rptr [.rsl (rowS r.seats) 0 r.seats.length,.rsl (rowP r.feet) 0 r.feet.length,.int .i64 r.frame,.int .i64 r.c.x,.int .i64 r.c.y,.int .i64 r.c.z,.int .i64 r.empty,.int .i64 r.full,.rsl (Qq (Qa r.feet)) 0 ((Qa r.feet).length),.int .i64 (Qe r)] 0] []]++Js 17)),[⟨true,0,1,true,[.rsl (rowS r.seats) 0 r.seats.length,.rsl (rowP r.feet) 0 r.feet.length,.int .i64 r.frame,.int .i64 r.c.x,.int .i64 r.c.y,.int .i64 r.c.z,.int .i64 r.empty,.int .i64 r.full],false⟩,⟨true,0,1,true,[.int .i64 0],false⟩,⟨true,0,1,true,[.int .i64 0],false⟩,⟨true,0,1,true,[.int .i64 0],false⟩,⟨true,0,1,true,[.bool false],false⟩]⟩):G Try.prog E [.code (Qd Try.prog 26)] ⟨[.agg [.rsl (rowS r.seats) 0 r.seats.length,.rsl (rowP r.feet) 0 r.feet.length,.int .i64 r.frame,.int .i64 r.c.x,.int .i64 r.c.y,.int .i64 r.c.z,.int .i64 r.empty,.int .i64 r.full]]++unds (Try.f26.ntmps - 1),[]⟩ :=
 Qn (n:=400) (ds:=[]) (cs:=[]) (live:=[2,3,4,8,19]) (m:=5) (evs:=[.v (.tup [.rptr [.rsl (rowS r.seats) 0 r.seats.length,.rsl (rowP r.feet) 0 r.feet.length,.int .i64 r.frame,.int .i64 r.c.x,.int .i64 r.c.y,.int .i64 r.c.z,.int .i64 r.empty,.int .i64 r.full,.rsl (Qq (Qa r.feet)) 0 ((Qa r.feet).length),.int .i64 (Qe r)] 0,.bool true]),.b false]) (obs:=_) hE.2.1 (hE.nogh _) Qj (by kernel_rfl) ho hg
theorem p26_start_1 (r:Rg) {E:Env} {res:AV} (hE:Qh Try.prog 26 res E) (ho:AllP [Qb Try.prog (.clos 56 [] []) [.agg [.rsl (rowS r.seats) 0 r.seats.length,.rsl (rowP r.feet) 0 r.feet.length,.int .i64 r.frame,.int .i64 r.c.x,.int .i64 r.c.y,.int .i64 r.c.z,.int .i64 r.empty,.int .i64 r.full]] (.tup [.rptr [.rsl (rowS r.seats) 0 r.seats.length,.rsl (rowP r.feet) 0 r.feet.length,.int .i64 r.frame,.int .i64 r.c.x,.int .i64 r.c.y,.int .i64 r.c.z,.int .i64 r.empty,.int .i64 r.full,.rsl (Qq (Qa r.feet)) 0 ((Qa r.feet).length),.int .i64 (Qe r)] 0,.bool false]),true=true,1≤1,1≤1,1≤1])
 (hr:AvLe (.tup [.int .i64 0,.int .i64 0,.int .i64 0,.int .i64 33]) res):G Try.prog E [.code (Qd Try.prog 26)] ⟨[.agg [.rsl (rowS r.seats) 0 r.seats.length,.rsl (rowP r.feet) 0 r.feet.length,.int .i64 r.frame,.int .i64 r.c.x,.int .i64 r.c.y,.int .i64 r.c.z,.int .i64 r.empty,.int .i64 r.full]]++unds (Try.f26.ntmps - 1),[]⟩ :=
 Qg (n:=400) (evs:=[.v (.tup [.rptr [.rsl (rowS r.seats) 0 r.seats.length,.rsl (rowP r.feet) 0 r.feet.length,.int .i64 r.frame,.int .i64 r.c.x,.int .i64 r.c.y,.int .i64 r.c.z,.int .i64 r.empty,.int .i64 r.full,.rsl (Qq (Qa r.feet)) 0 ((Qa r.feet).length),.int .i64 (Qe r)] 0,.bool false]),.b true]) (obs:=_) hE Try.func26 Qj (by kernel_rfl) ho hr
theorem p26_start_2 (r:Rg) {E:Env} {res:AV} (hE:Qh Try.prog 26 res E) (ho:AllP [Qb Try.prog (.clos 56 [] []) [.agg [.rsl (rowS r.seats) 0 r.seats.length,.rsl (rowP r.feet) 0 r.feet.length,.int .i64 r.frame,.int .i64 r.c.x,.int .i64 r.c.y,.int .i64 r.c.z,.int .i64 r.empty,.int .i64 r.full]] (.tup [.nilPtr,.bool false]),true=true,1≤1,1≤1,1≤1])
 (hr:AvLe (.tup [.int .i64 0,.int .i64 0,.int .i64 0,.int .i64 33]) res):G Try.prog E [.code (Qd Try.prog 26)] ⟨[.agg [.rsl (rowS r.seats) 0 r.seats.length,.rsl (rowP r.feet) 0 r.feet.length,.int .i64 r.frame,.int .i64 r.c.x,.int .i64 r.c.y,.int .i64 r.c.z,.int .i64 r.empty,.int .i64 r.full]]++unds (Try.f26.ntmps - 1),[]⟩ :=
 Qg (n:=400) (evs:=[.v (.tup [.nilPtr,.bool false]),.b true]) (obs:=_) hE Try.func26 Qj (by kernel_rfl) ho hr
theorem f26W (r:Rg) {E:Env} {rv:(Int × Int × Int × Int)} (hE:Qh Try.prog 26 (.tup [.int .i64 rv.1,.int .i64 rv.2.1,.int .i64 rv.2.2.1,.int .i64 rv.2.2.2]) E)
 (h:(((Xw r)=true→((RigSmall r)∧f26Gr0 E r (0,0,0,false)))∧((Xw r)=false→(((Xj r)=true→((RigSmall r)∧rv=(0,0,0,33)))∧((Xj r)=false→((RigSmall r)∧rv=(0,0,0,33))))))):G Try.prog E [.code (Qd Try.prog 26)] ⟨[.agg [.rsl (rowS r.seats) 0 r.seats.length,.rsl (rowP r.feet) 0 r.feet.length,.int .i64 r.frame,.int .i64 r.c.x,.int .i64 r.c.y,.int .i64 r.c.z,.int .i64 r.empty,.int .i64 r.full]]++unds (Try.f26.ntmps - 1),[]⟩:=by
 rcases bft (Xw r) with hc0 | hc0
 · have h:=h.1 hc0
   obtain ⟨h1,h⟩:=h
   exact p26_start_0 r hE ⟨(by have hx:=YL r h1; rw [hc0,yl hc0] at hx; exact Qo Try.func56 (by kernel_rfl) f56b hx),rfl,(by decide),trivial⟩ h
 · have h:=h.2 hc0
   rcases bft (Xj r) with hc1 | hc1
   · have h:=h.1 hc1
     obtain ⟨h1,h⟩:=h
     exact p26_start_1 r hE ⟨(by have hx:=YL r h1; rw [hc0,qn hc1] at hx; exact Qo Try.func56 (by kernel_rfl) f56b hx),rfl,(by decide),(by decide),(by decide),trivial⟩ (AvLe.of_eq (by rw [h]; try rfl))
   · have h:=h.2 hc1
     obtain ⟨h1,h⟩:=h
     exact p26_start_2 r hE ⟨(by have hx:=YL r h1; rw [hc0,qo hc1] at hx; exact Qo Try.func56 (by kernel_rfl) f56b hx),rfl,(by decide),(by decide),(by decide),trivial⟩ (AvLe.of_eq (by rw [h]; try rfl))
theorem p26_r0e_0 (r:Rg) (s:Int × Nat × Nat × Bool) {E:Env} {res:AV} (hE:Qh Try.prog 26 res E) (ho:AllP [1≤1,1≤1,1≤1])
 (hr:AvLe (.tup [.int .i64 s.1,.int .i64 (s.2.1:Int),.int .i64 (s.2.2.1:Int),.int .i64 0]) res):G Try.prog E (Va (Vj Try.prog)) (YE r s) :=
 Qg (n:=400) (evs:=[]) (obs:=_) hE Try.func26 Qj (by kernel_rfl) ho hr
theorem f26Wr0e (r:Rg) (s:Int × Nat × Nat × Bool) {E:Env} {rv:(Int × Int × Int × Int)} (hE:Qh Try.prog 26 (.tup [.int .i64 rv.1,.int .i64 rv.2.1,.int .i64 rv.2.2.1,.int .i64 rv.2.2.2]) E)
 (h:rv=(s.1,(s.2.1:Int),(s.2.2.1:Int),0)):G Try.prog E (Va (Vj Try.prog)) (YE r s):=by
 exact p26_r0e_0 r s hE ⟨(by decide),(by decide),(by decide),trivial⟩ (AvLe.of_eq (by rw [h]; try rfl))
theorem f26Ar0 (r:Rg) (s:Int × Nat × Nat × Bool) (x:Nat × Nat) {E:Env} (hE:RoundE (YE r s).tmps E) (hg:G Try.prog E [.beginRound,.code (Xv (Vj Try.prog))] (yz r s x)):G Try.prog E [.code (VL (Vj Try.prog)),.beginRound,.code (Xv (Vj Try.prog))] ⟨Wg (YE r s).tmps [20,21] ((argW r) x),(YE r s).blks⟩ :=
 Qn (n:=400) (ds:=[]) (cs:=[]) (live:=[0,1,2,3,4,5,6,7,8,9,10,11,12,13,14,15,16,17,18,19,20,21,22,23,24,25,26,27,28,29,30,31,32,33,34,35,36]) (m:=6) (evs:=[]) (obs:=[2≤2]) hE.kind (by rw [hE.gA]; kernel_rfl) Qj (by kernel_rfl) ⟨(by decide),trivial⟩ hg
theorem f26Br0_0 (r:Rg) (s:Int × Nat × Nat × Bool) (x:Nat × Nat) {E:Env} (hE:RoundE (YE r s).tmps E) (ho:AllP [(!s.2.2.2)=true,true=true,(0:Int)≤0∧(0:Int)<((2:Nat):Int),(0:Int)≤1∧(1:Int)<((2:Nat):Int),1≤1,1≤1,1≤1,1≤1])
 (hg:G Try.prog E [] ⟨(Js 37),[⟨true,0,1,true,[.rsl (rowS r.seats) 0 r.seats.length,.rsl (rowP r.feet) 0 r.feet.length,.int .i64 r.frame,.int .i64 r.c.x,.int .i64 r.c.y,.int .i64 r.c.z,.int .i64 r.empty,.int .i64 r.full],false⟩,⟨true,0,1,true,[.int .i64 (QK r x)],false⟩,⟨true,0,1,true,[.int .i64 (x.1:Int)],false⟩,⟨true,0,1,true,[.int .i64 (x.2:Int)],false⟩,⟨true,0,1,true,[.bool true],false⟩]⟩):G Try.prog E [.code (Xv (Vj Try.prog))] (yz r s x) :=
 Qn (n:=400) (ds:=[]) (cs:=[]) (live:=[]) (m:=5) (evs:=[.b true,.b true]) (obs:=_) hE.kind (by rw [hE.gA]; kernel_rfl) Qj (by kernel_rfl) ho hg
theorem f26Br0_1 (r:Rg) (s:Int × Nat × Nat × Bool) (x:Nat × Nat) {E:Env} (hE:RoundE (YE r s).tmps E) (ho:AllP [(!s.2.2.2)=false,(decide ((QK r x)<s.1))=true,(0:Int)≤0∧(0:Int)<((2:Nat):Int),(0:Int)≤1∧(1:Int)<((2:Nat):Int),1≤1,1≤1,1≤1,1≤1])
 (hg:G Try.prog E [] ⟨(Js 37),[⟨true,0,1,true,[.rsl (rowS r.seats) 0 r.seats.length,.rsl (rowP r.feet) 0 r.feet.length,.int .i64 r.frame,.int .i64 r.c.x,.int .i64 r.c.y,.int .i64 r.c.z,.int .i64 r.empty,.int .i64 r.full],false⟩,⟨true,0,1,true,[.int .i64 (QK r x)],false⟩,⟨true,0,1,true,[.int .i64 (x.1:Int)],false⟩,⟨true,0,1,true,[.int .i64 (x.2:Int)],false⟩,⟨true,0,1,true,[.bool true],false⟩]⟩):G Try.prog E [.code (Xv (Vj Try.prog))] (yz r s x) :=
 Qn (n:=400) (ds:=[]) (cs:=[]) (live:=[]) (m:=5) (evs:=[.b false,.b true]) (obs:=_) hE.kind (by rw [hE.gA]; kernel_rfl) Qj (by kernel_rfl) ho hg
theorem f26Br0_2 (r:Rg) (s:Int × Nat × Nat × Bool) (x:Nat × Nat) {E:Env} (hE:RoundE (YE r s).tmps E) (ho:AllP [(!s.2.2.2)=false,(decide ((QK r x)<s.1))=false,1≤1])
 (hg:G Try.prog E [] ⟨(Js 37),[⟨true,0,1,true,[.rsl (rowS r.seats) 0 r.seats.length,.rsl (rowP r.feet) 0 r.feet.length,.int .i64 r.frame,.int .i64 r.c.x,.int .i64 r.c.y,.int .i64 r.c.z,.int .i64 r.empty,.int .i64 r.full],false⟩,⟨true,0,1,true,[.int .i64 s.1],false⟩,⟨true,0,1,true,[.int .i64 (s.2.1:Int)],false⟩,⟨true,0,1,true,[.int .i64 (s.2.2.1:Int)],false⟩,⟨true,0,1,true,[.bool true],false⟩]⟩):G Try.prog E [.code (Xv (Vj Try.prog))] (yz r s x) :=
 Qn (n:=400) (ds:=[]) (cs:=[]) (live:=[]) (m:=5) (evs:=[.b false,.b false]) (obs:=_) hE.kind (by rw [hE.gA]; kernel_rfl) Qj (by kernel_rfl) ho hg
theorem f26Br0 (r:Rg) (s:Int × Nat × Nat × Bool) (x:Nat × Nat) {rq:(Int × Nat × Nat × Bool) × Bool} {E:Env} (hE:RoundE (YE r s).tmps E) (hQ:yK (fun s=>(YE r s).blks) (.ret) rq E)
 (h:((s.2.2.2=false→rq=(((QK r x),x.1,x.2,true),true))∧(s.2.2.2=true→(((QK r x)<s.1→rq=(((QK r x),x.1,x.2,true),true))∧(¬ ((QK r x)<s.1)→rq=((s.1,s.2.1,s.2.2.1,true),true)))))):G Try.prog E [.code (Xv (Vj Try.prog))] (yz r s x):=by
 rcases bft (!s.2.2.2) with hc0 | hc0
 · have h:=h.1 (bnT hc0)
   exact f26Br0_0 r s x hE ⟨hc0,rfl,(⟨by decide,by decide⟩),(⟨by decide,by decide⟩),(by decide),(by decide),(by decide),(by decide),trivial⟩ (WP hQ h rfl)
 · have h:=h.2 (bnF hc0)
   rcases bft (decide ((QK r x)<s.1)) with hc1 | hc1
   · have h:=h.1 (odt hc1)
     exact f26Br0_1 r s x hE ⟨hc0,hc1,(⟨by decide,by decide⟩),(⟨by decide,by decide⟩),(by decide),(by decide),(by decide),(by decide),trivial⟩ (WP hQ h rfl)
   · have h:=h.2 (odf hc1)
     exact f26Br0_2 r s x hE ⟨hc0,hc1,(by decide),trivial⟩ (WP hQ h rfl)
theorem f26Rr0 (r:Rg) (s0:Int × Nat × Nat × Bool) {E:Env} {rv:(Int × Int × Int × Int)} (hE:Qh Try.prog 26 (.tup [.int .i64 rv.1,.int .i64 rv.2.1,.int .i64 rv.2.2.1,.int .i64 rv.2.2.2]) E) (step:(Int × Nat × Nat × Bool)→(Nat × Nat)→(Int × Nat × Nat × Bool))
 (h:RigMade r∧(∀ (i:Nat) (x:Nat × Nat) (s:Int × Nat × Nat × Bool),(Vc r)[i]?=some x→s=((Vc r).take i).foldl step s0→((s.2.2.2=false→step s x=((QK r x),x.1,x.2,true))∧(s.2.2.2=true→(((QK r x)<s.1→step s x=((QK r x),x.1,x.2,true))∧(¬ ((QK r x)<s.1)→step s x=(s.1,s.2.1,s.2.2.1,true))))))∧(∀ s:Int × Nat × Nat × Bool,s=(Vc r).foldl step s0→rv=(s.1,(s.2.1:Int),(s.2.2.1:Int),0))):f26Gr0 E r s0:=by
 have hgA:E.gA=[]:=hE.2.2.2.2.1
 have hT:(YE r s0).tmps++E.gA=(YE r s0).tmps:=by rw [hgA,List.append_nil]
 refine yg (σ:=Int × Nat × Nat × Bool) (X:=Nat × Nat) (arg:=(argW r)) (L:=(Vc r)) (jump:=.ret) (g:=.tmp 19) (ps:=#[20,21]) (fun s=>(YE r s).blks) (fun s x=>(yz r s x)) (fun s x=>(step s x,true)) s0 hE.1 hE.2.1 (by kernel_rfl) rfl rfl (worst_it r h.1) rfl (fun x=>rfl) (fun s x E' hR hg=>?_) (fun i x s hx hs E' hR hQ=>?_) (fun s hs=>?_) (fun s hs=>?_)
 · rw [hT] at hR; exact f26Ar0 r s x hR hg
 · rw [hT] at hR; rw [YV] at hs; simp only [Prod.mk.injEq,and_true] at hs; refine f26Br0 r s x hR hQ ?_
   have h:=h.2.1 i x s hx hs.symm
   simpa only [Prod.mk.injEq,and_true] using h
 · rw [YV] at hs; simp only [Prod.mk.injEq,and_true] at hs; exact f26Wr0e r s hE (h.2.2 s hs.symm)
 · rw [YV] at hs; simp at hs
def Vh (r:Rg) (s:Int × Nat × Nat × Bool) (x:Nat × Nat):Int × Nat × Nat × Bool :=
 bif !s.2.2.2 || decide (QK r x<s.1) then (QK r x,x.1,x.2,true) else (s.1,s.2.1,s.2.2.1,true)
def leastF (r:Rg):Int × Nat × Nat × Bool:=(Vc r).foldl (Vh r) (0,0,0,false)
def Qu (r:Rg):Int × Int × Int × Int:=bif Xw r then ((leastF r).1,((leastF r).2.1:Nat),((leastF r).2.2.1:Nat),0) else (0,0,0,33)
theorem Vt (r:Rg) (hs:RigSmall r):Pure Try.prog 26 [.agg [.rsl (rowS r.seats) 0 r.seats.length,.rsl (rowP r.feet) 0 r.feet.length,.int .i64 r.frame,.int .i64 r.c.x,.int .i64 r.c.y,.int .i64 r.c.z,.int .i64 r.empty,.int .i64 r.full]]
 (.tup [.int .i64 (Qu r).1,.int .i64 (Qu r).2.1,.int .i64 (Qu r).2.2.1,.int .i64 (Qu r).2.2.2]):=Qw Try.func26 f26b fun E hE=>by
 refine f26W r hE ⟨fun h=>⟨hs,f26Rr0 r _ hE (Vh r) ⟨Yh h,fun i x s hx hs=>⟨fun h1=>?_,fun h1=>⟨fun h2=>?_,fun h2=>?_⟩⟩,fun s hs=>?_⟩⟩,fun h=>⟨fun _=>⟨hs,?_⟩,fun _=>⟨hs,?_⟩⟩⟩
 · simp [Vh,h1]
 · simp [Vh,h1,h2]
 · simp [Vh,h1,h2]
 · simp only [Qu,h,cond_true,leastF,← hs]
 · simp [Qu,h]
 · simp [Qu,h]
end Go.Proofs.Ytideokfbnegkjaa
namespace Go.Proofs.Ytideokfbnegkjaa
open Go Ax
open Go.Proofs
structure Rd where
 m:Mot
 x:Lim
 f:Bool
def Qr:List Pt:=[⟨100,0,0⟩,⟨0,100,0⟩,⟨-100,0,0⟩,⟨0,-100,0⟩]
def Qi:Rg:=⟨[Qr],[⟨-50,-50,0⟩,⟨50,-50,0⟩,⟨50,50,0⟩,⟨-50,50,0⟩],10,⟨0,0,0⟩,1,3⟩
theorem exRig_small:RigSmall Qi:=⟨by decide,by decide,by intro s hs; simp [Qi] at hs; subst hs; decide⟩
theorem ex_least:Qu Qi=(35000,0,1,0):=by kernel_rfl
theorem ex_fast:Xr Qr ⟨2,1,2⟩ ⟨300,0,2000⟩ false=(1,0):=by kernel_rfl
theorem f45b:Try.f45.body=some (Qd Try.prog 45):=by kernel_rfl
theorem u45 {a c k:List AV} {r:AV} (h:Pure Try.prog 45 (a++c++k) r):Qb Try.prog (.clos 45 a k) c r:=Qo Try.func45 (by kernel_rfl) f45b h
theorem p45_start_0 {E:Env} {res:AV} (hE:Qh Try.prog 45 res E) (ho:AllP [0=0])
 (hr:AvLe (.rsl [.int .i64 100,.int .i64 0,.int .i64 0,.int .i64 0,.int .i64 100,.int .i64 0,.int .i64 (-100),.int .i64 0,.int .i64 0,.int .i64 0,.int .i64 (-100),.int .i64 0] 0 4) res):G Try.prog E [.code (Qd Try.prog 45)] ⟨[]++unds (Try.f45.ntmps - 0),[]⟩ :=
 Qg (n:=400) (evs:=[]) (obs:=_) hE Try.func45 Qj (by kernel_rfl) ho hr
theorem f45W {E:Env} {rv:(List Pt)} (hE:Qh Try.prog 45 (.rsl (rowP rv) 0 rv.length) E)
 (h:rv=[(⟨100,0,0⟩:Pt),(⟨0,100,0⟩:Pt),(⟨(-100),0,0⟩:Pt),(⟨0,(-100),0⟩:Pt)]):G Try.prog E [.code (Qd Try.prog 45)] ⟨[]++unds (Try.f45.ntmps - 0),[]⟩:=by
 exact p45_start_0 hE ⟨rfl,trivial⟩ (AvLe.of_eq (by rw [h]; try rfl))
theorem Yu:Pure Try.prog 45 [] (.rsl (rowP Qr) 0 Qr.length):=Qw Try.func45 f45b fun E hE=>f45W (rv:=Qr) hE rfl
theorem f44b:Try.f44.body=some (Qd Try.prog 44):=by kernel_rfl
theorem u44 {a c k:List AV} {r:AV} (h:Pure Try.prog 44 (a++c++k) r):Qb Try.prog (.clos 44 a k) c r:=Qo Try.func44 (by kernel_rfl) f44b h
theorem p44_start_0 {E:Env} {res:AV} (hE:Qh Try.prog 44 res E) (ho:AllP [Qb Try.prog (.clos 45 [] []) [] (.rsl (rowP Qr) 0 Qr.length),8≤8,0=0,0=0])
 (hr:AvLe (.agg [.rsl [.rsl (rowP Qr) 0 Qr.length] 0 1,.rsl [.int .i64 (-50),.int .i64 (-50),.int .i64 0,.int .i64 50,.int .i64 (-50),.int .i64 0,.int .i64 50,.int .i64 50,.int .i64 0,.int .i64 (-50),.int .i64 50,.int .i64 0] 0 4,.int .i64 10,.int .i64 0,.int .i64 0,.int .i64 0,.int .i64 1,.int .i64 3]) res):G Try.prog E [.code (Qd Try.prog 44)] ⟨[]++unds (Try.f44.ntmps - 0),[]⟩ :=
 Qg (n:=400) (evs:=[.v (.rsl (rowP Qr) 0 Qr.length)]) (obs:=_) hE Try.func44 Qj (by kernel_rfl) ho hr
theorem f44W {E:Env} {rv:Rg} (hE:Qh Try.prog 44 (.agg [.rsl (rowS rv.seats) 0 rv.seats.length,.rsl (rowP rv.feet) 0 rv.feet.length,.int .i64 rv.frame,.int .i64 rv.c.x,.int .i64 rv.c.y,.int .i64 rv.c.z,.int .i64 rv.empty,.int .i64 rv.full]) E)
 (h:rv=(⟨[Qr],[(⟨(-50),(-50),0⟩:Pt),(⟨50,(-50),0⟩:Pt),(⟨50,50,0⟩:Pt),(⟨(-50),50,0⟩:Pt)],10,(⟨0,0,0⟩:Pt),1,3⟩:Rg)):G Try.prog E [.code (Qd Try.prog 44)] ⟨[]++unds (Try.f44.ntmps - 0),[]⟩:=by
 exact p44_start_0 hE ⟨(u45 (Yu )),(by decide),rfl,rfl,trivial⟩ (AvLe.of_eq (by rw [h]; try rfl))
theorem Vv:Pure Try.prog 44 [] (.agg [.rsl (rowS Qi.seats) 0 Qi.seats.length,.rsl (rowP Qi.feet) 0 Qi.feet.length,.int .i64 Qi.frame,.int .i64 Qi.c.x,.int .i64 Qi.c.y,.int .i64 Qi.c.z,.int .i64 Qi.empty,.int .i64 Qi.full]):=Qw Try.func44 f44b fun E hE=>f44W (rv:=Qi) hE rfl
theorem f15b:Try.f15.body=some (Qd Try.prog 15):=by kernel_rfl
theorem u15 {a c k:List AV} {r:AV} (h:Pure Try.prog 15 (a++c++k) r):Qb Try.prog (.clos 15 a k) c r:=Qo Try.func15 (by kernel_rfl) f15b h
theorem p15_start_0 {E:Env} {res:AV} (hE:Qh Try.prog 15 res E) (ho:AllP [Qb Try.prog (.clos 44 [] []) [] (.agg [.rsl (rowS Qi.seats) 0 Qi.seats.length,.rsl (rowP Qi.feet) 0 Qi.feet.length,.int .i64 Qi.frame,.int .i64 Qi.c.x,.int .i64 Qi.c.y,.int .i64 Qi.c.z,.int .i64 Qi.empty,.int .i64 Qi.full]),Qb Try.prog (.clos 26 [] []) [.agg [.rsl (rowS Qi.seats) 0 Qi.seats.length,.rsl (rowP Qi.feet) 0 Qi.feet.length,.int .i64 Qi.frame,.int .i64 Qi.c.x,.int .i64 Qi.c.y,.int .i64 Qi.c.z,.int .i64 Qi.empty,.int .i64 Qi.full]] (.tup [.int .i64 ((Qu Qi).1),.int .i64 ((Qu Qi).2.1),.int .i64 ((Qu Qi).2.2.1),.int .i64 ((Qu Qi).2.2.2)]),Qb Try.prog (.clos 45 [] []) [] (.rsl (rowP Qr) 0 Qr.length),Qb Try.prog (.clos 16 [] []) [.rsl (rowP Qr) 0 Qr.length,.agg [.int .i64 2,.int .i64 1,.int .i64 2],.agg [.int .i64 300,.int .i64 0,.int .i64 2000],.bool false] (.tup [.int .i64 ((Xr Qr (⟨2,1,2⟩:Mot) (⟨300,0,2000⟩:Lim) false).1),.int .i64 ((Xr Qr (⟨2,1,2⟩:Mot) (⟨300,0,2000⟩:Lim) false).2)]),((Qu Qi).2.2.2 == 0)=true,((Xr Qr (⟨2,1,2⟩:Mot) (⟨300,0,2000⟩:Lim) false).2 == 0)=true,((Qu Qi).1 == 35000)=true,((Qu Qi).2.1 == 0)=true,((Qu Qi).2.2.1 == 1)=true])
 (hr:AvLe (.bool ((Xr Qr (⟨2,1,2⟩:Mot) (⟨300,0,2000⟩:Lim) false).1 == 1)) res):G Try.prog E [.code (Qd Try.prog 15)] ⟨[]++unds (Try.f15.ntmps - 0),[]⟩ :=
 Qg (n:=400) (evs:=[.v (.agg [.rsl (rowS Qi.seats) 0 Qi.seats.length,.rsl (rowP Qi.feet) 0 Qi.feet.length,.int .i64 Qi.frame,.int .i64 Qi.c.x,.int .i64 Qi.c.y,.int .i64 Qi.c.z,.int .i64 Qi.empty,.int .i64 Qi.full]),.v (.tup [.int .i64 ((Qu Qi).1),.int .i64 ((Qu Qi).2.1),.int .i64 ((Qu Qi).2.2.1),.int .i64 ((Qu Qi).2.2.2)]),.v (.rsl (rowP Qr) 0 Qr.length),.v (.tup [.int .i64 ((Xr Qr (⟨2,1,2⟩:Mot) (⟨300,0,2000⟩:Lim) false).1),.int .i64 ((Xr Qr (⟨2,1,2⟩:Mot) (⟨300,0,2000⟩:Lim) false).2)]),.b true,.b true,.b true,.b true,.b true]) (obs:=_) hE Try.func15 Qj (by kernel_rfl) ho hr
theorem p15_start_1 {E:Env} {res:AV} (hE:Qh Try.prog 15 res E) (ho:AllP [Qb Try.prog (.clos 44 [] []) [] (.agg [.rsl (rowS Qi.seats) 0 Qi.seats.length,.rsl (rowP Qi.feet) 0 Qi.feet.length,.int .i64 Qi.frame,.int .i64 Qi.c.x,.int .i64 Qi.c.y,.int .i64 Qi.c.z,.int .i64 Qi.empty,.int .i64 Qi.full]),Qb Try.prog (.clos 26 [] []) [.agg [.rsl (rowS Qi.seats) 0 Qi.seats.length,.rsl (rowP Qi.feet) 0 Qi.feet.length,.int .i64 Qi.frame,.int .i64 Qi.c.x,.int .i64 Qi.c.y,.int .i64 Qi.c.z,.int .i64 Qi.empty,.int .i64 Qi.full]] (.tup [.int .i64 ((Qu Qi).1),.int .i64 ((Qu Qi).2.1),.int .i64 ((Qu Qi).2.2.1),.int .i64 ((Qu Qi).2.2.2)]),Qb Try.prog (.clos 45 [] []) [] (.rsl (rowP Qr) 0 Qr.length),Qb Try.prog (.clos 16 [] []) [.rsl (rowP Qr) 0 Qr.length,.agg [.int .i64 2,.int .i64 1,.int .i64 2],.agg [.int .i64 300,.int .i64 0,.int .i64 2000],.bool false] (.tup [.int .i64 ((Xr Qr (⟨2,1,2⟩:Mot) (⟨300,0,2000⟩:Lim) false).1),.int .i64 ((Xr Qr (⟨2,1,2⟩:Mot) (⟨300,0,2000⟩:Lim) false).2)]),((Qu Qi).2.2.2 == 0)=true,((Xr Qr (⟨2,1,2⟩:Mot) (⟨300,0,2000⟩:Lim) false).2 == 0)=true,((Qu Qi).1 == 35000)=true,((Qu Qi).2.1 == 0)=true,((Qu Qi).2.2.1 == 1)=false])
 (hr:AvLe (.bool false) res):G Try.prog E [.code (Qd Try.prog 15)] ⟨[]++unds (Try.f15.ntmps - 0),[]⟩ :=
 Qg (n:=400) (evs:=[.v (.agg [.rsl (rowS Qi.seats) 0 Qi.seats.length,.rsl (rowP Qi.feet) 0 Qi.feet.length,.int .i64 Qi.frame,.int .i64 Qi.c.x,.int .i64 Qi.c.y,.int .i64 Qi.c.z,.int .i64 Qi.empty,.int .i64 Qi.full]),.v (.tup [.int .i64 ((Qu Qi).1),.int .i64 ((Qu Qi).2.1),.int .i64 ((Qu Qi).2.2.1),.int .i64 ((Qu Qi).2.2.2)]),.v (.rsl (rowP Qr) 0 Qr.length),.v (.tup [.int .i64 ((Xr Qr (⟨2,1,2⟩:Mot) (⟨300,0,2000⟩:Lim) false).1),.int .i64 ((Xr Qr (⟨2,1,2⟩:Mot) (⟨300,0,2000⟩:Lim) false).2)]),.b true,.b true,.b true,.b true,.b false]) (obs:=_) hE Try.func15 Qj (by kernel_rfl) ho hr
theorem p15_start_2 {E:Env} {res:AV} (hE:Qh Try.prog 15 res E) (ho:AllP [Qb Try.prog (.clos 44 [] []) [] (.agg [.rsl (rowS Qi.seats) 0 Qi.seats.length,.rsl (rowP Qi.feet) 0 Qi.feet.length,.int .i64 Qi.frame,.int .i64 Qi.c.x,.int .i64 Qi.c.y,.int .i64 Qi.c.z,.int .i64 Qi.empty,.int .i64 Qi.full]),Qb Try.prog (.clos 26 [] []) [.agg [.rsl (rowS Qi.seats) 0 Qi.seats.length,.rsl (rowP Qi.feet) 0 Qi.feet.length,.int .i64 Qi.frame,.int .i64 Qi.c.x,.int .i64 Qi.c.y,.int .i64 Qi.c.z,.int .i64 Qi.empty,.int .i64 Qi.full]] (.tup [.int .i64 ((Qu Qi).1),.int .i64 ((Qu Qi).2.1),.int .i64 ((Qu Qi).2.2.1),.int .i64 ((Qu Qi).2.2.2)]),Qb Try.prog (.clos 45 [] []) [] (.rsl (rowP Qr) 0 Qr.length),Qb Try.prog (.clos 16 [] []) [.rsl (rowP Qr) 0 Qr.length,.agg [.int .i64 2,.int .i64 1,.int .i64 2],.agg [.int .i64 300,.int .i64 0,.int .i64 2000],.bool false] (.tup [.int .i64 ((Xr Qr (⟨2,1,2⟩:Mot) (⟨300,0,2000⟩:Lim) false).1),.int .i64 ((Xr Qr (⟨2,1,2⟩:Mot) (⟨300,0,2000⟩:Lim) false).2)]),((Qu Qi).2.2.2 == 0)=true,((Xr Qr (⟨2,1,2⟩:Mot) (⟨300,0,2000⟩:Lim) false).2 == 0)=true,((Qu Qi).1 == 35000)=true,((Qu Qi).2.1 == 0)=false,false=false])
 (hr:AvLe (.bool false) res):G Try.prog E [.code (Qd Try.prog 15)] ⟨[]++unds (Try.f15.ntmps - 0),[]⟩ :=
 Qg (n:=400) (evs:=[.v (.agg [.rsl (rowS Qi.seats) 0 Qi.seats.length,.rsl (rowP Qi.feet) 0 Qi.feet.length,.int .i64 Qi.frame,.int .i64 Qi.c.x,.int .i64 Qi.c.y,.int .i64 Qi.c.z,.int .i64 Qi.empty,.int .i64 Qi.full]),.v (.tup [.int .i64 ((Qu Qi).1),.int .i64 ((Qu Qi).2.1),.int .i64 ((Qu Qi).2.2.1),.int .i64 ((Qu Qi).2.2.2)]),.v (.rsl (rowP Qr) 0 Qr.length),.v (.tup [.int .i64 ((Xr Qr (⟨2,1,2⟩:Mot) (⟨300,0,2000⟩:Lim) false).1),.int .i64 ((Xr Qr (⟨2,1,2⟩:Mot) (⟨300,0,2000⟩:Lim) false).2)]),.b true,.b true,.b true,.b false,.b false]) (obs:=_) hE Try.func15 Qj (by kernel_rfl) ho hr
theorem p15_start_3 {E:Env} {res:AV} (hE:Qh Try.prog 15 res E) (ho:AllP [Qb Try.prog (.clos 44 [] []) [] (.agg [.rsl (rowS Qi.seats) 0 Qi.seats.length,.rsl (rowP Qi.feet) 0 Qi.feet.length,.int .i64 Qi.frame,.int .i64 Qi.c.x,.int .i64 Qi.c.y,.int .i64 Qi.c.z,.int .i64 Qi.empty,.int .i64 Qi.full]),Qb Try.prog (.clos 26 [] []) [.agg [.rsl (rowS Qi.seats) 0 Qi.seats.length,.rsl (rowP Qi.feet) 0 Qi.feet.length,.int .i64 Qi.frame,.int .i64 Qi.c.x,.int .i64 Qi.c.y,.int .i64 Qi.c.z,.int .i64 Qi.empty,.int .i64 Qi.full]] (.tup [.int .i64 ((Qu Qi).1),.int .i64 ((Qu Qi).2.1),.int .i64 ((Qu Qi).2.2.1),.int .i64 ((Qu Qi).2.2.2)]),Qb Try.prog (.clos 45 [] []) [] (.rsl (rowP Qr) 0 Qr.length),Qb Try.prog (.clos 16 [] []) [.rsl (rowP Qr) 0 Qr.length,.agg [.int .i64 2,.int .i64 1,.int .i64 2],.agg [.int .i64 300,.int .i64 0,.int .i64 2000],.bool false] (.tup [.int .i64 ((Xr Qr (⟨2,1,2⟩:Mot) (⟨300,0,2000⟩:Lim) false).1),.int .i64 ((Xr Qr (⟨2,1,2⟩:Mot) (⟨300,0,2000⟩:Lim) false).2)]),((Qu Qi).2.2.2 == 0)=true,((Xr Qr (⟨2,1,2⟩:Mot) (⟨300,0,2000⟩:Lim) false).2 == 0)=true,((Qu Qi).1 == 35000)=false,false=false,false=false])
 (hr:AvLe (.bool false) res):G Try.prog E [.code (Qd Try.prog 15)] ⟨[]++unds (Try.f15.ntmps - 0),[]⟩ :=
 Qg (n:=400) (evs:=[.v (.agg [.rsl (rowS Qi.seats) 0 Qi.seats.length,.rsl (rowP Qi.feet) 0 Qi.feet.length,.int .i64 Qi.frame,.int .i64 Qi.c.x,.int .i64 Qi.c.y,.int .i64 Qi.c.z,.int .i64 Qi.empty,.int .i64 Qi.full]),.v (.tup [.int .i64 ((Qu Qi).1),.int .i64 ((Qu Qi).2.1),.int .i64 ((Qu Qi).2.2.1),.int .i64 ((Qu Qi).2.2.2)]),.v (.rsl (rowP Qr) 0 Qr.length),.v (.tup [.int .i64 ((Xr Qr (⟨2,1,2⟩:Mot) (⟨300,0,2000⟩:Lim) false).1),.int .i64 ((Xr Qr (⟨2,1,2⟩:Mot) (⟨300,0,2000⟩:Lim) false).2)]),.b true,.b true,.b false,.b false,.b false]) (obs:=_) hE Try.func15 Qj (by kernel_rfl) ho hr
theorem p15_start_4 {E:Env} {res:AV} (hE:Qh Try.prog 15 res E) (ho:AllP [Qb Try.prog (.clos 44 [] []) [] (.agg [.rsl (rowS Qi.seats) 0 Qi.seats.length,.rsl (rowP Qi.feet) 0 Qi.feet.length,.int .i64 Qi.frame,.int .i64 Qi.c.x,.int .i64 Qi.c.y,.int .i64 Qi.c.z,.int .i64 Qi.empty,.int .i64 Qi.full]),Qb Try.prog (.clos 26 [] []) [.agg [.rsl (rowS Qi.seats) 0 Qi.seats.length,.rsl (rowP Qi.feet) 0 Qi.feet.length,.int .i64 Qi.frame,.int .i64 Qi.c.x,.int .i64 Qi.c.y,.int .i64 Qi.c.z,.int .i64 Qi.empty,.int .i64 Qi.full]] (.tup [.int .i64 ((Qu Qi).1),.int .i64 ((Qu Qi).2.1),.int .i64 ((Qu Qi).2.2.1),.int .i64 ((Qu Qi).2.2.2)]),Qb Try.prog (.clos 45 [] []) [] (.rsl (rowP Qr) 0 Qr.length),Qb Try.prog (.clos 16 [] []) [.rsl (rowP Qr) 0 Qr.length,.agg [.int .i64 2,.int .i64 1,.int .i64 2],.agg [.int .i64 300,.int .i64 0,.int .i64 2000],.bool false] (.tup [.int .i64 ((Xr Qr (⟨2,1,2⟩:Mot) (⟨300,0,2000⟩:Lim) false).1),.int .i64 ((Xr Qr (⟨2,1,2⟩:Mot) (⟨300,0,2000⟩:Lim) false).2)]),((Qu Qi).2.2.2 == 0)=true,((Xr Qr (⟨2,1,2⟩:Mot) (⟨300,0,2000⟩:Lim) false).2 == 0)=false,false=false,false=false,false=false])
 (hr:AvLe (.bool false) res):G Try.prog E [.code (Qd Try.prog 15)] ⟨[]++unds (Try.f15.ntmps - 0),[]⟩ :=
 Qg (n:=400) (evs:=[.v (.agg [.rsl (rowS Qi.seats) 0 Qi.seats.length,.rsl (rowP Qi.feet) 0 Qi.feet.length,.int .i64 Qi.frame,.int .i64 Qi.c.x,.int .i64 Qi.c.y,.int .i64 Qi.c.z,.int .i64 Qi.empty,.int .i64 Qi.full]),.v (.tup [.int .i64 ((Qu Qi).1),.int .i64 ((Qu Qi).2.1),.int .i64 ((Qu Qi).2.2.1),.int .i64 ((Qu Qi).2.2.2)]),.v (.rsl (rowP Qr) 0 Qr.length),.v (.tup [.int .i64 ((Xr Qr (⟨2,1,2⟩:Mot) (⟨300,0,2000⟩:Lim) false).1),.int .i64 ((Xr Qr (⟨2,1,2⟩:Mot) (⟨300,0,2000⟩:Lim) false).2)]),.b true,.b false,.b false,.b false,.b false]) (obs:=_) hE Try.func15 Qj (by kernel_rfl) ho hr
theorem p15_start_5 {E:Env} {res:AV} (hE:Qh Try.prog 15 res E) (ho:AllP [Qb Try.prog (.clos 44 [] []) [] (.agg [.rsl (rowS Qi.seats) 0 Qi.seats.length,.rsl (rowP Qi.feet) 0 Qi.feet.length,.int .i64 Qi.frame,.int .i64 Qi.c.x,.int .i64 Qi.c.y,.int .i64 Qi.c.z,.int .i64 Qi.empty,.int .i64 Qi.full]),Qb Try.prog (.clos 26 [] []) [.agg [.rsl (rowS Qi.seats) 0 Qi.seats.length,.rsl (rowP Qi.feet) 0 Qi.feet.length,.int .i64 Qi.frame,.int .i64 Qi.c.x,.int .i64 Qi.c.y,.int .i64 Qi.c.z,.int .i64 Qi.empty,.int .i64 Qi.full]] (.tup [.int .i64 ((Qu Qi).1),.int .i64 ((Qu Qi).2.1),.int .i64 ((Qu Qi).2.2.1),.int .i64 ((Qu Qi).2.2.2)]),Qb Try.prog (.clos 45 [] []) [] (.rsl (rowP Qr) 0 Qr.length),Qb Try.prog (.clos 16 [] []) [.rsl (rowP Qr) 0 Qr.length,.agg [.int .i64 2,.int .i64 1,.int .i64 2],.agg [.int .i64 300,.int .i64 0,.int .i64 2000],.bool false] (.tup [.int .i64 ((Xr Qr (⟨2,1,2⟩:Mot) (⟨300,0,2000⟩:Lim) false).1),.int .i64 ((Xr Qr (⟨2,1,2⟩:Mot) (⟨300,0,2000⟩:Lim) false).2)]),((Qu Qi).2.2.2 == 0)=false,false=false,false=false,false=false,false=false])
 (hr:AvLe (.bool false) res):G Try.prog E [.code (Qd Try.prog 15)] ⟨[]++unds (Try.f15.ntmps - 0),[]⟩ :=
 Qg (n:=400) (evs:=[.v (.agg [.rsl (rowS Qi.seats) 0 Qi.seats.length,.rsl (rowP Qi.feet) 0 Qi.feet.length,.int .i64 Qi.frame,.int .i64 Qi.c.x,.int .i64 Qi.c.y,.int .i64 Qi.c.z,.int .i64 Qi.empty,.int .i64 Qi.full]),.v (.tup [.int .i64 ((Qu Qi).1),.int .i64 ((Qu Qi).2.1),.int .i64 ((Qu Qi).2.2.1),.int .i64 ((Qu Qi).2.2.2)]),.v (.rsl (rowP Qr) 0 Qr.length),.v (.tup [.int .i64 ((Xr Qr (⟨2,1,2⟩:Mot) (⟨300,0,2000⟩:Lim) false).1),.int .i64 ((Xr Qr (⟨2,1,2⟩:Mot) (⟨300,0,2000⟩:Lim) false).2)]),.b false,.b false,.b false,.b false,.b false]) (obs:=_) hE Try.func15 Qj (by kernel_rfl) ho hr
theorem f15W {E:Env} {rv:Bool} (hE:Qh Try.prog 15 (.bool rv) E)
 (h:((RigSmall Qi)∧((Qr.length≤1000)∧(((Qu Qi).2.2.2=0→(((Xr Qr (⟨2,1,2⟩:Mot) (⟨300,0,2000⟩:Lim) false).2=0→(((Qu Qi).1=35000→(((Qu Qi).2.1=0→(((Qu Qi).2.2.1=1→rv=((Xr Qr (⟨2,1,2⟩:Mot) (⟨300,0,2000⟩:Lim) false).1 == 1))∧(¬ ((Qu Qi).2.2.1=1)→rv=false)))∧(¬ ((Qu Qi).2.1=0)→rv=false)))∧(¬ ((Qu Qi).1=35000)→rv=false)))∧(¬ ((Xr Qr (⟨2,1,2⟩:Mot) (⟨300,0,2000⟩:Lim) false).2=0)→rv=false)))∧(¬ ((Qu Qi).2.2.2=0)→rv=false))))):G Try.prog E [.code (Qd Try.prog 15)] ⟨[]++unds (Try.f15.ntmps - 0),[]⟩:=by
 obtain ⟨h1,h⟩:=h
 obtain ⟨h2,h⟩:=h
 rcases bft ((Qu Qi).2.2.2 == 0) with hc0 | hc0
 · have h:=h.1 (eq_of_beq hc0)
   rcases bft ((Xr Qr (⟨2,1,2⟩:Mot) (⟨300,0,2000⟩:Lim) false).2 == 0) with hc1 | hc1
   · have h:=h.1 (eq_of_beq hc1)
     rcases bft ((Qu Qi).1 == 35000) with hc2 | hc2
     · have h:=h.1 (eq_of_beq hc2)
       rcases bft ((Qu Qi).2.1 == 0) with hc3 | hc3
       · have h:=h.1 (eq_of_beq hc3)
         rcases bft ((Qu Qi).2.2.1 == 1) with hc4 | hc4
         · have h:=h.1 (eq_of_beq hc4)
           exact p15_start_0 hE ⟨(u44 (Vv )),(u26 (Vt Qi h1)),(u45 (Yu )),(u16 (Yk Qr (⟨2,1,2⟩:Mot) (⟨300,0,2000⟩:Lim) false h2)),hc0,hc1,hc2,hc3,hc4,trivial⟩ (AvLe.of_eq (by rw [h]; try rfl))
         · have h:=h.2 (ne_of_beq_false hc4)
           exact p15_start_1 hE ⟨(u44 (Vv )),(u26 (Vt Qi h1)),(u45 (Yu )),(u16 (Yk Qr (⟨2,1,2⟩:Mot) (⟨300,0,2000⟩:Lim) false h2)),hc0,hc1,hc2,hc3,hc4,trivial⟩ (AvLe.of_eq (by rw [h]; try rfl))
       · have h:=h.2 (ne_of_beq_false hc3)
         exact p15_start_2 hE ⟨(u44 (Vv )),(u26 (Vt Qi h1)),(u45 (Yu )),(u16 (Yk Qr (⟨2,1,2⟩:Mot) (⟨300,0,2000⟩:Lim) false h2)),hc0,hc1,hc2,hc3,rfl,trivial⟩ (AvLe.of_eq (by rw [h]; try rfl))
     · have h:=h.2 (ne_of_beq_false hc2)
       exact p15_start_3 hE ⟨(u44 (Vv )),(u26 (Vt Qi h1)),(u45 (Yu )),(u16 (Yk Qr (⟨2,1,2⟩:Mot) (⟨300,0,2000⟩:Lim) false h2)),hc0,hc1,hc2,rfl,rfl,trivial⟩ (AvLe.of_eq (by rw [h]; try rfl))
   · have h:=h.2 (ne_of_beq_false hc1)
     exact p15_start_4 hE ⟨(u44 (Vv )),(u26 (Vt Qi h1)),(u45 (Yu )),(u16 (Yk Qr (⟨2,1,2⟩:Mot) (⟨300,0,2000⟩:Lim) false h2)),hc0,hc1,rfl,rfl,rfl,trivial⟩ (AvLe.of_eq (by rw [h]; try rfl))
 · have h:=h.2 (ne_of_beq_false hc0)
   exact p15_start_5 hE ⟨(u44 (Vv )),(u26 (Vt Qi h1)),(u45 (Yu )),(u16 (Yk Qr (⟨2,1,2⟩:Mot) (⟨300,0,2000⟩:Lim) false h2)),hc0,rfl,rfl,rfl,rfl,trivial⟩ (AvLe.of_eq (by rw [h]; try rfl))
theorem Vo:Pure Try.prog 15 [] (.bool true):=Qw Try.func15 f15b fun E hE=>by
 refine f15W (rv:=true) hE ?_
 rw [ex_least,ex_fast]
 exact ⟨exRig_small,by decide,by simp⟩
end Go.Proofs.Ytideokfbnegkjaa
namespace Go.Proofs.Ytideokfbnegkjaa
open Go Ax
open Go.Proofs
theorem ownT:ownKnob Try.prog.godebug=none:=by kernel_rfl
theorem laidT:laidOutB Try.prog=true:=by kernel_rfl
theorem dPt (W:World):Dec Try.prog W 38 Pt cP (fun a=>True):=by
 refine Dec.map (yE Try.underlying38 rfl (tot:=3) (by kernel_rfl) (XE (n:=1) (tot:=3) (by kernel_rfl) rfl (Wr Try.underlying3) (XE (n:=1) (tot:=3) (by kernel_rfl) rfl (Wr Try.underlying3) (XE (n:=1) (tot:=3) (by kernel_rfl) rfl (Wr Try.underlying3) decFs_nil (by decide)) (by decide)) (by decide))) (fun x=>(⟨x.1,x.2.1,x.2.2.1⟩:Pt)) ?_ ?_
 · exact fun _=>rfl
 · exact fun _ _=>trivial
theorem dPts (W:World):Dec Try.prog W 22 (List Pt) (fun a=>[.rsl (rowP a) 0 a.length]) (fun a=>a.length≤9223372036854775807):=by
 refine Dec.map (dec_slice Try.underlying22 (n:=3) (by kernel_rfl) (by decide) (fun _=>rfl) (fun _=>rfl) (dPt W)) (fun x=>x) ?_ ?_
 · exact fun _=>rfl
 · exact fun _ h=>h.1
end Go.Proofs.Ytideokfbnegkjaa
namespace Go.Proofs.Ytideokfbnegkjaa
open Go Ax
open Go.Proofs
theorem VX {n a b:Int}:Qc n a b=true ↔ a≤n∧n≤b:=by simp [Qc]
theorem checkP_eq (l:List Pt):XT l=bif QE l then 0 else 30:=by
 unfold XT QE
 cases Qc (l.length:Int) 3 60 <;> cases l.any (fun p=>!Qm p) <;> rfl
theorem qH {l:List Pt}:XT l=0 ↔ QE l=true:=by rw [checkP_eq]; cases QE l <;> simp
end Go.Proofs.Ytideokfbnegkjaa
namespace Go.Proofs.Ytideokfbnegkjaa
open Go Ax
open Go.Proofs
/-! ### the plain law of Slower -/
end Go.Proofs.Ytideokfbnegkjaa
namespace Ax
open Go
theorem row_rep {α:Type} (f:α→List AV) (n:Nat) (a:α):(List.replicate n (f a)).flatten=(List.replicate n a).flatMap f:=by
 induction n with
 | zero=>rfl
 | succ n ih=>rw [List.replicate_succ,List.flatten_cons,ih,List.replicate_succ,List.flatMap_cons]
theorem qf {α:Type} (f:α→List AV) {s:Nat} (hf:∀ a,(f a).length=s) (l:List α):((l.flatMap f).drop 0).take (l.length*s)=l.flatMap f:=by
 rw [List.drop_zero,List.take_of_length_le (by rw [XH f hf]; exact Nat.le_refl _)]
theorem yj:∀ {a b:List AV},noRefs (a++b)=(noRefs a && noRefs b)
 | [],b=>by simp [noRefs]
 | x :: a,b=>by simp [noRefs,yj,Bool.and_assoc]
theorem yd {α:Type} (f:α→List AV) (hf:∀ a,noRefs (f a)=true):∀ l:List α,noRefs (l.flatMap f)=true
 | []=>rfl
 | a :: l=>by rw [List.flatMap_cons,yj,hf,yd f hf l]; rfl
end Ax
namespace Go.Proofs.Ytideokfbnegkjaa
open Go Ax
open Go.Proofs
/-! ### runs -/
end Go.Proofs.Ytideokfbnegkjaa
namespace Go.Proofs.Ytideokfbnegkjaa
open Go Ax
open Go.Proofs
/-! ### the plain law of Envelope -/
end Go.Proofs.Ytideokfbnegkjaa
namespace Go.Proofs.Ytideokfbnegkjaa
open Go Ax
open Go.Proofs
theorem f22b:Try.f22.body=some (Qd Try.prog 22):=by kernel_rfl
theorem u22 {a c k:List AV} {r:AV} (h:Pure Try.prog 22 (a++c++k) r):Qb Try.prog (.clos 22 a k) c r:=Qo Try.func22 (by kernel_rfl) f22b h
def f22K0 (P:Program):List Item:=kAt 400 [.code (Qd P 22)] [.b false,.stop]
def f22S0 (r:Rg) (i:Nat):St:=⟨([J,.ptr 0 0 0,J,.int .i64 (i:Int)]++Js 24),[⟨true,0,1,true,[.rsl (rowS r.seats) 0 r.seats.length,.rsl (rowP r.feet) 0 r.feet.length,.int .i64 r.frame,.int .i64 r.c.x,.int .i64 r.c.y,.int .i64 r.c.z,.int .i64 r.empty,.int .i64 r.full],false⟩]⟩
def f22G0 (E:Env) (r:Rg) (i:Nat):Prop:=G Try.prog E (f22K0 Try.prog) (f22S0 r i )
theorem p22_start_0 (r:Rg) {E:Env} {res:AV} (hE:Qh Try.prog 22 res E) (ho:AllP [(decide ((r.seats.length:Int) > 25))=true,true=true])
 (hr:AvLe (.bool true) res):G Try.prog E [.code (Qd Try.prog 22)] ⟨[.agg [.rsl (rowS r.seats) 0 r.seats.length,.rsl (rowP r.feet) 0 r.feet.length,.int .i64 r.frame,.int .i64 r.c.x,.int .i64 r.c.y,.int .i64 r.c.z,.int .i64 r.empty,.int .i64 r.full]]++unds (Try.f22.ntmps - 1),[]⟩ :=
 Qg (n:=400) (evs:=[.b true,.b true]) (obs:=_) hE Try.func22 Qj (by kernel_rfl) ho hr
theorem p22_start_1 (r:Rg) {E:Env} {res:AV} (hE:Qh Try.prog 22 res E) (ho:AllP [(decide ((r.seats.length:Int) > 25))=false,(decide ((r.feet.length:Int) > 12))=true])
 (hr:AvLe (.bool true) res):G Try.prog E [.code (Qd Try.prog 22)] ⟨[.agg [.rsl (rowS r.seats) 0 r.seats.length,.rsl (rowP r.feet) 0 r.feet.length,.int .i64 r.frame,.int .i64 r.c.x,.int .i64 r.c.y,.int .i64 r.c.z,.int .i64 r.empty,.int .i64 r.full]]++unds (Try.f22.ntmps - 1),[]⟩ :=
 Qg (n:=400) (evs:=[.b false,.b true]) (obs:=_) hE Try.func22 Qj (by kernel_rfl) ho hr
theorem p22_start_2 (r:Rg) {E:Env} {rv:AV} (hE:Qh Try.prog 22 rv E) (ho:AllP [(decide ((r.seats.length:Int) > 25))=false,(decide ((r.feet.length:Int) > 12))=false])
 (hg:G Try.prog E (f22K0 Try.prog) ⟨([J,.ptr 0 0 0,J,.int .i64 0]++Js 24),[⟨true,0,1,true,[.rsl (rowS r.seats) 0 r.seats.length,.rsl (rowP r.feet) 0 r.feet.length,.int .i64 r.frame,.int .i64 r.c.x,.int .i64 r.c.y,.int .i64 r.c.z,.int .i64 r.empty,.int .i64 r.full],false⟩]⟩):G Try.prog E [.code (Qd Try.prog 22)] ⟨[.agg [.rsl (rowS r.seats) 0 r.seats.length,.rsl (rowP r.feet) 0 r.feet.length,.int .i64 r.frame,.int .i64 r.c.x,.int .i64 r.c.y,.int .i64 r.c.z,.int .i64 r.empty,.int .i64 r.full]]++unds (Try.f22.ntmps - 1),[]⟩ :=
 Qn (n:=400) (ds:=[]) (cs:=[]) (live:=[1,3]) (m:=1) (evs:=[.b false,.b false,.stop]) (obs:=_) hE.2.1 (hE.nogh _) Qj (by kernel_rfl) ho hg
theorem f22W (r:Rg) {E:Env} {rv:Bool} (hE:Qh Try.prog 22 (.bool rv) E)
 (h:(((r.seats.length:Int) > 25→rv=true)∧(¬ ((r.seats.length:Int) > 25)→(((r.feet.length:Int) > 12→rv=true)∧(¬ ((r.feet.length:Int) > 12)→f22G0 E r 0))))):G Try.prog E [.code (Qd Try.prog 22)] ⟨[.agg [.rsl (rowS r.seats) 0 r.seats.length,.rsl (rowP r.feet) 0 r.feet.length,.int .i64 r.frame,.int .i64 r.c.x,.int .i64 r.c.y,.int .i64 r.c.z,.int .i64 r.empty,.int .i64 r.full]]++unds (Try.f22.ntmps - 1),[]⟩:=by
 rcases bft (decide ((r.seats.length:Int) > 25)) with hc0 | hc0
 · have h:=h.1 (odt hc0)
   exact p22_start_0 r hE ⟨hc0,rfl,trivial⟩ (AvLe.of_eq (by rw [h]; try rfl))
 · have h:=h.2 (odf hc0)
   rcases bft (decide ((r.feet.length:Int) > 12)) with hc1 | hc1
   · have h:=h.1 (odt hc1)
     exact p22_start_1 r hE ⟨hc0,hc1,trivial⟩ (AvLe.of_eq (by rw [h]; try rfl))
   · have h:=h.2 (odf hc1)
     exact p22_start_2 r hE ⟨hc0,hc1,trivial⟩ h
theorem p22_0_0 (r:Rg) (i:Nat) (le:(List Pt)) {E:Env} {res:AV} (hE:Qh Try.prog 22 res E) (ho:AllP [(decide ((i:Int)<(r.seats.length:Int)))=true,0≤(i:Int)∧(i:Int)<(r.seats.length:Int),((rowS r.seats).drop (0+(Int.toNat (i:Int))*1)).take 1=[.rsl (rowP le) 0 le.length],(decide ((le.length:Int) > 70))=true])
 (hr:AvLe (.bool true) res):G Try.prog E (f22K0 Try.prog) (f22S0 r i ) :=
 Qg (n:=400) (evs:=[.b true,.auto,.ld (.rsl (rowP le) 0 le.length),.b true]) (obs:=_) hE Try.func22 Qj (by kernel_rfl) ho hr
theorem p22_0_1 (r:Rg) (i:Nat) (le:(List Pt)) {E:Env} {rv:AV} (hE:Qh Try.prog 22 rv E) (ho:AllP [(decide ((i:Int)<(r.seats.length:Int)))=true,0≤(i:Int)∧(i:Int)<(r.seats.length:Int),((rowS r.seats).drop (0+(Int.toNat (i:Int))*1)).take 1=[.rsl (rowP le) 0 le.length],(decide ((le.length:Int) > 70))=false,InR .i64 ((i:Int)+1)])
 (hg:G Try.prog E (f22K0 Try.prog) ⟨([J,.ptr 0 0 0,J,.int .i64 ((i:Int)+1)]++Js 24),[⟨true,0,1,true,[.rsl (rowS r.seats) 0 r.seats.length,.rsl (rowP r.feet) 0 r.feet.length,.int .i64 r.frame,.int .i64 r.c.x,.int .i64 r.c.y,.int .i64 r.c.z,.int .i64 r.empty,.int .i64 r.full],false⟩]⟩):G Try.prog E (f22K0 Try.prog) (f22S0 r i ) :=
 Qn (n:=400) (ds:=[]) (cs:=[]) (live:=[1,3]) (m:=1) (evs:=[.b true,.auto,.ld (.rsl (rowP le) 0 le.length),.b false,.stop]) (obs:=_) hE.2.1 (hE.nogh _) Qj (by kernel_rfl) ho hg
theorem p22_0_2 (r:Rg) (i:Nat) {E:Env} {res:AV} (hE:Qh Try.prog 22 res E) (ho:AllP [(decide ((i:Int)<(r.seats.length:Int)))=false])
 (hr:AvLe (.bool false) res):G Try.prog E (f22K0 Try.prog) (f22S0 r i ) :=
 Qg (n:=400) (evs:=[.b false]) (obs:=_) hE Try.func22 Qj (by kernel_rfl) ho hr
theorem f22W0 (r:Rg) (i:Nat) {E:Env} {rv:Bool} (hE:Qh Try.prog 22 (.bool rv) E)
 (h:(((i:Int)<(r.seats.length:Int)→(∃ le:(List Pt),r.seats[i]?=some le∧(((le.length:Int) > 70→rv=true)∧(¬ ((le.length:Int) > 70)→((I6 ((i:Int)+1))∧f22G0 E r (i+1))))))∧(¬ ((i:Int)<(r.seats.length:Int))→rv=false))):f22G0 E r i:=by
 rcases bft (decide ((i:Int)<(r.seats.length:Int))) with hc0 | hc0
 · have h:=h.1 (odt hc0)
   obtain ⟨le,h1,h⟩:=h
   rcases bft (decide ((le.length:Int) > 70)) with hc1 | hc1
   · have h:=h.1 (odt hc1)
     exact p22_0_0 r i le hE ⟨hc0,(QJ h1),(QM (fun s:List Pt=>[AV.rsl (rowP s) 0 s.length]) (s:=1) (k:=0) (m:=1) (fun _=>rfl) (by decide) h1),hc1,trivial⟩ (AvLe.of_eq (by rw [h]; try rfl))
   · have h:=h.2 (odf hc1)
     obtain ⟨q5_2,h⟩:=h
     exact p22_0_1 r i le hE ⟨hc0,(QJ h1),(QM (fun s:List Pt=>[AV.rsl (rowP s) 0 s.length]) (s:=1) (k:=0) (m:=1) (fun _=>rfl) (by decide) h1),hc1,q5_2,trivial⟩ h
 · have h:=h.2 (odf hc0)
   exact p22_0_2 r i hE ⟨hc0,trivial⟩ (AvLe.of_eq (by rw [h]; try rfl))
theorem f24b:Try.f24.body=some (Qd Try.prog 24):=by kernel_rfl
theorem u24 {a c k:List AV} {r:AV} (h:Pure Try.prog 24 (a++c++k) r):Qb Try.prog (.clos 24 a k) c r:=Qo Try.func24 (by kernel_rfl) f24b h
def f24K0 (P:Program):List Item:=kAt 400 [.code (Qd P 24)] [.stop]
def f24S0 (r:Rg) (i:Nat) (v4:List (List Pt)) (g4:Nat):St:=⟨([J,.ptr 0 0 0,.ptr 1 0 0,.ptr 2 0 0,.int .i64 (i:Int)]++Js 27),[⟨true,0,1,true,[.rsl (rowS r.seats) 0 r.seats.length,.rsl (rowP r.feet) 0 r.feet.length,.int .i64 r.frame,.int .i64 r.c.x,.int .i64 r.c.y,.int .i64 r.c.z,.int .i64 r.empty,.int .i64 r.full],false⟩,⟨true,0,1,true,[.nilSl,.nilSl,.int .i64 0,.int .i64 0,.int .i64 0,.int .i64 0,.int .i64 0,.int .i64 0],false⟩,⟨true,0,1,false,[.sl 4 g4 0 v4.length 1,.rsl (rowP r.feet) 0 (0+r.feet.length),.int .i64 r.frame,.int .i64 r.c.x,.int .i64 r.c.y,.int .i64 r.c.z,.int .i64 r.empty,.int .i64 r.full],false⟩,⟨false,2,3,true,[],false⟩,⟨true,g4,1,true,(rowS v4),true⟩]⟩
def f24G0 (E:Env) (r:Rg) (i:Nat) (v4:List (List Pt)):Prop:=∀ g4:Nat,G Try.prog E (f24K0 Try.prog) (f24S0 r i v4 g4)
theorem p24_start_0 (r:Rg) {E:Env} {rv:AV} (hE:Qh Try.prog 24 rv E) (ho:AllP [8≤8,1=1,0=0,0=0,(0+r.feet.length)≤2147483648,((rowP r.feet).drop 0).take (r.feet.length*3)=(rowP r.feet),(rowP r.feet).length=(r.feet.length*3),noRefs (rowP r.feet)=true,2≤8,1≤8])
 (hg:G Try.prog E (f24K0 Try.prog) ⟨([J,.ptr 0 0 0,.ptr 1 0 0,.ptr 2 0 0,.int .i64 0]++Js 27),[⟨true,0,1,true,[.rsl (rowS r.seats) 0 r.seats.length,.rsl (rowP r.feet) 0 r.feet.length,.int .i64 r.frame,.int .i64 r.c.x,.int .i64 r.c.y,.int .i64 r.c.z,.int .i64 r.empty,.int .i64 r.full],false⟩,⟨true,0,1,true,[.nilSl,.nilSl,.int .i64 0,.int .i64 0,.int .i64 0,.int .i64 0,.int .i64 0,.int .i64 0],false⟩,⟨true,0,1,false,[.sl 4 0 0 0 1,.rsl (rowP r.feet) 0 (0+r.feet.length),.int .i64 r.frame,.int .i64 r.c.x,.int .i64 r.c.y,.int .i64 r.c.z,.int .i64 r.empty,.int .i64 r.full],false⟩,⟨false,2,3,true,[],false⟩,⟨true,0,1,true,[],true⟩]⟩):G Try.prog E [.code (Qd Try.prog 24)] ⟨[.agg [.rsl (rowS r.seats) 0 r.seats.length,.rsl (rowP r.feet) 0 r.feet.length,.int .i64 r.frame,.int .i64 r.c.x,.int .i64 r.c.y,.int .i64 r.c.z,.int .i64 r.empty,.int .i64 r.full]]++unds (Try.f24.ntmps - 1),[]⟩ :=
 Qn (n:=400) (ds:=[]) (cs:=[(2,0,1)]) (live:=[1,2,3,4]) (m:=5) (evs:=[.fz,.cs (rowP r.feet),.stop]) (obs:=_) hE.2.1 (hE.nogh _) Qj (by kernel_rfl) ho hg
theorem f24W (r:Rg) {E:Env} {rv:Rg} (hE:Qh Try.prog 24 (.agg [.rsl (rowS rv.seats) 0 rv.seats.length,.rsl (rowP rv.feet) 0 rv.feet.length,.int .i64 rv.frame,.int .i64 rv.c.x,.int .i64 rv.c.y,.int .i64 rv.c.z,.int .i64 rv.empty,.int .i64 rv.full]) E)
 (h:((0+r.feet.length)≤2147483648∧f24G0 E r 0 ([]))):G Try.prog E [.code (Qd Try.prog 24)] ⟨[.agg [.rsl (rowS r.seats) 0 r.seats.length,.rsl (rowP r.feet) 0 r.feet.length,.int .i64 r.frame,.int .i64 r.c.x,.int .i64 r.c.y,.int .i64 r.c.z,.int .i64 r.empty,.int .i64 r.full]]++unds (Try.f24.ntmps - 1),[]⟩:=by
 obtain ⟨h1,h⟩:=h
 exact p24_start_0 r hE ⟨(by decide),rfl,rfl,rfl,h1,(by exact qf cP (fun _=>rfl) r.feet),(by exact XH cP (fun _=>rfl) r.feet),(by exact yd cP (fun _=>rfl) r.feet),(by decide),(by decide),trivial⟩ (h 0)
theorem p24_0_0 (r:Rg) (i:Nat) (v4:List (List Pt)) (g4:Nat) (le:(List Pt)) {E:Env} {rv:AV} (hE:Qh Try.prog 24 rv E) (ho:AllP [(decide ((i:Int)<(r.seats.length:Int)))=true,0≤(i:Int)∧(i:Int)<(r.seats.length:Int),((rowS r.seats).drop (0+(Int.toNat (i:Int))*1)).take 1=[.rsl (rowP le) 0 le.length],1=1,0=0,0=0,(0+le.length)≤2147483648,((rowP le).drop 0).take (le.length*3)=(rowP le),(rowP le).length=(le.length*3),noRefs (rowP le)=true,g4=g4,(0+(v4.length*1))=(rowS v4).length,(v4.length+1)≤2147483648,0=0,1≤8,InR .i64 ((i:Int)+1)])
 (hg:G Try.prog E (f24K0 Try.prog) ⟨([J,.ptr 0 0 0,.ptr 1 0 0,.ptr 2 0 0,.int .i64 ((i:Int)+1)]++Js 27),[⟨true,0,1,true,[.rsl (rowS r.seats) 0 r.seats.length,.rsl (rowP r.feet) 0 r.feet.length,.int .i64 r.frame,.int .i64 r.c.x,.int .i64 r.c.y,.int .i64 r.c.z,.int .i64 r.empty,.int .i64 r.full],false⟩,⟨true,0,1,true,[.nilSl,.nilSl,.int .i64 0,.int .i64 0,.int .i64 0,.int .i64 0,.int .i64 0,.int .i64 0],false⟩,⟨true,0,1,false,[.sl 4 (g4+1) 0 (v4.length+1) 1,.rsl (rowP r.feet) 0 (0+r.feet.length),.int .i64 r.frame,.int .i64 r.c.x,.int .i64 r.c.y,.int .i64 r.c.z,.int .i64 r.empty,.int .i64 r.full],false⟩,⟨false,2,3,true,[],false⟩,⟨true,(g4+1),1,true,((rowS v4)++[.rsl (rowP le) 0 (0+le.length)]),true⟩]⟩):G Try.prog E (f24K0 Try.prog) (f24S0 r i v4 g4) :=
 Qn (n:=400) (ds:=[]) (cs:=[]) (live:=[1,2,3,4]) (m:=5) (evs:=[.b true,.auto,.auto,.ld (.rsl (rowP le) 0 le.length),.fz,.cs (rowP le),.stop]) (obs:=_) hE.2.1 (hE.nogh _) Qj (by kernel_rfl) ho hg
theorem p24_0_1 (r:Rg) (i:Nat) (v4:List (List Pt)) (g4:Nat) {E:Env} {res:AV} (hE:Qh Try.prog 24 res E) (ho:AllP [(decide ((i:Int)<(r.seats.length:Int)))=false,8≤8,g4=g4])
 (hr:AvLe (.agg [.rsl (rowS v4) 0 v4.length,.rsl (rowP r.feet) 0 (0+r.feet.length),.int .i64 r.frame,.int .i64 r.c.x,.int .i64 r.c.y,.int .i64 r.c.z,.int .i64 r.empty,.int .i64 r.full]) res):G Try.prog E (f24K0 Try.prog) (f24S0 r i v4 g4) :=
 Qg (n:=400) (evs:=[.b false]) (obs:=_) hE Try.func24 Qj (by kernel_rfl) ho hr
theorem f24W0 (r:Rg) (i:Nat) (v4:List (List Pt)) {E:Env} {rv:Rg} (hE:Qh Try.prog 24 (.agg [.rsl (rowS rv.seats) 0 rv.seats.length,.rsl (rowP rv.feet) 0 rv.feet.length,.int .i64 rv.frame,.int .i64 rv.c.x,.int .i64 rv.c.y,.int .i64 rv.c.z,.int .i64 rv.empty,.int .i64 rv.full]) E)
 (h:(((i:Int)<(r.seats.length:Int)→(∃ le:(List Pt),r.seats[i]?=some le∧((0+le.length)≤2147483648∧((v4.length+1)≤2147483648∧((I6 ((i:Int)+1))∧f24G0 E r (i+1) (v4++[le]))))))∧(¬ ((i:Int)<(r.seats.length:Int))→rv=(⟨v4,r.feet,r.frame,r.c,r.empty,r.full⟩:Rg)))):f24G0 E r i v4:=by
 intro g4
 rcases bft (decide ((i:Int)<(r.seats.length:Int))) with hc0 | hc0
 · have h:=h.1 (odt hc0)
   obtain ⟨le,h1,h⟩:=h
   obtain ⟨h2,h⟩:=h
   obtain ⟨h3,h⟩:=h
   obtain ⟨q16_1,h⟩:=h
   refine p24_0_0 r i v4 g4 le hE ⟨hc0,(QJ h1),(QM (fun s:List Pt=>[AV.rsl (rowP s) 0 s.length]) (s:=1) (k:=0) (m:=1) (fun _=>rfl) (by decide) h1),rfl,rfl,rfl,h2,(by exact qf cP (fun _=>rfl) le),(by exact XH cP (fun _=>rfl) le),(by exact yd cP (fun _=>rfl) le),rfl,(by have hx:=XH (fun s:List Pt=>[AV.rsl (rowP s) 0 s.length]) (s:=1) (fun _=>rfl) v4; simp only [rowS] at hx ⊢; rw [hx]; simp),h3,rfl,(by decide),q16_1,trivial⟩ ?_
   rw [(show rowS v4++[.rsl (rowP le) 0 (0+le.length)]=rowS (v4++[le]) from (by rw [(show AV.rsl (rowP le) 0 (0+le.length)=AV.rsl (rowP le) 0 le.length from by rw [show (0+le.length)=le.length from by simp])]; exact (VB (fun s:List Pt=>[AV.rsl (rowP s) 0 s.length]) v4 [le]).symm))]; rw [(show (v4.length+1)=(v4++[le]).length from by simp)]; exact (h (g4+1))
 · have h:=h.2 (odf hc0)
   exact p24_0_1 r i v4 g4 hE ⟨hc0,(by decide),rfl,trivial⟩ (AvLe.of_eq (by rw [h]; rw [(show AV.rsl (rowP r.feet) 0 (0+r.feet.length)=AV.rsl (rowP r.feet) 0 r.feet.length from by rw [show (0+r.feet.length)=r.feet.length from by simp])]; try rfl))
theorem f66b:Try.f66.body=some (Qd Try.prog 66):=by kernel_rfl
theorem u66 {a c k:List AV} {r:AV} (h:Pure Try.prog 66 (a++c++k) r):Qb Try.prog (.clos 66 a k) c r:=Qo Try.func66 (by kernel_rfl) f66b h
theorem p66_start_0 (a:Pt) (b:Pt) (p:Pt) {E:Env} {res:AV} (hE:Qh Try.prog 66 res E) (ho:AllP [InR .i64 (b.x - a.x),InR .i64 (p.y - a.y),InR .i64 ((b.x - a.x)*(p.y - a.y)),InR .i64 (b.y - a.y),InR .i64 (p.x - a.x),InR .i64 ((b.y - a.y)*(p.x - a.x)),InR .i64 (((b.x - a.x)*(p.y - a.y)) - ((b.y - a.y)*(p.x - a.x)))])
 (hr:AvLe (.int .i64 (((b.x - a.x)*(p.y - a.y)) - ((b.y - a.y)*(p.x - a.x)))) res):G Try.prog E [.code (Qd Try.prog 66)] ⟨[.agg [.int .i64 a.x,.int .i64 a.y,.int .i64 a.z],.agg [.int .i64 b.x,.int .i64 b.y,.int .i64 b.z],.agg [.int .i64 p.x,.int .i64 p.y,.int .i64 p.z]]++unds (Try.f66.ntmps - 3),[]⟩ :=
 Qg (n:=400) (evs:=[]) (obs:=_) hE Try.func66 Qj (by kernel_rfl) ho hr
theorem f66W (a:Pt) (b:Pt) (p:Pt) {E:Env} {rv:Int} (hE:Qh Try.prog 66 (.int .i64 rv) E)
 (h:((I6 (b.x - a.x))∧((I6 (p.y - a.y))∧((I6 ((b.x - a.x)*(p.y - a.y)))∧((I6 (b.y - a.y))∧((I6 (p.x - a.x))∧((I6 ((b.y - a.y)*(p.x - a.x)))∧((I6 (((b.x - a.x)*(p.y - a.y)) - ((b.y - a.y)*(p.x - a.x))))∧rv=(((b.x - a.x)*(p.y - a.y)) - ((b.y - a.y)*(p.x - a.x))))))))))):G Try.prog E [.code (Qd Try.prog 66)] ⟨[.agg [.int .i64 a.x,.int .i64 a.y,.int .i64 a.z],.agg [.int .i64 b.x,.int .i64 b.y,.int .i64 b.z],.agg [.int .i64 p.x,.int .i64 p.y,.int .i64 p.z]]++unds (Try.f66.ntmps - 3),[]⟩:=by
 obtain ⟨q0_0,h⟩:=h
 obtain ⟨q1_0,h⟩:=h
 obtain ⟨q2_0,h⟩:=h
 obtain ⟨q3_0,h⟩:=h
 obtain ⟨q4_0,h⟩:=h
 obtain ⟨q5_0,h⟩:=h
 obtain ⟨q6_0,h⟩:=h
 exact p66_start_0 a b p hE ⟨q0_0,q1_0,q2_0,q3_0,q4_0,q5_0,q6_0,trivial⟩ (AvLe.of_eq (by rw [h]; try rfl))
theorem turn_ok (a b p:Pt) (h:Yg a b p):Pure Try.prog 66 [.agg [.int .i64 a.x,.int .i64 a.y,.int .i64 a.z],.agg [.int .i64 b.x,.int .i64 b.y,.int .i64 b.z],.agg [.int .i64 p.x,.int .i64 p.y,.int .i64 p.z]] (.int .i64 (arm a b p)):=Qw Try.func66 f66b fun E hE =>
 f66W a b p hE ⟨h.1,h.2.1,h.2.2.1,h.2.2.2.1,h.2.2.2.2.1,h.2.2.2.2.2.1,h.2.2.2.2.2.2,rfl⟩
theorem f59b:Try.f59.body=some (Qd Try.prog 59):=by kernel_rfl
theorem u59 {a c k:List AV} {r:AV} (h:Pure Try.prog 59 (a++c++k) r):Qb Try.prog (.clos 59 a k) c r:=Qo Try.func59 (by kernel_rfl) f59b h
theorem p59_start_0 (r:Rg) {E:Env} {res:AV} (hE:Qh Try.prog 59 res E) (ho:AllP [((r.seats.length:Int) == 0)=true])
 (hr:AvLe (.int .i64 1) res):G Try.prog E [.code (Qd Try.prog 59)] ⟨[.agg [.rsl (rowS r.seats) 0 r.seats.length,.rsl (rowP r.feet) 0 r.feet.length,.int .i64 r.frame,.int .i64 r.c.x,.int .i64 r.c.y,.int .i64 r.c.z,.int .i64 r.empty,.int .i64 r.full]]++unds (Try.f59.ntmps - 1),[]⟩ :=
 Qg (n:=400) (evs:=[.b true]) (obs:=_) hE Try.func59 Qj (by kernel_rfl) ho hr
theorem p59_start_1 (r:Rg) (le:(List Pt)) {E:Env} {res:AV} (hE:Qh Try.prog 59 res E) (ho:AllP [((r.seats.length:Int) == 0)=false,(0:Int)≤0∧(0:Int)<(r.seats.length:Int),((rowS r.seats).drop (0+0*1)).take 1=[.rsl (rowP le) 0 le.length]])
 (hr:AvLe (.int .i64 (le.length:Int)) res):G Try.prog E [.code (Qd Try.prog 59)] ⟨[.agg [.rsl (rowS r.seats) 0 r.seats.length,.rsl (rowP r.feet) 0 r.feet.length,.int .i64 r.frame,.int .i64 r.c.x,.int .i64 r.c.y,.int .i64 r.c.z,.int .i64 r.empty,.int .i64 r.full]]++unds (Try.f59.ntmps - 1),[]⟩ :=
 Qg (n:=400) (evs:=[.b false,.auto,.ld (.rsl (rowP le) 0 le.length)]) (obs:=_) hE Try.func59 Qj (by kernel_rfl) ho hr
theorem f59W (r:Rg) {E:Env} {rv:Int} (hE:Qh Try.prog 59 (.int .i64 rv) E)
 (h:(((r.seats.length:Int)=0→rv=1)∧(¬ ((r.seats.length:Int)=0)→(∃ le:(List Pt),r.seats[0]?=some le∧rv=(le.length:Int))))):G Try.prog E [.code (Qd Try.prog 59)] ⟨[.agg [.rsl (rowS r.seats) 0 r.seats.length,.rsl (rowP r.feet) 0 r.feet.length,.int .i64 r.frame,.int .i64 r.c.x,.int .i64 r.c.y,.int .i64 r.c.z,.int .i64 r.empty,.int .i64 r.full]]++unds (Try.f59.ntmps - 1),[]⟩:=by
 rcases bft ((r.seats.length:Int) == 0) with hc0 | hc0
 · have h:=h.1 (eq_of_beq hc0)
   exact p59_start_0 r hE ⟨hc0,trivial⟩ (AvLe.of_eq (by rw [h]; try rfl))
 · have h:=h.2 (ne_of_beq_false hc0)
   obtain ⟨le,h1,h⟩:=h
   exact p59_start_1 r le hE ⟨hc0,(QJ h1),(QM (fun s:List Pt=>[AV.rsl (rowP s) 0 s.length]) (s:=1) (k:=0) (m:=1) (fun _=>rfl) (by decide) h1),trivial⟩ (AvLe.of_eq (by rw [h]; try rfl))
theorem f88b:Try.f88.body=some (Qd Try.prog 88):=by kernel_rfl
theorem u88 {a c k:List AV} {r:AV} (h:Pure Try.prog 88 (a++c++k) r):Qb Try.prog (.clos 88 a k) c r:=Qo Try.func88 (by kernel_rfl) f88b h
theorem p88_start_0 (r:Rg) (ln:Int) (p:Pt) (pe:Pt) (pe1:Pt) {E:Env} {res:AV} (hE:Qh Try.prog 88 res E) (ho:AllP [0≤ln∧ln<(r.feet.length:Int),((rowP r.feet).drop (0+(Int.toNat ln)*3)).take 3=[.int .i64 pe.x,.int .i64 pe.y,.int .i64 pe.z],InR .i64 (ln+1),(r.feet.length:Int) ≠ 0,0≤(Int.tmod (ln+1) (r.feet.length:Int))∧(Int.tmod (ln+1) (r.feet.length:Int))<(r.feet.length:Int),((rowP r.feet).drop (0+(Int.toNat (Int.tmod (ln+1) (r.feet.length:Int)))*3)).take 3=[.int .i64 pe1.x,.int .i64 pe1.y,.int .i64 pe1.z],Qb Try.prog (.clos 66 [] []) [.agg [.int .i64 pe.x,.int .i64 pe.y,.int .i64 pe.z],.agg [.int .i64 pe1.x,.int .i64 pe1.y,.int .i64 pe1.z],.agg [.int .i64 p.x,.int .i64 p.y,.int .i64 p.z]] (.int .i64 (arm pe pe1 p))])
 (hr:AvLe (.int .i64 (arm pe pe1 p)) res):G Try.prog E [.code (Qd Try.prog 88)] ⟨[.agg [.rsl (rowS r.seats) 0 r.seats.length,.rsl (rowP r.feet) 0 r.feet.length,.int .i64 r.frame,.int .i64 r.c.x,.int .i64 r.c.y,.int .i64 r.c.z,.int .i64 r.empty,.int .i64 r.full],.int .i64 ln,.agg [.int .i64 p.x,.int .i64 p.y,.int .i64 p.z]]++unds (Try.f88.ntmps - 3),[]⟩ :=
 Qg (n:=400) (evs:=[.auto,.ld (.agg [.int .i64 pe.x,.int .i64 pe.y,.int .i64 pe.z]),.auto,.auto,.ld (.agg [.int .i64 pe1.x,.int .i64 pe1.y,.int .i64 pe1.z]),.v (.int .i64 (arm pe pe1 p))]) (obs:=_) hE Try.func88 Qj (by kernel_rfl) ho hr
theorem f88W (r:Rg) (ln:Int) (p:Pt) {E:Env} {rv:Int} (hE:Qh Try.prog 88 (.int .i64 rv) E)
 (h:(0≤ln∧(∃ pe:Pt,r.feet[Int.toNat ln]?=some pe∧((I6 (ln+1))∧((r.feet.length:Int) ≠ 0∧(0≤(Int.tmod (ln+1) (r.feet.length:Int))∧(∃ pe1:Pt,r.feet[Int.toNat (Int.tmod (ln+1) (r.feet.length:Int))]?=some pe1∧((Yg pe pe1 p)∧rv=(arm pe pe1 p))))))))):G Try.prog E [.code (Qd Try.prog 88)] ⟨[.agg [.rsl (rowS r.seats) 0 r.seats.length,.rsl (rowP r.feet) 0 r.feet.length,.int .i64 r.frame,.int .i64 r.c.x,.int .i64 r.c.y,.int .i64 r.c.z,.int .i64 r.empty,.int .i64 r.full],.int .i64 ln,.agg [.int .i64 p.x,.int .i64 p.y,.int .i64 p.z]]++unds (Try.f88.ntmps - 3),[]⟩:=by
 obtain ⟨h2,h⟩:=h
 obtain ⟨pe,h1,h⟩:=h
 obtain ⟨q3_0,h⟩:=h
 obtain ⟨q4_0,h⟩:=h
 obtain ⟨h4,h⟩:=h
 obtain ⟨pe1,h3,h⟩:=h
 obtain ⟨h5,h⟩:=h
 exact p88_start_0 r ln p pe pe1 hE ⟨(Xh h2 h1),(rp cP 3 0 3 h1),q3_0,q4_0,(Xh h4 h3),(rp cP 3 0 3 h3),(u66 (turn_ok pe pe1 p h5)),trivial⟩ (AvLe.of_eq (by rw [h]; try rfl))
def armR (r:Rg) (ln:Int) (p:Pt):Int:=arm (QD r ln.toNat).1 (QD r ln.toNat).2 p
def qK (r:Rg) (ln:Int) (p:Pt):Prop:=0≤ln∧ln<r.feet.length∧r.feet.length≤1000∧Yg (QD r ln.toNat).1 (QD r ln.toNat).2 p
theorem line_feet {r:Rg} {v:Nat} (h:v<r.feet.length):r.feet[v]?=some (QD r v).1∧r.feet[(v+1) % r.feet.length]?=some (QD r v).2:=by
 have hg:=XW h
 unfold Qa at hg
 rw [List.getElem?_map] at hg
 have e:(List.range' 0 r.feet.length)[v]?=some v:=by simp [h]
 rw [e] at hg
 simp only [Option.map_some,Option.some.injEq] at hg
 have h2:(v+1) % r.feet.length<r.feet.length:=Nat.mod_lt _ (by omega)
 rw [← hg]
 simp [List.getD,h,h2]
theorem tmod_next {i n:Nat} (h:0<n):Int.tmod ((i:Int)+1) (n:Int)=(((i+1) % n:Nat):Int):=by
 rw [Int.tmod_eq_emod_of_nonneg (by omega)]; rfl
theorem Kk (r:Rg) (ln:Int) (p:Pt) (h:qK r ln p):Pure Try.prog 88 [.agg [.rsl (rowS r.seats) 0 r.seats.length,.rsl (rowP r.feet) 0 r.feet.length,.int .i64 r.frame,.int .i64 r.c.x,.int .i64 r.c.y,.int .i64 r.c.z,.int .i64 r.empty,.int .i64 r.full],.int .i64 ln,.agg [.int .i64 p.x,.int .i64 p.y,.int .i64 p.z]] (.int .i64 (armR r ln p)):=Qw Try.func88 f88b fun E hE=>by
 obtain ⟨h0,h1,h2,h3⟩:=h
 obtain ⟨v,rfl⟩:=Int.eq_ofNat_of_zero_le h0
 obtain ⟨a1,a2⟩:=line_feet (r:=r) (v:=v) (by omega)
 have et:=tmod_next (i:=v) (n:=r.feet.length) (by omega)
 refine f88W r v p hE ⟨h0,_,a1,by omega,by omega,by rw [et]; omega,(QD r v).2,by rw [et]; exact a2,h3,rfl⟩
theorem Kl (l:Pt × Pt) (p:Pt) (h:Yg l.1 l.2 p):Pure Try.prog 87 [.agg [.int .i64 l.1.x,.int .i64 l.1.y,.int .i64 l.1.z,.int .i64 l.2.x,.int .i64 l.2.y,.int .i64 l.2.z],.agg [.int .i64 p.x,.int .i64 p.y,.int .i64 p.z]] (.int .i64 (arm l.1 l.2 p)):=arm_ok l.1 l.2 p h
def farB (r:Rg):Bool:=decide (r.seats.length > 25) || (decide (r.feet.length > 12) || r.seats.any fun s=>decide (s.length > 70))
theorem Xe (r:Rg):Pure Try.prog 22 [.agg [.rsl (rowS r.seats) 0 r.seats.length,.rsl (rowP r.feet) 0 r.feet.length,.int .i64 r.frame,.int .i64 r.c.x,.int .i64 r.c.y,.int .i64 r.c.z,.int .i64 r.empty,.int .i64 r.full]] (.bool (farB r)):=Qw Try.func22 f22b fun E hE=>by
 refine f22W r hE ⟨fun h=>?_,fun h=>⟨fun h'=>?_,fun h'=>?_⟩⟩
 · have:r.seats.length > 25:=by omega
   simp [farB,this]
 · have:r.feet.length > 12:=by omega
   simp [farB,this]
 · have h1:¬ r.seats.length > 25:=by omega
   have h2:¬ r.feet.length > 12:=by omega
   have key:∀ (d i:Nat),i+d=r.seats.length→farB r=((r.seats.drop i).any fun s=>decide (s.length > 70))→f22G0 E r i:=by
    intro d
    induction d with
    | zero =>
     intro i hd hf
     refine f22W0 r i hE ⟨fun h=>by omega,fun _=>?_⟩
     rw [hf,List.drop_eq_nil_of_le (by omega)]; rfl
    | succ d ih =>
     intro i hd hf
     have hi:i<r.seats.length:=by omega
     rw [List.drop_eq_getElem_cons hi,List.any_cons] at hf
     refine f22W0 r i hE ⟨fun _=>⟨r.seats[i],by simp [hi],fun h3=>?_,fun h3=>⟨by omega,ih (i+1) (by omega) ?_⟩⟩,fun h=>by omega⟩
     · have:r.seats[i].length > 70:=by omega
       rw [hf]; simp [this]
     · have:¬ r.seats[i].length > 70:=by omega
       rw [hf]; simp [this]
   exact key r.seats.length 0 (by omega) (by simp [farB,h1,h2])
theorem far_small {r:Rg} (h:farB r=false):RigSmall r:=by
 simp only [farB,Bool.or_eq_false_iff,decide_eq_false_iff_not,List.any_eq_false,decide_eq_true_eq] at h
 exact ⟨by omega,by omega,fun s hs=>by have:=h.2.2 s hs; omega⟩
theorem QP (r:Rg) (h:RigSmall r):Pure Try.prog 24 [.agg [.rsl (rowS r.seats) 0 r.seats.length,.rsl (rowP r.feet) 0 r.feet.length,.int .i64 r.frame,.int .i64 r.c.x,.int .i64 r.c.y,.int .i64 r.c.z,.int .i64 r.empty,.int .i64 r.full]]
 (.agg [.rsl (rowS r.seats) 0 r.seats.length,.rsl (rowP r.feet) 0 r.feet.length,.int .i64 r.frame,.int .i64 r.c.x,.int .i64 r.c.y,.int .i64 r.c.z,.int .i64 r.empty,.int .i64 r.full]):=Qw Try.func24 f24b fun E hE=>by
 have hs:=h.seats
 have hf:=h.feet
 have key:∀ (d i:Nat),i+d=r.seats.length→f24G0 E r i (r.seats.take i):=by
  intro d
  induction d with
  | zero =>
   intro i hd
   refine f24W0 r i _ (rv:=r) hE ⟨fun h=>by omega,fun _=>?_⟩
   rw [List.take_of_length_le (by omega)]
  | succ d ih =>
   intro i hd
   have hi:r.seats[i]?=some r.seats[i]:=by simp [show i<r.seats.length by omega]
   have hl:=h.each _ (List.mem_of_getElem? hi)
   refine f24W0 r i _ (rv:=r) hE ⟨fun _=>⟨_,hi,by omega,by rw [List.length_take]; omega,by omega,?_⟩,fun h=>by omega⟩
   have:=ih (i+1) (by omega)
   rw [List.take_add_one,hi] at this
   exact this
 exact f24W r (rv:=r) hE ⟨by omega,key r.seats.length 0 (by omega)⟩
def XS (r:Rg):Int:=if r.seats.length=0 then 1 else ((r.seats.getD 0 []).length:Nat)
theorem Phases_ok (r:Rg):Pure Try.prog 59 [.agg [.rsl (rowS r.seats) 0 r.seats.length,.rsl (rowP r.feet) 0 r.feet.length,.int .i64 r.frame,.int .i64 r.c.x,.int .i64 r.c.y,.int .i64 r.c.z,.int .i64 r.empty,.int .i64 r.full]] (.int .i64 (XS r)):=Qw Try.func59 f59b fun E hE=>by
 refine f59W r hE ⟨fun h=>?_,fun h=>?_⟩
 · have:r.seats.length=0:=by omega
   simp [XS,this]
 · have:¬ r.seats.length=0:=by omega
   refine ⟨r.seats.getD 0 [],?_,by rw [XS,if_neg this]⟩
   simp [List.getD,show 0<r.seats.length by omega]
def Xq (r:Rg) (ph ln:Int):Prop:=RigMade r∧0≤ph∧ph<phN r∧0≤ln∧ln<r.feet.length
def Qs (r:Rg) (ph ln:Int) (bs:List Bool):Int:=XV r ph.toNat (QD r ln.toNat) fun i _=>bs.getD i false
def Yd (r:Rg) (ph ln:Int):Int:=XV r ph.toNat (QD r ln.toNat) outF
structure SeatF (r:Rg) (a b:Pt) (ph:Nat) (s:List Pt):Prop where
 get:s[ph]?=some (s.getD ph ⟨0,0,0⟩)
 ok:Yg a b (s.getD ph ⟨0,0,0⟩)
 e0:-800000000000000≤r.empty*arm a b (s.getD ph ⟨0,0,0⟩)
 e1:r.empty*arm a b (s.getD ph ⟨0,0,0⟩)≤800000000000000
 f0:-800000000000000≤r.full*arm a b (s.getD ph ⟨0,0,0⟩)
 f1:r.full*arm a b (s.getD ph ⟨0,0,0⟩)≤800000000000000
theorem YJ {r:Rg} {n ph i:Nat} {s:List Pt} {a b:Pt} (h:RgOk r n) (hph:ph<n) (ha:Qm a=true) (hb:Qm b=true) (hs:r.seats[i]?=some s):SeatF r a b ph s:=by
 obtain ⟨hsl,hsv⟩:=h.each _ (List.mem_of_getElem? hs)
 have hq:s[ph]?=some (s.getD ph ⟨0,0,0⟩):=by simp [List.getD,hsl,hph]
 obtain ⟨q1,q2,q3⟩:=yI ha hb (yN hsv (List.mem_of_getElem? hq))
 have he0:=h.empty0
 have he1:=h.empty1
 have hfu:=h.full1
 have me:=Wy (x:=r.empty) (y:=arm a b (s.getD ph ⟨0,0,0⟩)) (A:=1000000) (B:=800000000) (by omega) (by omega) q2 q3 (by omega) (by omega)
 have mf:=Wy (x:=r.full) (y:=arm a b (s.getD ph ⟨0,0,0⟩)) (A:=1000000) (B:=800000000) (by omega) (by omega) q2 q3 (by omega) (by omega)
 exact ⟨hq,q1,by omega,by omega,by omega,by omega⟩
theorem VF {r:Rg} {n:Nat} {a b:Pt} (h:RgOk r n) (ha:Qm a=true) (hb:Qm b=true):Yg a b r.c∧-800000000000000≤r.frame*arm a b r.c∧r.frame*arm a b r.c≤800000000000000:=by
 obtain ⟨k1,k2,k3⟩:=yI ha hb h.center
 have hf:=h.frame0
 have hf':=h.frame1
 have hfr:=Wy (x:=r.frame) (y:=arm a b r.c) (A:=1000000) (B:=800000000) (by omega) hf' k2 k3 (by omega) (by omega)
 exact ⟨k1,by omega,by omega⟩
end Go.Proofs.Ytideokfbnegkjaa
namespace Go.Proofs.Ytideokfbnegkjaa
open Go Ax
open Go.Proofs
def QN (r:Rg) (ph ln:Int):List Bool:=r.seats.map fun s=>decide (armR r ln (s.getD ph.toNat ⟨0,0,0⟩)<0)
def Qf (r:Rg):Int:=if Xw r=true then 0 else 33
theorem f60b:Try.f60.body=some (Qd Try.prog 60):=by kernel_rfl
theorem u60 {a c k:List AV} {r:AV} (h:Pure Try.prog 60 (a++c++k) r):Qb Try.prog (.clos 60 a k) c r:=Qo Try.func60 (by kernel_rfl) f60b h
def f60K0 (P:Program):List Item:=kAt 400 [.code (Qd P 60)] [.stop]
def f60S0 (r:Rg) (bs:(List Bool)) (ph:Int) (ln:Int) (sum:Int) (i:Nat):St:=⟨([J,.rsl (rowB bs) 0 bs.length,.int .i64 ph,.int .i64 ln,.ptr 0 0 0,J,J,J,J,.int .i64 sum,.int .i64 (i:Int)]++Js 40),[⟨true,0,1,true,[.rsl (rowS r.seats) 0 r.seats.length,.rsl (rowP r.feet) 0 r.feet.length,.int .i64 r.frame,.int .i64 r.c.x,.int .i64 r.c.y,.int .i64 r.c.z,.int .i64 r.empty,.int .i64 r.full],false⟩]⟩
def f60G0 (E:Env) (r:Rg) (bs:(List Bool)) (ph:Int) (ln:Int) (sum:Int) (i:Nat):Prop:=G Try.prog E (f60K0 Try.prog) (f60S0 r bs ph ln sum i )
theorem p60_start_0 (r:Rg) (bs:(List Bool)) (ph:Int) (ln:Int) {E:Env} {rv:AV} (hE:Qh Try.prog 60 rv E) (ho:AllP [Qb Try.prog (.clos 88 [] []) [.agg [.rsl (rowS r.seats) 0 r.seats.length,.rsl (rowP r.feet) 0 r.feet.length,.int .i64 r.frame,.int .i64 r.c.x,.int .i64 r.c.y,.int .i64 r.c.z,.int .i64 r.empty,.int .i64 r.full],.int .i64 ln,.agg [.int .i64 r.c.x,.int .i64 r.c.y,.int .i64 r.c.z]] (.int .i64 (armR r ln r.c)),InR .i64 (r.frame*(armR r ln r.c))])
 (hg:G Try.prog E (f60K0 Try.prog) ⟨([J,.rsl (rowB bs) 0 bs.length,.int .i64 ph,.int .i64 ln,.ptr 0 0 0,J,J,J,J,.int .i64 (r.frame*(armR r ln r.c)),.int .i64 0]++Js 40),[⟨true,0,1,true,[.rsl (rowS r.seats) 0 r.seats.length,.rsl (rowP r.feet) 0 r.feet.length,.int .i64 r.frame,.int .i64 r.c.x,.int .i64 r.c.y,.int .i64 r.c.z,.int .i64 r.empty,.int .i64 r.full],false⟩]⟩):G Try.prog E [.code (Qd Try.prog 60)] ⟨[.agg [.rsl (rowS r.seats) 0 r.seats.length,.rsl (rowP r.feet) 0 r.feet.length,.int .i64 r.frame,.int .i64 r.c.x,.int .i64 r.c.y,.int .i64 r.c.z,.int .i64 r.empty,.int .i64 r.full],.rsl (rowB bs) 0 bs.length,.int .i64 ph,.int .i64 ln]++unds (Try.f60.ntmps - 4),[]⟩ :=
 Qn (n:=400) (ds:=[]) (cs:=[]) (live:=[1,2,3,4,9,10]) (m:=1) (evs:=[.v (.int .i64 (armR r ln r.c)),.stop]) (obs:=_) hE.2.1 (hE.nogh _) Qj (by kernel_rfl) ho hg
theorem f60W (r:Rg) (bs:(List Bool)) (ph:Int) (ln:Int) {E:Env} {rv:Int} (hE:Qh Try.prog 60 (.int .i64 rv) E)
 (h:((qK r ln r.c)∧((I6 (r.frame*(armR r ln r.c)))∧f60G0 E r bs ph ln (r.frame*(armR r ln r.c)) 0))):G Try.prog E [.code (Qd Try.prog 60)] ⟨[.agg [.rsl (rowS r.seats) 0 r.seats.length,.rsl (rowP r.feet) 0 r.feet.length,.int .i64 r.frame,.int .i64 r.c.x,.int .i64 r.c.y,.int .i64 r.c.z,.int .i64 r.empty,.int .i64 r.full],.rsl (rowB bs) 0 bs.length,.int .i64 ph,.int .i64 ln]++unds (Try.f60.ntmps - 4),[]⟩:=by
 obtain ⟨h1,h⟩:=h
 obtain ⟨q1_0,h⟩:=h
 exact p60_start_0 r bs ph ln hE ⟨(u88 (Kk r ln r.c h1)),q1_0,trivial⟩ h
theorem p60_0_0 (r:Rg) (bs:(List Bool)) (ph:Int) (ln:Int) (sum:Int) (i:Nat) (eb:Bool) (le:(List Pt)) (pe:Pt) {E:Env} {rv:AV} (hE:Qh Try.prog 60 rv E) (ho:AllP [(decide ((i:Int)<(r.seats.length:Int)))=true,0≤(i:Int)∧(i:Int)<(bs.length:Int),((rowB bs).drop (0+(Int.toNat (i:Int))*1)).take 1=[.bool eb],eb=true,0≤(i:Int)∧(i:Int)<(r.seats.length:Int),((rowS r.seats).drop (0+(Int.toNat (i:Int))*1)).take 1=[.rsl (rowP le) 0 le.length],0≤ph∧ph<(le.length:Int),((rowP le).drop (0+(Int.toNat ph)*3)).take 3=[.int .i64 pe.x,.int .i64 pe.y,.int .i64 pe.z],Qb Try.prog (.clos 88 [] []) [.agg [.rsl (rowS r.seats) 0 r.seats.length,.rsl (rowP r.feet) 0 r.feet.length,.int .i64 r.frame,.int .i64 r.c.x,.int .i64 r.c.y,.int .i64 r.c.z,.int .i64 r.empty,.int .i64 r.full],.int .i64 ln,.agg [.int .i64 pe.x,.int .i64 pe.y,.int .i64 pe.z]] (.int .i64 (armR r ln pe)),InR .i64 (r.full*(armR r ln pe)),InR .i64 (sum+(r.full*(armR r ln pe))),InR .i64 ((i:Int)+1)])
 (hg:G Try.prog E (f60K0 Try.prog) ⟨([J,.rsl (rowB bs) 0 bs.length,.int .i64 ph,.int .i64 ln,.ptr 0 0 0,J,J,J,J,.int .i64 (sum+(r.full*(armR r ln pe))),.int .i64 ((i:Int)+1)]++Js 40),[⟨true,0,1,true,[.rsl (rowS r.seats) 0 r.seats.length,.rsl (rowP r.feet) 0 r.feet.length,.int .i64 r.frame,.int .i64 r.c.x,.int .i64 r.c.y,.int .i64 r.c.z,.int .i64 r.empty,.int .i64 r.full],false⟩]⟩):G Try.prog E (f60K0 Try.prog) (f60S0 r bs ph ln sum i ) :=
 Qn (n:=400) (ds:=[]) (cs:=[]) (live:=[1,2,3,4,9,10]) (m:=1) (evs:=[.b true,.auto,.ld (.bool eb),.b true,.auto,.auto,.auto,.ld (.rsl (rowP le) 0 le.length),.ld (.agg [.int .i64 pe.x,.int .i64 pe.y,.int .i64 pe.z]),.v (.int .i64 (armR r ln pe)),.stop]) (obs:=_) hE.2.1 (hE.nogh _) Qj (by kernel_rfl) ho hg
theorem p60_0_1 (r:Rg) (bs:(List Bool)) (ph:Int) (ln:Int) (sum:Int) (i:Nat) (eb:Bool) (le:(List Pt)) (pe:Pt) {E:Env} {rv:AV} (hE:Qh Try.prog 60 rv E) (ho:AllP [(decide ((i:Int)<(r.seats.length:Int)))=true,0≤(i:Int)∧(i:Int)<(bs.length:Int),((rowB bs).drop (0+(Int.toNat (i:Int))*1)).take 1=[.bool eb],eb=false,0≤(i:Int)∧(i:Int)<(r.seats.length:Int),((rowS r.seats).drop (0+(Int.toNat (i:Int))*1)).take 1=[.rsl (rowP le) 0 le.length],0≤ph∧ph<(le.length:Int),((rowP le).drop (0+(Int.toNat ph)*3)).take 3=[.int .i64 pe.x,.int .i64 pe.y,.int .i64 pe.z],Qb Try.prog (.clos 88 [] []) [.agg [.rsl (rowS r.seats) 0 r.seats.length,.rsl (rowP r.feet) 0 r.feet.length,.int .i64 r.frame,.int .i64 r.c.x,.int .i64 r.c.y,.int .i64 r.c.z,.int .i64 r.empty,.int .i64 r.full],.int .i64 ln,.agg [.int .i64 pe.x,.int .i64 pe.y,.int .i64 pe.z]] (.int .i64 (armR r ln pe)),InR .i64 (r.empty*(armR r ln pe)),InR .i64 (sum+(r.empty*(armR r ln pe))),InR .i64 ((i:Int)+1)])
 (hg:G Try.prog E (f60K0 Try.prog) ⟨([J,.rsl (rowB bs) 0 bs.length,.int .i64 ph,.int .i64 ln,.ptr 0 0 0,J,J,J,J,.int .i64 (sum+(r.empty*(armR r ln pe))),.int .i64 ((i:Int)+1)]++Js 40),[⟨true,0,1,true,[.rsl (rowS r.seats) 0 r.seats.length,.rsl (rowP r.feet) 0 r.feet.length,.int .i64 r.frame,.int .i64 r.c.x,.int .i64 r.c.y,.int .i64 r.c.z,.int .i64 r.empty,.int .i64 r.full],false⟩]⟩):G Try.prog E (f60K0 Try.prog) (f60S0 r bs ph ln sum i ) :=
 Qn (n:=400) (ds:=[]) (cs:=[]) (live:=[1,2,3,4,9,10]) (m:=1) (evs:=[.b true,.auto,.ld (.bool eb),.b false,.auto,.auto,.ld (.rsl (rowP le) 0 le.length),.ld (.agg [.int .i64 pe.x,.int .i64 pe.y,.int .i64 pe.z]),.v (.int .i64 (armR r ln pe)),.stop]) (obs:=_) hE.2.1 (hE.nogh _) Qj (by kernel_rfl) ho hg
theorem p60_0_2 (r:Rg) (bs:(List Bool)) (ph:Int) (ln:Int) (sum:Int) (i:Nat) {E:Env} {res:AV} (hE:Qh Try.prog 60 res E) (ho:AllP [(decide ((i:Int)<(r.seats.length:Int)))=false])
 (hr:AvLe (.int .i64 sum) res):G Try.prog E (f60K0 Try.prog) (f60S0 r bs ph ln sum i ) :=
 Qg (n:=400) (evs:=[.b false]) (obs:=_) hE Try.func60 Qj (by kernel_rfl) ho hr
theorem f60W0 (r:Rg) (bs:(List Bool)) (ph:Int) (ln:Int) (sum:Int) (i:Nat) {E:Env} {rv:Int} (hE:Qh Try.prog 60 (.int .i64 rv) E)
 (h:(((i:Int)<(r.seats.length:Int)→(∃ eb:Bool,bs[i]?=some eb∧((eb=true→(∃ le:(List Pt),r.seats[i]?=some le∧(0≤ph∧(∃ pe:Pt,le[Int.toNat ph]?=some pe∧((qK r ln pe)∧((I6 (r.full*(armR r ln pe)))∧((I6 (sum+(r.full*(armR r ln pe))))∧((I6 ((i:Int)+1))∧f60G0 E r bs ph ln (sum+(r.full*(armR r ln pe))) (i+1)))))))))∧(eb=false→(∃ le:(List Pt),r.seats[i]?=some le∧(0≤ph∧(∃ pe:Pt,le[Int.toNat ph]?=some pe∧((qK r ln pe)∧((I6 (r.empty*(armR r ln pe)))∧((I6 (sum+(r.empty*(armR r ln pe))))∧((I6 ((i:Int)+1))∧f60G0 E r bs ph ln (sum+(r.empty*(armR r ln pe))) (i+1))))))))))))∧(¬ ((i:Int)<(r.seats.length:Int))→rv=sum))):f60G0 E r bs ph ln sum i:=by
 rcases bft (decide ((i:Int)<(r.seats.length:Int))) with hc0 | hc0
 · have h:=h.1 (odt hc0)
   obtain ⟨eb,h1,h⟩:=h
   rcases bft eb with hc1 | hc1
   · have h:=h.1 hc1
     obtain ⟨le,h2,h⟩:=h
     obtain ⟨h4,h⟩:=h
     obtain ⟨pe,h3,h⟩:=h
     obtain ⟨h5,h⟩:=h
     obtain ⟨q12_2,h⟩:=h
     obtain ⟨q13_2,h⟩:=h
     obtain ⟨q14_2,h⟩:=h
     exact p60_0_0 r bs ph ln sum i eb le pe hE ⟨hc0,(QJ h1),(rp cB 1 0 1 h1),hc1,(QJ h2),(QM (fun s:List Pt=>[AV.rsl (rowP s) 0 s.length]) (s:=1) (k:=0) (m:=1) (fun _=>rfl) (by decide) h2),(Xh h4 h3),(rp cP 3 0 3 h3),(u88 (Kk r ln pe h5)),q12_2,q13_2,q14_2,trivial⟩ h
   · have h:=h.2 hc1
     obtain ⟨le,h2,h⟩:=h
     obtain ⟨h4,h⟩:=h
     obtain ⟨pe,h3,h⟩:=h
     obtain ⟨h5,h⟩:=h
     obtain ⟨q12_2,h⟩:=h
     obtain ⟨q13_2,h⟩:=h
     obtain ⟨q14_2,h⟩:=h
     exact p60_0_1 r bs ph ln sum i eb le pe hE ⟨hc0,(QJ h1),(rp cB 1 0 1 h1),hc1,(QJ h2),(QM (fun s:List Pt=>[AV.rsl (rowP s) 0 s.length]) (s:=1) (k:=0) (m:=1) (fun _=>rfl) (by decide) h2),(Xh h4 h3),(rp cP 3 0 3 h3),(u88 (Kk r ln pe h5)),q12_2,q13_2,q14_2,trivial⟩ h
 · have h:=h.2 (odf hc0)
   exact p60_0_2 r bs ph ln sum i hE ⟨hc0,trivial⟩ (AvLe.of_eq (by rw [h]; try rfl))
theorem f62b:Try.f62.body=some (Qd Try.prog 62):=by kernel_rfl
theorem u62 {a c k:List AV} {r:AV} (h:Pure Try.prog 62 (a++c++k) r):Qb Try.prog (.clos 62 a k) c r:=Qo Try.func62 (by kernel_rfl) f62b h
def f62K0 (P:Program):List Item:=kAt 400 [.code (Qd P 62)] [.stop]
def f62S0 (r:Rg) (ph:Int) (ln:Int) (i:Nat) (v1:List Bool) (g1:Nat):St:=⟨([J,.int .i64 ph,.int .i64 ln,.ptr 0 0 0,J,J,J,.sl 1 g1 0 v1.length 1,.int .i64 (i:Int)]++Js 23),[⟨true,0,1,true,[.rsl (rowS r.seats) 0 r.seats.length,.rsl (rowP r.feet) 0 r.feet.length,.int .i64 r.frame,.int .i64 r.c.x,.int .i64 r.c.y,.int .i64 r.c.z,.int .i64 r.empty,.int .i64 r.full],false⟩,⟨true,g1,1,true,(rowB v1),true⟩]⟩
def f62G0 (E:Env) (r:Rg) (ph:Int) (ln:Int) (i:Nat) (v1:List Bool):Prop:=∀ g1:Nat,G Try.prog E (f62K0 Try.prog) (f62S0 r ph ln i v1 g1)
theorem p62_start_0 (r:Rg) (ph:Int) (ln:Int) {E:Env} {rv:AV} (hE:Qh Try.prog 62 rv E) (ho:AllP [])
 (hg:G Try.prog E (f62K0 Try.prog) ⟨([J,.int .i64 ph,.int .i64 ln,.ptr 0 0 0,J,J,J,.sl 1 0 0 0 1,.int .i64 0]++Js 23),[⟨true,0,1,true,[.rsl (rowS r.seats) 0 r.seats.length,.rsl (rowP r.feet) 0 r.feet.length,.int .i64 r.frame,.int .i64 r.c.x,.int .i64 r.c.y,.int .i64 r.c.z,.int .i64 r.empty,.int .i64 r.full],false⟩,⟨true,0,1,true,[],true⟩]⟩):G Try.prog E [.code (Qd Try.prog 62)] ⟨[.agg [.rsl (rowS r.seats) 0 r.seats.length,.rsl (rowP r.feet) 0 r.feet.length,.int .i64 r.frame,.int .i64 r.c.x,.int .i64 r.c.y,.int .i64 r.c.z,.int .i64 r.empty,.int .i64 r.full],.int .i64 ph,.int .i64 ln]++unds (Try.f62.ntmps - 3),[]⟩ :=
 Qn (n:=400) (ds:=[(7,1)]) (cs:=[]) (live:=[1,2,3,7,8]) (m:=2) (evs:=[.stop]) (obs:=_) hE.2.1 (hE.nogh _) Qj (by kernel_rfl) ho hg
theorem f62W (r:Rg) (ph:Int) (ln:Int) {E:Env} {rv:(List Bool)} (hE:Qh Try.prog 62 (.rsl (rowB rv) 0 rv.length) E)
 (h:f62G0 E r ph ln 0 ([])):G Try.prog E [.code (Qd Try.prog 62)] ⟨[.agg [.rsl (rowS r.seats) 0 r.seats.length,.rsl (rowP r.feet) 0 r.feet.length,.int .i64 r.frame,.int .i64 r.c.x,.int .i64 r.c.y,.int .i64 r.c.z,.int .i64 r.empty,.int .i64 r.full],.int .i64 ph,.int .i64 ln]++unds (Try.f62.ntmps - 3),[]⟩:=by
 exact p62_start_0 r ph ln hE trivial (h 0)
theorem p62_0_0 (r:Rg) (ph:Int) (ln:Int) (i:Nat) (v1:List Bool) (g1:Nat) (le:(List Pt)) (pe:Pt) {E:Env} {rv:AV} (hE:Qh Try.prog 62 rv E) (ho:AllP [(decide ((i:Int)<(r.seats.length:Int)))=true,0≤(i:Int)∧(i:Int)<(r.seats.length:Int),((rowS r.seats).drop (0+(Int.toNat (i:Int))*1)).take 1=[.rsl (rowP le) 0 le.length],0≤ph∧ph<(le.length:Int),((rowP le).drop (0+(Int.toNat ph)*3)).take 3=[.int .i64 pe.x,.int .i64 pe.y,.int .i64 pe.z],Qb Try.prog (.clos 88 [] []) [.agg [.rsl (rowS r.seats) 0 r.seats.length,.rsl (rowP r.feet) 0 r.feet.length,.int .i64 r.frame,.int .i64 r.c.x,.int .i64 r.c.y,.int .i64 r.c.z,.int .i64 r.empty,.int .i64 r.full],.int .i64 ln,.agg [.int .i64 pe.x,.int .i64 pe.y,.int .i64 pe.z]] (.int .i64 (armR r ln pe)),g1=g1,(0+(v1.length*1))=(rowB v1).length,(v1.length+1)≤2147483648,0=0,InR .i64 ((i:Int)+1)])
 (hg:G Try.prog E (f62K0 Try.prog) ⟨([J,.int .i64 ph,.int .i64 ln,.ptr 0 0 0,J,J,J,.sl 1 (g1+1) 0 (v1.length+1) 1,.int .i64 ((i:Int)+1)]++Js 23),[⟨true,0,1,true,[.rsl (rowS r.seats) 0 r.seats.length,.rsl (rowP r.feet) 0 r.feet.length,.int .i64 r.frame,.int .i64 r.c.x,.int .i64 r.c.y,.int .i64 r.c.z,.int .i64 r.empty,.int .i64 r.full],false⟩,⟨true,(g1+1),1,true,((rowB v1)++[.bool (decide ((armR r ln pe)<0))]),true⟩]⟩):G Try.prog E (f62K0 Try.prog) (f62S0 r ph ln i v1 g1) :=
 Qn (n:=400) (ds:=[]) (cs:=[]) (live:=[1,2,3,7,8]) (m:=2) (evs:=[.b true,.auto,.auto,.ld (.rsl (rowP le) 0 le.length),.ld (.agg [.int .i64 pe.x,.int .i64 pe.y,.int .i64 pe.z]),.v (.int .i64 (armR r ln pe)),.stop]) (obs:=_) hE.2.1 (hE.nogh _) Qj (by kernel_rfl) ho hg
theorem p62_0_1 (r:Rg) (ph:Int) (ln:Int) (i:Nat) (v1:List Bool) (g1:Nat) {E:Env} {res:AV} (hE:Qh Try.prog 62 res E) (ho:AllP [(decide ((i:Int)<(r.seats.length:Int)))=false,g1=g1])
 (hr:AvLe (.rsl (rowB v1) 0 v1.length) res):G Try.prog E (f62K0 Try.prog) (f62S0 r ph ln i v1 g1) :=
 Qg (n:=400) (evs:=[.b false]) (obs:=_) hE Try.func62 Qj (by kernel_rfl) ho hr
theorem f62W0 (r:Rg) (ph:Int) (ln:Int) (i:Nat) (v1:List Bool) {E:Env} {rv:(List Bool)} (hE:Qh Try.prog 62 (.rsl (rowB rv) 0 rv.length) E)
 (h:(((i:Int)<(r.seats.length:Int)→(∃ le:(List Pt),r.seats[i]?=some le∧(0≤ph∧(∃ pe:Pt,le[Int.toNat ph]?=some pe∧((qK r ln pe)∧((v1.length+1)≤2147483648∧((I6 ((i:Int)+1))∧f62G0 E r ph ln (i+1) (v1++[(decide ((armR r ln pe)<0))]))))))))∧(¬ ((i:Int)<(r.seats.length:Int))→rv=v1))):f62G0 E r ph ln i v1:=by
 intro g1
 rcases bft (decide ((i:Int)<(r.seats.length:Int))) with hc0 | hc0
 · have h:=h.1 (odt hc0)
   obtain ⟨le,h1,h⟩:=h
   obtain ⟨h3,h⟩:=h
   obtain ⟨pe,h2,h⟩:=h
   obtain ⟨h4,h⟩:=h
   obtain ⟨h5,h⟩:=h
   obtain ⟨q12_1,h⟩:=h
   refine p62_0_0 r ph ln i v1 g1 le pe hE ⟨hc0,(QJ h1),(QM (fun s:List Pt=>[AV.rsl (rowP s) 0 s.length]) (s:=1) (k:=0) (m:=1) (fun _=>rfl) (by decide) h1),(Xh h3 h2),(rp cP 3 0 3 h2),(u88 (Kk r ln pe h4)),rfl,(by have hx:=XH cB (s:=1) (fun _=>rfl) v1; simp only [rowB] at hx ⊢; rw [hx]; simp),h5,rfl,q12_1,trivial⟩ ?_
   rw [(show rowB v1++[.bool (decide ((armR r ln pe)<0))]=rowB (v1++[(decide ((armR r ln pe)<0))]) from (VB cB v1 [(decide ((armR r ln pe)<0))]).symm)]; rw [(show (v1.length+1)=(v1++[(decide ((armR r ln pe)<0))]).length from by simp)]; exact (h (g1+1))
 · have h:=h.2 (odf hc0)
   exact p62_0_1 r ph ln i v1 g1 hE ⟨hc0,rfl,trivial⟩ (AvLe.of_eq (by rw [h]; try rfl))
/-! ### CheckRig,Moment,Bears,Least -/
theorem Yc {r:Rg} (h:Xj r=false):(33:Int)=Qf r:=by simp [Qf,Xw,h]
theorem Wk (r:Rg) (bs:List Bool) (ph ln:Int) (h:Xq r ph ln∧bs.length=r.seats.length):Pure Try.prog 60 [.agg [.rsl (rowS r.seats) 0 r.seats.length,.rsl (rowP r.feet) 0 r.feet.length,.int .i64 r.frame,.int .i64 r.c.x,.int .i64 r.c.y,.int .i64 r.c.z,.int .i64 r.empty,.int .i64 r.full],.rsl (rowB bs) 0 bs.length,.int .i64 ph,.int .i64 ln] (.int .i64 (Qs r ph ln bs)):=Qw Try.func60 f60b fun E hE=>by
 obtain ⟨⟨h0,h1,h2,h3,h4⟩,h5⟩:=h
 obtain ⟨p,rfl⟩:=Int.eq_ofNat_of_zero_le h1
 obtain ⟨v,rfl⟩:=Int.eq_ofNat_of_zero_le h3
 obtain ⟨l1,l2⟩:=YP h0.ok (v:=v) (by omega)
 obtain ⟨k1,k2,k3⟩:=VF h0.ok l1 l2
 have h8:=h0.ok.feet1
 have h20:=h0.ok.seats
 have hmom:Qs r p v bs=XV r p (QD r v) fun i _=>bs.getD i false:=rfl
 rw [hmom] at hE
 have hR:∀ q,armR r v q=arm (QD r v).1 (QD r v).2 q:=fun q=>rfl
 have hRk:∀ q,Yg (QD r v).1 (QD r v).2 q→qK r v q:=fun q hq=>⟨h3,h4,by omega,hq⟩
 have key:∀ (d i:Nat) (sum:Int),i+d=r.seats.length→-(800000000000000*(i+1))≤sum→sum≤800000000000000*(i+1)→Xi r (QD r v).1 (QD r v).2 p (fun i _=>bs.getD i false) (r.seats.drop i) i sum=XV r p (QD r v) (fun i _=>bs.getD i false) →
  f60G0 E r bs p v sum i:=by
  intro d
  induction d with
  | zero =>
   intro i sum hd _ _ hs
   rw [List.drop_eq_nil_of_le (by omega)] at hs
   exact f60W0 r bs p v sum i hE ⟨fun h=>by omega,fun _=>by rw [← hs]; rfl⟩
  | succ d ih =>
   intro i sum hd hs1 hs2 hs
   have hi:i<r.seats.length:=by omega
   have hg:r.seats[i]?=some r.seats[i]:=by simp [hi]
   have hbg:bs[i]?=some (bs.getD i false):=by simp [List.getD,show i<bs.length by omega]
   have sf:=YJ h0.ok (ph:=p) (by omega) l1 l2 hg
   rw [List.drop_eq_getElem_cons hi] at hs
   simp only [Xi] at hs
   have e0:=sf.e0
   have e1:=sf.e1
   have f0:=sf.f0
   have f1:=sf.f1
   refine f60W0 r bs p v sum i hE ⟨fun _=>⟨_,hbg,fun hb=>⟨_,hg,h1,_,sf.get,hRk _ sf.ok,?_⟩,fun hb=>⟨_,hg,h1,_,sf.get,hRk _ sf.ok,?_⟩⟩,fun h=>by omega⟩
   · rw [hR]
     rw [hb] at hs
     exact ⟨by omega,by omega,by omega,ih (i+1) _ (by omega) (by omega) (by omega) hs⟩
   · rw [hR]
     rw [hb] at hs
     exact ⟨by omega,by omega,by omega,ih (i+1) _ (by omega) (by omega) (by omega) hs⟩
 refine f60W r bs p v hE ⟨hRk _ k1,?_⟩
 rw [hR]
 exact ⟨by omega,key r.seats.length 0 _ (by omega) (by omega) (by omega) rfl⟩
theorem qX (r:Rg) (ph ln:Int) (h:Xq r ph ln):Pure Try.prog 62 [.agg [.rsl (rowS r.seats) 0 r.seats.length,.rsl (rowP r.feet) 0 r.feet.length,.int .i64 r.frame,.int .i64 r.c.x,.int .i64 r.c.y,.int .i64 r.c.z,.int .i64 r.empty,.int .i64 r.full],.int .i64 ph,.int .i64 ln] (.rsl (rowB (QN r ph ln)) 0 (QN r ph ln).length):=Qw Try.func62 f62b fun E hE=>by
 obtain ⟨h0,h1,h2,h3,h4⟩:=h
 obtain ⟨p,rfl⟩:=Int.eq_ofNat_of_zero_le h1
 obtain ⟨v,rfl⟩:=Int.eq_ofNat_of_zero_le h3
 obtain ⟨l1,l2⟩:=YP h0.ok (v:=v) (by omega)
 have h8:=h0.ok.feet1
 have h20:=h0.ok.seats
 have hRk:∀ q,Yg (QD r v).1 (QD r v).2 q→qK r v q:=fun q hq=>⟨h3,h4,by omega,hq⟩
 have key:∀ (d i:Nat),i+d=r.seats.length→f62G0 E r p v i ((QN r p v).take i):=by
  intro d
  induction d with
  | zero =>
   intro i hd
   refine f62W0 r p v i _ (rv:=QN r p v) hE ⟨fun h=>by omega,fun _=>?_⟩
   rw [List.take_of_length_le (by simp [QN]; omega)]
  | succ d ih =>
   intro i hd
   have hi:i<r.seats.length:=by omega
   have hg:r.seats[i]?=some r.seats[i]:=by simp [hi]
   have sf:=YJ h0.ok (ph:=p) (by omega) l1 l2 hg
   refine f62W0 r p v i _ (rv:=QN r p v) hE ⟨fun _=>⟨_,hg,h1,_,sf.get,hRk _ sf.ok,by rw [List.length_take]; omega,by omega,?_⟩,fun h=>by omega⟩
   have:=ih (i+1) (by omega)
   have hw:(QN r p v)[i]?=some (decide (armR r v (r.seats[i].getD p ⟨0,0,0⟩)<0)):=by simp [QN,hi]
   rw [List.take_add_one,hw] at this
   exact this
 exact f62W r p v (rv:=QN r p v) hE (key r.seats.length 0 (by omega))
theorem yZ (r:Rg) (ph ln:Int):Qs r ph ln (QN r ph ln)=Yd r ph ln:=by
 unfold Qs Yd XV
 have key:∀ (d i:Nat) (sum:Int),i+d=r.seats.length→Xi r (QD r ln.toNat).1 (QD r ln.toNat).2 ph.toNat (fun i _=>(QN r ph ln).getD i false) (r.seats.drop i) i sum=Xi r (QD r ln.toNat).1 (QD r ln.toNat).2 ph.toNat outF (r.seats.drop i) i sum:=by
  intro d
  induction d with
  | zero=>intro i sum hd; rw [List.drop_eq_nil_of_le (by omega)]; rfl
  | succ d ih =>
   intro i sum hd
   have hi:i<r.seats.length:=by omega
   rw [List.drop_eq_getElem_cons hi]
   simp only [Xi]
   have hw:(QN r ph ln)[i]?=some (decide (armR r ln (r.seats[i].getD ph.toNat ⟨0,0,0⟩)<0)):=by simp [QN,hi]
   have:(QN r ph ln).getD i false=outF i (arm (QD r ln.toNat).1 (QD r ln.toNat).2 (r.seats[i].getD ph.toNat ⟨0,0,0⟩)):=by
    rw [List.getD_eq_getElem?_getD,hw]; rfl
   rw [this]
   exact ih (i+1) _ (by omega)
 exact key r.seats.length 0 _ (by omega)
theorem f34b:Try.f34.body=some (Qd Try.prog 34):=by kernel_rfl
theorem u34 {a c k:List AV} {r:AV} (h:Pure Try.prog 34 (a++c++k) r):Qb Try.prog (.clos 34 a k) c r:=Qo Try.func34 (by kernel_rfl) f34b h
def f34K0 (P:Program):List Item:=kAt 400 [.code (Qd P 34)] [.b false,.stop]
def f34S0 (r:Rg) (i:Nat):St:=⟨([J,.ptr 0 0 0,J,.int .i64 (i:Int)]++Js 135),[⟨true,0,1,true,[.rsl (rowS r.seats) 0 r.seats.length,.rsl (rowP r.feet) 0 r.feet.length,.int .i64 r.frame,.int .i64 r.c.x,.int .i64 r.c.y,.int .i64 r.c.z,.int .i64 r.empty,.int .i64 r.full],false⟩]⟩
def f34G0 (E:Env) (r:Rg) (i:Nat):Prop:=G Try.prog E (f34K0 Try.prog) (f34S0 r i )
def f34K1 (P:Program):List Item:=kAt 400 [.code (Qd P 34)] [.b false,.b false,.stop]
def f34S1 (r:Rg) (i:Nat):St:=⟨([J,.ptr 0 0 0,J,J,.int .i64 (r.feet.length:Int),.int .i64 (i:Int)]++Js 133),[⟨true,0,1,true,[.rsl (rowS r.seats) 0 r.seats.length,.rsl (rowP r.feet) 0 r.feet.length,.int .i64 r.frame,.int .i64 r.c.x,.int .i64 r.c.y,.int .i64 r.c.z,.int .i64 r.empty,.int .i64 r.full],false⟩]⟩
def f34G1 (E:Env) (r:Rg) (i:Nat):Prop:=G Try.prog E (f34K1 Try.prog) (f34S1 r i )
def f34K2 (P:Program):List Item:=kAt 400 [.code (Qd P 34)] [.b false,.b false,.b false,.stop]
def f34S2 (r:Rg) (i:Nat):St:=⟨([J,.ptr 0 0 0,J,J,.int .i64 (r.feet.length:Int),J,.int .i64 (i:Int)]++Js 132),[⟨true,0,1,true,[.rsl (rowS r.seats) 0 r.seats.length,.rsl (rowP r.feet) 0 r.feet.length,.int .i64 r.frame,.int .i64 r.c.x,.int .i64 r.c.y,.int .i64 r.c.z,.int .i64 r.empty,.int .i64 r.full],false⟩]⟩
def f34G2 (E:Env) (r:Rg) (i:Nat):Prop:=G Try.prog E (f34K2 Try.prog) (f34S2 r i )
def qT (P:Program):List Item:=kAt 400 [.code (Qd P 34)] [.b false,.b false,.b false,.b true,.stop]
def f34S3 (r:Rg) (k:Nat) (i:Nat):St:=⟨([J,.ptr 0 0 0,J,J,.int .i64 (r.feet.length:Int),J,.int .i64 (i:Int),.int .i64 (k:Int)]++Js 131),[⟨true,0,1,true,[.rsl (rowS r.seats) 0 r.seats.length,.rsl (rowP r.feet) 0 r.feet.length,.int .i64 r.frame,.int .i64 r.c.x,.int .i64 r.c.y,.int .i64 r.c.z,.int .i64 r.empty,.int .i64 r.full],false⟩]⟩
def f34G3 (E:Env) (r:Rg) (k:Nat) (i:Nat):Prop:=G Try.prog E (qT Try.prog) (f34S3 r k i )
theorem p34_start_0 (r:Rg) {E:Env} {res:AV} (hE:Qh Try.prog 34 res E) (ho:AllP [(decide ((r.seats.length:Int) > 20))=true,true=true,true=true,true=true,true=true,true=true])
 (hr:AvLe (.int .i64 33) res):G Try.prog E [.code (Qd Try.prog 34)] ⟨[.agg [.rsl (rowS r.seats) 0 r.seats.length,.rsl (rowP r.feet) 0 r.feet.length,.int .i64 r.frame,.int .i64 r.c.x,.int .i64 r.c.y,.int .i64 r.c.z,.int .i64 r.empty,.int .i64 r.full]]++unds (Try.f34.ntmps - 1),[]⟩ :=
 Qg (n:=400) (evs:=[.b true,.b true,.b true,.b true,.b true,.b true]) (obs:=_) hE Try.func34 Qj (by kernel_rfl) ho hr
theorem p34_start_1 (r:Rg) {E:Env} {res:AV} (hE:Qh Try.prog 34 res E) (ho:AllP [(decide ((r.seats.length:Int) > 20))=false,Qb Try.prog (.clos 54 [] []) [.int .i64 (r.feet.length:Int),.int .i64 3,.int .i64 8] (.bool (Qc (r.feet.length:Int) 3 8)),(!(Qc (r.feet.length:Int) 3 8))=true,true=true,true=true,true=true,true=true])
 (hr:AvLe (.int .i64 33) res):G Try.prog E [.code (Qd Try.prog 34)] ⟨[.agg [.rsl (rowS r.seats) 0 r.seats.length,.rsl (rowP r.feet) 0 r.feet.length,.int .i64 r.frame,.int .i64 r.c.x,.int .i64 r.c.y,.int .i64 r.c.z,.int .i64 r.empty,.int .i64 r.full]]++unds (Try.f34.ntmps - 1),[]⟩ :=
 Qg (n:=400) (evs:=[.b false,.v (.bool (Qc (r.feet.length:Int) 3 8)),.b true,.b true,.b true,.b true,.b true]) (obs:=_) hE Try.func34 Qj (by kernel_rfl) ho hr
theorem p34_start_2 (r:Rg) {E:Env} {res:AV} (hE:Qh Try.prog 34 res E) (ho:AllP [(decide ((r.seats.length:Int) > 20))=false,Qb Try.prog (.clos 54 [] []) [.int .i64 (r.feet.length:Int),.int .i64 3,.int .i64 8] (.bool (Qc (r.feet.length:Int) 3 8)),(!(Qc (r.feet.length:Int) 3 8))=false,Qb Try.prog (.clos 54 [] []) [.int .i64 r.frame,.int .i64 0,.int .i64 1000000] (.bool (Qc r.frame 0 1000000)),(!(Qc r.frame 0 1000000))=true,true=true,true=true,true=true])
 (hr:AvLe (.int .i64 33) res):G Try.prog E [.code (Qd Try.prog 34)] ⟨[.agg [.rsl (rowS r.seats) 0 r.seats.length,.rsl (rowP r.feet) 0 r.feet.length,.int .i64 r.frame,.int .i64 r.c.x,.int .i64 r.c.y,.int .i64 r.c.z,.int .i64 r.empty,.int .i64 r.full]]++unds (Try.f34.ntmps - 1),[]⟩ :=
 Qg (n:=400) (evs:=[.b false,.v (.bool (Qc (r.feet.length:Int) 3 8)),.b false,.v (.bool (Qc r.frame 0 1000000)),.b true,.b true,.b true,.b true]) (obs:=_) hE Try.func34 Qj (by kernel_rfl) ho hr
theorem p34_start_3 (r:Rg) {E:Env} {res:AV} (hE:Qh Try.prog 34 res E) (ho:AllP [(decide ((r.seats.length:Int) > 20))=false,Qb Try.prog (.clos 54 [] []) [.int .i64 (r.feet.length:Int),.int .i64 3,.int .i64 8] (.bool (Qc (r.feet.length:Int) 3 8)),(!(Qc (r.feet.length:Int) 3 8))=false,Qb Try.prog (.clos 54 [] []) [.int .i64 r.frame,.int .i64 0,.int .i64 1000000] (.bool (Qc r.frame 0 1000000)),(!(Qc r.frame 0 1000000))=false,Qb Try.prog (.clos 54 [] []) [.int .i64 r.empty,.int .i64 0,.int .i64 r.full] (.bool (Qc r.empty 0 r.full)),(!(Qc r.empty 0 r.full))=true,true=true,true=true])
 (hr:AvLe (.int .i64 33) res):G Try.prog E [.code (Qd Try.prog 34)] ⟨[.agg [.rsl (rowS r.seats) 0 r.seats.length,.rsl (rowP r.feet) 0 r.feet.length,.int .i64 r.frame,.int .i64 r.c.x,.int .i64 r.c.y,.int .i64 r.c.z,.int .i64 r.empty,.int .i64 r.full]]++unds (Try.f34.ntmps - 1),[]⟩ :=
 Qg (n:=400) (evs:=[.b false,.v (.bool (Qc (r.feet.length:Int) 3 8)),.b false,.v (.bool (Qc r.frame 0 1000000)),.b false,.v (.bool (Qc r.empty 0 r.full)),.b true,.b true,.b true]) (obs:=_) hE Try.func34 Qj (by kernel_rfl) ho hr
theorem p34_start_4 (r:Rg) {E:Env} {res:AV} (hE:Qh Try.prog 34 res E) (ho:AllP [(decide ((r.seats.length:Int) > 20))=false,Qb Try.prog (.clos 54 [] []) [.int .i64 (r.feet.length:Int),.int .i64 3,.int .i64 8] (.bool (Qc (r.feet.length:Int) 3 8)),(!(Qc (r.feet.length:Int) 3 8))=false,Qb Try.prog (.clos 54 [] []) [.int .i64 r.frame,.int .i64 0,.int .i64 1000000] (.bool (Qc r.frame 0 1000000)),(!(Qc r.frame 0 1000000))=false,Qb Try.prog (.clos 54 [] []) [.int .i64 r.empty,.int .i64 0,.int .i64 r.full] (.bool (Qc r.empty 0 r.full)),(!(Qc r.empty 0 r.full))=false,(decide (r.full > 1000000))=true,true=true])
 (hr:AvLe (.int .i64 33) res):G Try.prog E [.code (Qd Try.prog 34)] ⟨[.agg [.rsl (rowS r.seats) 0 r.seats.length,.rsl (rowP r.feet) 0 r.feet.length,.int .i64 r.frame,.int .i64 r.c.x,.int .i64 r.c.y,.int .i64 r.c.z,.int .i64 r.empty,.int .i64 r.full]]++unds (Try.f34.ntmps - 1),[]⟩ :=
 Qg (n:=400) (evs:=[.b false,.v (.bool (Qc (r.feet.length:Int) 3 8)),.b false,.v (.bool (Qc r.frame 0 1000000)),.b false,.v (.bool (Qc r.empty 0 r.full)),.b false,.b true,.b true]) (obs:=_) hE Try.func34 Qj (by kernel_rfl) ho hr
theorem p34_start_5 (r:Rg) {E:Env} {res:AV} (hE:Qh Try.prog 34 res E) (ho:AllP [(decide ((r.seats.length:Int) > 20))=false,Qb Try.prog (.clos 54 [] []) [.int .i64 (r.feet.length:Int),.int .i64 3,.int .i64 8] (.bool (Qc (r.feet.length:Int) 3 8)),(!(Qc (r.feet.length:Int) 3 8))=false,Qb Try.prog (.clos 54 [] []) [.int .i64 r.frame,.int .i64 0,.int .i64 1000000] (.bool (Qc r.frame 0 1000000)),(!(Qc r.frame 0 1000000))=false,Qb Try.prog (.clos 54 [] []) [.int .i64 r.empty,.int .i64 0,.int .i64 r.full] (.bool (Qc r.empty 0 r.full)),(!(Qc r.empty 0 r.full))=false,(decide (r.full > 1000000))=false,Qb Try.prog (.clos 65 [] []) [.agg [.int .i64 r.c.x,.int .i64 r.c.y,.int .i64 r.c.z]] (.bool (Qm r.c)),(!(Qm r.c))=true])
 (hr:AvLe (.int .i64 33) res):G Try.prog E [.code (Qd Try.prog 34)] ⟨[.agg [.rsl (rowS r.seats) 0 r.seats.length,.rsl (rowP r.feet) 0 r.feet.length,.int .i64 r.frame,.int .i64 r.c.x,.int .i64 r.c.y,.int .i64 r.c.z,.int .i64 r.empty,.int .i64 r.full]]++unds (Try.f34.ntmps - 1),[]⟩ :=
 Qg (n:=400) (evs:=[.b false,.v (.bool (Qc (r.feet.length:Int) 3 8)),.b false,.v (.bool (Qc r.frame 0 1000000)),.b false,.v (.bool (Qc r.empty 0 r.full)),.b false,.b false,.v (.bool (Qm r.c)),.b true]) (obs:=_) hE Try.func34 Qj (by kernel_rfl) ho hr
theorem p34_start_6 (r:Rg) {E:Env} {rv:AV} (hE:Qh Try.prog 34 rv E) (ho:AllP [(decide ((r.seats.length:Int) > 20))=false,Qb Try.prog (.clos 54 [] []) [.int .i64 (r.feet.length:Int),.int .i64 3,.int .i64 8] (.bool (Qc (r.feet.length:Int) 3 8)),(!(Qc (r.feet.length:Int) 3 8))=false,Qb Try.prog (.clos 54 [] []) [.int .i64 r.frame,.int .i64 0,.int .i64 1000000] (.bool (Qc r.frame 0 1000000)),(!(Qc r.frame 0 1000000))=false,Qb Try.prog (.clos 54 [] []) [.int .i64 r.empty,.int .i64 0,.int .i64 r.full] (.bool (Qc r.empty 0 r.full)),(!(Qc r.empty 0 r.full))=false,(decide (r.full > 1000000))=false,Qb Try.prog (.clos 65 [] []) [.agg [.int .i64 r.c.x,.int .i64 r.c.y,.int .i64 r.c.z]] (.bool (Qm r.c)),(!(Qm r.c))=false])
 (hg:G Try.prog E (f34K0 Try.prog) ⟨([J,.ptr 0 0 0,J,.int .i64 0]++Js 135),[⟨true,0,1,true,[.rsl (rowS r.seats) 0 r.seats.length,.rsl (rowP r.feet) 0 r.feet.length,.int .i64 r.frame,.int .i64 r.c.x,.int .i64 r.c.y,.int .i64 r.c.z,.int .i64 r.empty,.int .i64 r.full],false⟩]⟩):G Try.prog E [.code (Qd Try.prog 34)] ⟨[.agg [.rsl (rowS r.seats) 0 r.seats.length,.rsl (rowP r.feet) 0 r.feet.length,.int .i64 r.frame,.int .i64 r.c.x,.int .i64 r.c.y,.int .i64 r.c.z,.int .i64 r.empty,.int .i64 r.full]]++unds (Try.f34.ntmps - 1),[]⟩ :=
 Qn (n:=400) (ds:=[]) (cs:=[]) (live:=[1,3]) (m:=1) (evs:=[.b false,.v (.bool (Qc (r.feet.length:Int) 3 8)),.b false,.v (.bool (Qc r.frame 0 1000000)),.b false,.v (.bool (Qc r.empty 0 r.full)),.b false,.b false,.v (.bool (Qm r.c)),.b false,.stop]) (obs:=_) hE.2.1 (hE.nogh _) Qj (by kernel_rfl) ho hg
theorem f34W (r:Rg) {E:Env} {rv:Int} (hE:Qh Try.prog 34 (.int .i64 rv) E)
 (h:(((r.seats.length:Int) > 20→rv=33)∧(¬ ((r.seats.length:Int) > 20)→(((Qc (r.feet.length:Int) 3 8)=false→rv=33)∧((Qc (r.feet.length:Int) 3 8)=true→(((Qc r.frame 0 1000000)=false→rv=33)∧((Qc r.frame 0 1000000)=true→(((Qc r.empty 0 r.full)=false→rv=33)∧((Qc r.empty 0 r.full)=true→((r.full > 1000000→rv=33)∧(¬ (r.full > 1000000)→(((Qm r.c)=false→rv=33)∧((Qm r.c)=true→f34G0 E r 0))))))))))))):G Try.prog E [.code (Qd Try.prog 34)] ⟨[.agg [.rsl (rowS r.seats) 0 r.seats.length,.rsl (rowP r.feet) 0 r.feet.length,.int .i64 r.frame,.int .i64 r.c.x,.int .i64 r.c.y,.int .i64 r.c.z,.int .i64 r.empty,.int .i64 r.full]]++unds (Try.f34.ntmps - 1),[]⟩:=by
 rcases bft (decide ((r.seats.length:Int) > 20)) with hc0 | hc0
 · have h:=h.1 (odt hc0)
   exact p34_start_0 r hE ⟨hc0,rfl,rfl,rfl,rfl,rfl,trivial⟩ (AvLe.of_eq (by rw [h]; try rfl))
 · have h:=h.2 (odf hc0)
   rcases bft (!(Qc (r.feet.length:Int) 3 8)) with hc1 | hc1
   · have h:=h.1 (bnT hc1)
     exact p34_start_1 r hE ⟨hc0,(u54 (XI (r.feet.length:Int) 3 8)),hc1,rfl,rfl,rfl,rfl,trivial⟩ (AvLe.of_eq (by rw [h]; try rfl))
   · have h:=h.2 (bnF hc1)
     rcases bft (!(Qc r.frame 0 1000000)) with hc2 | hc2
     · have h:=h.1 (bnT hc2)
       exact p34_start_2 r hE ⟨hc0,(u54 (XI (r.feet.length:Int) 3 8)),hc1,(u54 (XI r.frame 0 1000000)),hc2,rfl,rfl,rfl,trivial⟩ (AvLe.of_eq (by rw [h]; try rfl))
     · have h:=h.2 (bnF hc2)
       rcases bft (!(Qc r.empty 0 r.full)) with hc3 | hc3
       · have h:=h.1 (bnT hc3)
         exact p34_start_3 r hE ⟨hc0,(u54 (XI (r.feet.length:Int) 3 8)),hc1,(u54 (XI r.frame 0 1000000)),hc2,(u54 (XI r.empty 0 r.full)),hc3,rfl,rfl,trivial⟩ (AvLe.of_eq (by rw [h]; try rfl))
       · have h:=h.2 (bnF hc3)
         rcases bft (decide (r.full > 1000000)) with hc4 | hc4
         · have h:=h.1 (odt hc4)
           exact p34_start_4 r hE ⟨hc0,(u54 (XI (r.feet.length:Int) 3 8)),hc1,(u54 (XI r.frame 0 1000000)),hc2,(u54 (XI r.empty 0 r.full)),hc3,hc4,rfl,trivial⟩ (AvLe.of_eq (by rw [h]; try rfl))
         · have h:=h.2 (odf hc4)
           rcases bft (!(Qm r.c)) with hc5 | hc5
           · have h:=h.1 (bnT hc5)
             exact p34_start_5 r hE ⟨hc0,(u54 (XI (r.feet.length:Int) 3 8)),hc1,(u54 (XI r.frame 0 1000000)),hc2,(u54 (XI r.empty 0 r.full)),hc3,hc4,(u65 (Yi r.c)),hc5,trivial⟩ (AvLe.of_eq (by rw [h]; try rfl))
           · have h:=h.2 (bnF hc5)
             exact p34_start_6 r hE ⟨hc0,(u54 (XI (r.feet.length:Int) 3 8)),hc1,(u54 (XI r.frame 0 1000000)),hc2,(u54 (XI r.empty 0 r.full)),hc3,hc4,(u65 (Yi r.c)),hc5,trivial⟩ h
theorem p34_0_0 (r:Rg) (i:Nat) (le:(List Pt)) {E:Env} {res:AV} (hE:Qh Try.prog 34 res E) (ho:AllP [(decide ((i:Int)<(r.seats.length:Int)))=true,0≤(i:Int)∧(i:Int)<(r.seats.length:Int),((rowS r.seats).drop (0+(Int.toNat (i:Int))*1)).take 1=[.rsl (rowP le) 0 le.length],Qb Try.prog (.clos 53 [] []) [.rsl (rowP le) 0 le.length] (.int .i64 (XT le)),((XT le) != 0)=true,true=true])
 (hr:AvLe (.int .i64 33) res):G Try.prog E (f34K0 Try.prog) (f34S0 r i ) :=
 Qg (n:=400) (evs:=[.b true,.auto,.ld (.rsl (rowP le) 0 le.length),.v (.int .i64 (XT le)),.b true,.b true]) (obs:=_) hE Try.func34 Qj (by kernel_rfl) ho hr
theorem p34_0_1 (r:Rg) (i:Nat) (le:(List Pt)) (le1:(List Pt)) {E:Env} {res:AV} (hE:Qh Try.prog 34 res E) (ho:AllP [(decide ((i:Int)<(r.seats.length:Int)))=true,0≤(i:Int)∧(i:Int)<(r.seats.length:Int),((rowS r.seats).drop (0+(Int.toNat (i:Int))*1)).take 1=[.rsl (rowP le) 0 le.length],Qb Try.prog (.clos 53 [] []) [.rsl (rowP le) 0 le.length] (.int .i64 (XT le)),((XT le) != 0)=false,0≤(i:Int)∧(i:Int)<(r.seats.length:Int),((rowS r.seats).drop (0+(Int.toNat (i:Int))*1)).take 1=[.rsl (rowP le) 0 le.length],(0:Int)≤0∧(0:Int)<(r.seats.length:Int),((rowS r.seats).drop (0+0*1)).take 1=[.rsl (rowP le1) 0 le1.length],((le.length:Int) != (le1.length:Int))=true])
 (hr:AvLe (.int .i64 33) res):G Try.prog E (f34K0 Try.prog) (f34S0 r i ) :=
 Qg (n:=400) (evs:=[.b true,.auto,.ld (.rsl (rowP le) 0 le.length),.v (.int .i64 (XT le)),.b false,.auto,.ld (.rsl (rowP le) 0 le.length),.auto,.ld (.rsl (rowP le1) 0 le1.length),.b true]) (obs:=_) hE Try.func34 Qj (by kernel_rfl) ho hr
theorem p34_0_2 (r:Rg) (i:Nat) (le:(List Pt)) (le1:(List Pt)) {E:Env} {rv:AV} (hE:Qh Try.prog 34 rv E) (ho:AllP [(decide ((i:Int)<(r.seats.length:Int)))=true,0≤(i:Int)∧(i:Int)<(r.seats.length:Int),((rowS r.seats).drop (0+(Int.toNat (i:Int))*1)).take 1=[.rsl (rowP le) 0 le.length],Qb Try.prog (.clos 53 [] []) [.rsl (rowP le) 0 le.length] (.int .i64 (XT le)),((XT le) != 0)=false,0≤(i:Int)∧(i:Int)<(r.seats.length:Int),((rowS r.seats).drop (0+(Int.toNat (i:Int))*1)).take 1=[.rsl (rowP le) 0 le.length],(0:Int)≤0∧(0:Int)<(r.seats.length:Int),((rowS r.seats).drop (0+0*1)).take 1=[.rsl (rowP le1) 0 le1.length],((le.length:Int) != (le1.length:Int))=false,InR .i64 ((i:Int)+1)])
 (hg:G Try.prog E (f34K0 Try.prog) ⟨([J,.ptr 0 0 0,J,.int .i64 ((i:Int)+1)]++Js 135),[⟨true,0,1,true,[.rsl (rowS r.seats) 0 r.seats.length,.rsl (rowP r.feet) 0 r.feet.length,.int .i64 r.frame,.int .i64 r.c.x,.int .i64 r.c.y,.int .i64 r.c.z,.int .i64 r.empty,.int .i64 r.full],false⟩]⟩):G Try.prog E (f34K0 Try.prog) (f34S0 r i ) :=
 Qn (n:=400) (ds:=[]) (cs:=[]) (live:=[1,3]) (m:=1) (evs:=[.b true,.auto,.ld (.rsl (rowP le) 0 le.length),.v (.int .i64 (XT le)),.b false,.auto,.ld (.rsl (rowP le) 0 le.length),.auto,.ld (.rsl (rowP le1) 0 le1.length),.b false,.stop]) (obs:=_) hE.2.1 (hE.nogh _) Qj (by kernel_rfl) ho hg
theorem p34_0_3 (r:Rg) (i:Nat) {E:Env} {rv:AV} (hE:Qh Try.prog 34 rv E) (ho:AllP [(decide ((i:Int)<(r.seats.length:Int)))=false])
 (hg:G Try.prog E (f34K1 Try.prog) ⟨([J,.ptr 0 0 0,J,J,.int .i64 (r.feet.length:Int),.int .i64 0]++Js 133),[⟨true,0,1,true,[.rsl (rowS r.seats) 0 r.seats.length,.rsl (rowP r.feet) 0 r.feet.length,.int .i64 r.frame,.int .i64 r.c.x,.int .i64 r.c.y,.int .i64 r.c.z,.int .i64 r.empty,.int .i64 r.full],false⟩]⟩):G Try.prog E (f34K0 Try.prog) (f34S0 r i ) :=
 Qn (n:=400) (ds:=[]) (cs:=[]) (live:=[1,4,5]) (m:=1) (evs:=[.b false,.stop]) (obs:=_) hE.2.1 (hE.nogh _) Qj (by kernel_rfl) ho hg
theorem f34W0 (r:Rg) (i:Nat) {E:Env} {rv:Int} (hE:Qh Try.prog 34 (.int .i64 rv) E)
 (h:(((i:Int)<(r.seats.length:Int)→(∃ le:(List Pt),r.seats[i]?=some le∧((le.length≤1000)∧((¬ ((XT le)=0)→rv=33)∧((XT le)=0→(∃ le1:(List Pt),r.seats[0]?=some le1∧((¬ ((le.length:Int)=(le1.length:Int))→rv=33)∧((le.length:Int)=(le1.length:Int)→((I6 ((i:Int)+1))∧f34G0 E r (i+1))))))))))∧(¬ ((i:Int)<(r.seats.length:Int))→f34G1 E r 0))):f34G0 E r i:=by
 rcases bft (decide ((i:Int)<(r.seats.length:Int))) with hc0 | hc0
 · have h:=h.1 (odt hc0)
   obtain ⟨le,h1,h⟩:=h
   obtain ⟨h2,h⟩:=h
   rcases bft ((XT le) != 0) with hc1 | hc1
   · have h:=h.1 (bneT hc1)
     exact p34_0_0 r i le hE ⟨hc0,(QJ h1),(QM (fun s:List Pt=>[AV.rsl (rowP s) 0 s.length]) (s:=1) (k:=0) (m:=1) (fun _=>rfl) (by decide) h1),(u53 (Vk le h2)),hc1,rfl,trivial⟩ (AvLe.of_eq (by rw [h]; try rfl))
   · have h:=h.2 (bneF hc1)
     obtain ⟨le1,h3,h⟩:=h
     rcases bft ((le.length:Int) != (le1.length:Int)) with hc2 | hc2
     · have h:=h.1 (bneT hc2)
       exact p34_0_1 r i le le1 hE ⟨hc0,(QJ h1),(QM (fun s:List Pt=>[AV.rsl (rowP s) 0 s.length]) (s:=1) (k:=0) (m:=1) (fun _=>rfl) (by decide) h1),(u53 (Vk le h2)),hc1,(QJ h1),(QM (fun s:List Pt=>[AV.rsl (rowP s) 0 s.length]) (s:=1) (k:=0) (m:=1) (fun _=>rfl) (by decide) h1),(QJ h3),(QM (fun s:List Pt=>[AV.rsl (rowP s) 0 s.length]) (s:=1) (k:=0) (m:=1) (fun _=>rfl) (by decide) h3),hc2,trivial⟩ (AvLe.of_eq (by rw [h]; try rfl))
     · have h:=h.2 (bneF hc2)
       obtain ⟨q12_3,h⟩:=h
       exact p34_0_2 r i le le1 hE ⟨hc0,(QJ h1),(QM (fun s:List Pt=>[AV.rsl (rowP s) 0 s.length]) (s:=1) (k:=0) (m:=1) (fun _=>rfl) (by decide) h1),(u53 (Vk le h2)),hc1,(QJ h1),(QM (fun s:List Pt=>[AV.rsl (rowP s) 0 s.length]) (s:=1) (k:=0) (m:=1) (fun _=>rfl) (by decide) h1),(QJ h3),(QM (fun s:List Pt=>[AV.rsl (rowP s) 0 s.length]) (s:=1) (k:=0) (m:=1) (fun _=>rfl) (by decide) h3),hc2,q12_3,trivial⟩ h
 · have h:=h.2 (odf hc0)
   exact p34_0_3 r i hE ⟨hc0,trivial⟩ h
theorem p34_1_0 (r:Rg) (i:Nat) (pe:Pt) {E:Env} {res:AV} (hE:Qh Try.prog 34 res E) (ho:AllP [(decide ((i:Int)<(r.feet.length:Int)))=true,0≤(i:Int)∧(i:Int)<(r.feet.length:Int),((rowP r.feet).drop (0+(Int.toNat (i:Int))*3)).take 3=[.int .i64 pe.x,.int .i64 pe.y,.int .i64 pe.z],Qb Try.prog (.clos 65 [] []) [.agg [.int .i64 pe.x,.int .i64 pe.y,.int .i64 pe.z]] (.bool (Qm pe)),(!(Qm pe))=true,true=true])
 (hr:AvLe (.int .i64 33) res):G Try.prog E (f34K1 Try.prog) (f34S1 r i ) :=
 Qg (n:=400) (evs:=[.b true,.auto,.ld (.agg [.int .i64 pe.x,.int .i64 pe.y,.int .i64 pe.z]),.v (.bool (Qm pe)),.b true,.b true]) (obs:=_) hE Try.func34 Qj (by kernel_rfl) ho hr
theorem p34_1_1 (r:Rg) (i:Nat) (pe:Pt) {E:Env} {res:AV} (hE:Qh Try.prog 34 res E) (ho:AllP [(decide ((i:Int)<(r.feet.length:Int)))=true,0≤(i:Int)∧(i:Int)<(r.feet.length:Int),((rowP r.feet).drop (0+(Int.toNat (i:Int))*3)).take 3=[.int .i64 pe.x,.int .i64 pe.y,.int .i64 pe.z],Qb Try.prog (.clos 65 [] []) [.agg [.int .i64 pe.x,.int .i64 pe.y,.int .i64 pe.z]] (.bool (Qm pe)),(!(Qm pe))=false,0≤(i:Int)∧(i:Int)<(r.feet.length:Int),((rowP r.feet).drop ((0+(Int.toNat (i:Int))*3)+2)).take 1=[.int .i64 pe.z],(pe.z != 0)=true])
 (hr:AvLe (.int .i64 33) res):G Try.prog E (f34K1 Try.prog) (f34S1 r i ) :=
 Qg (n:=400) (evs:=[.b true,.auto,.ld (.agg [.int .i64 pe.x,.int .i64 pe.y,.int .i64 pe.z]),.v (.bool (Qm pe)),.b false,.auto,.ld (.int .i64 pe.z),.b true]) (obs:=_) hE Try.func34 Qj (by kernel_rfl) ho hr
theorem p34_1_2 (r:Rg) (i:Nat) (pe:Pt) {E:Env} {rv:AV} (hE:Qh Try.prog 34 rv E) (ho:AllP [(decide ((i:Int)<(r.feet.length:Int)))=true,0≤(i:Int)∧(i:Int)<(r.feet.length:Int),((rowP r.feet).drop (0+(Int.toNat (i:Int))*3)).take 3=[.int .i64 pe.x,.int .i64 pe.y,.int .i64 pe.z],Qb Try.prog (.clos 65 [] []) [.agg [.int .i64 pe.x,.int .i64 pe.y,.int .i64 pe.z]] (.bool (Qm pe)),(!(Qm pe))=false,0≤(i:Int)∧(i:Int)<(r.feet.length:Int),((rowP r.feet).drop ((0+(Int.toNat (i:Int))*3)+2)).take 1=[.int .i64 pe.z],(pe.z != 0)=false,InR .i64 ((i:Int)+1)])
 (hg:G Try.prog E (f34K1 Try.prog) ⟨([J,.ptr 0 0 0,J,J,.int .i64 (r.feet.length:Int),.int .i64 ((i:Int)+1)]++Js 133),[⟨true,0,1,true,[.rsl (rowS r.seats) 0 r.seats.length,.rsl (rowP r.feet) 0 r.feet.length,.int .i64 r.frame,.int .i64 r.c.x,.int .i64 r.c.y,.int .i64 r.c.z,.int .i64 r.empty,.int .i64 r.full],false⟩]⟩):G Try.prog E (f34K1 Try.prog) (f34S1 r i ) :=
 Qn (n:=400) (ds:=[]) (cs:=[]) (live:=[1,4,5]) (m:=1) (evs:=[.b true,.auto,.ld (.agg [.int .i64 pe.x,.int .i64 pe.y,.int .i64 pe.z]),.v (.bool (Qm pe)),.b false,.auto,.ld (.int .i64 pe.z),.b false,.stop]) (obs:=_) hE.2.1 (hE.nogh _) Qj (by kernel_rfl) ho hg
theorem p34_1_3 (r:Rg) (i:Nat) {E:Env} {rv:AV} (hE:Qh Try.prog 34 rv E) (ho:AllP [(decide ((i:Int)<(r.feet.length:Int)))=false])
 (hg:G Try.prog E (f34K2 Try.prog) ⟨([J,.ptr 0 0 0,J,J,.int .i64 (r.feet.length:Int),J,.int .i64 0]++Js 132),[⟨true,0,1,true,[.rsl (rowS r.seats) 0 r.seats.length,.rsl (rowP r.feet) 0 r.feet.length,.int .i64 r.frame,.int .i64 r.c.x,.int .i64 r.c.y,.int .i64 r.c.z,.int .i64 r.empty,.int .i64 r.full],false⟩]⟩):G Try.prog E (f34K1 Try.prog) (f34S1 r i ) :=
 Qn (n:=400) (ds:=[]) (cs:=[]) (live:=[1,4,6]) (m:=1) (evs:=[.b false,.stop]) (obs:=_) hE.2.1 (hE.nogh _) Qj (by kernel_rfl) ho hg
theorem f34W1 (r:Rg) (i:Nat) {E:Env} {rv:Int} (hE:Qh Try.prog 34 (.int .i64 rv) E)
 (h:(((i:Int)<(r.feet.length:Int)→(∃ pe:Pt,r.feet[i]?=some pe∧(((Qm pe)=false→rv=33)∧((Qm pe)=true→((¬ (pe.z=0)→rv=33)∧(pe.z=0→((I6 ((i:Int)+1))∧f34G1 E r (i+1))))))))∧(¬ ((i:Int)<(r.feet.length:Int))→f34G2 E r 0))):f34G1 E r i:=by
 rcases bft (decide ((i:Int)<(r.feet.length:Int))) with hc0 | hc0
 · have h:=h.1 (odt hc0)
   obtain ⟨pe,h1,h⟩:=h
   rcases bft (!(Qm pe)) with hc1 | hc1
   · have h:=h.1 (bnT hc1)
     exact p34_1_0 r i pe hE ⟨hc0,(QJ h1),(rp cP 3 0 3 h1),(u65 (Yi pe)),hc1,rfl,trivial⟩ (AvLe.of_eq (by rw [h]; try rfl))
   · have h:=h.2 (bnF hc1)
     rcases bft (pe.z != 0) with hc2 | hc2
     · have h:=h.1 (bneT hc2)
       exact p34_1_1 r i pe hE ⟨hc0,(QJ h1),(rp cP 3 0 3 h1),(u65 (Yi pe)),hc1,(QJ h1),(rp cP 3 2 1 h1),hc2,trivial⟩ (AvLe.of_eq (by rw [h]; try rfl))
     · have h:=h.2 (bneF hc2)
       obtain ⟨q9_3,h⟩:=h
       exact p34_1_2 r i pe hE ⟨hc0,(QJ h1),(rp cP 3 0 3 h1),(u65 (Yi pe)),hc1,(QJ h1),(rp cP 3 2 1 h1),hc2,q9_3,trivial⟩ h
 · have h:=h.2 (odf hc0)
   exact p34_1_3 r i hE ⟨hc0,trivial⟩ h
theorem p34_2_0 (r:Rg) (i:Nat) {E:Env} {rv:AV} (hE:Qh Try.prog 34 rv E) (ho:AllP [(decide ((i:Int)<(r.feet.length:Int)))=true])
 (hg:G Try.prog E (qT Try.prog) ⟨([J,.ptr 0 0 0,J,J,.int .i64 (r.feet.length:Int),J,.int .i64 (i:Int),.int .i64 0]++Js 131),[⟨true,0,1,true,[.rsl (rowS r.seats) 0 r.seats.length,.rsl (rowP r.feet) 0 r.feet.length,.int .i64 r.frame,.int .i64 r.c.x,.int .i64 r.c.y,.int .i64 r.c.z,.int .i64 r.empty,.int .i64 r.full],false⟩]⟩):G Try.prog E (f34K2 Try.prog) (f34S2 r i ) :=
 Qn (n:=400) (ds:=[]) (cs:=[]) (live:=[1,4,6,7]) (m:=1) (evs:=[.b true,.stop]) (obs:=_) hE.2.1 (hE.nogh _) Qj (by kernel_rfl) ho hg
theorem p34_2_1 (r:Rg) (i:Nat) {E:Env} {res:AV} (hE:Qh Try.prog 34 res E) (ho:AllP [(decide ((i:Int)<(r.feet.length:Int)))=false])
 (hr:AvLe (.int .i64 0) res):G Try.prog E (f34K2 Try.prog) (f34S2 r i ) :=
 Qg (n:=400) (evs:=[.b false]) (obs:=_) hE Try.func34 Qj (by kernel_rfl) ho hr
theorem f34W2 (r:Rg) (i:Nat) {E:Env} {rv:Int} (hE:Qh Try.prog 34 (.int .i64 rv) E)
 (h:(((i:Int)<(r.feet.length:Int)→f34G3 E r 0 i)∧(¬ ((i:Int)<(r.feet.length:Int))→rv=0))):f34G2 E r i:=by
 rcases bft (decide ((i:Int)<(r.feet.length:Int))) with hc0 | hc0
 · have h:=h.1 (odt hc0)
   exact p34_2_0 r i hE ⟨hc0,trivial⟩ h
 · have h:=h.2 (odf hc0)
   exact p34_2_1 r i hE ⟨hc0,trivial⟩ (AvLe.of_eq (by rw [h]; try rfl))
theorem p34_3_0 (r:Rg) (k:Nat) (i:Nat) (pe:Pt) (pe1:Pt) (pe2:Pt) {E:Env} {res:AV} (hE:Qh Try.prog 34 res E) (ho:AllP [(decide ((k:Int)<(r.feet.length:Int)))=true,((k:Int) != (i:Int))=true,InR .i64 ((i:Int)+1),(r.feet.length:Int) ≠ 0,((k:Int) != (Int.tmod ((i:Int)+1) (r.feet.length:Int)))=true,0≤(i:Int)∧(i:Int)<(r.feet.length:Int),((rowP r.feet).drop (0+(Int.toNat (i:Int))*3)).take 3=[.int .i64 pe.x,.int .i64 pe.y,.int .i64 pe.z],InR .i64 ((i:Int)+1),(r.feet.length:Int) ≠ 0,0≤(Int.tmod ((i:Int)+1) (r.feet.length:Int))∧(Int.tmod ((i:Int)+1) (r.feet.length:Int))<(r.feet.length:Int),((rowP r.feet).drop (0+(Int.toNat (Int.tmod ((i:Int)+1) (r.feet.length:Int)))*3)).take 3=[.int .i64 pe1.x,.int .i64 pe1.y,.int .i64 pe1.z],0≤(k:Int)∧(k:Int)<(r.feet.length:Int),((rowP r.feet).drop (0+(Int.toNat (k:Int))*3)).take 3=[.int .i64 pe2.x,.int .i64 pe2.y,.int .i64 pe2.z],Qb Try.prog (.clos 66 [] []) [.agg [.int .i64 pe.x,.int .i64 pe.y,.int .i64 pe.z],.agg [.int .i64 pe1.x,.int .i64 pe1.y,.int .i64 pe1.z],.agg [.int .i64 pe2.x,.int .i64 pe2.y,.int .i64 pe2.z]] (.int .i64 (arm pe pe1 pe2)),(decide ((arm pe pe1 pe2)≤0))=true])
 (hr:AvLe (.int .i64 33) res):G Try.prog E (qT Try.prog) (f34S3 r k i ) :=
 Qg (n:=400) (evs:=[.b true,.b true,.b true,.auto,.ld (.agg [.int .i64 pe.x,.int .i64 pe.y,.int .i64 pe.z]),.auto,.ld (.agg [.int .i64 pe1.x,.int .i64 pe1.y,.int .i64 pe1.z]),.auto,.ld (.agg [.int .i64 pe2.x,.int .i64 pe2.y,.int .i64 pe2.z]),.v (.int .i64 (arm pe pe1 pe2)),.b true]) (obs:=_) hE Try.func34 Qj (by kernel_rfl) ho hr
theorem p34_3_1 (r:Rg) (k:Nat) (i:Nat) (pe:Pt) (pe1:Pt) (pe2:Pt) {E:Env} {rv:AV} (hE:Qh Try.prog 34 rv E) (ho:AllP [(decide ((k:Int)<(r.feet.length:Int)))=true,((k:Int) != (i:Int))=true,InR .i64 ((i:Int)+1),(r.feet.length:Int) ≠ 0,((k:Int) != (Int.tmod ((i:Int)+1) (r.feet.length:Int)))=true,0≤(i:Int)∧(i:Int)<(r.feet.length:Int),((rowP r.feet).drop (0+(Int.toNat (i:Int))*3)).take 3=[.int .i64 pe.x,.int .i64 pe.y,.int .i64 pe.z],InR .i64 ((i:Int)+1),(r.feet.length:Int) ≠ 0,0≤(Int.tmod ((i:Int)+1) (r.feet.length:Int))∧(Int.tmod ((i:Int)+1) (r.feet.length:Int))<(r.feet.length:Int),((rowP r.feet).drop (0+(Int.toNat (Int.tmod ((i:Int)+1) (r.feet.length:Int)))*3)).take 3=[.int .i64 pe1.x,.int .i64 pe1.y,.int .i64 pe1.z],0≤(k:Int)∧(k:Int)<(r.feet.length:Int),((rowP r.feet).drop (0+(Int.toNat (k:Int))*3)).take 3=[.int .i64 pe2.x,.int .i64 pe2.y,.int .i64 pe2.z],Qb Try.prog (.clos 66 [] []) [.agg [.int .i64 pe.x,.int .i64 pe.y,.int .i64 pe.z],.agg [.int .i64 pe1.x,.int .i64 pe1.y,.int .i64 pe1.z],.agg [.int .i64 pe2.x,.int .i64 pe2.y,.int .i64 pe2.z]] (.int .i64 (arm pe pe1 pe2)),(decide ((arm pe pe1 pe2)≤0))=false,InR .i64 ((k:Int)+1)])
 (hg:G Try.prog E (qT Try.prog) ⟨([J,.ptr 0 0 0,J,J,.int .i64 (r.feet.length:Int),J,.int .i64 (i:Int),.int .i64 ((k:Int)+1)]++Js 131),[⟨true,0,1,true,[.rsl (rowS r.seats) 0 r.seats.length,.rsl (rowP r.feet) 0 r.feet.length,.int .i64 r.frame,.int .i64 r.c.x,.int .i64 r.c.y,.int .i64 r.c.z,.int .i64 r.empty,.int .i64 r.full],false⟩]⟩):G Try.prog E (qT Try.prog) (f34S3 r k i ) :=
 Qn (n:=400) (ds:=[]) (cs:=[]) (live:=[1,4,6,7]) (m:=1) (evs:=[.b true,.b true,.b true,.auto,.ld (.agg [.int .i64 pe.x,.int .i64 pe.y,.int .i64 pe.z]),.auto,.ld (.agg [.int .i64 pe1.x,.int .i64 pe1.y,.int .i64 pe1.z]),.auto,.ld (.agg [.int .i64 pe2.x,.int .i64 pe2.y,.int .i64 pe2.z]),.v (.int .i64 (arm pe pe1 pe2)),.b false,.stop]) (obs:=_) hE.2.1 (hE.nogh _) Qj (by kernel_rfl) ho hg
theorem p34_3_2 (r:Rg) (k:Nat) (i:Nat) {E:Env} {rv:AV} (hE:Qh Try.prog 34 rv E) (ho:AllP [(decide ((k:Int)<(r.feet.length:Int)))=true,((k:Int) != (i:Int))=true,InR .i64 ((i:Int)+1),(r.feet.length:Int) ≠ 0,((k:Int) != (Int.tmod ((i:Int)+1) (r.feet.length:Int)))=false,false=false,InR .i64 ((k:Int)+1)])
 (hg:G Try.prog E (qT Try.prog) ⟨([J,.ptr 0 0 0,J,J,.int .i64 (r.feet.length:Int),J,.int .i64 (i:Int),.int .i64 ((k:Int)+1)]++Js 131),[⟨true,0,1,true,[.rsl (rowS r.seats) 0 r.seats.length,.rsl (rowP r.feet) 0 r.feet.length,.int .i64 r.frame,.int .i64 r.c.x,.int .i64 r.c.y,.int .i64 r.c.z,.int .i64 r.empty,.int .i64 r.full],false⟩]⟩):G Try.prog E (qT Try.prog) (f34S3 r k i ) :=
 Qn (n:=400) (ds:=[]) (cs:=[]) (live:=[1,4,6,7]) (m:=1) (evs:=[.b true,.b true,.b false,.b false,.stop]) (obs:=_) hE.2.1 (hE.nogh _) Qj (by kernel_rfl) ho hg
theorem p34_3_3 (r:Rg) (k:Nat) (i:Nat) {E:Env} {rv:AV} (hE:Qh Try.prog 34 rv E) (ho:AllP [(decide ((k:Int)<(r.feet.length:Int)))=true,((k:Int) != (i:Int))=false,false=false,false=false,InR .i64 ((k:Int)+1)])
 (hg:G Try.prog E (qT Try.prog) ⟨([J,.ptr 0 0 0,J,J,.int .i64 (r.feet.length:Int),J,.int .i64 (i:Int),.int .i64 ((k:Int)+1)]++Js 131),[⟨true,0,1,true,[.rsl (rowS r.seats) 0 r.seats.length,.rsl (rowP r.feet) 0 r.feet.length,.int .i64 r.frame,.int .i64 r.c.x,.int .i64 r.c.y,.int .i64 r.c.z,.int .i64 r.empty,.int .i64 r.full],false⟩]⟩):G Try.prog E (qT Try.prog) (f34S3 r k i ) :=
 Qn (n:=400) (ds:=[]) (cs:=[]) (live:=[1,4,6,7]) (m:=1) (evs:=[.b true,.b false,.b false,.b false,.stop]) (obs:=_) hE.2.1 (hE.nogh _) Qj (by kernel_rfl) ho hg
theorem p34_3_4 (r:Rg) (k:Nat) (i:Nat) {E:Env} {rv:AV} (hE:Qh Try.prog 34 rv E) (ho:AllP [(decide ((k:Int)<(r.feet.length:Int)))=false,InR .i64 ((i:Int)+1)])
 (hg:G Try.prog E (f34K2 Try.prog) ⟨([J,.ptr 0 0 0,J,J,.int .i64 (r.feet.length:Int),J,.int .i64 ((i:Int)+1)]++Js 132),[⟨true,0,1,true,[.rsl (rowS r.seats) 0 r.seats.length,.rsl (rowP r.feet) 0 r.feet.length,.int .i64 r.frame,.int .i64 r.c.x,.int .i64 r.c.y,.int .i64 r.c.z,.int .i64 r.empty,.int .i64 r.full],false⟩]⟩):G Try.prog E (qT Try.prog) (f34S3 r k i ) :=
 Qn (n:=400) (ds:=[]) (cs:=[]) (live:=[1,4,6]) (m:=1) (evs:=[.b false,.stop]) (obs:=_) hE.2.1 (hE.nogh _) Qj (by kernel_rfl) ho hg
theorem f34W3 (r:Rg) (k:Nat) (i:Nat) {E:Env} {rv:Int} (hE:Qh Try.prog 34 (.int .i64 rv) E)
 (h:(((k:Int)<(r.feet.length:Int)→((¬ ((k:Int)=(i:Int))→((I6 ((i:Int)+1))∧((r.feet.length:Int) ≠ 0∧((¬ ((k:Int)=(Int.tmod ((i:Int)+1) (r.feet.length:Int)))→(∃ pe:Pt,r.feet[i]?=some pe∧((I6 ((i:Int)+1))∧((r.feet.length:Int) ≠ 0∧(0≤(Int.tmod ((i:Int)+1) (r.feet.length:Int))∧(∃ pe1:Pt,r.feet[Int.toNat (Int.tmod ((i:Int)+1) (r.feet.length:Int))]?=some pe1∧(∃ pe2:Pt,r.feet[k]?=some pe2∧((Yg pe pe1 pe2)∧(((arm pe pe1 pe2)≤0→rv=33)∧(¬ ((arm pe pe1 pe2)≤0)→((I6 ((k:Int)+1))∧f34G3 E r (k+1) i)))))))))))∧((k:Int)=(Int.tmod ((i:Int)+1) (r.feet.length:Int))→((I6 ((k:Int)+1))∧f34G3 E r (k+1) i))))))∧((k:Int)=(i:Int)→((I6 ((k:Int)+1))∧f34G3 E r (k+1) i))))∧(¬ ((k:Int)<(r.feet.length:Int))→((I6 ((i:Int)+1))∧f34G2 E r (i+1))))):f34G3 E r k i:=by
 rcases bft (decide ((k:Int)<(r.feet.length:Int))) with hc0 | hc0
 · have h:=h.1 (odt hc0)
   rcases bft ((k:Int) != (i:Int)) with hc1 | hc1
   · have h:=h.1 (bneT hc1)
     obtain ⟨q2_2,h⟩:=h
     obtain ⟨q3_2,h⟩:=h
     rcases bft ((k:Int) != (Int.tmod ((i:Int)+1) (r.feet.length:Int))) with hc2 | hc2
     · have h:=h.1 (bneT hc2)
       obtain ⟨pe,h1,h⟩:=h
       obtain ⟨q8_3,h⟩:=h
       obtain ⟨q9_3,h⟩:=h
       obtain ⟨h3,h⟩:=h
       obtain ⟨pe1,h2,h⟩:=h
       obtain ⟨pe2,h4,h⟩:=h
       obtain ⟨h5,h⟩:=h
       rcases bft (decide ((arm pe pe1 pe2)≤0)) with hc3 | hc3
       · have h:=h.1 (odt hc3)
         exact p34_3_0 r k i pe pe1 pe2 hE ⟨hc0,hc1,q2_2,q3_2,hc2,(QJ h1),(rp cP 3 0 3 h1),q8_3,q9_3,(Xh h3 h2),(rp cP 3 0 3 h2),(QJ h4),(rp cP 3 0 3 h4),(u66 (turn_ok pe pe1 pe2 h5)),hc3,trivial⟩ (AvLe.of_eq (by rw [h]; try rfl))
       · have h:=h.2 (odf hc3)
         obtain ⟨q18_4,h⟩:=h
         exact p34_3_1 r k i pe pe1 pe2 hE ⟨hc0,hc1,q2_2,q3_2,hc2,(QJ h1),(rp cP 3 0 3 h1),q8_3,q9_3,(Xh h3 h2),(rp cP 3 0 3 h2),(QJ h4),(rp cP 3 0 3 h4),(u66 (turn_ok pe pe1 pe2 h5)),hc3,q18_4,trivial⟩ h
     · have h:=h.2 (bneF hc2)
       obtain ⟨q6_3,h⟩:=h
       exact p34_3_2 r k i hE ⟨hc0,hc1,q2_2,q3_2,hc2,rfl,q6_3,trivial⟩ h
   · have h:=h.2 (bneF hc1)
     obtain ⟨q4_2,h⟩:=h
     exact p34_3_3 r k i hE ⟨hc0,hc1,rfl,rfl,q4_2,trivial⟩ h
 · have h:=h.2 (odf hc0)
   obtain ⟨q1_1,h⟩:=h
   exact p34_3_4 r k i hE ⟨hc0,q1_1,trivial⟩ h
theorem pre_check {r:Rg} (h:Xj r=true):Qf r=bif YI r then 0 else 33:=by cases hc:YI r <;> simp [Qf,Xw,h,hc]
theorem WV {E:Env} {r:Rg} (hE:Qh Try.prog 34 (.int .i64 (Qf r)) E) (hf:FeetOk r) {i:Nat} (hi:i<r.feet.length) {cont:Bool}
 (hg:Qf r=(bif cont then 0 else 33)→f34G2 E r (i+1)):∀ (d k:Nat),k+d=r.feet.length→Qf r=(bif convR r i k d && cont then 0 else 33)→f34G3 E r k i
 | 0,k,hd,hr=>by
  have h8:=hf.feet1
  exact f34W3 r k i (rv:=Qf r) hE ⟨fun h=>by omega,fun _=>⟨by omega,hg (by rw [hr]; rfl)⟩⟩
 | d+1,k,hd,hr=>by
  have hk:k<r.feet.length:=by omega
  have h8:=hf.feet1
  have hq:r.feet[k]?=some (Vx r k):=by simp [Vx,List.getD,hk]
  obtain ⟨l1,l2⟩:=yr hf hi
  obtain ⟨q1,-,-⟩:=yI l1 l2 (hf.foot _ (List.mem_of_getElem? hq))
  obtain ⟨g1,g2⟩:=line_feet hi
  have et:=tmod_next (i:=i) (n:=r.feet.length) (by omega)
  simp only [convR] at hr
  refine f34W3 r k i (rv:=Qf r) hE ⟨fun _=>⟨fun h1=>⟨by omega,by omega,fun h2=>⟨_,g1,by omega,by omega,by rw [et]; omega,_,by rw [et]; exact g2,_,hq,q1,fun h3=>?_,fun h3=>⟨by omega,?_⟩⟩,fun h2=>⟨by omega,?_⟩⟩,fun h1=>⟨by omega,?_⟩⟩,fun h=>by omega⟩
  · have hb:badF r i k=true:=by simp only [badF,Bool.and_eq_true,bne_iff_ne,ne_eq,decide_eq_true_eq]; exact ⟨h1,h2,h3⟩
    rw [hr,hb]; rfl
  · have hb:badF r i k=false:=by simp only [badF,Bool.and_eq_false_iff,decide_eq_false_iff_not]; exact .inr (.inr h3)
    rw [hb] at hr
    exact WV hE hf hi hg d (k+1) (by omega) hr
  · have hb:badF r i k=false:=by simp only [badF,Bool.and_eq_false_iff,bne_eq_false_iff_eq]; exact .inr (.inl h2)
    rw [hb] at hr
    exact WV hE hf hi hg d (k+1) (by omega) hr
  · have hb:badF r i k=false:=by simp only [badF,Bool.and_eq_false_iff,bne_eq_false_iff_eq]; exact .inl h1
    rw [hb] at hr
    exact WV hE hf hi hg d (k+1) (by omega) hr
theorem checkR_i {E:Env} {r:Rg} (hE:Qh Try.prog 34 (.int .i64 (Qf r)) E) (hf:FeetOk r):∀ (d i:Nat),i+d=r.feet.length→Qf r=(bif convP r i d then 0 else 33)→f34G2 E r i
 | 0,i,hd,hr=>f34W2 r i (rv:=Qf r) hE ⟨fun h=>by omega,fun _=>by rw [hr]; rfl⟩
 | d+1,i,hd,hr=>by
  have hi:i<r.feet.length:=by omega
  exact f34W2 r i (rv:=Qf r) hE ⟨fun _=>WV hE hf hi (cont:=convP r (i+1) d) (fun h=>checkR_i hE hf d (i+1) (by omega) h) r.feet.length 0 (by omega) hr,fun h=>by omega⟩
theorem WF (r:Rg) (hs:RigSmall r):Pure Try.prog 34 [.agg [.rsl (rowS r.seats) 0 r.seats.length,.rsl (rowP r.feet) 0 r.feet.length,.int .i64 r.frame,.int .i64 r.c.x,.int .i64 r.c.y,.int .i64 r.c.z,.int .i64 r.empty,.int .i64 r.full]] (.int .i64 (Qf r)):=Qw Try.func34 f34b fun E hE=>by
 have hfl:=hs.feet
 have hsl:=hs.seats
 refine f34W r (rv:=Qf r) hE ⟨fun h=>?_,fun h0=>⟨fun h=>?_,fun h1=>⟨fun h=>?_,fun h2=>⟨fun h=>?_,fun h3=>⟨fun h=>?_,fun h4=>⟨fun h=>?_,fun h5=>?_⟩⟩⟩⟩⟩⟩
 · exact (Yc (by have:¬ ((r.seats.length:Int)≤20):=(by omega); simp only [Xj,this]; rfl)).symm
 · exact (Yc (by simp [Xj,h])).symm
 · exact (Yc (by simp [Xj,h])).symm
 · exact (Yc (by simp [Xj,h])).symm
 · refine (Yc ?_).symm
   have hw:Qc r.full 0 1000000=false:=by
    cases hw:Qc r.full 0 1000000 with
    | false=>rfl
    | true=>have:=VX.1 hw; omega
   simp [Xj,hw]
 · exact (Yc (by simp [Xj,h])).symm
 have hw:Qc r.full 0 1000000=true:=by
  have:=VX.1 h3
  rw [VX]; omega
 -- the seats
 have feet:r.seats.all (Ye r)=true→∀ (d i:Nat),i+d=r.feet.length→(∀ p ∈ r.feet.take i,QG p=false)→f34G1 E r i:=by
  intro hall d
  induction d with
  | zero =>
   intro i hd hgood
   rw [List.take_of_length_le (by omega)] at hgood
   have hb:r.feet.any QG=false:=List.any_eq_false.2 fun p hp=>by simp [hgood p hp]
   have hpre:Xj r=true:=by
    have:(r.seats.length:Int)≤20:=by omega
    simp only [Xj,this,decide_true,h1,hall,h2,hw,h3,h5,hb,Bool.not_false,Bool.and_self]
   refine f34W1 r i (rv:=Qf r) hE ⟨fun h=>by omega,fun _=>?_⟩
   exact checkR_i hE (qy h1 hb) r.feet.length 0 (by omega) (pre_check hpre)
  | succ d ih =>
   intro i hd hgood
   have hi:r.feet[i]?=some r.feet[i]:=by simp [show i<r.feet.length by omega]
   have hbad:QG r.feet[i]=true→Qf r=33:=fun h=>by
    have hb:r.feet.any QG=true:=List.any_eq_true.2 ⟨_,List.mem_of_getElem? hi,h⟩
    exact (Yc (by simp [Xj,hb])).symm
   refine f34W1 r i (rv:=Qf r) hE ⟨fun _=>⟨_,hi,fun h=>hbad (by simp [QG,h]),fun ha=>⟨fun h=>hbad (by simp [QG,h]),fun hz=>⟨by omega,ih (i+1) (by omega) fun p hp=>?_⟩⟩⟩,fun h=>by omega⟩
   rw [List.take_add_one,hi] at hp
   rcases List.mem_append.1 hp with hp | hp
   · exact hgood p hp
   · simp only [Option.toList,List.mem_singleton] at hp
     rw [hp]; simp [QG,ha,hz]
 have seats:∀ (d i:Nat),i+d=r.seats.length→(∀ s ∈ r.seats.take i,Ye r s=true)→f34G0 E r i:=by
  intro d
  induction d with
  | zero =>
   intro i hd hgood
   rw [List.take_of_length_le (by omega)] at hgood
   exact f34W0 r i (rv:=Qf r) hE ⟨fun h=>by omega,fun _=>feet (List.all_eq_true.2 hgood) r.feet.length 0 (by omega) (by simp)⟩
  | succ d ih =>
   intro i hd hgood
   have hi:r.seats[i]?=some r.seats[i]:=by simp [show i<r.seats.length by omega]
   have h00:r.seats[0]?=some (r.seats.getD 0 []):=by simp [List.getD,show 0<r.seats.length by omega]
   have hbad:Ye r r.seats[i]=false→Qf r=33:=fun h=>by
    have hb:r.seats.all (Ye r)=false:=by
     rw [Bool.eq_false_iff]; intro hh
     rw [List.all_eq_true.1 hh _ (List.mem_of_getElem? hi)] at h; cases h
    exact (Yc (by simp [Xj,hb])).symm
   refine f34W0 r i (rv:=Qf r) hE ⟨fun _=>⟨_,hi,hs.each _ (List.mem_of_getElem? hi),fun h=>hbad ?_,fun h=>⟨_,h00,fun h'=>hbad ?_,fun h'=>⟨by omega,ih (i+1) (by omega) fun s hp=>?_⟩⟩⟩,fun h=>by omega⟩
   · have:QE r.seats[i]=false:=by rw [qH] at h; simpa using h
     simp [Ye,this]
   · simp only [Ye,Bool.and_eq_false_iff]; exact .inr (by simpa using h')
   · rw [List.take_add_one,hi] at hp
     rcases List.mem_append.1 hp with hp | hp
     · exact hgood s hp
     · simp only [Option.toList,List.mem_singleton] at hp
       rw [qH] at h
       rw [hp]; simp only [Ye,h,Bool.true_and]; simpa using h'
 exact seats r.seats.length 0 (by omega) (by simp)
theorem check_made {r:Rg} (h:Qf r=0):Xw r=true:=by
 unfold Qf at h
 split at h
 · assumption
 · cases h
theorem yh {r:Rg} (h:RigMade r):XS r=Qe r:=by
 unfold XS
 split
 · rename_i h0
   have:r.seats=[]:=List.length_eq_zero_iff.1 h0
   simp [Qe,this]
 · rename_i h0
   have hm:r.seats.getD 0 [] ∈ r.seats:=by
    have h00:r.seats[0]?=some (r.seats.getD 0 []):=by simp [List.getD,show 0<r.seats.length by omega]
    exact List.mem_of_getElem? h00
   rw [(h.ok.each _ hm).1,h.ph]
/-! ### Least -/
end Go.Proofs.Ytideokfbnegkjaa
namespace Go.Proofs.Ytideokfbnegkjaa
open Go Ax
open Go.Proofs
structure Ld where
 bs:List Bool
 ph:Int
 ln:Int
/-! ### the plain law of Least -/
def conM (r:Rg) (a b:Pt) (ph:Nat) (fl:Nat→Int→Bool) (i:Nat) (s:List Pt):Int:=(bif fl i (arm a b (s.getD ph ⟨0,0,0⟩)) then r.full else r.empty)*arm a b (s.getD ph ⟨0,0,0⟩)
theorem qe {r:Rg} {a b:Pt} {ph:Nat} {f g:Nat→Int→Bool}:∀ (ss:List (List Pt)) (i:Nat) (x y:Int),x≤y→(∀ j s,ss[j]?=some s→conM r a b ph f (i+j) s≤conM r a b ph g (i+j) s)→Xi r a b ph f ss i x≤Xi r a b ph g ss i y
 | [],i,x,y,h,_=>h
 | s :: ss,i,x,y,h,hc=>by
  simp only [Xi]
  refine qe ss (i+1) _ _ ?_ fun j t ht=>?_
  · have:=hc 0 s rfl
    simp only [conM,Nat.add_zero] at this
    omega
  · have:=hc (j+1) t (by simpa using ht)
    rw [show i+(j+1)=i+1+j by omega] at this
    exact this
theorem seatsM_eq {r:Rg} {a b:Pt} {ph:Nat} {f g:Nat→Int→Bool} (ss:List (List Pt)) (i:Nat) (x:Int) (hc:∀ j s,ss[j]?=some s→conM r a b ph f (i+j) s=conM r a b ph g (i+j) s):Xi r a b ph f ss i x=Xi r a b ph g ss i x :=
 Int.le_antisymm (qe ss i x x (Int.le_refl _) fun j s h=>Int.le_of_eq (hc j s h)) (qe ss i x x (Int.le_refl _) fun j s h=>Int.le_of_eq (hc j s h).symm)
theorem Wb {r:Rg} {a b:Pt} {ph:Nat} {f:Nat→Int→Bool}:∀ (ss:List (List Pt)) (i:Nat) (x y:Int),Xi r a b ph f ss i (x+y)=Xi r a b ph f ss i x+y
 | [],i,x,y=>rfl
 | s :: ss,i,x,y=>by
  simp only [Xi]
  rw [← Wb ss (i+1)]
  congr 1; omega
theorem mem_rigPV {r:Rg} {x:Nat × Nat}:x ∈ Vc r ↔ x.1<phN r∧x.2<r.feet.length:=by
 simp only [Vc,wlP,wlV,List.mem_flatMap,List.mem_map,List.mem_range'_1]
 constructor
 · rintro ⟨p,hp,k,hk,rfl⟩; exact ⟨by omega,by omega⟩
 · rintro ⟨h1,h2⟩; exact ⟨x.1,by omega,x.2,by omega,rfl⟩
theorem qN (n j:Nat):(List.replicate n false).getD j false=false:=by
 rw [List.getD_eq_getElem?_getD,List.getElem?_replicate]; split <;> rfl
theorem dPtss (W:World):Dec Try.prog W 43 (List (List Pt)) (fun a=>[.rsl (rowS a) 0 a.length]) (fun a=>a.length≤9223372036854775807):=by
 refine Dec.map (dec_slice Try.underlying43 (n:=1) (by kernel_rfl) (by decide) (fun _=>rfl) (fun _=>rfl) (dPts W)) (fun x=>x) ?_ ?_
 · exact fun _=>rfl
 · exact fun _ h=>h.1
theorem dRg (W:World):Dec Try.prog W 45 Rg (fun a=>[.rsl (rowS a.seats) 0 a.seats.length,.rsl (rowP a.feet) 0 a.feet.length,.int .i64 a.frame,.int .i64 a.c.x,.int .i64 a.c.y,.int .i64 a.c.z,.int .i64 a.empty,.int .i64 a.full]) (fun a=>True):=by
 refine Dec.map (yE Try.underlying45 rfl (tot:=8) (by kernel_rfl) (XE (n:=1) (tot:=8) (by kernel_rfl) rfl (dPtss W) (XE (n:=1) (tot:=8) (by kernel_rfl) rfl (dPts W) (XE (n:=1) (tot:=8) (by kernel_rfl) rfl (Wr Try.underlying3) (XE (n:=3) (tot:=8) (by kernel_rfl) rfl (dPt W) (XE (n:=1) (tot:=8) (by kernel_rfl) rfl (Wr Try.underlying3) (XE (n:=1) (tot:=8) (by kernel_rfl) rfl (Wr Try.underlying3) decFs_nil (by decide)) (by decide)) (by decide)) (by decide)) (by decide)) (by decide))) (fun x=>(⟨x.1,x.2.1,x.2.2.1,x.2.2.2.1,x.2.2.2.2.1,x.2.2.2.2.2.1⟩:Rg)) ?_ ?_
 · exact fun _=>rfl
 · exact fun _ _=>trivial
end Go.Proofs.Ytideokfbnegkjaa
namespace Go.Proofs.Ytideokfbnegkjaa
/-- What the best 'n' seats from 'i' on take away; 'ord' lists the seats,greatest first. -/
def QF (tk:Int→Int) (ord:List Int) (n:Nat) (i:Int):Int:=(((ord.filter fun s=>decide (i≤s)).take n).map tk).sum
/-- One seat: full,if the others that are left can still do it. -/
def VG (tk:Int→Int) (ord:List Int) (N:Nat) (i:Nat) (st:Int × Nat):Bool :=
 decide (st.1 - tk i - QF tk ord (st.2 - 1) ((i:Int)+1)<0) && decide (st.2 - 1≤N - i - 1)
theorem erase_take {l:List Int} {x:Int} (hn:l.Nodup):∀ {n:Nat},x ∈ l.take n→(l.erase x).take (n - 1)=(l.take n).erase x:=by
 induction l with
 | nil=>intro n h; simp at h
 | cons y l ih =>
  intro n h
  obtain ⟨hy,hl⟩:=List.nodup_cons.1 hn
  cases n with
  | zero=>simp at h
  | succ n =>
   rw [List.take_succ_cons] at h ⊢
   by_cases e:y=x
   · subst e; simp
   · have hx:x ∈ l.take n:=by
      rcases List.mem_cons.1 h with h | h
      · exact absurd h.symm e
      · exact h
     have hne:(y == x)=false:=by simpa using e
     rw [List.erase_cons,List.erase_cons]
     simp only [hne,Bool.false_eq_true,if_false]
     cases n with
     | zero=>simp at hx
     | succ n =>
      have:=ih hl hx
      simp only [Nat.add_sub_cancel] at this ⊢
      rw [List.take_succ_cons,this]
theorem qU {l:List Int} {x:Int}:∀ {n:Nat},x ∉ l.take n→(l.erase x).take n=l.take n:=by
 induction l with
 | nil=>intro n _; simp
 | cons y l ih =>
  intro n h
  cases n with
  | zero=>simp
  | succ n =>
   rw [List.take_succ_cons] at h ⊢
   have e:y ≠ x:=fun e=>h (by simp [e])
   have hne:(y == x)=false:=by simpa using e
   rw [List.erase_cons]
   simp only [hne,Bool.false_eq_true,if_false]
   rw [List.take_succ_cons,ih (fun hx=>h (List.mem_cons_of_mem _ hx))]
theorem YW {ord:List Int} (hn:ord.Nodup) (i:Int):(ord.filter fun s=>decide (i+1≤s))=(ord.filter fun s=>decide (i≤s)).erase i:=by
 rw [List.Nodup.erase_eq_filter (hn.sublist List.filter_sublist),List.filter_filter]
 refine List.filter_congr fun s _=>?_
 by_cases e:s=i
 · subst e; simp; omega
 · have:(s != i)=true:=by simpa using e
   rw [this]
   by_cases h:i≤s
   · have:i+1≤s:=by omega
     simp [h,this]
   · have:¬ i+1≤s:=by omega
     simp [h,this]
theorem sum_erase {tk:Int→Int}:∀ {l:List Int} {x:Int},x ∈ l→(l.map tk).sum=tk x+((l.erase x).map tk).sum
 | y :: l,x,h=>by
  by_cases e:y=x
  · subst e; simp
  · have hx:x ∈ l:=by
     rcases List.mem_cons.1 h with h | h
     · exact absurd h.symm e
     · exact h
    have hne:(y == x)=false:=by simpa using e
    rw [List.erase_cons]
    simp only [hne,Bool.false_eq_true,if_false,List.map_cons,List.sum_cons]
    rw [sum_erase hx]; omega
/-- The list of all seats. -/
structure Ord (ord:List Int) (N:Nat):Prop where
 nd:ord.Nodup
 mem:∀ s:Int,s ∈ ord ↔ 0≤s∧s<(N:Int)
 len:ord.length=N
theorem Wn {ord:List Int} {N:Nat} (h:Ord ord N):∀ {i:Nat},i≤N→(ord.filter fun s=>decide ((i:Int)≤s)).length+i=N
 | 0,_=>by
  rw [List.filter_eq_self.2 fun s hs=>by simpa using ((h.mem s).1 hs).1]
  simp [h.len]
 | i+1,hi=>by
  have ih:=Wn h (i:=i) (by omega)
  have him:(i:Int) ∈ ord.filter fun s=>decide ((i:Int)≤s):=by rw [List.mem_filter]; exact ⟨(h.mem _).2 (by omega),by simp⟩
  have hp:0<(ord.filter fun s=>decide ((i:Int)≤s)).length:=List.length_pos_of_mem him
  rw [show (((i+1:Nat)):Int)=(i:Int)+1 by omega,YW h.nd,List.length_erase_of_mem him]; omega
/-- One step keeps what is wanted. -/
theorem few_step {tk:Int→Int} {ord:List Int} {N:Nat} (h:Ord ord N) {i:Nat} {c:Int} {left:Nat} (hi:i<N) (hl:left ≠ 0) (h1:c - QF tk ord left i<0) (h2:left≤N - i) :
 (VG tk ord N i (c,left)=true→c - tk i - QF tk ord (left - 1) ((i:Int)+1)<0∧left - 1≤N - (i+1)) ∧
 (VG tk ord N i (c,left)=false→c - QF tk ord left ((i:Int)+1)<0∧left≤N - (i+1)):=by
 refine ⟨fun h=>?_,fun hf=>?_⟩
 · simp only [VG,Bool.and_eq_true,decide_eq_true_eq] at h
   omega
 · have hnf:(ord.filter fun s=>decide ((i:Int)≤s)).Nodup:=h.nd.sublist List.filter_sublist
   have him:(i:Int) ∈ ord.filter fun s=>decide ((i:Int)≤s):=by rw [List.mem_filter]; exact ⟨(h.mem _).2 (by omega),by simp⟩
   have hlen:=Wn h (i:=i) (by omega)
   by_cases hin:(i:Int) ∈ (ord.filter fun s=>decide ((i:Int)≤s)).take left
   · have e:QF tk ord left i=tk i+QF tk ord (left - 1) ((i:Int)+1):=by
      unfold QF
      rw [YW h.nd,erase_take hnf hin,sum_erase hin]
     simp only [VG,Bool.and_eq_false_iff,decide_eq_false_iff_not] at hf
     rcases hf with hf | hf <;> omega
   · have e:QF tk ord left i=QF tk ord left ((i:Int)+1):=by
      unfold QF
      rw [YW h.nd,qU hin]
     rw [e] at h1
     refine ⟨h1,?_⟩
     have:left<(ord.filter fun s=>decide ((i:Int)≤s)).length:=by
      refine Nat.lt_of_not_le fun hle=>hin ?_
      rw [List.take_of_length_le hle]; exact him
     omega
theorem YM {tk:Int→Int} {ord:List Int} {i:Int}:QF tk ord 0 i=0:=by simp [QF]
/-- Sorted greatest first,as many as are above 0 take away the most. -/
theorem most_pos {tk:Int→Int}:∀ {l:List Int},l.Pairwise (fun a b=>tk b≤tk a)→((l.take (l.filter fun s=>decide (0<tk s)).length).map tk).sum=((l.filter fun s=>decide (0<tk s)).map tk).sum
 | [],_=>rfl
 | x :: l,h=>by
  obtain ⟨h1,h2⟩:=List.pairwise_cons.1 h
  by_cases hx:0<tk x
  · have ih:=most_pos h2
    rw [List.filter_cons_of_pos (by simpa using hx),List.length_cons,List.take_succ_cons,List.map_cons,List.sum_cons,List.map_cons,List.sum_cons,ih]
  · have:(x :: l).filter (fun s=>decide (0<tk s))=[]:=by
     rw [List.filter_eq_nil_iff]
     intro s hs
     rcases List.mem_cons.1 hs with rfl | hs
     · simpa using hx
     · have:=h1 s hs
       simp; omega
    rw [this]; simp
/-! ### The insertion sort -/
/-- One element sinks to its place. -/
def sink (lt:Int→Int→Bool):Nat→List Int→List Int
 | 0,l=>l
 | d+1,l=>match l[d+1]?,l[d]? with
  | some e,some e1=>if lt e e1 then sink lt d ((l.set (d+1) e1).set d e) else l
  | _,_=>l
def XQ (lt:Int→Int→Bool) (l:List Int):List Int:=(List.range (l.length - 1)).foldl (fun l k=>sink lt (k+1) l) l
/-- The same on the sorted part,its end first. -/
def insB (lt:Int→Int→Bool) (x:Int):List Int→List Int
 | []=>[x]
 | y :: ys=>if lt x y then y :: insB lt x ys else x :: y :: ys
theorem sink_ins {lt:Int→Int→Bool} {x:Int}:∀ (b r:List Int),sink lt b.length (b.reverse++x :: r)=(insB lt x b).reverse++r
 | [],r=>by simp [sink,insB]
 | y :: b,r=>by
  have hl:b.reverse.length=b.length:=List.length_reverse
  have g1:((y :: b).reverse++x :: r)[b.length+1]?=some x:=by
   rw [List.reverse_cons,List.append_assoc,List.getElem?_append_right (by omega),hl]
   simp
  have g2:((y :: b).reverse++x :: r)[b.length]?=some y:=by
   rw [List.reverse_cons,List.append_assoc,List.getElem?_append_right (by omega),hl]
   simp
  simp only [List.length_cons,sink,g1,g2,insB]
  by_cases c:lt x y=true
  · rw [if_pos c,if_pos c]
    have e:((((y :: b).reverse++x :: r).set (b.length+1) y).set b.length x)=b.reverse++x :: (y :: r):=by
     rw [List.reverse_cons,List.append_assoc,List.set_append_right (h:=by omega),hl,List.set_append_right (h:=by omega),hl]
     simp
    rw [e,sink_ins b (y :: r),List.reverse_cons,List.append_assoc]; rfl
  · rw [if_neg c,if_neg c]
    simp
theorem VT {lt:Int→Int→Bool} {x:Int}:∀ b:List Int,(insB lt x b).Perm (x :: b)
 | []=>.refl _
 | y :: b=>by
  simp only [insB]
  split
  · exact ((VT b).cons y).trans (.swap x y b)
  · exact .refl _
theorem insB_sort {tk:Int→Int} {x:Int}:∀ {b:List Int},b.Pairwise (fun a c=>tk a≤tk c)→(insB (fun a c=>decide (tk c<tk a)) x b).Pairwise (fun a c=>tk a≤tk c)
 | [],_=>by simp [insB]
 | y :: b,h=>by
  obtain ⟨h1,h2⟩:=List.pairwise_cons.1 h
  simp only [insB]
  split
  · rename_i c
    simp only [decide_eq_true_eq] at c
    refine List.pairwise_cons.2 ⟨fun z hz=>?_,insB_sort h2⟩
    rcases List.mem_cons.1 ((VT b).mem_iff.1 hz) with rfl | hz
    · omega
    · exact h1 z hz
  · rename_i c
    simp only [decide_eq_true_eq] at c
    refine List.pairwise_cons.2 ⟨fun z hz=>?_,h⟩
    rcases List.mem_cons.1 hz with rfl | hz
    · omega
    · have:=h1 z hz; omega
theorem sort_spec {tk:Int→Int} (l:List Int):(XQ (fun a c=>decide (tk c<tk a)) l).Perm l∧(XQ (fun a c=>decide (tk c<tk a)) l).Pairwise (fun a c=>tk c≤tk a):=by
 cases l with
 | nil=>exact ⟨.refl _,by simp [XQ]⟩
 | cons x l =>
  have main:∀ k:Nat,k≤l.length→∃ b r:List Int,(List.range k).foldl (fun l k=>sink (fun a c=>decide (tk c<tk a)) (k+1) l) (x :: l)=b.reverse++r∧b.length=k+1∧b.Pairwise (fun a c=>tk a≤tk c)∧(b.reverse++r).Perm (x :: l):=by
   intro k
   induction k with
   | zero=>intro _; exact ⟨[x],l,rfl,rfl,by simp,.refl _⟩
   | succ k ih =>
    intro hk
    obtain ⟨b,r,e1,e2,e3,e4⟩:=ih (by omega)
    have hl:=e4.length_eq
    simp only [List.length_append,List.length_reverse,List.length_cons] at hl
    cases r with
    | nil=>simp at hl; omega
    | cons y r =>
     refine ⟨insB (fun a c=>decide (tk c<tk a)) y b,r,?_,?_,insB_sort e3,?_⟩
     · rw [List.range_succ,List.foldl_append,e1]
       simp only [List.foldl_cons,List.foldl_nil]
       rw [← e2]; exact sink_ins b r
     · rw [(VT b).length_eq,List.length_cons,e2]
     · have p1:(insB (fun a c=>decide (tk c<tk a)) y b).reverse.Perm (b.reverse++[y]):=by
        rw [← List.reverse_cons]
        exact ((List.reverse_perm _).trans (VT b)).trans (List.reverse_perm _).symm
       have p2:=p1.append_right r
       rw [List.append_assoc] at p2
       exact p2.trans e4
  obtain ⟨b,r,e1,e2,e3,e4⟩:=main l.length (Nat.le_refl _)
  have hl:=e4.length_eq
  simp only [List.length_append,List.length_reverse,List.length_cons] at hl
  have hr:r=[]:=List.length_eq_zero_iff.1 (by omega)
  subst hr
  rw [List.append_nil] at e1 e4
  have es:XQ (fun a c=>decide (tk c<tk a)) (x :: l)=b.reverse:=by rw [← e1]; simp [XQ]
  rw [es]
  exact ⟨e4,List.pairwise_reverse.2 e3⟩
/-! ### The loop of 'fewest' -/
def YH (M:List Bool→Int) (tk:Int→Int) (ord:List Int) (N:Nat):Nat→Nat→List Bool→Nat→List Bool
 | 0,_,bs,_=>bs
 | m+1,i,bs,left=>if left=0 then bs else
  if M (bs.set i true) - QF tk ord (left - 1) ((i:Int)+1)<0∧left - 1≤N - i - 1 then YH M tk ord N m (i+1) (bs.set i true) (left - 1)
  else YH M tk ord N m (i+1) ((bs.set i true).set i false) left
theorem qx {M:List Bool→Int} {tk:Int→Int} {ord:List Int} {N:Nat} (h:Ord ord N)
 (hM:∀ (bs:List Bool) (i:Nat),bs.length=N→bs[i]?=some false→M (bs.set i true)=M bs - tk i) :
 ∀ (m i:Nat) (bs:List Bool) (left:Nat),i+m=N→bs.length=N→(∀ j,i≤j→j<N→bs[j]?=some false)→M bs - QF tk ord left i<0→left≤N - i →
  M (YH M tk ord N m i bs left)<0∧(YH M tk ord N m i bs left).length=N
 | 0,i,bs,left,hm,hb,hf,h1,h2=>by
  have:left=0:=by omega
  subst this
  rw [YM] at h1
  exact ⟨by simp only [YH]; omega,hb⟩
 | m+1,i,bs,left,hm,hb,hf,h1,h2=>by
  unfold YH
  by_cases c0:left=0
  · subst c0
    rw [YM] at h1
    rw [if_pos rfl]
    exact ⟨by omega,hb⟩
  · rw [if_neg c0]
    have hi:=hf i (Nat.le_refl _) (by omega)
    have e:=hM bs i hb hi
    have st:=few_step (tk:=tk) h (i:=i) (c:=M bs) (left:=left) (by omega) c0 h1 h2
    have es:VG tk ord N i (M bs,left)=decide (M (bs.set i true) - QF tk ord (left - 1) ((i:Int)+1)<0∧left - 1≤N - i - 1):=by
     rw [e]; simp [VG]
    have ei:((i+1:Nat):Int)=(i:Int)+1:=by omega
    by_cases c:M (bs.set i true) - QF tk ord (left - 1) ((i:Int)+1)<0∧left - 1≤N - i - 1
    · rw [if_pos c]
      have:=st.1 (by rw [es]; simpa using c)
      refine qx h hM m (i+1) _ (left - 1) (by omega) (by simpa using hb) (fun j h3 h4=>?_) (by rw [e,ei]; exact this.1) this.2
      rw [List.getElem?_set_ne (by omega)]; exact hf j (by omega) h4
    · rw [if_neg c]
      have:=st.2 (by rw [es]; simpa using c)
      have eb:(bs.set i true).set i false=bs:=by
       rw [List.set_set]
       apply List.ext_getElem?
       intro j
       by_cases ej:i=j
       · subst ej; rw [List.getElem?_set_self (by omega),hi]
       · rw [List.getElem?_set_ne ej]
      rw [eb]
      exact qx h hM m (i+1) bs left (by omega) hb (fun j h3 h4=>hf j (by omega) h4) (by rw [ei]; exact this.1) this.2
/-- How many seats have to be full. -/
def qO (M0:Int) (tk:Int→Int) (ord:List Int):Nat→Nat→Nat
 | 0,l=>l
 | m+1,l=>if M0 - QF tk ord l 0≥0 then qO M0 tk ord m (l+1) else l
theorem yu {M0:Int} {tk:Int→Int} {ord:List Int} {p:Nat} (hp:M0 - QF tk ord p 0<0):∀ (m l:Nat),l+m=p→M0 - QF tk ord (qO M0 tk ord m l) 0<0∧qO M0 tk ord m l≤p
 | 0,l,h=>by
  have:l=p:=by omega
  subst this
  exact ⟨hp,Nat.le_refl _⟩
 | m+1,l,h=>by
  simp only [qO]
  split
  · exact yu hp m (l+1) (by omega)
  · rename_i c
    exact ⟨by omega,by omega⟩
/-- The worst loading can be had by as many seats as take away something. -/
theorem most_enough {tk:Int→Int} {ord:List Int} {N:Nat} (h:Ord ord N) (hs:ord.Pairwise fun a c=>tk c≤tk a):QF tk ord (ord.filter fun s=>decide (0<tk s)).length 0=((ord.filter fun s=>decide (0<tk s)).map tk).sum:=by
 have e:(ord.filter fun s=>decide ((0:Int)≤s))=ord:=List.filter_eq_self.2 fun s hs=>by simpa using ((h.mem s).1 hs).1
 unfold QF
 rw [e,most_pos hs]
end Go.Proofs.Ytideokfbnegkjaa
namespace Ax
open Go
section
variable {P:Program} {E:Env} {K K':List Item} {st st':St}
/-- What a call leaves: its result,and the blocks. -/
def Left (Z M:Nat→Prop) (w:World) (C:Ctx) (res:AV) (bs2:List Blk) (v:Value) (w':World):Prop :=
 ∃ C' Z',Base C w C' w'∧Mem Z M w C' Z' bs2 w'∧VR Z' w' C' res v
/-- A function that turns blocks 'bs' to 'bs2' (new ones behind them). -/
def Lent (P:Program) (f:FuncId) (args:List AV) (bs:List Blk) (res:AV) (bs2:List Blk):Prop :=
 ∀ (Z:Nat→Prop) (w:World) (C:Ctx) (cargs:Array Value),Mem Z (Own C) w C Z bs w→VRs Z w C args cargs.toList →
  Calls P f cargs w fun e w'=>∃ v,e=.returned v∧Left Z (Own C) w C res bs2 v w'
structure LentE (P:Program) (f:FuncId) (gA:List AV) (res:AV) (bs2:List Blk) (E:Env):Prop where
 ro:E.b.roundOf=none
 kind:E.b.kind=.normal
 fn:E.b.fn=f
 gA:E.gA=gA
 df:E.df=[]
 fin:E.Fin=VW P f E.cs (Left E.Z0 E.M E.w0 E.Cb res bs2)
theorem LentE.nogh {f:FuncId} {k g:Nat} {res:AV} {bs2:List Blk} (hE:LentE P f [.sl k g 0 0 1] res bs2 E) {m:Nat} (h:Nat.ble (k+1) m=true):refsBelows m E.gA=true:=by
 rw [hE.gA]
 have:=Nat.le_of_ble_eq_true h
 simp [refsBelows,QW]; omega
theorem lent_of {f:FuncId} {fn:Func} {c:Code} {args:List AV} {bs bs2:List Blk} {res:AV} (b:Blk) (hf:P.funcs[f]?=some fn) (hb:fn.body=some c) (hl:bs.getLast?=some b) (hlv:b.live=true)
 (h:∀ E,LentE P f [.sl (bs.length - 1) b.gen 0 0 1] res bs2 E→G P E [.code c] ⟨args++unds (fn.ntmps - args.length),bs⟩) (hbz:b.sz ≠ 0:=by simp):Lent P f args bs res bs2:=by
 intro Z w C cargs hm ha cs
 have hn:bs ≠ []:=by rintro rfl; simp at hl
 have hlen:0<bs.length:=List.length_pos_iff.2 hn
 have hk:bs[bs.length - 1]?=some b:=by rw [List.getLast?_eq_getElem?] at hl; exact hl
 have hgh:VR Z w C (.sl (bs.length - 1) b.gen 0 0 1) (.slice none 0 0):=by
  have hg:=hm.gen _ _ hk
  refine .sl (by rw [hg]; exact Nat.le_refl _) rfl fun _=>?_
  obtain ⟨q1,q2⟩:=hm.blk _ _ hk hlv
  unfold SlOk
  cases hs:C.β (bs.length - 1) with
  | absent=>simp [hs] at q2
  | unborn=>exact ⟨rfl,none,rfl⟩
  | loc blk o =>
   simp only [hs] at q2
   obtain ⟨arr,e,r1,r2,r3⟩:=q2.cells hbz
   exact ⟨none,0,rfl,Nat.le_refl _,fun h=>absurd rfl h,arr,e,r1,by omega⟩
 have hlow:∀ n,refsBelows n [AV.sl (bs.length - 1) b.gen 0 0 1]=true→∀ k,n≤k→C.β k=.absent∧C.γ k=0:=fun n h1 k h2=>hm.dom k (by
  simp [refsBelows,QW] at h1; omega)
 let E:Env:=⟨Z,Own C,w,{ (default:Frame) with fn:=f,kind:=.normal },cs,VW P f cs (Left Z (Own C) w C res bs2),[.sl (bs.length - 1) b.gen 0 0 1],[.slice none 0 0],[],C,hlow⟩
 have hE:LentE P f [.sl (bs.length - 1) b.gen 0 0 1] res bs2 E:=⟨rfl,rfl,rfl,rfl,rfl,rfl⟩
 have henter:Frame.enter P f cargs .normal=({ (default:Frame) with fn:=f,kind:=.normal }:Frame).atR { tmps:=cargs++Array.replicate (fn.ntmps - cargs.size) undef,defers:=[] } [.code c]:=by
  simp only [Frame.enter,Frame.atR,hf,hb,Option.map_some,Option.getD_some,Option.bind_some]; rfl
 have hl2:args.length=cargs.size:=by simpa using ha.1
 obtain ⟨m',s,v,w',fr,rfl,r1,r2,r3⟩:=h _ hE C Z { tmps:=cargs++Array.replicate (fn.ntmps - cargs.size) undef,defers:=[] } w
  ⟨⟨by simp [Vz,hl2],fun i x y p q=>by
   simp only [Array.toList_append,Array.toList_replicate] at q
   rw [Vz] at p
   by_cases hi:i<args.length
   · rw [List.getElem?_append_left hi] at p
     rw [List.getElem?_append_left (by simpa [← hl2] using hi)] at q
     exact ha.2 i x y p q
   · rw [List.getElem?_append_right (by omega)] at p
     rw [List.getElem?_append_right (by simp; omega)] at q
     have p':=List.mem_replicate.1 (List.mem_of_getElem? p)
     have q':=List.mem_replicate.1 (List.mem_of_getElem? q)
     rw [p'.2,q'.2]
     exact .tup rfl (by simp)⟩,hm,⟨[],.nil,.nil,by simp⟩,⟨rfl,fun i x y p q=>by
   cases i with
   | zero=>simp [E] at p q; rw [← p,← q]; exact hgh
   | succ i=>simp [E] at p⟩,.refl⟩
 rw [henter]
 exact ⟨.returned v,w',fr,⟨v,rfl,r3⟩,s,r1,r2⟩
/-- Called by its value. -/
theorem WS {f : FuncId} {fn : Func} {c : Code} {first args cap : List AV} {bs bs2 : List Blk} {res : AV} (hf : P.funcs[f]? = some fn) (hname : (fn.name == "runtime.NumGoroutine") = false) (hb : fn.body = some c)
    (h : Lent P f (first ++ args ++ cap) bs res bs2) : LentF P (.clos f first cap) args bs res bs2 := by
  intro Z w C cf cargs hm hcf ha
  cases hcf with
  | @clos _ _ _ _ fa ca hl h1 hl' h2 =>
    refine ⟨{ target := .fn (.func f) ca, args := fa ++ cargs }, f, fa ++ cargs ++ ca, rfl, ?_, ?_⟩
    · have := Go.Proofs.enters_of (P := P) hf hname hb (fa ++ cargs ++ ca) w
      simpa [invoke] using this
    · refine (h Z w C _ hm ⟨by have := ha.1; simp at this; simp [hl, hl', this], fun i x y p q => ?_⟩).mono ?_
      · have hal : args.length = cargs.size := by simpa using ha.1
        simp only [Array.toList_append] at q
        rw [List.append_assoc] at p q
        by_cases i1 : i < first.length
        · rw [List.getElem?_append_left i1] at p
          rw [List.getElem?_append_left (by simpa [← hl] using i1)] at q
          exact h1 i x y p (by simpa using q)
        · rw [List.getElem?_append_right (by omega)] at p
          rw [List.getElem?_append_right (by simp; omega)] at q
          have e1 : fa.toList.length = first.length := by simp [hl]
          rw [e1] at q
          by_cases i2 : i - first.length < args.length
          · rw [List.getElem?_append_left i2] at p
            rw [List.getElem?_append_left (by simpa [← hal] using i2)] at q
            exact ha.2 _ x y p q
          · rw [List.getElem?_append_right (by omega)] at p
            rw [List.getElem?_append_right (by simp; omega)] at q
            have e2 : cargs.toList.length = args.length := by simp [hal]
            rw [e2] at q
            exact h2 _ x y p (by simpa using q)
      · rintro e w' ⟨v, rfl, C', Z', q1, q2, q3⟩
        exact ⟨v, C', Z', rfl, q1, q2, q3⟩

/-- A block that is handed over for good: it lies frozen from here on. -/
def kill (b:Blk):Blk:=⟨false,b.gen+1,b.sz,true,[],false⟩
/-- To the end of a function that turns what it was handed: the first 'm' blocks are left. -/
def endB (P:Program) (fn:Func) (live:List Nat) (m n:Nat) (K:List Item) (st:St) (evs:List EV):Option (AV × List Blk × List Prop) :=
 match walk P n K st evs with
 | some (K',st1,evs1,o1) =>
  (match isEnd K',weak live m st1 with
  | true,some st2 =>
   (match resA P st2 fn.results.toList evs1 with
   | some (vs,_,o2)=>some (tupA vs,st2.blks,o1++o2)
   | none=>none)
  | _,_=>none)
 | none=>none
theorem qE {n m:Nat} {live:List Nat} {f:FuncId} {fn:Func} {evs:List EV} {r res:AV} {gA:List AV} {bs2 bs3:List Blk} {obs:List Prop} (hE:LentE P f gA res bs2 E) (hgh:refsBelows m E.gA=true) (hf:P.funcs[f]?=some fn) (hmx:P.follows .mixedOrders=true)
 (h:endB P fn live m n K st evs=some (r,bs3,obs)) (ho:AllP obs) (hr:r=res) (hb:bs3=bs2):G P E K st:=by
 subst hr
 subst hb
 unfold endB at h
 split at h
 · rename_i K' st1 evs1 o1 h1
   split at h
   · rename_i st2 hK h2
     split at h
     · rename_i vs evs2 o2 h3
       simp only [Option.some.injEq,Prod.mk.injEq] at h
       obtain ⟨rfl,rfl,rfl⟩:=h
       obtain ⟨a1,a2⟩:=Qt.1 ho
       have hfn:=hE.fn
       refine QL hE.kind hmx h1 a1 (WX hgh h2 (G_end (Post:=Left E.Z0 E.M E.w0 E.Cb (tupA vs) st2.blks) hE.ro hE.kind hE.df (by rw [hfn]; exact hf) (by rw [hE.fin,hfn]) h3 a2 (fun C Z w v hm hv hbs=>⟨C,Z,hbs,hm,hv⟩) (Wl hK)))
     · cases h
   · cases h
 · cases h
end
end Ax
namespace Ax
open Go
section
variable {P:Program} {E:Env} {K K':List Item} {st st':St}
/-! ### The frame of a deferred closure -/
def EndedK (P:Program) (f:FuncId) (cs:List Frame) (Post:Value→World→Prop) (m:Machine):Prop :=
 ∃ v w' fr,m=lone fr cs w'∧fr.kind=.deferred∧fr.going P w' (.returned v)∧Post v w'
structure LentKE (P:Program) (f:FuncId) (gA:List AV) (res:AV) (bs2:List Blk) (E:Env):Prop where
 ro:E.b.roundOf=none
 kind:E.b.kind=.deferred
 fn:E.b.fn=f
 gA:E.gA=gA
 df:E.df=[]
 fin:E.Fin=EndedK P f E.cs (Left E.Z0 E.M E.w0 E.Cb res bs2)
theorem LentKE.nogh {f:FuncId} {k g:Nat} {res:AV} {bs2:List Blk} (hE:LentKE P f [.sl k g 0 0 1] res bs2 E) {m:Nat} (h:Nat.ble (k+1) m=true):refsBelows m E.gA=true:=by
 rw [hE.gA]
 have:=Nat.le_of_ble_eq_true h
 simp [refsBelows,QW]; omega
/-! ### The frame that has deferred -/
structure LentDE (P:Program) (f:FuncId) (g0:List AV) (clo:AV) (res:AV) (bs2:List Blk) (E:Env):Prop where
 ro:E.b.roundOf=none
 kind:E.b.kind=.normal
 fn:E.b.fn=f
 gA:E.gA=g0++[clo]
 df:∃ cf d,E.gV.getLast?=some cf∧(∀ w,(Deferred.ofValue cf #[]).run P w=.ok d w)∧E.df=[d]
 fin:E.Fin=VW P f E.cs (Left E.Z0 E.M E.w0 E.Cb res bs2)
 low:∀ n,refsBelows n g0=true→∀ k,n≤k→E.Cb.β k=.absent∧E.Cb.γ k=0
theorem LentDE.nogh {f:FuncId} {k g fi k2 g2 o2:Nat} {res:AV} {bs2:List Blk} (hE:LentDE P f [.sl k g 0 0 1] (.clos fi [] [.ptr k2 g2 o2]) res bs2 E) {m:Nat} (h:(Nat.ble (k+1) m && Nat.ble (k2+1) m)=true):refsBelows m E.gA=true:=by
 rw [hE.gA]
 rw [Bool.and_eq_true] at h
 have h1:=Nat.le_of_ble_eq_true h.1
 have h2:=Nat.le_of_ble_eq_true h.2
 simp [refsBelows,QW]; omega
/-! ### What comes back in new memory -/
structure PureNE (P:Program) (f:FuncId) (res:AV) (E:Env):Prop where
 ro:E.b.roundOf=none
 kind:E.b.kind=.normal
 fn:E.b.fn=f
 nm:∀ b,¬ E.M b
 gA:E.gA=[]
 fin:E.Fin=(VW P f E.cs fun v w'=>VR (Zn E.w0 w') w' C0 res v∧Fr E.w0 (fun _=>False) w')
 cb:E.Cb=C0
 df:E.df=[]
theorem PureNE.nogh {f:FuncId} {res:AV} (hE:PureNE P f res E) (m:Nat):refsBelows m E.gA=true:=by rw [hE.gA]; rfl
theorem VR.layN {Z Z0 M:Nat→Prop} {w0 w:World} {C:Ctx} {blks:List Blk} (hm:Mem Z0 M w0 C Z blks w) {k g off len sz:Nat} {b:Blk} {c:Value} (hb:blks[k]?=some b) (hl:b.live=true) (hz:b.sz ≠ 0) (hf:b.flat=true) (hg:g=b.gen) (hsc:∀ x ∈ b.cells,YA x=true)
 (h:VR Z w C (.sl k g off len sz) c) {C':Ctx}:VR (fun c=>∃ o,C.β k=.loc c o) w C' (.rsl b.cells off len) c:=by
 have hok:=sl_at hm hb hg h
 obtain ⟨hk,h1⟩:=hm.blk k b hb hl
 unfold SlOk at hok
 split at hok
 · rename_i bl o hβ
   obtain ⟨a,cap,rfl,hlc,ha,-⟩:=hok
   simp only [hβ] at h1
   obtain ⟨arr,e,hh,hsz,hc⟩:=h1.cells hz
   by_cases hlen:len=0
   · subst hlen; exact .rsl0
   · obtain rfl:=ha (by omega)
     refine .rsl (fun i=>arr.getD (o+i) undef) ⟨o,hβ⟩ hlc (fun i hi=>?_) hk (fun i c hi=>?_)
     · rw [Yv hh]; simp [Array.getD,show o+i<arr.size by omega]
     · obtain ⟨v,h2,h3⟩:=hc i c hi
       simp only [hf,if_true] at h3
       have:arr.getD (o+i) undef=v:=by
        have hlt:=(Array.getElem?_eq_some_iff.1 h2).1
        simp [Array.getD,hlt]; exact (Array.getElem?_eq_some_iff.1 h2).2
       show VR _ w C0 c (arr.getD (o+i) undef)
       rw [this]
       exact Wc (hsc c (List.mem_of_getElem? hi)) h3
 · obtain ⟨rfl,a,rfl⟩:=hok
   exact .rsl0
 · exact hok.elim
end
end Ax
namespace Ax
open Go
section
variable {P:Program} {E:Env} {K k:List Item} {st:St}
end
end Ax
namespace Ax
open Go
def WL:List AV→List AV→Prop
 | [],[]=>True
 | x :: xs,y :: ys=>AvLe x y∧Xk y=true∧Xz y=true∧WL xs ys
 | _,_=>False
theorem WL.app:∀ {a b c d:List AV},WL a b→WL c d→WL (a++c) (b++d)
 | [],[],c,d,_,h=>h
 | x :: a,y :: b,c,d,h1,h2=>⟨h1.1,h1.2.1,h1.2.2.1,WL.app h1.2.2.2 h2⟩
theorem WL.length:∀ {a b:List AV},WL a b→b.length=a.length
 | [],[],_=>rfl
 | x :: a,y :: b,h=>by simp [WL.length h.2.2.2]
theorem WL.get:∀ {a b:List AV} {i:Nat} {y:AV},WL a b→b[i]?=some y→∃ x,a[i]?=some x∧AvLe x y∧Xk y=true∧Xz y=true
 | [],[],i,y,_,h=>by simp at h
 | x :: a,z :: b,0,y,h,hi=>by simp at hi; subst hi; exact ⟨x,rfl,h.1,h.2.1,h.2.2.1⟩
 | x :: a,z :: b,i+1,y,h,hi=>by
  obtain ⟨x',h1,h2⟩:=WL.get h.2.2.2 (by simpa using hi)
  exact ⟨x',by simpa using h1,h2⟩
section
variable {P:Program} {E:Env} {K:List Item} {st:St}
end
end Ax
namespace Ax
open Go
section
variable {P:Program} {E:Env} {K K':List Item} {st st':St}
def cutOk (n:Nat) (blks:List Blk):Bool:=(blks.take n).all fun b=>!b.live || b.flat || refsBelows n (bif b.sz == 0 then b.cells.take 1 else b.cells)
theorem Mem.cut {Z0 M Z:Nat→Prop} {w0 w:World} {C:Ctx} {blks:List Blk} {n:Nat} (hm:Mem Z0 M w0 C Z blks w) (h2:cutOk n blks=true):Mem Z0 M w0 (C.cut n) Z (blks.take n) w:=by
 have hget:∀ {k:Nat} {b:Blk},(blks.take n)[k]?=some b→k<n∧blks[k]?=some b:=by
  intro k b hb
  rw [List.getElem?_take] at hb
  split at hb
  · exact ⟨‹_›,hb⟩
  · cases hb
 refine ⟨fun k b hb hl=>?_,fun k b hb=>?_,fun k b hb hd=>?_,fun k hk=>?_,fun k k' c o o' e1 e2=>?_,fun k c o e1=>?_,hm.zlt,hm.z0,hm.zsub,hm.frame⟩
 · obtain ⟨hkn,hb'⟩:=hget hb
   obtain ⟨q1,q2⟩:=hm.blk k b hb' hl
   refine ⟨q1,?_⟩
   simp only [Ctx.cut,hkn,if_true]
   cases hs:C.β k with
   | absent=>simp [hs] at q2
   | unborn=>simp only [hs] at q2 ⊢; exact q2
   | loc blk o =>
    simp only [hs] at q2 ⊢
    refine q2.next1 rfl (fun c v h=>h) fun hf c v hc s2=>?_
    have:=List.all_eq_true.1 h2 b (List.mem_of_getElem? hb)
    simp only [hl,hf,Bool.not_true,Bool.false_or] at this
    obtain ⟨i,hi⟩:=List.getElem?_of_mem hc
    exact s2.cut (QV this hi)
 · obtain ⟨hkn,hb'⟩:=hget hb
   simp only [Ctx.cut,hkn,if_true]; exact hm.gen k b hb'
 · obtain ⟨hkn,hb'⟩:=hget hb
   simp only [Ctx.cut,hkn,if_true]; exact hm.dd k b hb' hd
 · simp only [List.length_take] at hk
   simp only [Ctx.cut]
   by_cases hkn:k<n
   · simp only [hkn,if_true]; exact hm.dom k (by omega)
   · simp [hkn]
 · simp only [Ctx.cut] at e1 e2
   split at e1 <;> split at e2 <;> first | exact hm.inj k k' c o o' e1 e2 | cases e1 | cases e2
 · simp only [Ctx.cut] at e1
   split at e1
   · exact hm.own k c o e1
   · cases e1
/-! ### Nil slices in a block's cells,seen as empty ones -/
def LeD:List AV→List AV→Prop
 | [],[]=>True
 | x :: xs,y :: ys=>(x=y ∨ (x=.nilSl∧y=.rsl [] 0 0))∧LeD xs ys
 | _,_=>False
theorem LeD.refl:∀ (a:List AV),LeD a a
 | []=>trivial
 | _ :: a=>⟨.inl rfl,LeD.refl a⟩
theorem LeD.app:∀ {a b c d:List AV},LeD a b→LeD c d→LeD (a++c) (b++d)
 | [],[],_,_,_,h=>h
 | _ :: _,_ :: _,_,_,h1,h2=>⟨h1.1,LeD.app h1.2 h2⟩
theorem LeD.length:∀ {a b:List AV},LeD a b→b.length=a.length
 | [],[],_=>rfl
 | _ :: _,_ :: _,h=>by simp [LeD.length h.2]
theorem LeD.get:∀ {a b:List AV} {i:Nat} {y:AV},LeD a b→b[i]?=some y→∃ x,a[i]?=some x∧(x=y ∨ (x=.nilSl∧y=.rsl [] 0 0))
 | [],[],i,y,_,h=>by simp at h
 | x :: a,z :: b,0,y,h,hi=>by simp at hi; subst hi; exact ⟨x,rfl,h.1⟩
 | x :: a,z :: b,i+1,y,h,hi=>by
  obtain ⟨x',h1,h2⟩:=LeD.get h.2 (by simpa using hi)
  exact ⟨x',by simpa using h1,h2⟩
theorem weakD_step {k:Nat} {b:Blk} {cells':List AV} (hb:st.blks[k]?=some b) (hl:b.live=true) (hz:b.sz ≠ 0) (hle:LeD b.cells cells')
 (hg:G P E K ⟨st.tmps,st.blks.set k { b with cells:=cells' }⟩):G P E K st:=by
 intro C Z a w hr
 have hm:=hr.mem
 obtain ⟨q1,q2⟩:=hm.blk k b hb hl
 have hgen:=hm.gen k b hb
 have:=hm.change (b':={ b with cells:=cells' }) (w':=w) (s:=C.β k) (g:=C.γ k) hb rfl rfl rfl (Nat.le_refl _) (fun _ _ _=>rfl)
  (fun blk o arr e _ h=>⟨arr,h,rfl⟩) (Nat.le_refl _) (fun _ _=>rfl) hl hgen.symm (fun blk o h=>.inl ⟨o,h⟩) (fun hle' hevo _=>by
    refine ⟨fun i x hi=>?_,?_⟩
    · obtain ⟨x0,h1,h2⟩:=hle.get hi
      rcases h2 with rfl | ⟨-,rfl⟩
      · exact q1 i _ h1
      · rfl
    rw [Ctx.put_id]
    cases hs:C.β k with
    | absent=>simp [hs] at q2
    | unborn =>
     simp only [hs] at q2 ⊢
     have:=hle.length
     rw [q2] at this
     exact List.length_eq_zero_iff.1 this
    | loc blk o =>
     simp only [hs] at q2 ⊢
     obtain ⟨arr,te,r1,r2,r3⟩:=q2.cells hz
     refine .inl ⟨hz,arr,te,r1,by rw [hle.length]; exact r2,fun i x hi=>?_⟩
     obtain ⟨x0,h1,h2⟩:=hle.get hi
     obtain ⟨v,s1,s2⟩:=r3 i x0 h1
     refine ⟨v,s1,?_⟩
     rcases h2 with rfl | ⟨rfl,rfl⟩
     · exact s2
     · cases s2; exact .rsl0)
 rw [Ctx.put_id] at this
 exact hg C Z a w ⟨hr.tmp,this.1,hr.marks,hr.gh,hr.base⟩
/-! ### A segment whose blocks hold symbolic rows beside references -/
mutual
theorem refsBelow_nr {n:Nat}:∀ {v:AV},Xz v=true→QW n v=true
 | .ptr ..,h=>by simp [Xz] at h
 | .sl ..,h=>by simp [Xz] at h
 | .mp ..,h=>by simp [Xz] at h
 | .agg cs,h=>by simp only [Xz,QW] at h ⊢; exact refsBelows_nr h
 | .tup cs,h=>by simp only [Xz,QW] at h ⊢; exact refsBelows_nr h
 | .clos _ a b,h=>by
  simp only [Xz,QW,Bool.and_eq_true] at h ⊢
  exact ⟨refsBelows_nr h.1,refsBelows_nr h.2⟩
 | .bool ..,_=>rfl
 | .int ..,_=>rfl
 | .nilPtr,_=>rfl
 | .rptr ..,_=>rfl
 | .nilSl,_=>rfl
 | .rsl ..,_=>rfl
 | .nilFunc,_=>rfl
 | .rmap ..,_=>rfl
 | .opq ..,_=>rfl
 | .junk,_=>rfl
theorem refsBelows_nr {n:Nat}:∀ {cs:List AV},noRefs cs=true→refsBelows n cs=true
 | [],_=>rfl
 | c :: cs,h=>by
  simp only [noRefs,refsBelows,Bool.and_eq_true] at h ⊢
  exact ⟨refsBelow_nr h.1,refsBelows_nr h.2⟩
end
/-! ### A call that turns one block of the caller's,in a region whose order is drawn -/
end
end Ax