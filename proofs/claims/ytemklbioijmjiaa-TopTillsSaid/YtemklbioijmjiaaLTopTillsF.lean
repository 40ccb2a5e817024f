/- A part of the proof: several texts, one behind the other. -/
import Derived.Test.YtemklbioijmjiaaLTopTillsE
import Derived.Laws.Bits64b
import Derived.Laws.BitsLemmas
import Derived.Laws.Runes
set_option linter.unusedVariables false
set_option linter.unusedSimpArgs false
set_option maxRecDepth 100000
namespace Go.Proofs.Ytemklbioijmjiaa
open Go Ax
open Go.Proofs
structure Pay where
 frm:Int
 to:Int
 c:Int
def cPay (b:Pay):List AV:=[.int .i64 b.frm,.int .i64 b.to,.int .i64 b.c]
def QE (l:List Pay):List AV:=l.flatMap cPay
theorem f230b:Try.f230.body=some (Qd Try.prog 230):=by kernel_rfl
theorem u230 {a c k:List AV} {r:AV} (h:Pure Try.prog 230 (a++c++k) r):Qe Try.prog (.clos 230 a k) c r:=Qs Try.func230 (by kernel_rfl) f230b h
theorem p230_start_0 (n:Int) {E:Env} {res:AV} (hE:Qg Try.prog 230 res E) (ho:AllP [Qe Try.prog (.clos 110 [] []) [.int .i64 n,.int .i64 (-10000000000),.int .i64 10000000000] (.bool (Qk n (-10000000000) 10000000000))])
 (hr:AvLe (.bool (!(Qk n (-10000000000) 10000000000))) res):G Try.prog E [.code (Qd Try.prog 230)] ⟨[.int .i64 n]++unds (Try.f230.ntmps - 1),[]⟩ :=
 Qc (n:=400) (evs:=[.v (.bool (Qk n (-10000000000) 10000000000))]) (obs:=_) hE Try.func230 Qo (by kernel_rfl) ho hr
theorem f230W (n:Int) {E:Env} {rv:Bool} (hE:Qg Try.prog 230 (.bool rv) E)
 (h:rv=(!(Qk n (-10000000000) 10000000000))):G Try.prog E [.code (Qd Try.prog 230)] ⟨[.int .i64 n]++unds (Try.f230.ntmps - 1),[]⟩:=by
 exact p230_start_0 n hE ⟨(u110 (Xz n (-10000000000) 10000000000)),trivial⟩ (AvLe.of_eq (by rw [h]; try rfl))
def balN (n:Int):Bool:=Qk n (-10000000000) 10000000000
theorem notBal_ok (n:Int):Pure Try.prog 230 [.int .i64 n] (.bool (!balN n)):=QC Try.func230 f230b fun E hE=>f230W n hE rfl
theorem f74cb:Try.f59.body=some (Qd Try.prog 59):=by kernel_rfl
def Qat (P:Program):List Item:=kAt 400 [.code (Qd P 59)] [.stop]
def f74cS0 (l:(List Int)) (i:Nat):St:=⟨([.rsl (rowI l) 0 l.length,.clos 230 [] []]++jj 5 ([.int .i64 (l.length:Int),.int .i64 (i:Int)]++Js 10)),[]⟩
def f74cG0 (E:Env) (l:(List Int)) (i:Nat):Prop:=G Try.prog E (Qat Try.prog) (f74cS0 l i )
theorem p59c_start_0 (l:(List Int)) {E:Env} {rv:AV} (hE:Qg Try.prog 59 rv E) (ho:AllP [])
 (hg:G Try.prog E (Qat Try.prog) ⟨([.rsl (rowI l) 0 l.length,.clos 230 [] []]++jj 5 ([.int .i64 (l.length:Int),.int .i64 0]++Js 10)),[]⟩):G Try.prog E [.code (Qd Try.prog 59)] ⟨[.rsl (rowI l) 0 l.length,.clos 230 [] []]++unds (Try.f59.ntmps - 2),[]⟩ :=
 Ql (n:=400) (ds:=[]) (cs:=[]) (live:=[0,1,7,8]) (m:=0) (evs:=[.stop]) (obs:=_) hE.2.1 (hE.nogh _) Qo (by kernel_rfl) ho hg
theorem f74cW (l:(List Int)) {E:Env} {rv:Int} (hE:Qg Try.prog 59 (.int .i64 rv) E)
 (h:f74cG0 E l 0):G Try.prog E [.code (Qd Try.prog 59)] ⟨[.rsl (rowI l) 0 l.length,.clos 230 [] []]++unds (Try.f59.ntmps - 2),[]⟩:=by
 exact p59c_start_0 l hE trivial h
theorem p59c_0_0 (l:(List Int)) (i:Nat) (e:Int) {E:Env} {res:AV} (hE:Qg Try.prog 59 res E) (ho:AllP [(decide ((i:Int)<(l.length:Int)))=true,0≤(i:Int)∧(i:Int)<(l.length:Int),((rowI l).drop (0+(Int.toNat (i:Int))*1)).take 1=[.int .i64 e],Qe Try.prog (.clos 230 [] []) [.int .i64 e] (.bool (!balN e)),(!balN e)=true])
 (hr:AvLe (.int .i64 (i:Int)) res):G Try.prog E (Qat Try.prog) (f74cS0 l i ) :=
 Qc (n:=400) (evs:=[.b true,.ld (.int .i64 e),.v (.bool (!balN e)),.b true]) (obs:=_) hE Try.func59 Qo (by kernel_rfl) ho hr
theorem p59c_0_1 (l:(List Int)) (i:Nat) (e:Int) {E:Env} {rv:AV} (hE:Qg Try.prog 59 rv E) (ho:AllP [(decide ((i:Int)<(l.length:Int)))=true,0≤(i:Int)∧(i:Int)<(l.length:Int),((rowI l).drop (0+(Int.toNat (i:Int))*1)).take 1=[.int .i64 e],Qe Try.prog (.clos 230 [] []) [.int .i64 e] (.bool (!balN e)),(!balN e)=false,InR .i64 ((i:Int)+1)])
 (hg:G Try.prog E (Qat Try.prog) ⟨([.rsl (rowI l) 0 l.length,.clos 230 [] []]++jj 5 ([.int .i64 (l.length:Int),.int .i64 ((i:Int)+1)]++Js 10)),[]⟩):G Try.prog E (Qat Try.prog) (f74cS0 l i ) :=
 Ql (n:=400) (ds:=[]) (cs:=[]) (live:=[0,1,7,8]) (m:=0) (evs:=[.b true,.ld (.int .i64 e),.v (.bool (!balN e)),.b false,.stop]) (obs:=_) hE.2.1 (hE.nogh _) Qo (by kernel_rfl) ho hg
theorem p59c_0_2 (l:(List Int)) (i:Nat) {E:Env} {res:AV} (hE:Qg Try.prog 59 res E) (ho:AllP [(decide ((i:Int)<(l.length:Int)))=false])
 (hr:AvLe (.int .i64 (-1)) res):G Try.prog E (Qat Try.prog) (f74cS0 l i ) :=
 Qc (n:=400) (evs:=[.b false]) (obs:=_) hE Try.func59 Qo (by kernel_rfl) ho hr
theorem f74cW0 (l:(List Int)) (i:Nat) {E:Env} {rv:Int} (hE:Qg Try.prog 59 (.int .i64 rv) E)
 (h:(((i:Int)<(l.length:Int)→(∃ e:Int,l[i]?=some e∧(((!balN e)=true→rv=(i:Int))∧((!balN e)=false→((I6 ((i:Int)+1))∧f74cG0 E l (i+1))))))∧(¬ ((i:Int)<(l.length:Int))→rv=(-1)))):f74cG0 E l i:=by
 rcases bft (decide ((i:Int)<(l.length:Int))) with hc0 | hc0
 · have h:=h.1 (odt hc0)
   obtain ⟨e,h1,h⟩:=h
   rcases bft (!balN e) with hc1 | hc1
   · have h:=h.1 hc1
     exact p59c_0_0 l i e hE ⟨hc0,(QF h1),(rp cI 1 0 1 h1),(u230 (notBal_ok e)),hc1,trivial⟩ (AvLe.of_eq (by rw [h]; try rfl))
   · have h:=h.2 hc1
     obtain ⟨q6_2,h⟩:=h
     exact p59c_0_1 l i e hE ⟨hc0,(QF h1),(rp cI 1 0 1 h1),(u230 (notBal_ok e)),hc1,q6_2,trivial⟩ h
 · have h:=h.2 (odf hc0)
   exact p59c_0_2 l i hE ⟨hc0,trivial⟩ (AvLe.of_eq (by rw [h]; try rfl))
theorem idx69_ok (l:List Int) (h:l.length≤9223372036854775807):Pure Try.prog 59 [.rsl (rowI l) 0 l.length,.clos 230 [] []] (.int .i64 (idxI (fun x=>!balN x) l)):=QC Try.func59 f74cb fun E hE=>by
 refine f74cW l hE (Qcd (fun x=>!balN x) l l.length 0 (by omega) (fun j x hj=>by omega) (fun i=>f74cG0 E l i) (fun i hi h1 h2=>?_) (fun _ h2=>?_))
 · have hx:l[i]?=some l[i]:=List.getElem?_eq_getElem hi
   exact f74cW0 l i hE ⟨fun _=>⟨_,hx,fun hp=>h1 _ hx hp,fun hp=>⟨by omega,h2 _ hx hp⟩⟩,fun h=>by omega⟩
 · exact f74cW0 l _ hE ⟨fun h=>by omega,fun _=>h2⟩
theorem f62cb:Try.f76.body=some (Qd Try.prog 76):=by kernel_rfl
theorem p76c_start_0 (l:(List Int)) {E:Env} {res:AV} (hE:Qg Try.prog 76 res E) (ho:AllP [Qe Try.prog (.clos 59 [] []) [.rsl (rowI l) 0 l.length,.clos 230 [] []] (.int .i64 (idxI (fun x=>!balN x) l))])
 (hr:AvLe (.bool (decide ((idxI (fun x=>!balN x) l)≥0))) res):G Try.prog E [.code (Qd Try.prog 76)] ⟨[.rsl (rowI l) 0 l.length,.clos 230 [] []]++unds (Try.f76.ntmps - 2),[]⟩ :=
 Qc (n:=400) (evs:=[.v (.int .i64 (idxI (fun x=>!balN x) l))]) (obs:=_) hE Try.func76 Qo (by kernel_rfl) ho hr
theorem f62cW (l:(List Int)) {E:Env} {rv:Bool} (hE:Qg Try.prog 76 (.bool rv) E)
 (h:((l.length≤9223372036854775807)∧rv=(decide ((idxI (fun x=>!balN x) l)≥0)))):G Try.prog E [.code (Qd Try.prog 76)] ⟨[.rsl (rowI l) 0 l.length,.clos 230 [] []]++unds (Try.f76.ntmps - 2),[]⟩:=by
 obtain ⟨h1,h⟩:=h
 exact p76c_start_0 l hE ⟨(Qs Try.func59 (by kernel_rfl) f74cb (idx69_ok l h1)),trivial⟩ (AvLe.of_eq (by rw [h]; try rfl))
theorem any69_ok (l:List Int) (h:l.length≤9223372036854775807):Pure Try.prog 76 [.rsl (rowI l) 0 l.length,.clos 230 [] []] (.bool (l.any fun x=>!balN x)):=QC Try.func76 f62cb fun E hE =>
 f62cW l hE ⟨h,(idx_any _ _).symm⟩
def balB (l:List Int):Bool:=Qk l.length 1 10 && !(l.any fun x=>!balN x)
theorem f176b:Try.f176.body=some (Qd Try.prog 176):=by kernel_rfl
theorem u176 {a c k:List AV} {r:AV} (h:Pure Try.prog 176 (a++c++k) r):Qe Try.prog (.clos 176 a k) c r:=Qs Try.func176 (by kernel_rfl) f176b h
theorem p176_start_0 (l:(List Int)) {E:Env} {res:AV} (hE:Qg Try.prog 176 res E) (ho:AllP [Qe Try.prog (.clos 110 [] []) [.int .i64 (l.length:Int),.int .i64 1,.int .i64 10] (.bool (Qk (l.length:Int) 1 10)),(Qk (l.length:Int) 1 10)=true,Qe Try.prog (.clos 76 [] []) [.rsl (rowI l) 0 l.length,.clos 230 [] []] (.bool (l.any (fun x=>!balN x)))])
 (hr:AvLe (.bool (!(l.any (fun x=>!balN x)))) res):G Try.prog E [.code (Qd Try.prog 176)] ⟨[.rsl (rowI l) 0 l.length]++unds (Try.f176.ntmps - 1),[]⟩ :=
 Qc (n:=400) (evs:=[.v (.bool (Qk (l.length:Int) 1 10)),.b true,.v (.bool (l.any (fun x=>!balN x)))]) (obs:=_) hE Try.func176 Qo (by kernel_rfl) ho hr
theorem p176_start_1 (l:(List Int)) {E:Env} {res:AV} (hE:Qg Try.prog 176 res E) (ho:AllP [Qe Try.prog (.clos 110 [] []) [.int .i64 (l.length:Int),.int .i64 1,.int .i64 10] (.bool (Qk (l.length:Int) 1 10)),(Qk (l.length:Int) 1 10)=false])
 (hr:AvLe (.bool false) res):G Try.prog E [.code (Qd Try.prog 176)] ⟨[.rsl (rowI l) 0 l.length]++unds (Try.f176.ntmps - 1),[]⟩ :=
 Qc (n:=400) (evs:=[.v (.bool (Qk (l.length:Int) 1 10)),.b false]) (obs:=_) hE Try.func176 Qo (by kernel_rfl) ho hr
theorem f176W (l:(List Int)) {E:Env} {rv:Bool} (hE:Qg Try.prog 176 (.bool rv) E)
 (h:(((Qk (l.length:Int) 1 10)=true→((l.length≤9223372036854775807)∧rv=(!(l.any (fun x=>!balN x)))))∧((Qk (l.length:Int) 1 10)=false→rv=false))):G Try.prog E [.code (Qd Try.prog 176)] ⟨[.rsl (rowI l) 0 l.length]++unds (Try.f176.ntmps - 1),[]⟩:=by
 rcases bft (Qk (l.length:Int) 1 10) with hc0 | hc0
 · have h:=h.1 hc0
   obtain ⟨h1,h⟩:=h
   exact p176_start_0 l hE ⟨(u110 (Xz (l.length:Int) 1 10)),hc0,(Qs Try.func76 (by kernel_rfl) f62cb (any69_ok l h1)),trivial⟩ (AvLe.of_eq (by rw [h]; try rfl))
 · have h:=h.2 hc0
   exact p176_start_1 l hE ⟨(u110 (Xz (l.length:Int) 1 10)),hc0,trivial⟩ (AvLe.of_eq (by rw [h]; try rfl))
theorem YJ (l:List Int) (h:l.length≤9223372036854775807):Pure Try.prog 176 [.rsl (rowI l) 0 l.length] (.bool (balB l)):=QC Try.func176 f176b fun E hE=>by
 refine f176W l hE ⟨fun h1=>⟨h,by simp [balB,h1]⟩,fun h1=>by simp [balB,h1]⟩
theorem f171bTk:Try.f171.body=some (Qd Try.prog 171):=by kernel_rfl
theorem KU (l:(List Int)) {E:Env} {res:AV} {bs2:List Blk} (hE:LentE Try.prog 171 [] res bs2 E) (ho:AllP [l.length ≠ 0,false=false,0=0,0=0,(0+l.length)≤2147483648,((rowI l).drop 0).take (l.length*1)=(rowI l),(rowI l).length=(l.length*1),noRefs (rowI l)=true])
 (hr:(.sl 0 1 0 (0+l.length) 1)=res) (hb:[⟨true,1,1,true,(rowI l),true⟩]=bs2):G Try.prog E [.code (Qd Try.prog 171)] ⟨[.rsl (rowI l) 0 l.length]++unds (Try.f171.ntmps - 1),[]⟩ :=
 QV (n:=400) (live:=[2]) (m:=1) (evs:=[.b false,.cs (rowI l)]) (obs:=_) hE (hE.nogh0 _) Try.func171 Qo (by kernel_rfl) ho hr hb
theorem f171WTk (l:(List Int)) {E:Env} {rv:Unit} {lo:List Int} (hE:LentE Try.prog 171 [] (.sl 0 1 0 lo.length 1) [⟨true,1,1,true,(rowI lo),true⟩] E)
 (h:(l.length ≠ 0∧((0+l.length)≤2147483648∧lo=l))):G Try.prog E [.code (Qd Try.prog 171)] ⟨[.rsl (rowI l) 0 l.length]++unds (Try.f171.ntmps - 1),[]⟩:=by
 obtain ⟨q0_0,h⟩:=h
 obtain ⟨h1,h⟩:=h
 have qe0:=h
 exact KU l hE ⟨q0_0,rfl,rfl,rfl,h1,(by exact QX cI (fun _=>rfl) l),(by exact QI cI (fun _=>rfl) l),(by exact Xk cI (fun _=>rfl) l),trivial⟩ (by rw [qe0]; rw [(show (0+l.length)=l.length from by simp)]; try rfl) (by rw [qe0]; all_goals (first | rfl | (simp only [List.length_set]; done) | (simp only [List.length_set]; rfl) | (simp only [List.length_set,List.length_replicate]; done)))
theorem clone_okTk (l:List Int) (h:l.length≤1000∧l.length ≠ 0):Lent Try.prog 171 [.rsl (rowI l) 0 l.length] [] (.sl 0 1 0 l.length 1) [⟨true,1,1,true,rowI l,true⟩]:=by
 refine VH Try.func171 f171bTk fun E hE=>?_
 exact f171WTk l (lo:=l) (rv:=()) hE ⟨h.2,by omega,rfl⟩
theorem f177b:Try.f177.body=some (Qd Try.prog 177):=by kernel_rfl
theorem u177 {a c k:List AV} {r:AV} (h:Pure Try.prog 177 (a++c++k) r):Qe Try.prog (.clos 177 a k) c r:=Qs Try.func177 (by kernel_rfl) f177b h
theorem p177_start_0 (n:Int) (l:List Int) {E:Env} {res:AV} (hE:Qg Try.prog 177 res E) (ho:AllP [InR .i64 ((l.length:Int) - 1),Qe Try.prog (.clos 110 [] []) [.int .i64 n,.int .i64 0,.int .i64 ((l.length:Int) - 1)] (.bool (Qk n 0 ((l.length:Int) - 1)))])
 (hr:AvLe (.bool (Qk n 0 ((l.length:Int) - 1))) res):G Try.prog E [.code (Qd Try.prog 177)] ⟨[.int .i64 n,.rptr [.rsl (rowI l) 0 l.length] 0]++unds (Try.f177.ntmps - 2),[]⟩ :=
 Qc (n:=400) (evs:=[.v (.bool (Qk n 0 ((l.length:Int) - 1)))]) (obs:=_) hE Try.func177 Qo (by kernel_rfl) ho hr
theorem f177W (n:Int) (l:List Int) {E:Env} {rv:Bool} (hE:Qg Try.prog 177 (.bool rv) E)
 (h:((I6 ((l.length:Int) - 1))∧rv=(Qk n 0 ((l.length:Int) - 1)))):G Try.prog E [.code (Qd Try.prog 177)] ⟨[.int .i64 n,.rptr [.rsl (rowI l) 0 l.length] 0]++unds (Try.f177.ntmps - 2),[]⟩:=by
 obtain ⟨q0_0,h⟩:=h
 exact p177_start_0 n l hE ⟨q0_0,(u110 (Xz n 0 ((l.length:Int) - 1))),trivial⟩ (AvLe.of_eq (by rw [h]; try rfl))
theorem Yv (n:Int) (l:List Int) (h:l.length≤1000):Pure Try.prog 177 [.int .i64 n,.rptr [.rsl (rowI l) 0 l.length] 0] (.bool (Qk n 0 ((l.length:Int) - 1))):=QC Try.func177 f177b fun E hE =>
 f177W n l hE ⟨by omega,rfl⟩
def yX (n:Int) (x:Pay):Bool:=Qk x.frm 0 (n - 1) && (Qk x.to 0 (n - 1) && (!decide (x.frm=x.to) && Qk x.c 1 100000000000))
def QaX (v:List Int) (x:Pay):List Int:=(v.set (Int.toNat x.frm) (v.getD (Int.toNat x.frm) 0+x.c)).set (Int.toNat x.to) ((v.set (Int.toNat x.frm) (v.getD (Int.toNat x.frm) 0+x.c)).getD (Int.toNat x.to) 0 - x.c)
def Yi (n:Int):List Pay→List Int→Option (List Int)
 | [],v=>some v
 | x :: l,v=>if yX n x=true then Yi n l (QaX v x) else none
def payOut:Option (List Int)→List Int × Int
 | some v=>(v,0)
 | none=>([],110)
def payK (b:List Int) (l:List Pay):List Int × Int:=if balB b=false then ([],1) else if (l.length:Int) > 60 then ([],2) else payOut (Yi (b.length:Int) l b)
theorem pay_get {v:List Int} {i:Int} (h0:0≤i) (h:i<v.length):v[Int.toNat i]?=some (v.getD (Int.toNat i) 0):=by simp [List.getD,show Int.toNat i<v.length by omega]
theorem bal_of {b:List Int} (h:balB b=true):(1≤b.length∧b.length≤10)∧∀ x ∈ b,-10000000000≤x∧x≤10000000000:=by
 simp only [balB,Bool.and_eq_true,Bool.not_eq_true',List.any_eq_false] at h
 have h1:=QU.1 h.1
 exact ⟨by omega,fun x hx=>QU.1 (by simpa [balN] using h.2 x hx)⟩
theorem f104b:Try.f104.body=some (Qd Try.prog 104):=by kernel_rfl
theorem u104 {a c k:List AV} {r:AV} (h:Pure Try.prog 104 (a++c++k) r):Qe Try.prog (.clos 104 a k) c r:=Qs Try.func104 (by kernel_rfl) f104b h
def qj (P:Program):List Item:=kAt 400 [.code (Qd P 104)] [.b false,.b false,.stop]
def yd (b:(List Int)) (l:(List Pay)) (i:Nat) (v1:List Int) (g1:Nat):St:=⟨(jj 6 ([.clos 177 [] [.ptr 0 0 0],.sl 1 g1 0 v1.length 1]++jj 11 ([.rsl (QE l) 0 l.length,.int .i64 (l.length:Int),.int .i64 (i:Int)]++Js 48))),[⟨true,0,1,true,[.rsl (rowI b) 0 b.length],false⟩,⟨true,g1,1,true,(rowI v1),true⟩]⟩
def f104G0 (E:Env) (b:(List Int)) (l:(List Pay)) (i:Nat) (v1:List Int):Prop:=∀ g1:Nat,G Try.prog E (qj Try.prog) (yd b l i v1 g1)
abbrev qT (pe:Pay):List AV:=[.int .i64 pe.frm,.int .i64 pe.to,.int .i64 pe.c]
abbrev yH (b:(List Int)):AV:=.clos 177 [] [.rptr [.rsl (rowI b) 0 b.length] 0]
abbrev qS (pe:Pay) (b:(List Int)):AV:=.bool (Qk pe.frm 0 ((b.length:Int) - 1))
abbrev Qac (pe:Pay) (b:(List Int)):AV:=.bool (Qk pe.to 0 ((b.length:Int) - 1))
theorem p104_start_0 (b:(List Int)) (l:(List Pay)) {E:Env} {res:AV} (hE:Qg Try.prog 104 res E) (ho:AllP [Qe Try.prog (.clos 176 [] []) [.rsl (rowI b) 0 b.length] (.bool (balB b)),(!(balB b))=true])
 (hr:AvLe (.tup [.nilSl,.int .i64 1]) res):G Try.prog E [.code (Qd Try.prog 104)] ⟨[.rsl (rowI b) 0 b.length,.rsl (QE l) 0 l.length]++unds (Try.f104.ntmps - 2),[]⟩ :=
 Qc (n:=400) (evs:=[.v (.bool (balB b)),.b true]) (obs:=_) hE Try.func104 Qo (by kernel_rfl) ho hr
theorem p104_start_1 (b:(List Int)) (l:(List Pay)) {E:Env} {res:AV} (hE:Qg Try.prog 104 res E) (ho:AllP [Qe Try.prog (.clos 176 [] []) [.rsl (rowI b) 0 b.length] (.bool (balB b)),(!(balB b))=false,(decide ((l.length:Int) > 60))=true])
 (hr:AvLe (.tup [.nilSl,.int .i64 2]) res):G Try.prog E [.code (Qd Try.prog 104)] ⟨[.rsl (rowI b) 0 b.length,.rsl (QE l) 0 l.length]++unds (Try.f104.ntmps - 2),[]⟩ :=
 Qc (n:=400) (evs:=[.v (.bool (balB b)),.b false,.b true]) (obs:=_) hE Try.func104 Qo (by kernel_rfl) ho hr
theorem p104_start_2 (b:(List Int)) (l:(List Pay)) {E:Env} {rv:AV} (hE:Qg Try.prog 104 rv E) (ho:AllP [Qe Try.prog (.clos 176 [] []) [.rsl (rowI b) 0 b.length] (.bool (balB b)),(!(balB b))=false,(decide ((l.length:Int) > 60))=false,Xf Try.prog (.clos 171 [] []) [.rsl (rowI b) 0 b.length] [] (.sl 0 1 0 b.length 1) [⟨true,1,1,true,(rowI b),true⟩]])
 (hg:G Try.prog E (qj Try.prog) ⟨(jj 6 ([.clos 177 [] [.ptr 0 0 0],.sl 1 1 0 b.length 1]++jj 11 ([.rsl (QE l) 0 l.length,.int .i64 (l.length:Int),.int .i64 0]++Js 48))),[⟨true,0,1,true,[.rsl (rowI b) 0 b.length],false⟩,⟨true,1,1,true,(rowI b),true⟩]⟩):G Try.prog E [.code (Qd Try.prog 104)] ⟨[.rsl (rowI b) 0 b.length,.rsl (QE l) 0 l.length]++unds (Try.f104.ntmps - 2),[]⟩ :=
 Ql (n:=400) (ds:=[]) (cs:=[]) (live:=[6,7,19,20,21]) (m:=2) (evs:=[.v (.bool (balB b)),.b false,.b false,.lent [] (.sl 0 1 0 b.length 1) [⟨true,1,1,true,(rowI b),true⟩],.stop]) (obs:=_) hE.2.1 (hE.nogh _) Qo (by kernel_rfl) ho hg
theorem f104W (b:(List Int)) (l:(List Pay)) {E:Env} {rv:((List Int) × Int)} (hE:Qg Try.prog 104 (.tup [.rsl (rowI rv.1) 0 rv.1.length,.int .i64 rv.2]) E)
 (h:((b.length≤9223372036854775807)∧(((balB b)=false→rv=(([]:List Int),1))∧((balB b)=true→(((l.length:Int) > 60→rv=(([]:List Int),2))∧(¬ ((l.length:Int) > 60)→((b.length≤1000∧b.length ≠ 0)∧f104G0 E b l 0 b))))))):G Try.prog E [.code (Qd Try.prog 104)] ⟨[.rsl (rowI b) 0 b.length,.rsl (QE l) 0 l.length]++unds (Try.f104.ntmps - 2),[]⟩:=by
 obtain ⟨h1,h⟩:=h
 rcases bft (!(balB b)) with hc0 | hc0
 · have h:=h.1 (bnT hc0)
   exact p104_start_0 b l hE ⟨(u176 (YJ b h1)),hc0,trivial⟩ (by rw [h]; exact (Vh ⟨Yd,⟨AvLe.of_eq rfl,trivial⟩⟩))
 · have h:=h.2 (bnF hc0)
   rcases bft (decide ((l.length:Int) > 60)) with hc1 | hc1
   · have h:=h.1 (odt hc1)
     exact p104_start_1 b l hE ⟨(u176 (YJ b h1)),hc0,hc1,trivial⟩ (by rw [h]; exact (Vh ⟨Yd,⟨AvLe.of_eq rfl,trivial⟩⟩))
   · have h:=h.2 (odf hc1)
     obtain ⟨h2,h⟩:=h
     exact p104_start_2 b l hE ⟨(u176 (YJ b h1)),hc0,hc1,(Qw Try.func171 (by kernel_rfl) f171bTk (clone_okTk b h2)),trivial⟩ (h 1)
theorem p104_0_0 (b:(List Int)) (l:(List Pay)) (i:Nat) (v1:List Int) (g1:Nat) (pe:Pay) {E:Env} {res:AV} (hE:Qg Try.prog 104 res E) (ho:AllP [(decide ((i:Int)<(l.length:Int)))=true,0≤(i:Int)∧(i:Int)<(l.length:Int),((QE l).drop (0+(Int.toNat (i:Int))*3)).take 3=(qT pe),3≤3,Qe Try.prog (yH b) [.int .i64 pe.frm] (qS pe b),(!(Qk pe.frm 0 ((b.length:Int) - 1)))=true,true=true,true=true,true=true])
 (hr:AvLe (.tup [.nilSl,.int .i64 110]) res):G Try.prog E (qj Try.prog) (yd b l i v1 g1) :=
 Qc (n:=400) (evs:=[.b true,.ld (.agg (qT pe)),.v (qS pe b),.b true,.b true,.b true,.b true]) (obs:=_) hE Try.func104 Qo (by kernel_rfl) ho hr
theorem p104_0_1 (b:(List Int)) (l:(List Pay)) (i:Nat) (v1:List Int) (g1:Nat) (pe:Pay) {E:Env} {res:AV} (hE:Qg Try.prog 104 res E) (ho:AllP [(decide ((i:Int)<(l.length:Int)))=true,0≤(i:Int)∧(i:Int)<(l.length:Int),((QE l).drop (0+(Int.toNat (i:Int))*3)).take 3=(qT pe),3≤3,Qe Try.prog (yH b) [.int .i64 pe.frm] (qS pe b),(!(Qk pe.frm 0 ((b.length:Int) - 1)))=false,Qe Try.prog (yH b) [.int .i64 pe.to] (Qac pe b),(!(Qk pe.to 0 ((b.length:Int) - 1)))=true,true=true,true=true])
 (hr:AvLe (.tup [.nilSl,.int .i64 110]) res):G Try.prog E (qj Try.prog) (yd b l i v1 g1) :=
 Qc (n:=400) (evs:=[.b true,.ld (.agg (qT pe)),.v (qS pe b),.b false,.v (Qac pe b),.b true,.b true,.b true]) (obs:=_) hE Try.func104 Qo (by kernel_rfl) ho hr
theorem p104_0_2 (b:(List Int)) (l:(List Pay)) (i:Nat) (v1:List Int) (g1:Nat) (pe:Pay) {E:Env} {res:AV} (hE:Qg Try.prog 104 res E) (ho:AllP [(decide ((i:Int)<(l.length:Int)))=true,0≤(i:Int)∧(i:Int)<(l.length:Int),((QE l).drop (0+(Int.toNat (i:Int))*3)).take 3=(qT pe),3≤3,Qe Try.prog (yH b) [.int .i64 pe.frm] (qS pe b),(!(Qk pe.frm 0 ((b.length:Int) - 1)))=false,Qe Try.prog (yH b) [.int .i64 pe.to] (Qac pe b),(!(Qk pe.to 0 ((b.length:Int) - 1)))=false,(pe.frm == pe.to)=true,true=true])
 (hr:AvLe (.tup [.nilSl,.int .i64 110]) res):G Try.prog E (qj Try.prog) (yd b l i v1 g1) :=
 Qc (n:=400) (evs:=[.b true,.ld (.agg (qT pe)),.v (qS pe b),.b false,.v (Qac pe b),.b false,.b true,.b true]) (obs:=_) hE Try.func104 Qo (by kernel_rfl) ho hr
theorem p104_0_3 (b:(List Int)) (l:(List Pay)) (i:Nat) (v1:List Int) (g1:Nat) (pe:Pay) {E:Env} {res:AV} (hE:Qg Try.prog 104 res E) (ho:AllP [(decide ((i:Int)<(l.length:Int)))=true,0≤(i:Int)∧(i:Int)<(l.length:Int),((QE l).drop (0+(Int.toNat (i:Int))*3)).take 3=(qT pe),3≤3,Qe Try.prog (yH b) [.int .i64 pe.frm] (qS pe b),(!(Qk pe.frm 0 ((b.length:Int) - 1)))=false,Qe Try.prog (yH b) [.int .i64 pe.to] (Qac pe b),(!(Qk pe.to 0 ((b.length:Int) - 1)))=false,(pe.frm == pe.to)=false,Qe Try.prog (.clos 110 [] []) [.int .i64 pe.c,.int .i64 1,.int .i64 100000000000] (.bool (Qk pe.c 1 100000000000)),(!(Qk pe.c 1 100000000000))=true])
 (hr:AvLe (.tup [.nilSl,.int .i64 110]) res):G Try.prog E (qj Try.prog) (yd b l i v1 g1) :=
 Qc (n:=400) (evs:=[.b true,.ld (.agg (qT pe)),.v (qS pe b),.b false,.v (Qac pe b),.b false,.b false,.v (.bool (Qk pe.c 1 100000000000)),.b true]) (obs:=_) hE Try.func104 Qo (by kernel_rfl) ho hr
theorem p104_0_4 (b:(List Int)) (l:(List Pay)) (i:Nat) (v1:List Int) (g1:Nat) (pe:Pay) (e:Int) (e1:Int) {E:Env} {rv:AV} (hE:Qg Try.prog 104 rv E) (ho:AllP [(decide ((i:Int)<(l.length:Int)))=true,0≤(i:Int)∧(i:Int)<(l.length:Int),((QE l).drop (0+(Int.toNat (i:Int))*3)).take 3=[.int .i64 pe.frm,.int .i64 pe.to,.int .i64 pe.c],3≤3,Qe Try.prog (.clos 177 [] [.rptr [.rsl (rowI b) 0 b.length] 0]) [.int .i64 pe.frm] (.bool (Qk pe.frm 0 ((b.length:Int) - 1))),(!(Qk pe.frm 0 ((b.length:Int) - 1)))=false,Qe Try.prog (.clos 177 [] [.rptr [.rsl (rowI b) 0 b.length] 0]) [.int .i64 pe.to] (.bool (Qk pe.to 0 ((b.length:Int) - 1))),(!(Qk pe.to 0 ((b.length:Int) - 1)))=false,(pe.frm == pe.to)=false,Qe Try.prog (.clos 110 [] []) [.int .i64 pe.c,.int .i64 1,.int .i64 100000000000] (.bool (Qk pe.c 1 100000000000)),(!(Qk pe.c 1 100000000000))=false,0≤pe.frm∧pe.frm<(v1.length:Int),g1=g1,g1=g1,((rowI v1).drop (0+(Int.toNat pe.frm)*1)).take 1=[.int .i64 e],InR .i64 (e+pe.c),0≤pe.frm∧pe.frm<(v1.length:Int),g1=g1,((0+(Int.toNat pe.frm)*1)+1)≤(rowI v1).length,g1=g1,0≤pe.to∧pe.to<(v1.length:Int),g1=g1,g1=g1,((Qt (rowI v1) (0+(Int.toNat pe.frm)*1) [.int .i64 (e+pe.c)]).drop (0+(Int.toNat pe.to)*1)).take 1=[.int .i64 e1],InR .i64 (e1 - pe.c),0≤pe.to∧pe.to<(v1.length:Int),g1=g1,((0+(Int.toNat pe.to)*1)+1)≤(Qt (rowI v1) (0+(Int.toNat pe.frm)*1) [.int .i64 (e+pe.c)]).length,g1=g1,InR .i64 ((i:Int)+1)])
 (hg:G Try.prog E (qj Try.prog) ⟨(jj 6 ([.clos 177 [] [.ptr 0 0 0],.sl 1 g1 0 v1.length 1]++jj 11 ([.rsl (QE l) 0 l.length,.int .i64 (l.length:Int),.int .i64 ((i:Int)+1)]++Js 48))),[⟨true,0,1,true,[.rsl (rowI b) 0 b.length],false⟩,⟨true,g1,1,true,(Qt (Qt (rowI v1) (0+(Int.toNat pe.frm)*1) [.int .i64 (e+pe.c)]) (0+(Int.toNat pe.to)*1) [.int .i64 (e1 - pe.c)]),true⟩]⟩):G Try.prog E (qj Try.prog) (yd b l i v1 g1) :=
 Ql (n:=400) (ds:=[]) (cs:=[]) (live:=[6,7,19,20,21]) (m:=2) (evs:=[.b true,.ld (.agg [.int .i64 pe.frm,.int .i64 pe.to,.int .i64 pe.c]),.v (.bool (Qk pe.frm 0 ((b.length:Int) - 1))),.b false,.v (.bool (Qk pe.to 0 ((b.length:Int) - 1))),.b false,.b false,.v (.bool (Qk pe.c 1 100000000000)),.b false,.auto,.ld (.int .i64 e),.auto,.auto,.ld (.int .i64 e1),.stop]) (obs:=_) hE.2.1 (hE.nogh _) Qo (by kernel_rfl) ho hg
theorem p104_0_5 (b:(List Int)) (l:(List Pay)) (i:Nat) (v1:List Int) (g1:Nat) {E:Env} {res:AV} (hE:Qg Try.prog 104 res E) (ho:AllP [(decide ((i:Int)<(l.length:Int)))=false,g1=g1])
 (hr:AvLe (.tup [.rsl (rowI v1) 0 v1.length,.int .i64 0]) res):G Try.prog E (qj Try.prog) (yd b l i v1 g1) :=
 Qc (n:=400) (evs:=[.b false]) (obs:=_) hE Try.func104 Qo (by kernel_rfl) ho hr
theorem f104W0 (b:(List Int)) (l:(List Pay)) (i:Nat) (v1:List Int) {E:Env} {rv:((List Int) × Int)} (hE:Qg Try.prog 104 (.tup [.rsl (rowI rv.1) 0 rv.1.length,.int .i64 rv.2]) E)
 (h:(((i:Int)<(l.length:Int)→(∃ pe:Pay,l[i]?=some pe∧((b.length≤1000)∧(((Qk pe.frm 0 ((b.length:Int) - 1))=false→rv=(([]:List Int),110))∧((Qk pe.frm 0 ((b.length:Int) - 1))=true→((b.length≤1000)∧(((Qk pe.to 0 ((b.length:Int) - 1))=false→rv=(([]:List Int),110))∧((Qk pe.to 0 ((b.length:Int) - 1))=true→((pe.frm=pe.to→rv=(([]:List Int),110))∧(¬ (pe.frm=pe.to)→(((Qk pe.c 1 100000000000)=false→rv=(([]:List Int),110))∧((Qk pe.c 1 100000000000)=true→(0≤pe.frm∧(∃ e:Int,v1[Int.toNat pe.frm]?=some e∧((I6 (e+pe.c))∧(0≤pe.to∧(∃ e1:Int,(v1.set (Int.toNat pe.frm) (e+pe.c))[Int.toNat pe.to]?=some e1∧((I6 (e1 - pe.c))∧((I6 ((i:Int)+1))∧f104G0 E b l (i+1) ((v1.set (Int.toNat pe.frm) (e+pe.c)).set (Int.toNat pe.to) (e1 - pe.c)))))))))))))))))))))∧(¬ ((i:Int)<(l.length:Int))→rv=(v1,0)))):f104G0 E b l i v1:=by
 intro g1
 rcases bft (decide ((i:Int)<(l.length:Int))) with hc0 | hc0
 · have h:=h.1 (odt hc0)
   obtain ⟨pe,h1,h⟩:=h
   obtain ⟨h2,h⟩:=h
   rcases bft (!(Qk pe.frm 0 ((b.length:Int) - 1))) with hc1 | hc1
   · have h:=h.1 (bnT hc1)
     exact p104_0_0 b l i v1 g1 pe hE ⟨hc0,(QF h1),(rp cPay 3 0 3 h1),(by decide),(u177 (Yv pe.frm b h2)),hc1,rfl,rfl,rfl,trivial⟩ (by rw [h]; exact (Vh ⟨Yd,⟨AvLe.of_eq rfl,trivial⟩⟩))
   · have h:=h.2 (bnF hc1)
     obtain ⟨h3,h⟩:=h
     rcases bft (!(Qk pe.to 0 ((b.length:Int) - 1))) with hc2 | hc2
     · have h:=h.1 (bnT hc2)
       exact p104_0_1 b l i v1 g1 pe hE ⟨hc0,(QF h1),(rp cPay 3 0 3 h1),(by decide),(u177 (Yv pe.frm b h2)),hc1,(u177 (Yv pe.to b h3)),hc2,rfl,rfl,trivial⟩ (by rw [h]; exact (Vh ⟨Yd,⟨AvLe.of_eq rfl,trivial⟩⟩))
     · have h:=h.2 (bnF hc2)
       rcases bft (pe.frm == pe.to) with hc3 | hc3
       · have h:=h.1 (eq_of_beq hc3)
         exact p104_0_2 b l i v1 g1 pe hE ⟨hc0,(QF h1),(rp cPay 3 0 3 h1),(by decide),(u177 (Yv pe.frm b h2)),hc1,(u177 (Yv pe.to b h3)),hc2,hc3,rfl,trivial⟩ (by rw [h]; exact (Vh ⟨Yd,⟨AvLe.of_eq rfl,trivial⟩⟩))
       · have h:=h.2 (ne_of_beq_false hc3)
         rcases bft (!(Qk pe.c 1 100000000000)) with hc4 | hc4
         · have h:=h.1 (bnT hc4)
           exact p104_0_3 b l i v1 g1 pe hE ⟨hc0,(QF h1),(rp cPay 3 0 3 h1),(by decide),(u177 (Yv pe.frm b h2)),hc1,(u177 (Yv pe.to b h3)),hc2,hc3,(u110 (Xz pe.c 1 100000000000)),hc4,trivial⟩ (by rw [h]; exact (Vh ⟨Yd,⟨AvLe.of_eq rfl,trivial⟩⟩))
         · have h:=h.2 (bnF hc4)
           obtain ⟨h5,h⟩:=h
           obtain ⟨e,h4,h⟩:=h
           obtain ⟨q17_5,h⟩:=h
           obtain ⟨h7,h⟩:=h
           obtain ⟨e1,h6,h⟩:=h
           obtain ⟨q27_5,h⟩:=h
           obtain ⟨q32_5,h⟩:=h
           refine p104_0_4 b l i v1 g1 pe e e1 hE ⟨hc0,(QF h1),(rp cPay 3 0 3 h1),(by decide),(u177 (Yv pe.frm b h2)),hc1,(u177 (Yv pe.to b h3)),hc2,hc3,(u110 (Xz pe.c 1 100000000000)),hc4,(Qn h5 h4),rfl,rfl,(rp cI 1 0 1 h4),q17_5,(Qn h5 h4),rfl,(rf cI 1 0 1 h4),rfl,(by have hx:=Qn h7 h6; simpa using hx),rfl,rfl,(by rw [(show Qt (rowI v1) (0+(Int.toNat pe.frm)*1) [.int .i64 (e+pe.c)]=rowI (v1.set (Int.toNat pe.frm) (e+pe.c)) from Qy cI (s:=1) (k:=0) (fun _=>rfl) h4 rfl (by first | decide | simp))]; exact rp cI 1 0 1 h6),q27_5,(by have hx:=Qn h7 h6; simpa using hx),rfl,(by rw [(show Qt (rowI v1) (0+(Int.toNat pe.frm)*1) [.int .i64 (e+pe.c)]=rowI (v1.set (Int.toNat pe.frm) (e+pe.c)) from Qy cI (s:=1) (k:=0) (fun _=>rfl) h4 rfl (by first | decide | simp))]; exact rf cI 1 0 1 h6),rfl,q32_5,trivial⟩ ?_
           have h:=(h g1)
           simp only [yd,List.length_set] at h
           rw [(show Qt (rowI v1) (0+(Int.toNat pe.frm)*1) [.int .i64 (e+pe.c)]=rowI (v1.set (Int.toNat pe.frm) (e+pe.c)) from Qy cI (s:=1) (k:=0) (fun _=>rfl) h4 rfl (by first | decide | simp))]; rw [(show Qt (rowI (v1.set (Int.toNat pe.frm) (e+pe.c))) (0+(Int.toNat pe.to)*1) [.int .i64 (e1 - pe.c)]=rowI ((v1.set (Int.toNat pe.frm) (e+pe.c)).set (Int.toNat pe.to) (e1 - pe.c)) from Qy cI (s:=1) (k:=0) (fun _=>rfl) h6 rfl (by first | decide | simp))]
           exact h
 · have h:=h.2 (odf hc0)
   exact p104_0_5 b l i v1 g1 hE ⟨hc0,rfl,trivial⟩ (AvLe.of_eq (by rw [h]; try rfl))
theorem PayP_ok (b:List Int) (l:List Pay) (h:b.length≤9223372036854775807):Pure Try.prog 104 [.rsl (rowI b) 0 b.length,.rsl (QE l) 0 l.length] (.tup [.rsl (rowI (payK b l).1) 0 (payK b l).1.length,.int .i64 (payK b l).2]):=QC Try.func104 f104b fun E hE=>by
 refine f104W b l (rv:=payK b l) hE ⟨h,fun h1=>by rw [payK,if_pos h1],fun h1=>⟨fun h2=>by rw [payK,if_neg (by rw [h1]; simp),if_pos h2],fun h2=>?_⟩⟩
 have hb:=bal_of h1
 have hr:payK b l=payOut (Yi (b.length:Int) l b):=by rw [payK,if_neg (by rw [h1]; simp),if_neg h2]
 have key:∀ (d i:Nat) (v:List Int),i+d=l.length→v.length=b.length→(∀ x ∈ v,-10000000000 - 200000000000*(i:Int)≤x∧x≤10000000000+200000000000*(i:Int))→payK b l=payOut (Yi (b.length:Int) (l.drop i) v)→f104G0 E b l i v:=by
  intro d
  induction d with
  | zero =>
   intro i v hd hv hbd hk
   rw [List.drop_eq_nil_of_le (by omega)] at hk
   exact f104W0 b l i v (rv:=payK b l) hE ⟨fun h=>by omega,fun _=>hk⟩
  | succ d ih =>
   intro i v hd hv hbd hk
   have hi:l[i]?=some l[i]:=List.getElem?_eq_getElem (by omega)
   rw [List.drop_eq_getElem_cons (by omega)] at hk
   simp only [Yi] at hk
   generalize l[i]=x at hi hk
   refine f104W0 b l i v (rv:=payK b l) hE ⟨fun _=>⟨x,hi,by omega,fun h3=>?qa,fun h3=>⟨by omega,fun h4=>?qb,fun h4=>⟨fun h5=>?qc,fun h5=>⟨fun h6=>?qd,fun h6=>?qe⟩⟩⟩⟩,fun h=>by omega⟩
   case qa=>rw [hk,if_neg (by simp [yX,h3])]; rfl
   case qb=>rw [hk,if_neg (by simp [yX,h4])]; rfl
   case qc=>rw [hk,if_neg (by simp [yX,h5])]; rfl
   case qd=>rw [hk,if_neg (by simp [yX,h6])]; rfl
   case qe =>
    rw [if_pos (by simp only [yX,Bool.and_eq_true,Bool.not_eq_true',decide_eq_false_iff_not]; exact ⟨h3,h4,h5,h6⟩)] at hk
    have w1:=QU.1 h3
    have w2:=QU.1 h4
    have w3:=QU.1 h6
    have g1:=pay_get (v:=v) w1.1 (by omega)
    have g2:=pay_get (v:=v.set (Int.toNat x.frm) (v.getD (Int.toNat x.frm) 0+x.c)) w2.1 (by simp; omega)
    have m1:=hbd _ (List.mem_of_getElem? g1)
    have m2:∀ y ∈ v.set (Int.toNat x.frm) (v.getD (Int.toNat x.frm) 0+x.c),-10000000000 - 200000000000*(i:Int) - 100000000000≤y∧y≤10000000000+200000000000*(i:Int)+100000000000:=fun y hy=>by
     rcases List.mem_or_eq_of_mem_set hy with hy | rfl
     · have:=hbd y hy; omega
     · omega
    have m3:=m2 _ (List.mem_of_getElem? g2)
    refine ⟨w1.1,_,g1,by omega,w2.1,_,g2,by omega,by omega,ih (i+1) _ (by omega) (by simp [hv]) (fun y hy=>?_) hk⟩
    rcases List.mem_or_eq_of_mem_set hy with hy | rfl
    · have:=m2 y hy; omega
    · omega
 exact ⟨⟨by omega,by omega⟩,key l.length 0 b (by omega) rfl (fun x hx=>by have:=hb.2 x hx; omega) (by simpa using hr)⟩
end Go.Proofs.Ytemklbioijmjiaa
namespace Go.Proofs.Ytemklbioijmjiaa
open Go Ax
open Go.Proofs
theorem yN:∀ {l:List Int} {i:Nat} {x:Int},i<l.length→(l.set i x).sum=l.sum - l.getD i 0+x
 | [],i,x,h=>by simp at h
 | y :: l,0,x,h=>by simp; omega
 | y :: l,i+1,x,h=>by
  have:=yN (l:=l) (i:=i) (x:=x) (by simpa using h)
  simp only [List.set_cons_succ,List.sum_cons,List.getD_cons_succ]; omega
end Go.Proofs.Ytemklbioijmjiaa
namespace Go.Proofs.Ytemklbioijmjiaa
open Go Ax
open Go.Proofs
structure Spn where
 by_:Int
 c:Int
 fr:List Int
end Go.Proofs.Ytemklbioijmjiaa
namespace Go.Proofs.Ytemklbioijmjiaa
open Go Ax
open Go.Proofs
def owe (c:Int) (m k:Nat):Int:=Int.tdiv c m+if (k:Int)<Int.tmod c m then 1 else 0
end Go.Proofs.Ytemklbioijmjiaa
namespace Go.Proofs.Ytemklbioijmjiaa
open Go Ax
open Go.Proofs
def contFor (c:Int) (m:Nat):Nat→List Int→Nat→Int
 | _,[],_=>0
 | k,p :: r,i=>(if Int.toNat p=i then -owe c m k else 0)+contFor c m (k+1) r i
def cont (x:Spn) (i:Nat):Int:=(if Int.toNat x.by_=i then x.c else 0)+contFor x.c x.fr.length 0 x.fr i
end Go.Proofs.Ytemklbioijmjiaa
namespace Go.Proofs.Ytemklbioijmjiaa
open Go Ax
open Go.Proofs
def prec (K:Int→Int) (i j:Int):Prop:=K i > K j ∨ (K i=K j∧i<j)
theorem prec_asymm {K:Int→Int} {i j:Int} (h:prec K i j) (h2:prec K j i):False:=by
 rcases h with h | h <;> rcases h2 with h2 | h2 <;> omega
theorem yQ {lt:Int→Int→Bool}:∀ {d:Nat} {S R:List Int} {x:Int},S.length=d→∃ S1 S2,S=S1++S2∧sink lt d (S++x :: R)=S1++x :: (S2++R)∧(∀ y ∈ S2,lt x y=true)∧(∀ y,S1.getLast?=some y→lt x y=false)
 | 0,S,R,x,h=>⟨[],[],by simpa using h,by rw [List.length_eq_zero_iff.1 h]; rfl,by simp,by simp⟩
 | d+1,S,R,x,h=>by
  obtain ⟨S',y,rfl⟩:∃ S' y,S=S'++[y]:=⟨S.dropLast,S.getLast (by intro e; simp [e] at h),(List.dropLast_concat_getLast _).symm⟩
  have h':S'.length=d:=by simpa using h
  subst h'
  have e0:S'++[y]++x :: R=S'++y :: x :: R:=by simp
  have e1:(S'++y :: x :: R)[S'.length+1]?=some x:=by rw [List.getElem?_append_right (by omega),show S'.length+1 - S'.length=1 by omega]; rfl
  have e2:(S'++y :: x :: R)[S'.length]?=some y:=by rw [List.getElem?_append_right (by omega),Nat.sub_self]; rfl
  rw [e0]
  simp only [sink,e1,e2]
  by_cases hl:lt x y=true
  · rw [if_pos hl,List.set_append_right _ _ (by omega),show S'.length+1 - S'.length=1 by omega,List.set_append_right _ _ (by omega),Nat.sub_self]
    obtain ⟨S1,S2,q1,q2,q3,q4⟩:=yQ (lt:=lt) (S:=S') (R:=y :: R) (x:=x) rfl
    refine ⟨S1,S2++[y],by rw [← List.append_assoc,← q1],?_,fun z hz=>?_,q4⟩
    · have:((y :: x :: R).set 1 y).set 0 x=x :: y :: R:=rfl
      rw [this,q2]; simp
    · rcases List.mem_append.1 hz with hz | hz
      · exact q3 z hz
      · rw [List.mem_singleton.1 hz]; exact hl
  · rw [if_neg hl]
    exact ⟨S'++[y],[],by simp,by simp,by simp,fun z hz=>by simp at hz; subst hz; simpa using hl⟩
theorem pw_ins {K:Int→Int} {lt:Int→Int→Bool} (hlt:∀ x y,lt x y=true ↔ K y<K x) {S1 S2:List Int} {x:Int} (hp:(S1++S2).Pairwise (prec K)) (hx:∀ y ∈ S1,y<x)
 (h1:∀ y,S1.getLast?=some y→lt x y=false) (h2:∀ y ∈ S2,lt x y=true):(S1++x :: S2).Pairwise (prec K):=by
 rw [List.pairwise_append] at hp
 obtain ⟨p1,p2,p3⟩:=hp
 have low:∀ y ∈ S1,prec K y x:=by
  rcases List.eq_nil_or_concat S1 with rfl | ⟨S',z,rfl⟩
  · simp
  intro y hy
  have hz:=h1 z (by simp)
  have hz':¬ K z<K x:=fun h=>by rw [(hlt x z).2 h] at hz; cases hz
  have hyz:K z≤K y:=by
   rw [List.concat_eq_append,List.pairwise_append] at p1
   simp only [List.concat_eq_append,List.mem_append,List.mem_singleton] at hy
   rcases hy with hy | rfl
   · have:=p1.2.2 y hy z (by simp)
     rcases this with h | h <;> omega
   · omega
  have:=hx y hy
  by_cases e:K y=K x
  · exact .inr ⟨e,this⟩
  · exact .inl (by omega)
 rw [List.pairwise_append]
 refine ⟨p1,List.pairwise_cons.2 ⟨fun y hy=>.inl ((hlt x y).1 (h2 y hy)),p2⟩,fun a ha b hb=>?_⟩
 rcases List.mem_cons.1 hb with rfl | hb
 · exact low a ha
 · exact p3 a ha b hb
def idxL (n:Nat):List Int:=(List.range n).map fun i:Nat=>(i:Int)
theorem idxL_get {n k:Nat} (h:k<n):(idxL n)[k]?=some (k:Int):=by simp [idxL,List.getElem?_map,List.getElem?_range h]
theorem idxL_drop {n k:Nat} (h:k<n):(idxL n).drop k=(k:Int) :: (idxL n).drop (k+1):=by
 have hl:k<(idxL n).length:=by simpa [idxL] using h
 rw [List.drop_eq_getElem_cons hl]
 congr 1
 have:=idxL_get h
 rw [List.getElem?_eq_getElem hl] at this
 exact Option.some.inj this
theorem sort_inv {K:Int→Int} {lt:Int→Int→Bool} (hlt:∀ x y,lt x y=true ↔ K y<K x) (n:Nat):∀ k,k+1≤n→∃ S,S.length=k+1∧(List.range k).foldl (fun l k=>sink lt (k+1) l) (idxL n)=S++(idxL n).drop (k+1)∧(∀ x,x ∈ S ↔ 0≤x∧x<(k:Int)+1)∧S.Pairwise (prec K)
 | 0,h=>⟨[0],rfl,by have:=idxL_drop (n:=n) (k:=0) (by omega); simpa using this,fun x=>by simp; omega,by simp⟩
 | k+1,h=>by
  obtain ⟨S,s1,s2,s3,s4⟩:=sort_inv hlt n k (by omega)
  obtain ⟨S1,S2,rfl,q2,q3,q4⟩:=yQ (lt:=lt) (S:=S) (R:=(idxL n).drop (k+1+1)) (x:=((k+1:Nat):Int)) s1
  refine ⟨S1++((k+1:Nat):Int) :: S2,?_,?_,fun x=>?_,pw_ins hlt s4 (fun y hy=>?_) q4 q3⟩
  · simp only [List.length_append,List.length_cons] at *; omega
  · rw [List.range_succ,List.foldl_append,s2,List.foldl_cons,List.foldl_nil,idxL_drop (by omega),q2]; simp
  · have:=s3 x
    rw [List.mem_append] at this
    rw [List.mem_append,List.mem_cons]
    constructor
    · rintro (h1 | rfl | h1)
      · have:=this.1 (.inl h1); omega
      · omega
      · have:=this.1 (.inr h1); omega
    · intro h1
      by_cases e:x=((k+1:Nat):Int)
      · exact .inr (.inl e)
      · rcases this.2 (by omega) with h2 | h2
        · exact .inl h2
        · exact .inr (.inr h2)
  · have:=(s3 y).1 (List.mem_append_left _ hy); omega
theorem ltI_iff (c:Int) (ws:List Int) (al x y:Int):ltI c ws al x y=true ↔ keyI c ws al y<keyI c ws al x:=by
 simp only [ltI,decide_eq_true_eq,yp,cmpI]
 split
 · simp; omega
 · split <;> simp <;> omega
theorem order_spec {c:Int} {ws:List Int} (h:1≤ws.length):(Xp c ws).length=ws.length∧(∀ x,x ∈ Xp c ws ↔ 0≤x∧x<(ws.length:Int))∧(Xp c ws).Pairwise (prec (keyI c ws (sumI ws))):=by
 obtain ⟨S,s1,s2,s3,s4⟩:=sort_inv (K:=keyI c ws (sumI ws)) (lt:=ltI c ws (sumI ws)) (ltI_iff c ws _) ws.length (ws.length - 1) (by omega)
 have e:Xp c ws=S:=by
  have hl:(idxL ws.length).length=ws.length:=by simp [idxL]
  rw [Xp,VF]
  show (List.range ((idxL ws.length).length - 1)).foldl _ (idxL ws.length)=S
  rw [hl,s2,List.drop_eq_nil_of_le (by rw [hl]; omega),List.append_nil]
 rw [e]
 exact ⟨by omega,fun x=>by rw [s3 x]; omega,s4⟩
end Go.Proofs.Ytemklbioijmjiaa
namespace Go.Proofs.Ytemklbioijmjiaa
open Go Ax
open Go.Proofs
theorem Qcq {l:List Int} {e:Int}:(bump l e).length=l.length:=by simp [bump]
theorem bumps_len:∀ {z v:List Int},(z.foldl bump v).length=v.length
 | [],v=>rfl
 | e :: z,v=>by rw [List.foldl_cons,bumps_len,Qcq]
theorem splitI_len {c:Int} {ws:List Int}:(XQ c ws).length=ws.length:=by rw [XQ,bumps_len]; simp [Vc]
theorem bumps_get:∀ {z v:List Int} {i:Nat},(∀ e ∈ z,0≤e∧e<(v.length:Int))→z.Nodup→(z.foldl bump v).getD i 0=v.getD i 0+if (i:Int) ∈ z then 1 else 0
 | [],v,i,_,_=>by simp
 | e :: z,v,i,h,hn=>by
  have he:=h e (by simp)
  obtain ⟨n1,n2⟩:=List.nodup_cons.1 hn
  rw [List.foldl_cons,bumps_get (fun x hx=>by rw [Qcq]; exact h x (by simp [hx])) n2,bump]
  by_cases q:Int.toNat e=i
  · have q2:(i:Int)=e:=by omega
    rw [if_neg (by rw [q2]; exact n1),if_pos (by rw [q2]; simp),q]
    simp [List.getD,show i<v.length by omega]
  · have q2:¬ (i:Int)=e:=by omega
    have q3:((i:Int) ∈ e :: z)=((i:Int) ∈ z):=by simp [q2]
    simp only [q3]
    congr 1
    simp [List.getD,List.getElem?_set_ne q]
theorem bumps_sum:∀ {z v:List Int},(∀ e ∈ z,0≤e∧e<(v.length:Int))→(z.foldl bump v).sum=v.sum+z.length
 | [],v,_=>by simp
 | e :: z,v,h=>by
  have he:=h e (by simp)
  rw [List.foldl_cons,bumps_sum (fun x hx=>by rw [Qcq]; exact h x (by simp [hx])),bump,yN (by omega)]
  simp only [List.length_cons,Int.natCast_add]; omega
theorem fold_sum {f:Int→Int} {lt:Int→Int→Bool} (n:Nat) (l0:List Int) (h0:l0.length=n):∀ k,k+1≤n→(((List.range k).foldl (fun l k=>sink lt (k+1) l) l0).map f).sum=(l0.map f).sum∧((List.range k).foldl (fun l k=>sink lt (k+1) l) l0).length=n
 | 0,_=>⟨rfl,h0⟩
 | k+1,h=>by
  obtain ⟨i1,i2⟩:=fold_sum (f:=f) (lt:=lt) n l0 h0 k (by omega)
  rw [List.range_succ,List.foldl_append,List.foldl_cons,List.foldl_nil]
  generalize (List.range k).foldl (fun l k=>sink lt (k+1) l) l0=l at i1 i2
  refine ⟨?_,by rw [yy,i2]⟩
  rw [← i1]
  have e:l=l.take (k+1)++l[k+1] :: l.drop (k+1+1):=by rw [← List.drop_eq_getElem_cons (by omega),List.take_append_drop]
  obtain ⟨S1,S2,q1,q2,-,-⟩:=yQ (lt:=lt) (S:=l.take (k+1)) (R:=l.drop (k+1+1)) (x:=l[k+1]) (d:=k+1) (by rw [List.length_take]; omega)
  rw [← e] at q2
  rw [q2]
  have e2:(l.map f).sum=((l.take (k+1)).map f).sum+(f l[k+1]+((l.drop (k+1+1)).map f).sum):=by
   conv=>lhs; rw [e]
   simp only [List.map_append,List.map_cons,List.sum_append,List.sum_cons]
  rw [e2,q1]
  simp only [List.map_append,List.map_cons,List.sum_append,List.sum_cons]
  omega
theorem order_sum {c:Int} {ws:List Int} (h:1≤ws.length) (f:Int→Int):((Xp c ws).map f).sum=((idxL ws.length).map f).sum:=by
 have hl:(idxL ws.length).length=ws.length:=by simp [idxL]
 have:=(fold_sum (f:=f) (lt:=ltI c ws (sumI ws)) ws.length (idxL ws.length) hl (ws.length - 1) (by omega)).1
 rw [Xp,VF]
 show (((List.range ((idxL ws.length).length - 1)).foldl _ (idxL ws.length)).map f).sum=_
 rw [hl]; exact this
theorem idx_map {f:Int→Int} {g:Int→Int}:∀ (ws:List Int) (n:Nat),(∀ i:Nat,n+i<n+ws.length→f ((n+i:Nat):Int)=g (ws.getD i 0))→(((List.range' n ws.length).map fun i:Nat=>(i:Int)).map f).sum=(ws.map g).sum
 | [],n,h=>by simp
 | w :: ws,n,h=>by
  have h0:=h 0 (by simp)
  have:=idx_map (f:=f) (g:=g) ws (n+1) (fun i hi=>by
   have:=h (i+1) (by simp only [List.length_cons]; omega)
   rw [show n+1+i=n+(i+1) by omega]; simpa using this)
  rw [List.length_cons,List.range'_succ]
  simp only [List.map_cons,List.sum_cons]
  rw [this]
  simp only [Nat.add_zero,List.getD_cons_zero] at h0
  rw [h0]
/-- What the parts are. -/
structure Parts (c:Int) (ws:List Int) (p:List Int):Prop where
 len:p.length=ws.length
 sum:p.sum=c
 low:∀ (i:Nat) (w x:Int),ws[i]?=some w→p[i]?=some x→x=Yh c (sumI ws) w ∨ (x=Yh c (sumI ws) w+1∧Int.tmod (c*w) (sumI ws) ≠ 0)
 same:∀ (k i:Nat) (w x y:Int),k<i→ws[k]?=some w→ws[i]?=some w→p[k]?=some x→p[i]?=some y→y≤x∧x≤y+1
theorem tmod_bd {c S w:Int} (hS:0<S) (hc:0≤c) (hw:0≤w):c*w=S*Yh c S w+Int.tmod (c*w) S∧0≤Int.tmod (c*w) S∧Int.tmod (c*w) S<S:=by
 have h0:0≤c*w:=Int.mul_nonneg hc hw
 have h1:=Int.mul_tdiv_add_tmod (c*w) S
 exact ⟨by rw [Yh]; exact h1.symm,Int.tmod_nonneg _ h0,Int.tmod_lt_of_pos _ hS⟩
theorem rem_sum {c S:Int} (hS:0<S) (hc:0≤c):∀ {l:List Int},(∀ w ∈ l,0≤w)→S*(l.map (Yh c S)).sum+(l.map fun w=>Int.tmod (c*w) S).sum=c*l.sum
 | [],_=>by simp
 | w :: l,h=>by
  obtain ⟨h1,-,-⟩:=tmod_bd hS hc (h w (by simp))
  have h3:=rem_sum hS hc (l:=l) (fun y hy=>h y (by simp [hy]))
  simp only [List.map_cons,List.sum_cons,Int.mul_add]
  omega
theorem yO {f:Int→Int} {B:Int}:∀ {l:List Int},(∀ x ∈ l,f x≤B)→(l.map f).sum≤B*(l.length:Int)
 | [],_=>by simp
 | x :: l,h=>by
  have h1:=h x (by simp)
  have h2:=yO (f:=f) (B:=B) (l:=l) fun y hy=>h y (by simp [hy])
  simp only [List.map_cons,List.sum_cons,List.length_cons,Int.natCast_add,Int.mul_add]; omega
theorem parts_of {c:Int} {ws:List Int} (h:SplitOk c ws):Parts c ws (XQ c ws):=by
 have hS:=h.pos
 have hb:=base_left h
 obtain ⟨ol,om,op⟩:=order_spec (c:=c) h.len1
 have hbl:(Vc c ws).length=ws.length:=by simp [Vc]
 generalize hL:Int.toNat (c - sumI (Vc c ws))=L
 have hLn:L≤ws.length:=by omega
 have hZ:∀ e ∈ (Xp c ws).take L,0≤e∧e<((Vc c ws).length:Int):=fun e he=>by
  rw [hbl]; exact (om e).1 (List.mem_of_mem_take he)
 have nd:(Xp c ws).Nodup:=op.imp fun hp=>fun e=>by subst e; exact prec_asymm hp hp
 have ndZ:((Xp c ws).take L).Nodup:=nd.sublist (List.take_sublist ..)
 have hs:XQ c ws=((Xp c ws).take L).foldl bump (Vc c ws):=by rw [XQ,hL]
 have hg:∀ i w,ws[i]?=some w→(Vc c ws).getD i 0=Yh c (sumI ws) w:=fun i w hw=>by simp [Vc,List.getD,List.getElem?_map,hw]
 have kd:∀ {i:Nat} {w:Int},ws[i]?=some w→keyI c ws (sumI ws) i=Int.tmod (c*w) (sumI ws):=fun {i w} hw=>by simp [keyI,List.getD,hw]
 have val:∀ (i:Nat) (w x:Int),ws[i]?=some w→(XQ c ws)[i]?=some x→x=Yh c (sumI ws) w+if (i:Int) ∈ (Xp c ws).take L then 1 else 0:=fun i w x hw hx=>by
  have:(XQ c ws).getD i 0=x:=by simp [List.getD,hx]
  rw [← this,hs,bumps_get hZ ndZ,hg i w hw]
 have lS:(sumI ws)*(L:Int)=((Xp c ws).map (keyI c ws (sumI ws))).sum:=by
  rw [order_sum h.len1]
  have e1:((idxL ws.length).map (keyI c ws (sumI ws))).sum=(ws.map fun w=>Int.tmod (c*w) (sumI ws)).sum:=by
   have:=idx_map (f:=keyI c ws (sumI ws)) (g:=fun w=>Int.tmod (c*w) (sumI ws)) ws 0 (fun i hi=>by
    have hi:ws[i]?=some ws[i]:=List.getElem?_eq_getElem (by omega)
    rw [Nat.zero_add,kd hi]; simp [List.getD,hi])
   rw [← this,idxL,List.range_eq_range']
  have e2:=rem_sum hS h.c0 (l:=ws) (fun w hw=>(h.w w hw).1)
  rw [e1]
  have e3:(L:Int)=c - (Vc c ws).sum:=by rw [← hL]; simp only [sumI] at *; omega
  rw [e3,Int.mul_sub]
  have e4:sumI ws*c=c*ws.sum:=by rw [Int.mul_comm]; rfl
  simp only [Vc]
  omega
 have pos:∀ (i:Nat) (w:Int),ws[i]?=some w→(i:Int) ∈ (Xp c ws).take L→Int.tmod (c*w) (sumI ws) ≠ 0:=by
  intro i w hw hi h0
  rw [← kd hw] at h0
  obtain ⟨A,B,hAB⟩:=List.append_of_mem hi
  have ho:Xp c ws=A++(i:Int) :: (B++(Xp c ws).drop L):=by
   conv=>lhs; rw [← List.take_append_drop L (Xp c ws),hAB]
   simp
  have hAL:A.length+1≤L:=by
   have:(A++(i:Int) :: B).length≤L:=by rw [← hAB,List.length_take]; omega
   simp at this; omega
  rw [ho] at lS op
  have knn:∀ x ∈ Xp c ws,0≤keyI c ws (sumI ws) x∧keyI c ws (sumI ws) x≤sumI ws - 1:=fun x hx=>by
   have hx:=(om x).1 hx
   have hj:ws[Int.toNat x]?=some ws[Int.toNat x]:=List.getElem?_eq_getElem (by omega)
   have k1:=kd hj
   rw [show ((Int.toNat x:Nat):Int)=x by omega] at k1
   have:=tmod_bd hS h.c0 (h.w _ (List.mem_of_getElem? hj)).1
   rw [k1]; omega
  have s1:(A.map (keyI c ws (sumI ws))).sum≤(sumI ws - 1)*(A.length:Int):=yO fun x hx=>(knn x (by rw [ho]; simp [hx])).2
  rw [List.pairwise_append,List.pairwise_cons] at op
  have s2:((B++(Xp c ws).drop L).map (keyI c ws (sumI ws))).sum≤0*((B++(Xp c ws).drop L).length:Int):=yO fun x hx=>by
   have:=op.2.1.1 x hx
   rcases this with h1 | h1
   · omega
   · omega
  simp only [List.map_append,List.map_cons,List.sum_append,List.sum_cons] at lS s2
  have s3:(sumI ws - 1)*(A.length:Int)≤sumI ws*(A.length:Int):=Int.mul_le_mul_of_nonneg_right (by omega) (by omega)
  have s4:sumI ws*((A.length:Int)+1)≤sumI ws*(L:Int):=Int.mul_le_mul_of_nonneg_left (by omega) (by omega)
  rw [Int.mul_add] at s4
  omega
 refine ⟨splitI_len,?_,fun i w x hw hx=>?_,fun k i w x y hki hk hi hx hy=>?_⟩
 · rw [hs,bumps_sum hZ,List.length_take,ol]
   simp only [sumI] at *; omega
 · have v:=val i w x hw hx
   by_cases q:(i:Int) ∈ (Xp c ws).take L
   · rw [if_pos q] at v; exact .inr ⟨v,pos i w hw q⟩
   · rw [if_neg q] at v; exact .inl (by omega)
 · have v1:=val k w x hk hx
   have v2:=val i w y hi hy
   have imp:(i:Int) ∈ (Xp c ws).take L→(k:Int) ∈ (Xp c ws).take L:=fun q=>by
    apply Classical.byContradiction; intro nk
    have hk':=(om (k:Int)).2 ⟨by omega,by have:=(List.getElem?_eq_some_iff.1 hk).1; omega⟩
    rw [← List.take_append_drop L (Xp c ws)] at hk' op
    rw [List.pairwise_append] at op
    rcases List.mem_append.1 hk' with h1 | h1
    · exact nk h1
    · have:=op.2.2 _ q _ h1
      rcases this with h2 | h2
      · rw [kd hk,kd hi] at h2; omega
      · omega
   by_cases q:(i:Int) ∈ (Xp c ws).take L
   · rw [if_pos q] at v2; rw [if_pos (imp q)] at v1; omega
   · rw [if_neg q] at v2
     split at v1 <;> omega
theorem splitK_zero {c:Int} {ws:List Int} (h:(QG c ws).2=0):SplitOk c ws∧(QG c ws).1=XQ c ws:=by
 simp only [QG,Xo] at *
 split at h
 · cases h
 rename_i h1
 split at h
 · cases h
 split at h
 · cases h
 rename_i h2
 split at h
 · cases h
 rename_i h3
 refine ⟨split_of (QU.1 (show QL c=true by simpa using h1)) (by simpa using h3),?_⟩
 rw [if_neg h1,if_neg (by simp),if_neg h2,if_neg h3]; rfl
end Go.Proofs.Ytemklbioijmjiaa
namespace Go.Proofs.Ytemklbioijmjiaa
open Go Ax
open Go.Proofs
/-! ### bits -/
theorem yx {n:Nat} (h:n<9223372036854775808):IntKind.i64.wrap (n:Int)=n:=wrap_small _ (by omega) (by omega)
theorem WF {a:Nat} (h:a<18446744073709551616):(BitVec.ofInt 64 (a:Int)).toNat=a:=by
 rw [BitVec.ofInt_natCast,BitVec.toNat_ofNat]; exact Nat.mod_eq_of_lt h
theorem and_nat {a b:Nat} (ha:a<9223372036854775808) (hb:b<9223372036854775808):bits .and .i64 (a:Int) (b:Int)=((a &&& b:Nat):Int):=by
 have hx:a &&& b≤a:=Nat.and_le_left
 show IntKind.i64.wrap ((BitVec.ofInt 64 (a:Int) &&& BitVec.ofInt 64 (b:Int)).toNat:Int)=_
 rw [BitVec.toNat_and,WF (by omega),WF (by omega),yx (by omega)]
theorem or_nat {a b:Nat} (ha:a<1024) (hb:b<1024):bits .or .i64 (a:Int) (b:Int)=((a ||| b:Nat):Int):=by
 have hx:a ||| b<2 ^ 10:=Nat.or_lt_two_pow (by omega) (by omega)
 show IntKind.i64.wrap ((BitVec.ofInt 64 (a:Int) ||| BitVec.ofInt 64 (b:Int)).toNat:Int)=_
 rw [BitVec.toNat_or,WF (by omega),WF (by omega),yx (by omega)]
/-- What is in the first and not in the second. -/
def without (a b:Nat):Nat:=a ^^^ (a &&& b)
theorem Yb {a b i:Nat}:(without a b).testBit i=(a.testBit i && !b.testBit i):=by
 unfold without
 rw [Nat.testBit_xor,Nat.testBit_and]
 cases a.testBit i <;> cases b.testBit i <;> rfl
theorem Qae {a b:Nat} {n:Nat} (h:a<2 ^ n):without a b<2 ^ n:=by
 refine Nat.lt_pow_two_of_testBit _ fun i hi=>?_
 rw [Yb,Nat.testBit_lt_two_pow (Nat.lt_of_lt_of_le h (Nat.pow_le_pow_right (by omega) hi)),Bool.false_and]
theorem QaJ {a b:Nat} (ha:a<9223372036854775808) (hb:b<9223372036854775808):bits .andNot .i64 (a:Int) (b:Int)=((without a b:Nat):Int):=by
 have e:(BitVec.ofInt 64 (a:Int) &&& ~~~ BitVec.ofInt 64 (b:Int)).toNat=without a b:=by
  refine Nat.eq_of_testBit_eq fun i=>?_
  rw [Yb,BitVec.testBit_toNat,BitVec.getLsbD_and,BitVec.getLsbD_not,← BitVec.testBit_toNat,← BitVec.testBit_toNat,WF (by omega),WF (by omega)]
  by_cases hi:i<64
  · simp [hi]
  · rw [Nat.testBit_lt_two_pow (Nat.lt_of_lt_of_le (show a<2 ^ 64 by omega) (Nat.pow_le_pow_right (by omega) (show 64≤i by omega)))]; simp
 have hw:without a b<2 ^ 63:=Qae (by omega)
 show IntKind.i64.wrap ((BitVec.ofInt 64 (a:Int) &&& ~~~ BitVec.ofInt 64 (b:Int)).toNat:Int)=_
 rw [e,yx (by omega)]
/-- Whether somebody is in a set. -/
theorem bit_nat {S i:Nat} (h:S<9223372036854775808):bits .and .i64 ((S:Int) / 2 ^ (Int.toNat (i:Int))) 1=if S.testBit i then 1 else 0:=by
 have e:(S:Int) / 2 ^ (Int.toNat (i:Int))=((S / 2 ^ i:Nat):Int):=by
  rw [Int.toNat_natCast,Int.natCast_ediv,Int.natCast_pow]; rfl
 have hd:S / 2 ^ i≤S:=Nat.div_le_self _ _
 rw [e,show (1:Int)=((1:Nat):Int) from rfl,and_nat (by omega) (by omega),Nat.and_one_is_mod,Nat.testBit_eq_decide_div_mod_eq]
 have:=Nat.mod_two_eq_zero_or_one (S / 2 ^ i)
 rcases this with h | h <;> rw [h] <;> rfl
/-- The lowest of a set. -/
def lowOk (S:Nat):Bool:=(List.range 10).any fun i=>S.testBit i && ((List.range i).all fun j=>!S.testBit j) && ((BitVec.ofInt 64 (S:Int) &&& BitVec.ofInt 64 (0 - (S:Int))).toNat == 2 ^ i)
theorem low_all:((List.range 1024).all fun S=>S == 0 || lowOk S)=true:=by kernel_rfl
theorem low_of {S:Nat} (h0:S ≠ 0) (h:S<1024):∃ i,i<10∧S.testBit i=true∧(∀ j,j<i→S.testBit j=false)∧(BitVec.ofInt 64 (S:Int) &&& BitVec.ofInt 64 (0 - (S:Int))).toNat=2 ^ i:=by
 have:=List.all_eq_true.1 low_all S (List.mem_range.2 h)
 rw [Bool.or_eq_true] at this
 rcases this with h | h
 · exact absurd (by simpa using h) h0
 · obtain ⟨i,hi,hh⟩:=List.any_eq_true.1 h
   simp only [Bool.and_eq_true,List.all_eq_true,Bool.not_eq_true',beq_iff_eq] at hh
   exact ⟨i,List.mem_range.1 hi,hh.1.1,fun j hj=>hh.1.2 j (List.mem_range.2 hj),hh.2⟩
def lowP (S q:Nat):Bool:=bits .and .i64 (bits .and .i64 (q:Int) (S:Int)) (0 - (S:Int)) != 0
theorem lowP_iff {S i q:Nat} (h:S<1024) (hq:q<1024) (hi:i<10) (hl:(BitVec.ofInt 64 (S:Int) &&& BitVec.ofInt 64 (0 - (S:Int))).toNat=2 ^ i):lowP S q=q.testBit i:=by
 have e:bits .and .i64 (bits .and .i64 (q:Int) (S:Int)) (0 - (S:Int))=((q &&& 2 ^ i:Nat):Int):=by
  rw [and_nat (by omega) (by omega)]
  have h1:BitVec.ofInt 64 ((q &&& S:Nat):Int)=BitVec.ofInt 64 (q:Int) &&& BitVec.ofInt 64 (S:Int):=by
   refine BitVec.eq_of_toNat_eq ?_
   have:=@Nat.and_le_left q S
   rw [BitVec.toNat_and,WF (by omega),WF (by omega),WF (by omega)]
  show IntKind.i64.wrap ((BitVec.ofInt 64 ((q &&& S:Nat):Int) &&& BitVec.ofInt 64 (0 - (S:Int))).toNat:Int)=_
  have h2:=@Nat.and_le_left q (2 ^ i)
  rw [h1,BitVec.and_assoc,BitVec.toNat_and,hl,WF (by omega),yx (by omega)]
 unfold lowP
 rw [e]
 cases hb:q.testBit i with
 | true =>
  rw [bne_iff_ne]
  intro h0
  have h1:(q &&& 2 ^ i)=0:=by omega
  have h2:(q &&& 2 ^ i).testBit i=true:=by rw [Nat.testBit_and,hb,Nat.testBit_two_pow_self]; rfl
  rw [h1,Nat.zero_testBit] at h2; cases h2
 | false =>
  rw [bne_eq_false_iff_eq]
  have:(q &&& 2 ^ i)=0:=by
   refine Nat.eq_of_testBit_eq fun j=>?_
   rw [Nat.testBit_and,Nat.testBit_two_pow,Nat.zero_testBit]
   by_cases hj:i=j
   · subst hj; rw [hb]; rfl
   · simp [hj]
  rw [this]; rfl
/-! ### all parts of a set,one after the other -/
theorem sub_prev:∀ (S q p:Nat),q &&& S=q→p &&& S=p→p<q→p≤(q - 1) &&& S:=by
 intro S
 induction S using Nat.strongRecOn with
 | ind S ih =>
  intro q p hq hp hlt
  by_cases hS:S=0
  · subst hS; rw [Nat.and_zero] at hq; omega
  have q1:q / 2 &&& S / 2=q / 2:=by rw [← Nat.and_div_two,hq]
  have p1:p / 2 &&& S / 2=p / 2:=by rw [← Nat.and_div_two,hp]
  have dv:((q - 1) &&& S) / 2=(q - 1) / 2 &&& S / 2:=Nat.and_div_two
  have md:=@Nat.and_mod_two_eq_one (q - 1) S
  have pm:=@Nat.and_mod_two_eq_one p S
  rw [hp] at pm
  have e1:(q - 1) &&& S=2*(((q - 1) &&& S) / 2)+((q - 1) &&& S) % 2:=by omega
  by_cases hc:q % 2=1
  · have h2:(q - 1) / 2=q / 2:=by omega
    rw [h2,q1] at dv
    omega
  · have h2:(q - 1) / 2=q / 2 - 1:=by omega
    rw [h2] at dv
    have h3:=ih (S / 2) (by omega) (q / 2) (p / 2) q1 p1 (by omega)
    rw [← dv] at h3
    by_cases hd:p % 2=1
    · have h4:=pm.1 hd
      have h5:=md.2 ⟨by omega,h4.2⟩
      omega
    · omega
/-- The set of those for whom it is so. -/
def ym:Nat→(Nat→Bool)→Nat
 | 0,_=>0
 | n+1,P=>2*ym n (fun i=>P (i+1))+(if P 0 then 1 else 0)
theorem WZ:∀ {n:Nat} {P:Nat→Bool} {i:Nat},(ym n P).testBit i=(decide (i<n) && P i)
 | 0,P,i=>by simp [ym]
 | n+1,P,0=>by
  rw [ym,Nat.testBit_zero]
  cases P 0 <;> simp <;> omega
 | n+1,P,i+1=>by
  rw [ym,Nat.testBit_succ]
  have:(2*ym n (fun i=>P (i+1))+(if P 0 then 1 else 0)) / 2=ym n fun i=>P (i+1):=by cases P 0 <;> simp <;> omega
  rw [this,WZ]
  simp
end Go.Proofs.Ytemklbioijmjiaa
namespace Go.Proofs.Ytemklbioijmjiaa
open Go Ax
open Go.Proofs
/-- A number is a set of people,and these have right balances. -/
def VE (b:List Int) (s:Int):Prop:=∃ S:Nat,s=(S:Int)∧S<2 ^ b.length∧b.length≤10∧∀ x ∈ b,-10000000000≤x∧x≤10000000000
theorem Wz {b:List Int} {S:Nat} (hl:b.length≤10) (h:S<2 ^ b.length):S<1024:=Nat.lt_of_lt_of_le h (Nat.pow_le_pow_right (n:=2) (by omega) hl)
/-- The sum of the balances of the first people of a set. -/
def totP (b:List Int) (S:Nat):Nat→Int
 | 0=>0
 | i+1=>totP b S i+b.getD i 0*(if S.testBit i then 1 else 0)
def totN (b:List Int) (S:Nat):Int:=totP b S b.length
theorem WR {b:List Int} {S i:Nat} {e:Int} (h:b[i]?=some e):totP b S (i+1)=totP b S i+e*(if S.testBit i then 1 else 0):=by
 rw [totP,List.getD,h]; rfl
theorem yM {b:List Int} {S:Nat} (hb:∀ x ∈ b,-10000000000≤x∧x≤10000000000):∀ i,i≤b.length→-(10000000000*(i:Int))≤totP b S i∧totP b S i≤10000000000*(i:Int)
 | 0,_=>by simp [totP]
 | i+1,h=>by
  have ih:=yM (S:=S) hb i (by omega)
  have hi:b[i]?=some b[i]:=List.getElem?_eq_getElem (by omega)
  have hx:=hb _ (List.mem_of_getElem? hi)
  rw [WR hi]
  split <;> omega
def yg (S:Nat) (i:Nat) (e:Int) (s:Int × Int × List Pay):Int × Int × List Pay :=
 if S.testBit i=true then
  (s.1+e,(i:Int),if s.1<0 then s.2.2++[(⟨s.2.1,(i:Int),0 - s.1⟩:Pay)] else if s.1 > 0 then s.2.2++[(⟨(i:Int),s.2.1,s.1⟩:Pay)] else s.2.2)
 else s
def chP (b:List Int) (S:Nat):Nat→Int × Int × List Pay
 | 0=>(0,-1,[])
 | i+1=>yg S i (b.getD i 0) (chP b S i)
/-- The payments of a chain. -/
def Xq (b:List Int) (S:Nat):List Pay:=(chP b S b.length).2.2
theorem Qcm {b:List Int} {S i:Nat} {e:Int} (h:b[i]?=some e):chP b S (i+1)=yg S i e (chP b S i):=by
 rw [chP,List.getD,h]; rfl
theorem Qco {b:List Int} {S:Nat}:∀ i,i≤b.length→(chP b S i).1=totP b S i
 | 0,_=>rfl
 | i+1,h=>by
  have ih:=Qco (b:=b) (S:=S) i (by omega)
  rw [chP,totP,yg]
  cases ht:S.testBit i with
  | true=>rw [if_pos rfl,if_pos rfl,← ih]; simp
  | false=>rw [if_neg (by simp),if_neg (by simp),ih]; simp
theorem Qcn {b:List Int} {S:Nat}:∀ i,(chP b S i).2.2.length≤i
 | 0=>by simp [chP]
 | i+1=>by
  have ih:=Qcn (b:=b) (S:=S) i
  rw [chP,yg]
  split
  · simp only
    split
    · simp; omega
    · split
      · simp; omega
      · omega
  · omega
/-! ### the parts of a set,from the greatest one on -/
def argS (x:Nat):List AV:=[.int .i64 (x:Int)]
def qC (b:List Int) (S q:Nat):Bool:=(q &&& S == q) && (decide (0<q) && (lowP S q && (totN b q == 0)))
def VZ (b:List Int) (S p:Nat):List Nat:=((List.range (p+1)).filter (qC b S)).reverse
def Xa (b:List Int) (S:Nat):List Nat:=VZ b S S
theorem range_cut {Q:Nat→Bool} {a:Nat}:∀ {d:Nat},(∀ q,a≤q→q<a+d→Q q=false)→(List.range (a+d)).filter Q=(List.range a).filter Q
 | 0,_=>rfl
 | d+1,h=>by
  rw [show a+(d+1)=(a+d)+1 by omega,List.range_succ,List.filter_append,range_cut fun q h1 h2=>h q h1 (by omega)]
  have:Q (a+d)=false:=h _ (by omega) (by omega)
  simp [this]
theorem partsF_zero {b:List Int} {S:Nat}:VZ b S 0=[]:=by
 unfold VZ
 simp [List.range_succ,qC]
theorem partsF_cut {b:List Int} {S p:Nat} (h0:p ≠ 0) (hp:p &&& S=p):VZ b S p=if qC b S p=true then p :: VZ b S (p - 1 &&& S) else VZ b S (p - 1 &&& S):=by
 have hlt:=@Nat.and_le_left (p - 1) S
 have hc:(List.range p).filter (qC b S)=(List.range ((p - 1 &&& S)+1)).filter (qC b S):=by
  have e:p=((p - 1 &&& S)+1)+(p - ((p - 1 &&& S)+1)):=by omega
  have:=range_cut (Q:=qC b S) (a:=(p - 1 &&& S)+1) (d:=p - ((p - 1 &&& S)+1)) fun q h1 h2=>by
   unfold qC
   by_cases hq:q &&& S=q
   · have:=sub_prev S p q hp hq (by omega)
     omega
   · simp [hq]
  rw [← e] at this
  exact this
 unfold VZ
 rw [List.range_succ,List.filter_append,hc]
 cases hQ:qC b S p <;> simp [hQ]
theorem drop_consTk {α:Type} {L:List α} {n:Nat} {a:α} {r:List α} (h:L.drop n=a :: r):L[n]?=some a∧L.drop (n+1)=r∧n<L.length:=by
 have hn:n<L.length:=by
  rcases Nat.lt_or_ge n L.length with h1 | h1
  · exact h1
  · rw [List.drop_eq_nil_of_le h1] at h; cases h
 rw [List.drop_eq_getElem_cons hn] at h
 simp only [List.cons.injEq] at h
 exact ⟨by rw [List.getElem?_eq_getElem hn,h.1],h.2,hn⟩
theorem f267b:Try.f267.body=some (Qd Try.prog 267):=by kernel_rfl
def f267K0 (P:Program):List Item:=kAt 400 [.code (Qd P 267)] [.stop]
def f267S0 (set:Int) (b:List Int) (n:Int) (i:Nat):St:=⟨([J,.int .i64 set,J,J,.int .i64 n]++jj 5 ([.rsl (rowI b) 0 b.length,.int .i64 (b.length:Int),.int .i64 (i:Int)]++Js 14)),[]⟩
def f267G0 (E:Env) (set:Int) (b:List Int) (n:Int) (i:Nat):Prop:=G Try.prog E (f267K0 Try.prog) (f267S0 set b n i )
theorem p267_start_0 (set:Int) (b:List Int) {E:Env} {rv:AV} (hE:Qg Try.prog 267 rv E) (ho:AllP [])
 (hg:G Try.prog E (f267K0 Try.prog) ⟨([J,.int .i64 set,J,J,.int .i64 0]++jj 5 ([.rsl (rowI b) 0 b.length,.int .i64 (b.length:Int),.int .i64 0]++Js 14)),[]⟩):G Try.prog E [.code (Qd Try.prog 267)] ⟨[.rptr [.rsl (rowI b) 0 b.length] 0,.int .i64 set]++unds (Try.f267.ntmps - 2),[]⟩ :=
 Ql (n:=400) (ds:=[]) (cs:=[]) (live:=[1,4,10,11,12]) (m:=0) (evs:=[.stop]) (obs:=_) hE.2.1 (hE.nogh _) Qo (by kernel_rfl) ho hg
theorem f267W (set:Int) (b:List Int) {E:Env} {rv:Int} (hE:Qg Try.prog 267 (.int .i64 rv) E)
 (h:f267G0 E set b 0 0):G Try.prog E [.code (Qd Try.prog 267)] ⟨[.rptr [.rsl (rowI b) 0 b.length] 0,.int .i64 set]++unds (Try.f267.ntmps - 2),[]⟩:=by
 exact p267_start_0 set b hE trivial h
theorem p267_0_0 (set:Int) (b:List Int) (n:Int) (i:Nat) (e:Int) {E:Env} {rv:AV} (hE:Qg Try.prog 267 rv E) (ho:AllP [(decide ((i:Int)<(b.length:Int)))=true,0≤(i:Int)∧(i:Int)<(b.length:Int),((rowI b).drop (0+(Int.toNat (i:Int))*1)).take 1=[.int .i64 e],(0:Int)≤(i:Int)∧(i:Int)≤((IntKind.bits .i64:Nat):Int),InR .i64 (e*(bits .and .i64 (set / 2 ^ (Int.toNat (i:Int))) 1)),InR .i64 (n+(e*(bits .and .i64 (set / 2 ^ (Int.toNat (i:Int))) 1))),InR .i64 ((i:Int)+1)])
 (hg:G Try.prog E (f267K0 Try.prog) ⟨([J,.int .i64 set,J,J,.int .i64 (n+(e*(bits .and .i64 (set / 2 ^ (Int.toNat (i:Int))) 1)))]++jj 5 ([.rsl (rowI b) 0 b.length,.int .i64 (b.length:Int),.int .i64 ((i:Int)+1)]++Js 14)),[]⟩):G Try.prog E (f267K0 Try.prog) (f267S0 set b n i ) :=
 Ql (n:=400) (ds:=[]) (cs:=[]) (live:=[1,4,10,11,12]) (m:=0) (evs:=[.b true,.ld (.int .i64 e),.stop]) (obs:=_) hE.2.1 (hE.nogh _) Qo (by kernel_rfl) ho hg
theorem p267_0_1 (set:Int) (b:List Int) (n:Int) (i:Nat) {E:Env} {res:AV} (hE:Qg Try.prog 267 res E) (ho:AllP [(decide ((i:Int)<(b.length:Int)))=false])
 (hr:AvLe (.int .i64 n) res):G Try.prog E (f267K0 Try.prog) (f267S0 set b n i ) :=
 Qc (n:=400) (evs:=[.b false]) (obs:=_) hE Try.func267 Qo (by kernel_rfl) ho hr
theorem f267W0 (set:Int) (b:List Int) (n:Int) (i:Nat) {E:Env} {rv:Int} (hE:Qg Try.prog 267 (.int .i64 rv) E)
 (h:(((i:Int)<(b.length:Int)→(∃ e:Int,b[i]?=some e∧(((0:Int)≤(i:Int)∧(i:Int)≤((IntKind.bits .i64:Nat):Int))∧((I6 ((e*(bits .and .i64 (set / 2 ^ (Int.toNat (i:Int))) 1):Int)))∧((I6 ((n+(e*(bits .and .i64 (set / 2 ^ (Int.toNat (i:Int))) 1)):Int)))∧((I6 ((i:Int)+1))∧f267G0 E set b (n+(e*(bits .and .i64 (set / 2 ^ (Int.toNat (i:Int))) 1))) (i+1)))))))∧(¬ ((i:Int)<(b.length:Int))→rv=n))):f267G0 E set b n i:=by
 rcases bft (decide ((i:Int)<(b.length:Int))) with hc0 | hc0
 · have h:=h.1 (odt hc0)
   obtain ⟨e,h1,h⟩:=h
   obtain ⟨q4_1,h⟩:=h
   obtain ⟨q5_1,h⟩:=h
   obtain ⟨q6_1,h⟩:=h
   obtain ⟨q7_1,h⟩:=h
   exact p267_0_0 set b n i e hE ⟨hc0,(QF h1),(rp cI 1 0 1 h1),q4_1,q5_1,q6_1,q7_1,trivial⟩ h
 · have h:=h.2 (odf hc0)
   exact p267_0_1 set b n i hE ⟨hc0,trivial⟩ (AvLe.of_eq (by rw [h]; try rfl))
theorem f227b:Try.f227.body=some (Qd Try.prog 227):=by kernel_rfl
theorem u227 {a c k:List AV} {r:AV} (h:Pure Try.prog 227 (a++c++k) r):Qe Try.prog (.clos 227 a k) c r:=Qs Try.func227 (by kernel_rfl) f227b h
theorem p227_start_0 (set:Int) (b:List Int) {E:Env} {res:AV} (hE:Qg Try.prog 227 res E) (ho:AllP [])
 (hr:AvLe (.clos 266 [] [.rptr [.int .i64 set] 0,.rptr [.rptr [.rsl (rowI b) 0 b.length] 0] 0]) res):G Try.prog E [.code (Qd Try.prog 227)] ⟨[.rptr [.rsl (rowI b) 0 b.length] 0,.int .i64 set]++unds (Try.f227.ntmps - 2),[]⟩ :=
 Qc (n:=400) (evs:=[]) (obs:=_) hE Try.func227 Qo (by kernel_rfl) ho hr
theorem f227W (set:Int) (b:List Int) {E:Env} {rv:AV} (hE:Qg Try.prog 227 rv E)
 (h:rv=(.clos 266 [] [.rptr [.int .i64 set] 0,.rptr [.rptr [.rsl (rowI b) 0 b.length] 0] 0])):G Try.prog E [.code (Qd Try.prog 227)] ⟨[.rptr [.rsl (rowI b) 0 b.length] 0,.int .i64 set]++unds (Try.f227.ntmps - 2),[]⟩:=by
 exact p227_start_0 set b hE trivial (AvLe.of_eq (by rw [h]; try rfl))
theorem f229b:Try.f229.body=some (Qd Try.prog 229):=by kernel_rfl
theorem u229 {a c k:List AV} {r:AV} (h:Pure Try.prog 229 (a++c++k) r):Qe Try.prog (.clos 229 a k) c r:=Qs Try.func229 (by kernel_rfl) f229b h
def Wd (P:Program):List Item:=kAt 400 [.code (Qd P 229)] [.stop]
def QaA (set:Int) (b:List Int) (i:Nat) (due:Int) (last:Int) (v0:List Pay) (g0:Nat):St:=⟨([J,.int .i64 set,J,J,.sl 0 g0 0 v0.length 3,.int .i64 due,.int .i64 last]++jj 5 ([.rsl (rowI b) 0 b.length,.int .i64 (b.length:Int),.int .i64 (i:Int)]++Js 36)),[⟨true,g0,3,true,(QE v0),true⟩]⟩
def Kz (E:Env) (set:Int) (b:List Int) (i:Nat) (due:Int) (last:Int) (v0:List Pay):Prop:=∀ g0:Nat,G Try.prog E (Wd Try.prog) (QaA set b i due last v0 g0)
theorem p229_start_0 (set:Int) (b:List Int) {E:Env} {rv:AV} (hE:Qg Try.prog 229 rv E) (ho:AllP [])
 (hg:G Try.prog E (Wd Try.prog) ⟨([J,.int .i64 set,J,J,.sl 0 0 0 0 3,.int .i64 0,.int .i64 (-1)]++jj 5 ([.rsl (rowI b) 0 b.length,.int .i64 (b.length:Int),.int .i64 0]++Js 36)),[⟨true,0,3,true,[],true⟩]⟩):G Try.prog E [.code (Qd Try.prog 229)] ⟨[.rptr [.rsl (rowI b) 0 b.length] 0,.int .i64 set]++unds (Try.f229.ntmps - 2),[]⟩ :=
 Ql (n:=400) (ds:=[(4,3)]) (cs:=[]) (live:=[1,4,5,6,12,13,14]) (m:=1) (evs:=[.stop]) (obs:=_) hE.2.1 (hE.nogh _) Qo (by kernel_rfl) ho hg
theorem f229W (set:Int) (b:List Int) {E:Env} {rv:(List Pay)} (hE:Qg Try.prog 229 (.rsl (QE rv) 0 rv.length) E)
 (h:Kz E set b 0 0 (-1) ([])):G Try.prog E [.code (Qd Try.prog 229)] ⟨[.rptr [.rsl (rowI b) 0 b.length] 0,.int .i64 set]++unds (Try.f229.ntmps - 2),[]⟩:=by
 exact p229_start_0 set b hE trivial (h 0)
theorem p229_0_0 (set:Int) (b:List Int) (i:Nat) (due:Int) (last:Int) (v0:List Pay) (g0:Nat) (e:Int) {E:Env} {rv:AV} (hE:Qg Try.prog 229 rv E) (ho:AllP [(decide ((i:Int)<(b.length:Int)))=true,0≤(i:Int)∧(i:Int)<(b.length:Int),((rowI b).drop (0+(Int.toNat (i:Int))*1)).take 1=[.int .i64 e],(0:Int)≤(i:Int)∧(i:Int)≤((IntKind.bits .i64:Nat):Int),((bits .and .i64 (set / 2 ^ (Int.toNat (i:Int))) 1) == 0)=true,InR .i64 ((i:Int)+1)])
 (hg:G Try.prog E (Wd Try.prog) ⟨([J,.int .i64 set,J,J,.sl 0 g0 0 v0.length 3,.int .i64 due,.int .i64 last]++jj 5 ([.rsl (rowI b) 0 b.length,.int .i64 (b.length:Int),.int .i64 ((i:Int)+1)]++Js 36)),[⟨true,g0,3,true,(QE v0),true⟩]⟩):G Try.prog E (Wd Try.prog) (QaA set b i due last v0 g0) :=
 Ql (n:=400) (ds:=[]) (cs:=[]) (live:=[1,4,5,6,12,13,14]) (m:=1) (evs:=[.b true,.ld (.int .i64 e),.b true,.stop]) (obs:=_) hE.2.1 (hE.nogh _) Qo (by kernel_rfl) ho hg
theorem p229_0_1 (set:Int) (b:List Int) (i:Nat) (due:Int) (last:Int) (v0:List Pay) (g0:Nat) (e:Int) {E:Env} {rv:AV} (hE:Qg Try.prog 229 rv E) (ho:AllP [(decide ((i:Int)<(b.length:Int)))=true,0≤(i:Int)∧(i:Int)<(b.length:Int),((rowI b).drop (0+(Int.toNat (i:Int))*1)).take 1=[.int .i64 e],(0:Int)≤(i:Int)∧(i:Int)≤((IntKind.bits .i64:Nat):Int),((bits .and .i64 (set / 2 ^ (Int.toNat (i:Int))) 1) == 0)=false,(decide (due<0))=true,InR .i64 (0 - due),g0=g0,(0+(v0.length*3))=(QE v0).length,(v0.length+1)≤2147483648,0=0,InR .i64 (due+e),InR .i64 ((i:Int)+1)])
 (hg:G Try.prog E (Wd Try.prog) ⟨([J,.int .i64 set,J,J,.sl 0 (g0+1) 0 (v0.length+1) 3,.int .i64 (due+e),.int .i64 (i:Int)]++jj 5 ([.rsl (rowI b) 0 b.length,.int .i64 (b.length:Int),.int .i64 ((i:Int)+1)]++Js 36)),[⟨true,(g0+1),3,true,((QE v0)++[.int .i64 last,.int .i64 (i:Int),.int .i64 (0 - due)]),true⟩]⟩):G Try.prog E (Wd Try.prog) (QaA set b i due last v0 g0) :=
 Ql (n:=400) (ds:=[]) (cs:=[]) (live:=[1,4,5,6,12,13,14]) (m:=1) (evs:=[.b true,.ld (.int .i64 e),.b false,.b true,.stop]) (obs:=_) hE.2.1 (hE.nogh _) Qo (by kernel_rfl) ho hg
theorem p229_0_2 (set:Int) (b:List Int) (i:Nat) (due:Int) (last:Int) (v0:List Pay) (g0:Nat) (e:Int) {E:Env} {rv:AV} (hE:Qg Try.prog 229 rv E) (ho:AllP [(decide ((i:Int)<(b.length:Int)))=true,0≤(i:Int)∧(i:Int)<(b.length:Int),((rowI b).drop (0+(Int.toNat (i:Int))*1)).take 1=[.int .i64 e],(0:Int)≤(i:Int)∧(i:Int)≤((IntKind.bits .i64:Nat):Int),((bits .and .i64 (set / 2 ^ (Int.toNat (i:Int))) 1) == 0)=false,(decide (due<0))=false,(decide (due > 0))=true,g0=g0,(0+(v0.length*3))=(QE v0).length,(v0.length+1)≤2147483648,0=0,InR .i64 (due+e),InR .i64 ((i:Int)+1)])
 (hg:G Try.prog E (Wd Try.prog) ⟨([J,.int .i64 set,J,J,.sl 0 (g0+1) 0 (v0.length+1) 3,.int .i64 (due+e),.int .i64 (i:Int)]++jj 5 ([.rsl (rowI b) 0 b.length,.int .i64 (b.length:Int),.int .i64 ((i:Int)+1)]++Js 36)),[⟨true,(g0+1),3,true,((QE v0)++[.int .i64 (i:Int),.int .i64 last,.int .i64 due]),true⟩]⟩):G Try.prog E (Wd Try.prog) (QaA set b i due last v0 g0) :=
 Ql (n:=400) (ds:=[]) (cs:=[]) (live:=[1,4,5,6,12,13,14]) (m:=1) (evs:=[.b true,.ld (.int .i64 e),.b false,.b false,.b true,.stop]) (obs:=_) hE.2.1 (hE.nogh _) Qo (by kernel_rfl) ho hg
theorem p229_0_3 (set:Int) (b:List Int) (i:Nat) (due:Int) (last:Int) (v0:List Pay) (g0:Nat) (e:Int) {E:Env} {rv:AV} (hE:Qg Try.prog 229 rv E) (ho:AllP [(decide ((i:Int)<(b.length:Int)))=true,0≤(i:Int)∧(i:Int)<(b.length:Int),((rowI b).drop (0+(Int.toNat (i:Int))*1)).take 1=[.int .i64 e],(0:Int)≤(i:Int)∧(i:Int)≤((IntKind.bits .i64:Nat):Int),((bits .and .i64 (set / 2 ^ (Int.toNat (i:Int))) 1) == 0)=false,(decide (due<0))=false,(decide (due > 0))=false,InR .i64 (due+e),InR .i64 ((i:Int)+1)])
 (hg:G Try.prog E (Wd Try.prog) ⟨([J,.int .i64 set,J,J,.sl 0 g0 0 v0.length 3,.int .i64 (due+e),.int .i64 (i:Int)]++jj 5 ([.rsl (rowI b) 0 b.length,.int .i64 (b.length:Int),.int .i64 ((i:Int)+1)]++Js 36)),[⟨true,g0,3,true,(QE v0),true⟩]⟩):G Try.prog E (Wd Try.prog) (QaA set b i due last v0 g0) :=
 Ql (n:=400) (ds:=[]) (cs:=[]) (live:=[1,4,5,6,12,13,14]) (m:=1) (evs:=[.b true,.ld (.int .i64 e),.b false,.b false,.b false,.stop]) (obs:=_) hE.2.1 (hE.nogh _) Qo (by kernel_rfl) ho hg
theorem p229_0_4 (set:Int) (b:List Int) (i:Nat) (due:Int) (last:Int) (v0:List Pay) (g0:Nat) {E:Env} {res:AV} (hE:Qg Try.prog 229 res E) (ho:AllP [(decide ((i:Int)<(b.length:Int)))=false,g0=g0])
 (hr:AvLe (.rsl (QE v0) 0 v0.length) res):G Try.prog E (Wd Try.prog) (QaA set b i due last v0 g0) :=
 Qc (n:=400) (evs:=[.b false]) (obs:=_) hE Try.func229 Qo (by kernel_rfl) ho hr
theorem f229W0 (set:Int) (b:List Int) (i:Nat) (due:Int) (last:Int) (v0:List Pay) {E:Env} {rv:(List Pay)} (hE:Qg Try.prog 229 (.rsl (QE rv) 0 rv.length) E)
 (h:(((i:Int)<(b.length:Int)→(∃ e:Int,b[i]?=some e∧(((0:Int)≤(i:Int)∧(i:Int)≤((IntKind.bits .i64:Nat):Int))∧(((bits .and .i64 (set / 2 ^ (Int.toNat (i:Int))) 1)=0→((I6 ((i:Int)+1))∧Kz E set b (i+1) due last v0))∧(¬ ((bits .and .i64 (set / 2 ^ (Int.toNat (i:Int))) 1)=0)→((due<0→((I6 (0 - due))∧((v0.length+1)≤2147483648∧((I6 (due+e))∧((I6 ((i:Int)+1))∧Kz E set b (i+1) (due+e) (i:Int) (v0++[(⟨last,(i:Int),(0 - due)⟩:Pay)]))))))∧(¬ (due<0)→((due > 0→((v0.length+1)≤2147483648∧((I6 (due+e))∧((I6 ((i:Int)+1))∧Kz E set b (i+1) (due+e) (i:Int) (v0++[(⟨(i:Int),last,due⟩:Pay)])))))∧(¬ (due > 0)→((I6 (due+e))∧((I6 ((i:Int)+1))∧Kz E set b (i+1) (due+e) (i:Int) v0)))))))))))∧(¬ ((i:Int)<(b.length:Int))→rv=v0))):Kz E set b i due last v0:=by
 intro g0
 rcases bft (decide ((i:Int)<(b.length:Int))) with hc0 | hc0
 · have h:=h.1 (odt hc0)
   obtain ⟨e,h1,h⟩:=h
   obtain ⟨q4_1,h⟩:=h
   rcases bft ((bits .and .i64 (set / 2 ^ (Int.toNat (i:Int))) 1) == 0) with hc1 | hc1
   · have h:=h.1 (eq_of_beq hc1)
     obtain ⟨q6_2,h⟩:=h
     exact p229_0_0 set b i due last v0 g0 e hE ⟨hc0,(QF h1),(rp cI 1 0 1 h1),q4_1,hc1,q6_2,trivial⟩ (h g0)
   · have h:=h.2 (ne_of_beq_false hc1)
     rcases bft (decide (due<0)) with hc2 | hc2
     · have h:=h.1 (odt hc2)
       obtain ⟨q7_3,h⟩:=h
       obtain ⟨h2,h⟩:=h
       obtain ⟨q12_3,h⟩:=h
       obtain ⟨q13_3,h⟩:=h
       refine p229_0_1 set b i due last v0 g0 e hE ⟨hc0,(QF h1),(rp cI 1 0 1 h1),q4_1,hc1,hc2,q7_3,rfl,(by have hx:=QI cPay (s:=3) (fun _=>rfl) v0; simp only [QE] at hx ⊢; rw [hx]; simp),h2,rfl,q12_3,q13_3,trivial⟩ ?_
       rw [(show QE v0++[.int .i64 last,.int .i64 (i:Int),.int .i64 (0 - due)]=QE (v0++[(⟨last,(i:Int),(0 - due)⟩:Pay)]) from (qw cPay v0 [(⟨last,(i:Int),(0 - due)⟩:Pay)]).symm)]; rw [(show (v0.length+1)=(v0++[(⟨last,(i:Int),(0 - due)⟩:Pay)]).length from by simp)]; exact (h (g0+1))
     · have h:=h.2 (odf hc2)
       rcases bft (decide (due > 0)) with hc3 | hc3
       · have h:=h.1 (odt hc3)
         obtain ⟨h2,h⟩:=h
         obtain ⟨q12_4,h⟩:=h
         obtain ⟨q13_4,h⟩:=h
         refine p229_0_2 set b i due last v0 g0 e hE ⟨hc0,(QF h1),(rp cI 1 0 1 h1),q4_1,hc1,hc2,hc3,rfl,(by have hx:=QI cPay (s:=3) (fun _=>rfl) v0; simp only [QE] at hx ⊢; rw [hx]; simp),h2,rfl,q12_4,q13_4,trivial⟩ ?_
         rw [(show QE v0++[.int .i64 (i:Int),.int .i64 last,.int .i64 due]=QE (v0++[(⟨(i:Int),last,due⟩:Pay)]) from (qw cPay v0 [(⟨(i:Int),last,due⟩:Pay)]).symm)]; rw [(show (v0.length+1)=(v0++[(⟨(i:Int),last,due⟩:Pay)]).length from by simp)]; exact (h (g0+1))
       · have h:=h.2 (odf hc3)
         obtain ⟨q8_4,h⟩:=h
         obtain ⟨q9_4,h⟩:=h
         exact p229_0_3 set b i due last v0 g0 e hE ⟨hc0,(QF h1),(rp cI 1 0 1 h1),q4_1,hc1,hc2,hc3,q8_4,q9_4,trivial⟩ (h g0)
 · have h:=h.2 (odf hc0)
   exact p229_0_4 set b i due last v0 g0 hE ⟨hc0,rfl,trivial⟩ (AvLe.of_eq (by rw [h]; try rfl))
theorem total_ok (b:List Int) (set:Int) (h:VE b set):Pure Try.prog 267 [.rptr [.rsl (rowI b) 0 b.length] 0,.int .i64 set] (.int .i64 (totN b (Int.toNat set))):=QC Try.func267 f267b fun E hE=>by
 obtain ⟨S,rfl,hS,hl,hb⟩:=h
 have hS2:=Wz hl hS
 rw [Int.toNat_natCast] at hE
 have key:∀ (d i:Nat),i+d=b.length→f267G0 E (S:Int) b (totP b S i) i:=by
  intro d
  induction d with
  | zero =>
   intro i hd
   have:i=b.length:=by omega
   subst this
   exact f267W0 _ b _ _ (rv:=totN b S) hE ⟨fun h=>by omega,fun _=>rfl⟩
  | succ d ih =>
   intro i hd
   have hi:b[i]?=some b[i]:=List.getElem?_eq_getElem (by omega)
   have hx:=hb _ (List.mem_of_getElem? hi)
   have p1:=yM (b:=b) (S:=S) hb i (by omega)
   have p2:=yM (b:=b) (S:=S) hb (i+1) (by omega)
   have es:totP b S (i+1)=totP b S i+b[i]*(if S.testBit i then 1 else 0):=WR hi
   have hm:b[i]*(if S.testBit i then 1 else 0)=b[i] ∨ b[i]*(if S.testBit i then 1 else 0)=0:=by split <;> simp
   refine f267W0 _ b _ _ (rv:=totN b S) hE ⟨fun _=>⟨b[i],hi,⟨by omega,by simp [IntKind.bits]; omega⟩,?_⟩,fun h=>by omega⟩
   rw [bit_nat (by omega),← es]
   exact ⟨by omega,by omega,by omega,ih (i+1) (by omega)⟩
 have:=key b.length 0 (by omega)
 exact f267W _ b (rv:=totN b S) hE this
theorem parts_ok (b:List Int) (set:Int):Pure Try.prog 227 [.rptr [.rsl (rowI b) 0 b.length] 0,.int .i64 set] (.clos 266 [] [.rptr [.int .i64 set] 0,.rptr [.rptr [.rsl (rowI b) 0 b.length] 0] 0]):=QC Try.func227 f227b fun E hE=>f227W set b hE rfl
theorem chain_ok (b:List Int) (set:Int) (h:VE b set):Pure Try.prog 229 [.rptr [.rsl (rowI b) 0 b.length] 0,.int .i64 set] (.rsl (QE (Xq b (Int.toNat set))) 0 (Xq b (Int.toNat set)).length):=QC Try.func229 f229b fun E hE=>by
 obtain ⟨S,rfl,hS,hl,hb⟩:=h
 have hS2:=Wz hl hS
 rw [Int.toNat_natCast] at hE
 have key:∀ (d i:Nat),i+d=b.length→Kz E (S:Int) b i (chP b S i).1 (chP b S i).2.1 (chP b S i).2.2:=by
  intro d
  induction d with
  | zero =>
   intro i hd
   have:i=b.length:=by omega
   subst this
   exact f229W0 _ b _ _ _ _ (rv:=Xq b S) hE ⟨fun h=>by omega,fun _=>rfl⟩
  | succ d ih =>
   intro i hd
   have hi:b[i]?=some b[i]:=List.getElem?_eq_getElem (by omega)
   have hx:=hb _ (List.mem_of_getElem? hi)
   have p1:=Qco (b:=b) (S:=S) i (by omega)
   have p2:=yM (b:=b) (S:=S) hb i (by omega)
   have p3:=Qcn (b:=b) (S:=S) i
   have es:=Qcm (S:=S) hi
   have nx:=ih (i+1) (by omega)
   rw [es] at nx
   refine f229W0 _ b _ _ _ _ (rv:=Xq b S) hE ⟨fun _=>⟨b[i],hi,⟨by omega,by simp [IntKind.bits]; omega⟩,?_⟩,fun h=>by omega⟩
   rw [bit_nat (by omega)]
   unfold yg at nx
   cases ht:S.testBit i with
   | false =>
    rw [ht] at nx
    exact ⟨fun _=>⟨by omega,nx⟩,fun h=>absurd rfl h⟩
   | true =>
    rw [ht] at nx
    refine ⟨fun h=>absurd h (by simp),fun _=>⟨fun h1=>?_,fun h1=>⟨fun h2=>?_,fun h2=>?_⟩⟩⟩
    · rw [if_pos rfl,if_pos h1] at nx
      exact ⟨by omega,by omega,by omega,by omega,nx⟩
    · rw [if_pos rfl,if_neg h1,if_pos h2] at nx
      exact ⟨by omega,by omega,by omega,nx⟩
    · rw [if_pos rfl,if_neg h1,if_neg h2] at nx
      exact ⟨by omega,by omega,nx⟩
 exact f229W _ b (rv:=Xq b S) hE (key b.length 0 (by omega))
theorem f266b:Try.f266.body=some (Qd Try.prog 266):=by kernel_rfl
def WD (P:Program):List Item:=kAt 400 [.code (Qd P 266)] [.stop]
def WC (yv0:Value) (b:List Int) (S:Nat) (p:Int):St:=⟨([.opq yv0,.rptr [.int .i64 (S:Int)] 0,.rptr [.rptr [.rsl (rowI b) 0 b.length] 0] 0,J,.int .i64 p]++Js 26),[]⟩
theorem p266_s (yv0:Value) (b:List Int) (S:Nat) {E:Env} {xs:List (List AV)} {yv:Value} {Y:Option Nat→Sd} {cont:Nat→Bool} {e:Option Nat} {o:Option Nat} (hE:IterE Try.prog 266 xs yv Y cont e o E)
 (hg:G Try.prog E (WD Try.prog) (WC yv0 b S (S:Int))):G Try.prog E [.code (Qd Try.prog 266)] ⟨[.opq yv0,.rptr [.int .i64 (S:Int)] 0,.rptr [.rptr [.rsl (rowI b) 0 b.length] 0] 0]++unds (Try.f266.ntmps - 3),[]⟩ :=
 VY (n:=400) (ds:=[]) (live:=[0,1,2,4]) (m:=0) (evs:=[.stop]) (obs:=[]) hE.kind (hE.nogh _) Qo (by kernel_rfl) trivial hg
def f266Kh (P:Program):List Item:=toOp 16 (kReg 400 [.code (Qd P 266)] [.b true] 2)
def f266Sh (yv0:Value) (b:List Int) (S:Nat) (p:Int):St:=⟨[.opq yv0,.rptr [.int .i64 (S:Int)] 0,.rptr [.rptr [.rsl (rowI b) 0 b.length] 0] 0,J,.int .i64 p,J,.int .i64 p,.bool (decide (p > 0)),J,J,J,J,.int .i64 p,.int .i64 (S:Int),.int .i64 (bits .and .i64 p (S:Int)),.int .i64 (S:Int),.int .i64 (0 - (S:Int)),.int .i64 (bits .and .i64 (bits .and .i64 p (S:Int)) (0 - (S:Int))),.bool ((bits .and .i64 (bits .and .i64 p (S:Int)) (0 - (S:Int))) != 0),.bool true,.rptr [.rsl (rowI b) 0 b.length] 0,.int .i64 p,.int .i64 (totN b (Int.toNat p)),.bool ((totN b (Int.toNat p)) == 0),.bool ((totN b (Int.toNat p)) == 0),.bool true,.opq yv0,.int .i64 p,J,J,J],[]⟩
def f266Kha (P:Program):List Item:=toOp 17 (kReg 400 [.code (Qd P 266)] [.b true] 2)
def f266Sha (yv0:Value) (b:List Int) (S:Nat) (p:Int) (y:Bool):St:=⟨[.opq yv0,.rptr [.int .i64 (S:Int)] 0,.rptr [.rptr [.rsl (rowI b) 0 b.length] 0] 0,J,.int .i64 p,J,.int .i64 p,.bool (decide (p > 0)),J,J,J,J,.int .i64 p,.int .i64 (S:Int),.int .i64 (bits .and .i64 p (S:Int)),.int .i64 (S:Int),.int .i64 (0 - (S:Int)),.int .i64 (bits .and .i64 (bits .and .i64 p (S:Int)) (0 - (S:Int))),.bool ((bits .and .i64 (bits .and .i64 p (S:Int)) (0 - (S:Int))) != 0),.bool true,.rptr [.rsl (rowI b) 0 b.length] 0,.int .i64 p,.int .i64 (totN b (Int.toNat p)),.bool ((totN b (Int.toNat p)) == 0),.bool ((totN b (Int.toNat p)) == 0),.bool true,.opq yv0,.int .i64 p,.bool y,J,J],[]⟩
theorem f77_h (yv0:Value) (b:List Int) (S:Nat) (p:Int):yieldA (f266Kh Try.prog) (f266Sh yv0 b S p)=some (f266Kha Try.prog,some 28,yv0,[.int .i64 p]):=by kernel_rfl
theorem p266_0 (yv0:Value) (b:List Int) (S:Nat) (p:Int) {E:Env} {xs:List (List AV)} {yv:Value} {Y:Option Nat→Sd} {cont:Nat→Bool} {e:Option Nat} {o:Option Nat} (hE:IterE Try.prog 266 xs yv Y cont e o E) (h0:(decide (p > 0))=true) (h1:InR .i64 (0 - (S:Int))) (h2:((bits .and .i64 (bits .and .i64 p (S:Int)) (0 - (S:Int))) != 0)=true) (h3:Qe Try.prog (.clos 267 [] []) [.rptr [.rsl (rowI b) 0 b.length] 0,.int .i64 p] (.int .i64 (totN b (Int.toNat p)))) (h4:((totN b (Int.toNat p)) == 0)=true)
 (hg:G Try.prog E (f266Kh Try.prog) (f266Sh yv0 b S p)):G Try.prog E (WD Try.prog) (WC yv0 b S p) :=
 VY (n:=400) (ds:=[]) (live:=[0,1,2,3,4,5,6,7,8,9,10,11,12,13,14,15,16,17,18,19,20,21,22,23,24,25,26,27,28,29,30]) (m:=0) (evs:=[.b true,.b true,.v (.int .i64 (totN b (Int.toNat p))),.b true,.hold 2]) (obs:=[(decide (p > 0))=true,InR .i64 (0 - (S:Int)),((bits .and .i64 (bits .and .i64 p (S:Int)) (0 - (S:Int))) != 0)=true,Qe Try.prog (.clos 267 [] []) [.rptr [.rsl (rowI b) 0 b.length] 0,.int .i64 p] (.int .i64 (totN b (Int.toNat p))),((totN b (Int.toNat p)) == 0)=true]) hE.kind (hE.nogh _) Qo (by kernel_rfl) ⟨h0,h1,h2,h3,h4,trivial⟩ hg
theorem p266_1 (yv0:Value) (b:List Int) (S:Nat) (p:Int) {E:Env} {xs:List (List AV)} {yv:Value} {Y:Option Nat→Sd} {cont:Nat→Bool} {e:Option Nat} {o:Option Nat} (hE:IterE Try.prog 266 xs yv Y cont e o E) (h0:(decide (p > 0))=true) (h1:InR .i64 (0 - (S:Int))) (h2:((bits .and .i64 (bits .and .i64 p (S:Int)) (0 - (S:Int))) != 0)=true) (h3:Qe Try.prog (.clos 267 [] []) [.rptr [.rsl (rowI b) 0 b.length] 0,.int .i64 p] (.int .i64 (totN b (Int.toNat p)))) (h4:((totN b (Int.toNat p)) == 0)=false) (h6:InR .i64 (p - 1))
 (hg:G Try.prog E (WD Try.prog) (WC yv0 b S (bits .and .i64 (p - 1) (S:Int)))):G Try.prog E (WD Try.prog) (WC yv0 b S p) :=
 VY (n:=400) (ds:=[]) (live:=[0,1,2,4]) (m:=0) (evs:=[.b true,.b true,.v (.int .i64 (totN b (Int.toNat p))),.b false,.b false,.stop]) (obs:=[(decide (p > 0))=true,InR .i64 (0 - (S:Int)),((bits .and .i64 (bits .and .i64 p (S:Int)) (0 - (S:Int))) != 0)=true,Qe Try.prog (.clos 267 [] []) [.rptr [.rsl (rowI b) 0 b.length] 0,.int .i64 p] (.int .i64 (totN b (Int.toNat p))),((totN b (Int.toNat p)) == 0)=false,false=false,InR .i64 (p - 1)]) hE.kind (hE.nogh _) Qo (by kernel_rfl) ⟨h0,h1,h2,h3,h4,rfl,h6,trivial⟩ hg
theorem p266_2 (yv0:Value) (b:List Int) (S:Nat) (p:Int) {E:Env} {xs:List (List AV)} {yv:Value} {Y:Option Nat→Sd} {cont:Nat→Bool} {e:Option Nat} {o:Option Nat} (hE:IterE Try.prog 266 xs yv Y cont e o E) (h0:(decide (p > 0))=true) (h1:InR .i64 (0 - (S:Int))) (h2:((bits .and .i64 (bits .and .i64 p (S:Int)) (0 - (S:Int))) != 0)=false) (h5:InR .i64 (p - 1))
 (hg:G Try.prog E (WD Try.prog) (WC yv0 b S (bits .and .i64 (p - 1) (S:Int)))):G Try.prog E (WD Try.prog) (WC yv0 b S p) :=
 VY (n:=400) (ds:=[]) (live:=[0,1,2,4]) (m:=0) (evs:=[.b true,.b false,.b false,.b false,.stop]) (obs:=[(decide (p > 0))=true,InR .i64 (0 - (S:Int)),((bits .and .i64 (bits .and .i64 p (S:Int)) (0 - (S:Int))) != 0)=false,false=false,false=false,InR .i64 (p - 1)]) hE.kind (hE.nogh _) Qo (by kernel_rfl) ⟨h0,h1,h2,rfl,rfl,h5,trivial⟩ hg
theorem p266_3 (yv0:Value) (b:List Int) (S:Nat) (p:Int) {E:Env} {xs:List (List AV)} {yv:Value} {Y:Option Nat→Sd} {cont:Nat→Bool} {e:Option Nat} (hE:IterE Try.prog 266 xs yv Y cont e e E) (h0:(decide (p > 0))=false):G Try.prog E (WD Try.prog) (WC yv0 b S p) :=
 iter_end (n:=400) (evs:=[.b false]) (obs:=[(decide (p > 0))=false]) hE Try.func266 (by kernel_rfl) Qo (by kernel_rfl) ⟨h0,trivial⟩
theorem p266_a0 (yv0:Value) (b:List Int) (S:Nat) (p:Int) (y:Bool) {E:Env} {xs:List (List AV)} {yv:Value} {Y:Option Nat→Sd} {cont:Nat→Bool} {e:Option Nat} (hE:IterE Try.prog 266 xs yv Y cont e e E) (h0:(!y)=true):G Try.prog E (f266Kha Try.prog) (f266Sha yv0 b S p y) :=
 iter_end (n:=400) (evs:=[.b true]) (obs:=[(!y)=true]) hE Try.func266 (by kernel_rfl) Qo (by kernel_rfl) ⟨h0,trivial⟩
theorem p266_a1 (yv0:Value) (b:List Int) (S:Nat) (p:Int) (y:Bool) {E:Env} {xs:List (List AV)} {yv:Value} {Y:Option Nat→Sd} {cont:Nat→Bool} {e:Option Nat} {o:Option Nat} (hE:IterE Try.prog 266 xs yv Y cont e o E) (h0:(!y)=false) (h1:InR .i64 (p - 1))
 (hg:G Try.prog E (WD Try.prog) (WC yv0 b S (bits .and .i64 (p - 1) (S:Int)))):G Try.prog E (f266Kha Try.prog) (f266Sha yv0 b S p y) :=
 VY (n:=400) (ds:=[]) (live:=[0,1,2,4]) (m:=0) (evs:=[.b false,.stop]) (obs:=[(!y)=false,InR .i64 (p - 1)]) hE.kind (hE.nogh _) Qo (by kernel_rfl) ⟨h0,h1,trivial⟩ hg
section
variable {L:List Nat} {yv:Value} {Y:Option Nat→Sd} {cont:Nat→Bool} {e:Option Nat} {b:List Int} {S:Nat}
theorem it_p (hS:S<2 ^ b.length) (hl:b.length≤10) (hb:∀ x ∈ b,-10000000000≤x∧x≤10000000000):∀ (p n:Nat) (E:Env),p≤S→p &&& S=p→IterE Try.prog 266 (L.map argS) yv Y cont e (some n) E→Yk cont n (L.length - n)=e→L.drop n=VZ b S p →
 G Try.prog E (WD Try.prog) (WC yv b S (p:Int)):=by
 have hS2:=Wz hl hS
 intro p
 induction p using Nat.strongRecOn with
 | ind p ih =>
  intro n E hp hps hE hi hL
  by_cases h0:p=0
  · subst h0
    have hn:L.length≤n:=List.drop_eq_nil_iff.1 (by rw [hL,partsF_zero])
    have e0:L.length - n=0:=by omega
    rw [e0] at hi
    simp only [Yk] at hi
    subst hi
    exact p266_3 yv b S _ hE (by simp)
  have hpi:VE b (p:Int):=⟨p,rfl,by omega,hl,hb⟩
  have e1:bits .and .i64 ((p:Int) - 1) (S:Int)=(((p - 1) &&& S:Nat):Int):=by
   rw [show (p:Int) - 1=((p - 1:Nat):Int) by omega,and_nat (by omega) (by omega)]
  have hlt:=@Nat.and_le_left (p - 1) S
  have hq:(p - 1 &&& S) &&& S=p - 1 &&& S:=by rw [Nat.and_assoc,Nat.and_self]
  have hcut:=partsF_cut (b:=b) (S:=S) (p:=p) h0 hps
  have c0:decide ((p:Int) > 0)=true:=decide_eq_true (by omega)
  have c1:InR .i64 (0 - (S:Int)):=by show -9223372036854775808≤_∧_≤(9223372036854775807:Int); omega
  have c6:InR .i64 ((p:Int) - 1):=by show -9223372036854775808≤_∧_≤(9223372036854775807:Int); omega
  have go:∀ (E':Env) (n':Nat),IterE Try.prog 266 (L.map argS) yv Y cont e (some n') E'→Yk cont n' (L.length - n')=e→L.drop n'=VZ b S (p - 1 &&& S)→G Try.prog E' (WD Try.prog) (WC yv b S (bits .and .i64 ((p:Int) - 1) (S:Int))):=by
   intro E' n' hE' hi' hL'
   rw [e1]
   exact ih (p - 1 &&& S) (by omega) n' E' (by omega) hq hE' hi' hL'
  have ht:Qe Try.prog (.clos 267 [] []) [.rptr [.rsl (rowI b) 0 b.length] 0,.int .i64 (p:Int)] (.int .i64 (totN b (Int.toNat (p:Int)))):=Qs Try.func267 (by kernel_rfl) f267b (total_ok b _ hpi)
  cases hlow:lowP S p with
  | false =>
   rw [hcut,if_neg (by unfold qC; rw [hlow]; simp)] at hL
   exact p266_2 yv b S _ hE c0 c1 hlow c6 (go E n hE hi hL)
  | true =>
   by_cases htot:totN b p=0
   · rw [hcut,if_pos (by unfold qC; rw [hlow,htot,hps]; simp; omega)] at hL
     obtain ⟨g1,g2,g3⟩:=drop_consTk hL
     refine p266_0 yv b S _ hE c0 c1 hlow ht (by rw [Int.toNat_natCast,htot]; rfl) ?_
     refine yield_stepA (x:=argS p) hE (by simp [g1]) (f77_h yv b S _) rfl fun E' hE'=>?_
     have hst:L.length - n=(L.length - (n+1))+1:=by omega
     rw [hst] at hi
     simp only [Yk] at hi
     cases hc:cont n with
     | true =>
      simp only [nxt,hc,cond_true] at hE' hi
      exact p266_a1 yv b S _ true hE' rfl c6 (go E' (n+1) hE' hi g2)
     | false =>
      simp only [nxt,hc,cond_false] at hE' hi
      subst hi
      exact p266_a0 yv b S _ false hE' rfl
   · rw [hcut,if_neg (by unfold qC; simp [htot])] at hL
     exact p266_1 yv b S _ hE c0 c1 hlow ht (by rw [Int.toNat_natCast]; simpa using htot) c6 (go E n hE hi hL)
end
/-- The parts of a set,one after the other. -/
theorem parts_it (b:List Int) (set:Int) (h:VE b set):IterF Try.prog (.clos 266 [] [.rptr [.int .i64 set] 0,.rptr [.rptr [.rsl (rowI b) 0 b.length] 0] 0]) ((Xa b (Int.toNat set)).map argS) :=
 iterF_of Try.func266 (by kernel_rfl) f266b fun E yv Y cont hE=>by
  obtain ⟨S,rfl,hS,hl,hb⟩:=h
  rw [Int.toNat_natCast] at hE
  have hx:((Xa b S).map argS).length=(Xa b S).length:=by simp
  rw [hx] at hE
  exact p266_s yv b S hE (it_p hS hl hb S 0 E (by omega) (Nat.and_self S) hE (by simp) rfl)
end Go.Proofs.Ytemklbioijmjiaa
namespace Go.Proofs.Ytemklbioijmjiaa
open Go Ax
open Go.Proofs
def sm (v:Nat→Int) (L:List Nat):Int:=(L.map v).sum
/-- So many groups of these people,each of somebody and together 0; 'c' says who is in which one. -/
def Grp (v:Nat→Int) (L:List Nat) (k:Nat):Prop:=∃ c:Nat→Nat,∀ j,1≤j→j≤k→(∃ i ∈ L,c i=j)∧sm v (L.filter fun i=>c i == j)=0
def IsMost (v:Nat→Int) (L:List Nat) (k:Nat):Prop:=∀ j,Grp v L j ↔ j≤k
theorem Wk (v:Nat→Int) (P:Nat→Bool):∀ L:List Nat,sm v L=sm v (L.filter P)+sm v (L.filter fun i=>!P i)
 | []=>by simp [sm]
 | i :: L=>by
  have ih:=Wk v P L
  unfold sm at *
  cases h:P i <;> simp [List.filter_cons,h] <;> omega
theorem filt {L:List Nat} {P Q R:Nat→Bool} (h:∀ i ∈ L,(P i && Q i)=R i):(L.filter P).filter Q=L.filter R:=by
 rw [List.filter_filter]
 refine List.filter_congr fun i hi=>?_
 rw [Bool.and_comm]; exact h i hi
theorem sm_lab {v:Nat→Int} {L:List Nat} {c:Nat→Nat}:∀ {k:Nat},(∀ j,1≤j→j≤k→sm v (L.filter fun i=>c i == j)=0)→sm v (L.filter fun i=>decide (1≤c i∧c i≤k))=0
 | 0,h=>by
  have:(L.filter fun i=>decide (1≤c i∧c i≤0))=[]:=List.filter_eq_nil_iff.2 fun i _=>by simp; omega
  rw [this]; rfl
 | k+1,h=>by
  have ih:=sm_lab (k:=k) fun j h1 h2=>h j h1 (by omega)
  have h1:=h (k+1) (by omega) (by omega)
  rw [Wk v (fun i=>c i == k+1)]
  rw [filt (R:=fun i=>c i == k+1) (fun i _=>by
   by_cases e:c i=k+1
   · simp [e]
   · simp [e]),filt (R:=fun i=>decide (1≤c i∧c i≤k)) (fun i _=>by
   by_cases e:c i=k+1
   · simp [e]
   · simp only [show (c i == k+1)=false from by simpa using e,Bool.not_false,Bool.and_true]
     exact decide_eq_decide.2 ⟨fun h=>by omega,fun h=>by omega⟩),h1,ih]; rfl
theorem yD (v:Nat→Int) (L:List Nat):Grp v L 0:=⟨fun _=>0,fun j h1 h2=>by omega⟩
theorem Grp.le {v:Nat→Int} {L:List Nat} {k j:Nat} (h:Grp v L k) (hj:j≤k):Grp v L j:=by
 obtain ⟨c,h⟩:=h
 exact ⟨c,fun j1 a b=>h j1 a (by omega)⟩
theorem grp_nil {v:Nat→Int} {k:Nat} (h:Grp v [] k):k=0:=by
 obtain ⟨c,h⟩:=h
 apply Classical.byContradiction
 intro hk
 obtain ⟨⟨i,hi,-⟩,-⟩:=h 1 (by omega) (by omega)
 simp at hi
/-- One group more. -/
theorem grp_add {v:Nat→Int} {L:List Nat} {P:Nat→Bool} {k:Nat} (hn:∃ i ∈ L,P i=true) (h0:sm v (L.filter P)=0) (h:Grp v (L.filter fun i=>!P i) k):Grp v L (k+1):=by
 obtain ⟨c,h⟩:=h
 obtain ⟨i0,hi0,hp0⟩:=hn
 refine ⟨fun i=>if P i then k+1 else if c i≤k then c i else 0,fun j h1 h2=>?_⟩
 by_cases hj:j=k+1
 · subst hj
   refine ⟨⟨i0,hi0,by dsimp only; rw [if_pos hp0]⟩,?_⟩
   rw [← h0]
   congr 1
   refine List.filter_congr fun i _=>?_
   dsimp only
   cases hp:P i
   · by_cases hc:c i≤k
     · simp [hc]; omega
     · simp [hc]
   · simp
 · obtain ⟨⟨i,hi,hc⟩,hs⟩:=h j h1 (by omega)
   have hi:=List.mem_filter.1 hi
   have hpi:P i=false:=by simpa using hi.2
   refine ⟨⟨i,hi.1,by dsimp only; rw [hpi,if_neg (by simp),if_pos (by omega)]; exact hc⟩,?_⟩
   rw [← hs,filt (R:=fun i=>(if P i then k+1 else if c i≤k then c i else 0) == j)]
   intro x _
   cases hp:P x
   · by_cases hc:c x≤k
     · simp [hc]
     · have h3:(c x == j)=false:=by simp; omega
       have h4:((0:Nat) == j)=false:=by simp; omega
       rw [h3,if_neg (by simp),if_neg hc,h4,Bool.and_false]
   · have h3:(k+1 == j)=false:=by simp; omega
     rw [if_pos rfl,h3]; rfl
/-- They are together 0: the group of one of them. -/
theorem grp_take {v:Nat→Int} {L:List Nat} {i0 k:Nat} (h0:sm v L=0) (hi:i0 ∈ L) (h:Grp v L (k+1)):∃ P:Nat→Bool,P i0=true∧sm v (L.filter P)=0∧Grp v (L.filter fun i=>!P i) k:=by
 obtain ⟨c,h⟩:=h
 have hlab:=sm_lab (c:=c) (k:=k+1) (L:=L) (v:=v) fun j h1 h2=>(h j h1 h2).2
 have hs:=Wk v (fun i=>decide (1≤c i∧c i≤k+1)) L
 -- those who are in no group go to the first one
 let d:Nat→Nat:=fun i=>if 1≤c i∧c i≤k+1 then c i else 1
 have hd:∀ i,1≤d i∧d i≤k+1:=fun i=>by simp only [d]; split <;> omega
 have hdj:∀ j,1≤j→j≤k+1→(∃ i ∈ L,d i=j)∧sm v (L.filter fun i=>d i == j)=0:=fun j h1 h2=>by
  obtain ⟨⟨i,hi,hc⟩,hz⟩:=h j h1 h2
  refine ⟨⟨i,hi,by show (if 1≤c i∧c i≤k+1 then c i else 1)=j; rw [if_pos (by omega)]; exact hc⟩,?_⟩
  by_cases hj:j=1
  · subst hj
    rw [Wk v (fun i=>decide (1≤c i∧c i≤k+1)),filt (R:=fun i=>c i == 1),filt (R:=fun i=>!decide (1≤c i∧c i≤k+1))]
    · omega
    · intro x _
      by_cases hx:1≤c x∧c x≤k+1
      · simp [hx]
      · simp [d,hx]
    · intro x _
      by_cases hx:1≤c x∧c x≤k+1
      · simp [d,hx]
      · simp only [d,hx,if_false,decide_false,Bool.and_false]
        have:¬ c x=1:=by omega
        simp [this]
  · rw [← hz]
    congr 1
    refine List.filter_congr fun x _=>?_
    by_cases hx:1≤c x∧c x≤k+1
    · simp [d,hx]
    · simp only [d,hx,if_false]
      rw [show (c x == j)=false from by simp; omega,show (1 == j)=false from by simp; omega]
 refine ⟨fun i=>d i == d i0,by simp,(hdj _ (hd i0).1 (hd i0).2).2,fun i=>if d i=k+1 then d i0 else d i,fun j h1 h2=>?_⟩
 by_cases hj:j=d i0
 · obtain ⟨⟨i,hi,hc⟩,hz⟩:=hdj (k+1) (by omega) (by omega)
   refine ⟨⟨i,List.mem_filter.2 ⟨hi,by simp; omega⟩,by dsimp only; rw [if_pos hc]; exact hj.symm⟩,?_⟩
   rw [← hz,filt (R:=fun i=>d i == k+1)]
   intro x _
   show (!(d x == d i0) && (if d x=k+1 then d i0 else d x) == j)=(d x == k+1)
   by_cases hx:d x=k+1
   · have h5:(d x == d i0)=false:=by simp; omega
     have h6:(d i0 == j)=true:=by simp [hj]
     have h7:(d x == k+1)=true:=by simp [hx]
     rw [if_pos hx,h5,h6,h7]; rfl
   · have h7:(d x == k+1)=false:=by simpa using hx
     rw [if_neg hx,h7]
     by_cases hy:d x=d i0
     · have h5:(d x == d i0)=true:=by simp [hy]
       rw [h5]; rfl
     · have h5:(d x == j)=false:=by simp; omega
       rw [h5,Bool.and_false]
 · obtain ⟨⟨i,hi,hc⟩,hz⟩:=hdj j h1 (by omega)
   refine ⟨⟨i,List.mem_filter.2 ⟨hi,by simp; omega⟩,by dsimp only; rw [if_neg (by omega)]; exact hc⟩,?_⟩
   rw [← hz,filt (R:=fun i=>d i == j)]
   intro x _
   show (!(d x == d i0) && (if d x=k+1 then d i0 else d x) == j)=(d x == j)
   by_cases hx:d x=k+1
   · have h3:(d i0 == j)=false:=by simp; omega
     have h4:(d x == j)=false:=by simp; omega
     rw [if_pos hx,h3,h4,Bool.and_false]
   · rw [if_neg hx]
     by_cases hy:d x=j
     · have h5:(d x == d i0)=false:=by simp; omega
       rw [h5]; rfl
     · have h5:(d x == j)=false:=by simpa using hy
       rw [h5,Bool.and_false]
end Go.Proofs.Ytemklbioijmjiaa
namespace Go.Proofs.Ytemklbioijmjiaa
open Go Ax
open Go.Proofs
theorem row_oneW {α:Type} (c:α→AV):∀ {l:List α} {i:Nat} {e:α},l[i]?=some e→(l.flatMap fun x=>[c x])[i]?=some (c e)
 | [],i,e,h=>by simp at h
 | x :: l,0,e,h=>by simp at h; subst h; rfl
 | x :: l,i+1,e,h=>by
  have:=row_oneW c (l:=l) (i:=i) (e:=e) (by simpa using h)
  simpa using this
theorem rowOne_take {α:Type} (c:α→AV) {l:List α} {i:Nat}:(l.flatMap fun x=>[c x]).take i=(l.take i).flatMap fun x=>[c x]:=by
 induction l generalizing i with
 | nil=>simp
 | cons x l ih =>
  cases i with
  | zero=>simp
  | succ i=>simp only [List.flatMap_cons,List.cons_append,List.nil_append,List.take_succ_cons,ih]
def cKnE1 (e:Int × Int):AV:=.clos 0 [.int .i64 e.1] [.int .i64 e.2]
def cKnE (e:Int × Int):List AV:=[cKnE1 e]
def QJ (l:List (Int × Int)):List AV:=l.flatMap cKnE
theorem key_kn (a b:Int):KV Try.prog 3 (.int .i64 a) (.int .i64 b)=some (a == b):=by
 have h1:Try.prog.underlying 3=some (.int .i64):=by kernel_rfl
 simp [KV,h1]
def YG (l:List (Int × Int)) (k:Int):Bool:=l.any fun e=>k == e.1
theorem knNew {l:List (Int × Int)} {k:Int} (hh:YG l k=false):qn Try.prog 3 (.int .i64 k) (QJ l):=by
 intro c hc
 obtain ⟨e,he,hc⟩:=List.mem_flatMap.1 hc
 simp only [cKnE,List.mem_singleton] at hc
 subst hc
 refine ⟨_,_,rfl,?_⟩
 rw [key_kn]
 have:=List.any_eq_false.1 hh e he
 simpa using this
def KnAt (l:List (Int × Int)) (k:Int) (i:Nat) (e:Int × Int):Prop:=l[i]?=some e∧k=e.1∧YG (l.take i) k=false
theorem knAt {l:List (Int × Int)} {k:Int} {i:Nat} {e:Int × Int} (hh:KnAt l k i e):KeyAt Try.prog 3 (.int .i64 k) (QJ l) i (.int .i64 e.2):=by
 obtain ⟨h1,h2,h3⟩:=hh
 refine ⟨_,row_oneW cKnE1 h1,?_,?_⟩
 · rw [key_kn,h2]; simp
 · rw [show (QJ l).take i=QJ (l.take i) from rowOne_take cKnE1]; exact knNew h3
theorem knFind {k:Int}:∀ {l:List (Int × Int)},YG l k=true→∃ i e,KnAt l k i e
 | [],h=>by simp [YG] at h
 | e :: l,h=>by
  by_cases he:k=e.1
  · exact ⟨0,e,rfl,he,rfl⟩
  · have h2:YG l k=true:=by
     unfold YG at h ⊢
     rw [List.any_cons,Bool.or_eq_true] at h
     rcases h with h | h
     · exact absurd (by simpa using h) he
     · exact h
    obtain ⟨i,x,h3,h4,h5⟩:=knFind h2
    refine ⟨i+1,x,by simpa using h3,h4,?_⟩
    unfold YG at h5 ⊢
    rw [List.take_succ_cons,List.any_cons,h5]
    simpa using he
/-! ### how many groups -/
def mostF (b:List Int):Nat→Nat→Int
 | 0,_=>0
 | f+1,S=>if S=0 then 0 else (Xa b S).foldl (fun a x=>iMax a (1+mostF b f (without S x))) 0
/-- Into how many groups a set falls at the most,as the program finds it. -/
def Ya (b:List Int) (S:Nat):Int:=mostF b (S+1) S
theorem XU {b:List Int} {S x:Nat} (h:x ∈ Xa b S):x &&& S=x∧0<x∧lowP S x=true∧totN b x=0:=by
 unfold Xa VZ at h
 rw [List.mem_reverse,List.mem_filter] at h
 have h:=h.2
 unfold qC at h
 simp only [Bool.and_eq_true,beq_iff_eq,decide_eq_true_eq] at h
 exact ⟨h.1,h.2.1,h.2.2.1,h.2.2.2⟩
theorem Kf {b:List Int} {S x:Nat} (h1:x &&& S=x) (h2:0<x) (h3:lowP S x=true) (h4:totN b x=0):x ∈ Xa b S:=by
 unfold Xa VZ
 rw [List.mem_reverse,List.mem_filter]
 have:=@Nat.and_le_right x S
 exact ⟨List.mem_range.2 (by omega),by unfold qC; simp [h1,h2,h3,h4]⟩
theorem add_or:∀ (a b:Nat),a &&& b=0→a+b=a ||| b:=by
 intro a
 induction a using Nat.strongRecOn with
 | ind a ih =>
  intro b h
  by_cases ha:a=0
  · subst ha; rw [Nat.zero_or]; omega
  have d1:(a &&& b) / 2=a / 2 &&& b / 2:=Nat.and_div_two
  have d2:(a ||| b) / 2=a / 2 ||| b / 2:=Nat.or_div_two
  have m1:=@Nat.and_mod_two_eq_one a b
  have m2:=@Nat.or_mod_two_eq_one a b
  have:=ih (a / 2) (by omega) (b / 2) (by rw [← d1,h])
  rw [h] at m1
  omega
theorem Xw {S x:Nat} (h:x &&& S=x):without S x+x=S:=by
 have hb:∀ i,(x.testBit i && S.testBit i)=x.testBit i:=fun i=>by rw [← Nat.testBit_and,h]
 have e:without S x &&& x=0:=by
  refine Nat.eq_of_testBit_eq fun i=>?_
  rw [Nat.testBit_and,Yb,Nat.zero_testBit]
  cases x.testBit i <;> simp
 rw [add_or _ _ e]
 refine Nat.eq_of_testBit_eq fun i=>?_
 have:=hb i
 rw [Nat.testBit_or,Yb]
 cases hx:x.testBit i <;> cases hs:S.testBit i <;> simp_all
theorem Ku {α β:Type} {f g:α→β→α}:∀ {l:List β} {a:α},(∀ x ∈ l,∀ a,f a x=g a x)→l.foldl f a=l.foldl g a
 | [],_,_=>rfl
 | x :: l,a,h=>by rw [List.foldl_cons,List.foldl_cons,h x (by simp),Ku fun y hy=>h y (by simp [hy])]
theorem QbV {b:List Int}:∀ {f S:Nat},S<f→mostF b f S=Ya b S
 | 0,S,h=>by omega
 | f+1,S,h=>by
  rw [Ya,mostF,mostF]
  split
  · rfl
  · refine Ku fun x hx a=>?_
    have hp:=XU hx
    have hs:=Xw hp.1
    rw [QbV (f:=f) (S:=without S x) (by omega),QbV (f:=S) (S:=without S x) (by omega)]
theorem yC {b:List Int} {S:Nat} (h0:S ≠ 0):Ya b S=(Xa b S).foldl (fun a x=>iMax a (1+Ya b (without S x))) 0:=by
 rw [Ya,mostF,if_neg h0]
 refine Ku fun x hx a=>?_
 have hp:=XU hx
 have hs:=Xw hp.1
 rw [QbV (by omega)]
theorem qE {b:List Int}:Ya b 0=0:=rfl
theorem yE {v:Nat→Int}:∀ {l:List Nat} {a:Int},a≤l.foldl (fun a x=>iMax a (v x)) a∧(∀ x ∈ l,v x≤l.foldl (fun a x=>iMax a (v x)) a)∧(l.foldl (fun a x=>iMax a (v x)) a=a ∨ ∃ x ∈ l,l.foldl (fun a x=>iMax a (v x)) a=v x)
 | [],a=>⟨Int.le_refl _,fun x hx=>by simp at hx,.inl rfl⟩
 | x :: l,a=>by
  obtain ⟨h1,h2,h3⟩:=yE (v:=v) (l:=l) (a:=iMax a (v x))
  rw [List.foldl_cons]
  have hm:a≤iMax a (v x)∧v x≤iMax a (v x)∧(iMax a (v x)=a ∨ iMax a (v x)=v x):=by unfold iMax; split <;> omega
  refine ⟨by omega,fun y hy=>?_,?_⟩
  · rcases List.mem_cons.1 hy with rfl | hy
    · omega
    · exact h2 y hy
  · rcases h3 with h3 | ⟨y,hy,h3⟩
    · rcases hm.2.2 with h4 | h4
      · exact .inl (by omega)
      · exact .inr ⟨x,by simp,by omega⟩
    · exact .inr ⟨y,by simp [hy],h3⟩
theorem Wn {b:List Int}:∀ (S:Nat),0≤Ya b S∧Ya b S≤(S:Int):=by
 intro S
 induction S using Nat.strongRecOn with
 | ind S ih =>
  by_cases h0:S=0
  · subst h0; rw [qE]; omega
  · rw [yC h0]
    obtain ⟨h1,h2,h3⟩:=yE (v:=fun x=>1+Ya b (without S x)) (l:=Xa b S) (a:=0)
    refine ⟨h1,?_⟩
    rcases h3 with h3 | ⟨x,hx,h3⟩
    · rw [h3]; omega
    · have hp:=XU hx
      have hs:=Xw hp.1
      have:=ih (without S x) (by omega)
      rw [h3]; omega
/-- What is known behind a call. -/
def mapF (b:List Int):Nat→Nat→List (Int × Int)→List (Int × Int)
 | 0,_,m=>m
 | f+1,S,m=>if S=0 then m else if YG m (S:Int)=true then m else (Xa b S).foldl (fun m x=>mapF b f (without S x) m) m++[((S:Int),Ya b S)]
def QT (b:List Int) (f S:Nat) (m:List (Int × Int)):Int × List (Int × Int):=(Ya b S,mapF b f S m)
def KInv (b:List Int) (m:List (Int × Int)):Prop:=∀ e ∈ m,∃ S:Nat,e.1=(S:Int)∧e.2=Ya b S
theorem knHas_app {l:List (Int × Int)} {e:Int × Int} {k:Int}:YG (l++[e]) k=(YG l k || k == e.1):=by
 unfold YG; rw [List.any_append]; simp
theorem Ki {b:List Int}:∀ {f S:Nat} {m:List (Int × Int)},S<f→KInv b m→KInv b (mapF b f S m)∧∀ k,YG (mapF b f S m) k=true→YG m k=true ∨ k≤(S:Int)
 | 0,S,m,h,_=>by omega
 | f+1,S,m,h,hm=>by
  rw [mapF]
  split
  · exact ⟨hm,fun k hk=>.inl hk⟩
  split
  · exact ⟨hm,fun k hk=>.inl hk⟩
  have fold:∀ (l:List Nat) (m':List (Int × Int)),(∀ x ∈ l,x ∈ Xa b S)→KInv b m'→(∀ k,YG m' k=true→YG m k=true ∨ k≤(S:Int)) →
   KInv b (l.foldl (fun m x=>mapF b f (without S x) m) m')∧∀ k,YG (l.foldl (fun m x=>mapF b f (without S x) m) m') k=true→YG m k=true ∨ k≤(S:Int):=by
   intro l
   induction l with
   | nil=>intro m' _ h1 h2; exact ⟨h1,h2⟩
   | cons x l ih =>
    intro m' hl h1 h2
    have hp:=XU (hl x (by simp))
    have hs:=Xw hp.1
    obtain ⟨q1,q2⟩:=Ki (f:=f) (S:=without S x) (m:=m') (by omega) h1
    rw [List.foldl_cons]
    refine ih _ (fun y hy=>hl y (by simp [hy])) q1 fun k hk=>?_
    rcases q2 k hk with h3 | h3
    · exact h2 k h3
    · right; omega
  obtain ⟨q1,q2⟩:=fold (Xa b S) m (fun _ h=>h) hm fun k hk=>.inl hk
  refine ⟨fun e he=>?_,fun k hk=>?_⟩
  · rcases List.mem_append.1 he with he | he
    · exact q1 e he
    · rw [List.mem_singleton] at he; subst he; exact ⟨S,rfl,rfl⟩
  · rw [knHas_app,Bool.or_eq_true] at hk
    rcases hk with hk | hk
    · exact q2 k hk
    · right; have:=eq_of_beq hk; simp only at this; omega
theorem mapF_fold {b:List Int} {f S:Nat} {m:List (Int × Int)} (h:S<f+1) (hm:KInv b m) (hn:YG m (S:Int)=false):∀ (l:List Nat),(∀ x ∈ l,x ∈ Xa b S) →
 KInv b (l.foldl (fun m x=>mapF b f (without S x) m) m)∧YG (l.foldl (fun m x=>mapF b f (without S x) m) m) (S:Int)=false:=by
 have fold:∀ (l:List Nat) (m':List (Int × Int)),(∀ x ∈ l,x ∈ Xa b S)→KInv b m'→YG m' (S:Int)=false →
  KInv b (l.foldl (fun m x=>mapF b f (without S x) m) m')∧YG (l.foldl (fun m x=>mapF b f (without S x) m) m') (S:Int)=false:=by
  intro l
  induction l with
  | nil=>intro m' _ h1 h2; exact ⟨h1,h2⟩
  | cons x l ih =>
   intro m' hl h1 h2
   have hp:=XU (hl x (by simp))
   have hs:=Xw hp.1
   obtain ⟨q1,q2⟩:=Ki (f:=f) (S:=without S x) (m:=m') (by omega) h1
   rw [List.foldl_cons]
   refine ih _ (fun y hy=>hl y (by simp [hy])) q1 ?_
   cases hk:YG (mapF b f (without S x) m') (S:Int) with
   | false=>rfl
   | true =>
    rcases q2 _ hk with h3 | h3
    · rw [h2] at h3; cases h3
    · omega
 intro l hl
 exact fold l m hl hm hn
theorem Wi {b:List Int} {S x:Nat} (h:VE b (S:Int)):VE b ((without S x:Nat):Int):=by
 obtain ⟨S',h1,h2,h3,h4⟩:=h
 have:S=S':=by omega
 subst this
 exact ⟨_,rfl,Qae h2,h3,h4⟩
theorem part_in {b:List Int} {S x:Nat} (h:VE b (S:Int)) (hx:x ∈ Xa b S):VE b (x:Int):=by
 obtain ⟨S',h1,h2,h3,h4⟩:=h
 have:S=S':=by omega
 subst this
 have hp:=XU hx
 have:=Xw hp.1
 exact ⟨_,rfl,by omega,h3,h4⟩
theorem Qcf {α β γ:Type} {f:α→γ→α} {g:β→γ→β}:∀ {l:List γ} {a:α} {b:β},(l.foldl (fun s x=>(f s.1 x,g s.2 x)) (a,b)).1=l.foldl f a
 | [],_,_=>rfl
 | x :: l,a,b=>by rw [List.foldl_cons,List.foldl_cons]; exact Qcf
theorem fold_snd {α β γ:Type} {f:α→γ→α} {g:β→γ→β}:∀ {l:List γ} {a:α} {b:β},(l.foldl (fun s x=>(f s.1 x,g s.2 x)) (a,b)).2=l.foldl g b
 | [],_,_=>rfl
 | x :: l,a,b=>by rw [List.foldl_cons,List.foldl_cons]; exact fold_snd
/-- The call of 'many' gives what is said. -/
def Vo (b:List Int) (f:Nat) (st:Int) (m:List (Int × Int)):Prop :=
 Lent Try.prog 228 [.pm [.rsl (rowI b) 0 b.length] 0 0 0,.int .i64 st] [⟨true,0,0,true,QJ m,false⟩] (.int .i64 (QT b f (Int.toNat st) m).1) [⟨true,0,0,true,QJ (QT b f (Int.toNat st) m).2,false⟩]
theorem Vo.lent {b:List Int} {f:Nat} {st:Int} {m:List (Int × Int)} (h:Vo b f st m) :
 Lent Try.prog 228 [.pm [.rsl (rowI b) 0 b.length] 0 0 0,.int .i64 st] [⟨true,0,0,true,QJ m,false⟩] (.int .i64 (QT b f (Int.toNat st) m).1) [⟨true,0,0,true,QJ (QT b f (Int.toNat st) m).2,false⟩]:=h
theorem f228b:Try.f228.body=some (Qd Try.prog 228):=by kernel_rfl
def VK (P:Program):List Item:=kAt 400 [.code (Qd P 228)] [.b false,.b false]
def YW (set:Int) (b:List Int) (m:List (Int × Int)) (f:Nat) (s:List (Int × Int) × Int):St:=⟨([J,J,.ptr 1 0 0,.ptr 2 0 0,J,J,J,.ptr 3 0 0]++jj 16 ([.clos 266 [] [.rptr [.int .i64 set] 0,.rptr [.rptr [.rsl (rowI b) 0 b.length] 0] 0]]++Js 16)),[⟨true,0,0,true,(QJ s.1),false⟩,⟨true,0,1,false,[.pm [.rsl (rowI b) 0 b.length] 0 0 0],false⟩,⟨true,0,1,true,[.int .i64 set],false⟩,⟨true,0,1,true,[.int .i64 s.2],false⟩]⟩
def f228Gr0 (E:Env) (set:Int) (b:List Int) (m:List (Int × Int)) (f:Nat) (s:List (Int × Int) × Int):Prop:=G Try.prog E (VK Try.prog) (YW set b m f s)
def Qcl (set:Int) (b:List Int) (m:List (Int × Int)) (f:Nat) (s:List (Int × Int) × Int) (x:Nat):St:=⟨([J,J,.ptr 1 0 0,.ptr 2 0 0,J,J,J,.ptr 3 0 0,.int .i64 (x:Int)]++jj 15 ([.clos 266 [] [.rptr [.int .i64 set] 0,.rptr [.rptr [.rsl (rowI b) 0 b.length] 0] 0],.int .i64 (x:Int)]++Js 15)),[⟨true,0,0,true,(QJ s.1),false⟩,⟨true,0,1,false,[.pm [.rsl (rowI b) 0 b.length] 0 0 0],false⟩,⟨true,0,1,true,[.int .i64 set],false⟩,⟨true,0,1,true,[.int .i64 s.2],false⟩]⟩
theorem p228_start_0 (set:Int) (b:List Int) (m:List (Int × Int)) (f:Nat) {E:Env} {res:AV} {bs2:List Blk} (hE:LentE Try.prog 228 [.pm [.rsl (rowI b) 0 b.length] 0 0 0] res bs2 E) (ho:AllP [(set == 0)=true])
 (hr:(.int .i64 0)=res) (hb:[⟨true,0,0,true,(QJ m),false⟩]=bs2):G Try.prog E [.code (Qd Try.prog 228)] ⟨[.pm [.rsl (rowI b) 0 b.length] 0 0 0,.int .i64 set]++unds (Try.f228.ntmps - 2),[⟨true,0,0,true,(QJ m),false⟩]⟩ :=
 QV (n:=400) (live:=[4]) (m:=1) (evs:=[.b true]) (obs:=_) hE (by rw [hE.gA]; kernel_rfl) Try.func228 Qo (by kernel_rfl) ho hr hb
theorem p228_start_1 (set:Int) (b:List Int) (m:List (Int × Int)) (f:Nat) (mi:Nat) (me:(Int × Int)) {E:Env} {res:AV} {bs2:List Blk} (hE:LentE Try.prog 228 [.pm [.rsl (rowI b) 0 b.length] 0 0 0] res bs2 E) (ho:AllP [(set == 0)=false,KeyAt Try.prog 3 (.int .i64 set) (QJ m) mi (.int .i64 me.2),true=true])
 (hr:(.int .i64 me.2)=res) (hb:[⟨true,0,0,true,(QJ m),false⟩]=bs2):G Try.prog E [.code (Qd Try.prog 228)] ⟨[.pm [.rsl (rowI b) 0 b.length] 0 0 0,.int .i64 set]++unds (Try.f228.ntmps - 2),[⟨true,0,0,true,(QJ m),false⟩]⟩ :=
 QV (n:=400) (live:=[4]) (m:=1) (evs:=[.b false,.mfound mi (.int .i64 me.2),.b true]) (obs:=_) hE (by rw [hE.gA]; kernel_rfl) Try.func228 Qo (by kernel_rfl) ho hr hb
theorem p228_start_2 (set:Int) (b:List Int) (m:List (Int × Int)) (f:Nat) {E:Env} {rv:AV} {bs2:List Blk} (hE:LentE Try.prog 228 [.pm [.rsl (rowI b) 0 b.length] 0 0 0] rv bs2 E) (ho:AllP [(set == 0)=false,qn Try.prog 3 (.int .i64 set) (QJ m),false=false,1≤1,Qe Try.prog (.clos 227 [] []) [.rptr [.rsl (rowI b) 0 b.length] 0,.int .i64 set] (.clos 266 [] [.rptr [.int .i64 set] 0,.rptr [.rptr [.rsl (rowI b) 0 b.length] 0] 0])])
 (hg:G Try.prog E (VK Try.prog) ⟨([J,J,.ptr 1 0 0,.ptr 2 0 0,J,J,J,.ptr 3 0 0]++jj 16 ([.clos 266 [] [.rptr [.int .i64 set] 0,.rptr [.rptr [.rsl (rowI b) 0 b.length] 0] 0]]++Js 16)),[⟨true,0,0,true,(QJ m),false⟩,⟨true,0,1,false,[.pm [.rsl (rowI b) 0 b.length] 0 0 0],false⟩,⟨true,0,1,true,[.int .i64 set],false⟩,⟨true,0,1,true,[.int .i64 0],false⟩]⟩):G Try.prog E [.code (Qd Try.prog 228)] ⟨[.pm [.rsl (rowI b) 0 b.length] 0 0 0,.int .i64 set]++unds (Try.f228.ntmps - 2),[⟨true,0,0,true,(QJ m),false⟩]⟩ :=
 Ql (n:=400) (ds:=[]) (cs:=[]) (live:=[2,3,7,24]) (m:=4) (evs:=[.b false,.mnone,.b false,.v (.clos 266 [] [.rptr [.int .i64 set] 0,.rptr [.rptr [.rsl (rowI b) 0 b.length] 0] 0])]) (obs:=_) hE.kind (by rw [hE.gA]; kernel_rfl) Qo (by kernel_rfl) ho hg
theorem f228W (set:Int) (b:List Int) (m:List (Int × Int)) (f:Nat) {E:Env} {rv:Int} {m2:List (Int × Int)} (hE:LentE Try.prog 228 [.pm [.rsl (rowI b) 0 b.length] 0 0 0] (.int .i64 rv) [⟨true,0,0,true,(QJ m2),false⟩] E)
 (h:((set=0→rv=0∧m2=m)∧(¬ (set=0)→(((YG m set)=true→(∃ mi:Nat,True∧(∃ me:(Int × Int),KnAt m set mi me∧rv=me.2∧m2=m)))∧((YG m set)=false→f228Gr0 E set b m f (m,0)))))):G Try.prog E [.code (Qd Try.prog 228)] ⟨[.pm [.rsl (rowI b) 0 b.length] 0 0 0,.int .i64 set]++unds (Try.f228.ntmps - 2),[⟨true,0,0,true,(QJ m),false⟩]⟩:=by
 rcases bft (set == 0) with hc0 | hc0
 · have h:=h.1 (eq_of_beq hc0)
   obtain ⟨qe0,qe1⟩:=h
   exact p228_start_0 set b m f hE ⟨hc0,trivial⟩ (by rw [qe0]; try rfl) (by rw [qe1]; all_goals (first | rfl | (simp only [List.length_set]; done) | (simp only [List.length_set]; rfl) | (simp only [List.length_set,List.length_replicate]; done)))
 · have h:=h.2 (ne_of_beq_false hc0)
   rcases bft (YG m set) with hc1 | hc1
   · have h:=h.1 hc1
     obtain ⟨mi,h1,h⟩:=h
     obtain ⟨me,h2,h⟩:=h
     obtain ⟨qe0,qe1⟩:=h
     exact p228_start_1 set b m f mi me hE ⟨hc0,(knAt h2),rfl,trivial⟩ (by rw [qe0]; try rfl) (by rw [qe1]; all_goals (first | rfl | (simp only [List.length_set]; done) | (simp only [List.length_set]; rfl) | (simp only [List.length_set,List.length_replicate]; done)))
   · have h:=h.2 hc1
     exact p228_start_2 set b m f hE ⟨hc0,(knNew hc1),rfl,(by decide),(u227 (parts_ok b set)),trivial⟩ h
theorem p228_r0e_0 (set:Int) (b:List Int) (m:List (Int × Int)) (f:Nat) (s:List (Int × Int) × Int) {E:Env} {res:AV} {bs2:List Blk} (hE:LentE Try.prog 228 [.pm [.rsl (rowI b) 0 b.length] 0 0 0] res bs2 E) (ho:AllP [qn Try.prog 3 (.int .i64 set) (QJ s.1)])
 (hr:(.int .i64 s.2)=res) (hb:[⟨true,0,0,true,((QJ s.1)++[.clos 0 [.int .i64 set] [.int .i64 s.2]]),false⟩]=bs2):G Try.prog E (WB (VK Try.prog)) (YW set b m f s) :=
 QV (n:=400) (live:=[4]) (m:=1) (evs:=[]) (obs:=_) hE (by rw [hE.gA]; kernel_rfl) Try.func228 Qo (by kernel_rfl) ho hr hb
theorem f228Wr0e (set:Int) (b:List Int) (m:List (Int × Int)) (f:Nat) (s:List (Int × Int) × Int) {E:Env} {rv:Int} {m2:List (Int × Int)} (hE:LentE Try.prog 228 [.pm [.rsl (rowI b) 0 b.length] 0 0 0] (.int .i64 rv) [⟨true,0,0,true,(QJ m2),false⟩] E)
 (h:((YG s.1 set)=false∧rv=s.2∧m2=(s.1++[(set,s.2)]))):G Try.prog E (WB (VK Try.prog)) (YW set b m f s):=by
 obtain ⟨h1,h⟩:=h
 obtain ⟨qe0,qe1⟩:=h
 exact p228_r0e_0 set b m f s hE ⟨(knNew h1),trivial⟩ (by rw [qe0]; try rfl) (by rw [qe1]; rw [(show QJ s.1++[.clos 0 [.int .i64 set] [.int .i64 s.2]]=QJ (s.1++[(set,s.2)]) from (qw cKnE s.1 [(set,s.2)]).symm)]; all_goals (first | rfl | (simp only [List.length_set]; done) | (simp only [List.length_set]; rfl) | (simp only [List.length_set,List.length_replicate]; done)))
theorem f228Ar0 (set:Int) (b:List Int) (m:List (Int × Int)) (f:Nat) (s:List (Int × Int) × Int) (x:Nat) {E:Env} (hE:RoundE ((YW set b m f s).tmps++[.pm [.rsl (rowI b) 0 b.length] 0 0 0]) E) (hg:G Try.prog E [.beginRound,.code (YZ (VK Try.prog))] (Qcl set b m f s x)):G Try.prog E [.code (yA (VK Try.prog)),.beginRound,.code (YZ (VK Try.prog))] ⟨yl (YW set b m f s).tmps [25] (argS x),(YW set b m f s).blks⟩ :=
 Ql (n:=400) (ds:=[]) (cs:=[]) (live:=[0,1,2,3,4,5,6,7,8,9,10,11,12,13,14,15,16,17,18,19,20,21,22,23,24,25,26,27,28,29,30,31,32,33,34,35,36,37,38,39,40]) (m:=4) (evs:=[]) (obs:=[]) hE.kind (by rw [hE.gA]; kernel_rfl) Qo (by kernel_rfl) trivial hg
theorem f228Br0_0 (set:Int) (b:List Int) (m:List (Int × Int)) (f:Nat) (s:List (Int × Int) × Int) (x:Nat) {E:Env} (hE:RoundE ((YW set b m f s).tmps++[.pm [.rsl (rowI b) 0 b.length] 0 0 0]) E) (ho:AllP [PureU Try.prog (.clos 228 [] []) [.pm [.rsl (rowI b) 0 b.length] 0 0 0,.int .i64 (bits .andNot .i64 set (x:Int))] 0 ⟨true,0,0,true,(QJ s.1),false⟩ ⟨true,0,0,true,(QJ (QT b f (Int.toNat (bits .andNot .i64 set (x:Int))) s.1).2),false⟩ (.int .i64 ((QT b f (Int.toNat (bits .andNot .i64 set (x:Int))) s.1).1)),InR .i64 (1+(QT b f (Int.toNat (bits .andNot .i64 set (x:Int))) s.1).1),1≤1])
 (hg:G Try.prog E [] ⟨(Js 41),[⟨true,0,0,true,(QJ (QT b f (Int.toNat (bits .andNot .i64 set (x:Int))) s.1).2),false⟩,⟨true,0,1,false,[.pm [.rsl (rowI b) 0 b.length] 0 0 0],false⟩,⟨true,0,1,true,[.int .i64 set],false⟩,⟨true,0,1,true,[.int .i64 (iMax s.2 (1+(QT b f (Int.toNat (bits .andNot .i64 set (x:Int))) s.1).1))],false⟩]⟩):G Try.prog E [.code (YZ (VK Try.prog))] (Qcl set b m f s x) :=
 Ql (n:=400) (ds:=[]) (cs:=[]) (live:=[]) (m:=4) (evs:=[.lent [0] (.int .i64 ((QT b f (Int.toNat (bits .andNot .i64 set (x:Int))) s.1).1)) [⟨true,0,0,true,(QJ (QT b f (Int.toNat (bits .andNot .i64 set (x:Int))) s.1).2),false⟩]]) (obs:=_) hE.kind (by rw [hE.gA]; kernel_rfl) Qo (by kernel_rfl) ho hg
theorem f228Br0 (set:Int) (b:List Int) (m:List (Int × Int)) (f:Nat) (s:List (Int × Int) × Int) (x:Nat) {rq:(List (Int × Int) × Int) × Bool} {E:Env} (hE:RoundE ((YW set b m f s).tmps++[.pm [.rsl (rowI b) 0 b.length] 0 0 0]) E) (hQ:QaK (fun s=>(YW set b m f s).blks) (.ret) rq E)
 (h:((Vo b f (bits .andNot .i64 set (x:Int)) s.1)∧((I6 (1+(QT b f (Int.toNat (bits .andNot .i64 set (x:Int))) s.1).1))∧rq=(((QT b f (Int.toNat (bits .andNot .i64 set (x:Int))) s.1).2,(iMax s.2 (1+(QT b f (Int.toNat (bits .andNot .i64 set (x:Int))) s.1).1))),true)))):G Try.prog E [.code (YZ (VK Try.prog))] (Qcl set b m f s x):=by
 obtain ⟨h1,h⟩:=h
 obtain ⟨q1_0,h⟩:=h
 exact f228Br0_0 set b m f s x hE ⟨(Yu (Qw Try.func228 (by kernel_rfl) f228b (Vo.lent h1)) rfl rfl rfl rfl rfl rfl),q1_0,(by decide),trivial⟩ (round_go hQ h rfl)
theorem f228Rr0 (set:Int) (b:List Int) (m:List (Int × Int)) (f:Nat) (s0:List (Int × Int) × Int) {E:Env} {rv:Int} {m2:List (Int × Int)} (hE:LentE Try.prog 228 [.pm [.rsl (rowI b) 0 b.length] 0 0 0] (.int .i64 rv) [⟨true,0,0,true,(QJ m2),false⟩] E) (step:(List (Int × Int) × Int)→(Nat)→(List (Int × Int) × Int))
 (h:VE b set∧(∀ (i:Nat) (x:Nat) (s:List (Int × Int) × Int),(Xa b (Int.toNat set))[i]?=some x→s=((Xa b (Int.toNat set)).take i).foldl step s0→((Vo b f (bits .andNot .i64 set (x:Int)) s.1)∧((I6 (1+(QT b f (Int.toNat (bits .andNot .i64 set (x:Int))) s.1).1))∧step s x=((QT b f (Int.toNat (bits .andNot .i64 set (x:Int))) s.1).2,(iMax s.2 (1+(QT b f (Int.toNat (bits .andNot .i64 set (x:Int))) s.1).1))))))∧(∀ s:List (Int × Int) × Int,s=(Xa b (Int.toNat set)).foldl step s0→((YG s.1 set)=false∧rv=s.2∧m2=(s.1++[(set,s.2)])))):f228Gr0 E set b m f s0:=by
 have hT:(YW set b m f s0).tmps++E.gA=(YW set b m f s0).tmps++[.pm [.rsl (rowI b) 0 b.length] 0 0 0]:=by rw [hE.gA]
 refine Qak (σ:=List (Int × Int) × Int) (X:=Nat) (arg:=argS) (L:=(Xa b (Int.toNat set))) (jump:=.ret) (g:=.tmp 24) (ps:=#[25]) (fun s=>(YW set b m f s).blks) (fun s x=>(Qcl set b m f s x)) (fun s x=>(step s x,true)) s0 hE.ro hE.kind (by kernel_rfl) rfl rfl (parts_it b set h.1) rfl (fun x=>rfl) (fun s x E' hR hg=>?_) (fun i x s hx hs E' hR hQ=>?_) (fun s hs=>?_) (fun s hs=>?_)
 · rw [hT] at hR; exact f228Ar0 set b m f s x hR hg
 · rw [hT] at hR; rw [VJ] at hs; simp only [Prod.mk.injEq,and_true] at hs; refine f228Br0 set b m f s x hR hQ ?_
   have h:=h.2.1 i x s hx hs.symm
   simpa only [Prod.mk.injEq,and_true] using h
 · rw [VJ] at hs; simp only [Prod.mk.injEq,and_true] at hs; exact f228Wr0e set b m f s hE (h.2.2 s hs.symm)
 · rw [VJ] at hs; simp at hs
theorem many_ok (b:List Int):∀ (f:Nat) (S:Nat) (m:List (Int × Int)),S<f→VE b (S:Int)→KInv b m→Vo b f (S:Int) m
 | 0,S,m,h,_,_=>by omega
 | f+1,S,m,h,hin,hm=>by
  unfold Vo
  rw [Int.toNat_natCast]
  refine lent_ofA (.pm [.rsl (rowI b) 0 b.length] 0 0 0) 0 rfl (fun n h=>by simp [refsBelows,Xd] at h; exact h) Try.func228 f228b fun E hE=>?_
  refine f228W (S:Int) b m f (rv:=(QT b (f+1) S m).1) (m2:=(QT b (f+1) S m).2) hE ⟨fun h0=>?_,fun h0=>⟨fun hk=>?_,fun hk=>?_⟩⟩
  · have:S=0:=by omega
    subst this
    exact ⟨rfl,rfl⟩
  · obtain ⟨i,e,he⟩:=knFind hk
    refine ⟨i,trivial,e,he,?_,?_⟩
    · obtain ⟨S',h1,h2⟩:=hm e (List.mem_of_getElem? he.1)
      have:S=S':=by have:=he.2.1; omega
      subst this
      exact h2.symm
    · show mapF b (f+1) S m=m
      rw [mapF,if_neg (by omega),if_pos hk]
  · have hS0:S ≠ 0:=by omega
    have hmb:=Wn (b:=b)
    have ean:∀ x:Nat,x<1024→bits .andNot .i64 (S:Int) (x:Int)=((without S x:Nat):Int):=fun x hx=>by
     obtain ⟨S',h1,h2,h3,h4⟩:=hin
     have:=Wz h3 h2
     exact QaJ (by omega) (by omega)
    refine f228Rr0 (S:Int) b m f (m,0) (rv:=(QT b (f+1) S m).1) (m2:=(QT b (f+1) S m).2) hE (fun s x=>(mapF b f (without S x) s.1,iMax s.2 (1+Ya b (without S x)))) ⟨hin,fun i x s hx hs=>?_,fun s hs=>?_⟩
    · rw [Int.toNat_natCast] at hx hs
      have hxm:=List.mem_of_getElem? hx
      have hp:=XU hxm
      have hw:=Xw hp.1
      obtain ⟨x',h1,h2,h3,h4⟩:=part_in hin hxm
      have hx':=Wz h3 h2
      have e1:s.1=((Xa b S).take i).foldl (fun m x=>mapF b f (without S x) m) m:=by
       rw [hs]; exact Qcf (f:=fun m x=>mapF b f (without S x) m) (g:=fun a x=>iMax a (1+Ya b (without S x)))
      obtain ⟨q1,q2⟩:=mapF_fold (f:=f) h hm hk ((Xa b S).take i) (fun y hy=>List.mem_of_mem_take hy)
      rw [← e1] at q1
      rw [ean x (by omega),Int.toNat_natCast]
      have hb:=hmb (without S x)
      obtain ⟨S',g1,g2,g3,g4⟩:=hin
      have gS:=Wz g3 g2
      exact ⟨many_ok b f (without S x) s.1 (by omega) (Wi ⟨S',g1,g2,g3,g4⟩) q1,by show _≤1+Ya b (without S x)∧1+Ya b (without S x)≤_; omega,rfl⟩
    · rw [Int.toNat_natCast] at hs
      have e1:s.1=(Xa b S).foldl (fun m x=>mapF b f (without S x) m) m:=by
       rw [hs]; exact Qcf (f:=fun m x=>mapF b f (without S x) m) (g:=fun a x=>iMax a (1+Ya b (without S x)))
      have e2:s.2=Ya b S:=by
       rw [yC hS0,hs]; exact fold_snd (f:=fun m x=>mapF b f (without S x) m) (g:=fun a x=>iMax a (1+Ya b (without S x)))
      obtain ⟨q1,q2⟩:=mapF_fold (f:=f) h hm hk (Xa b S) (fun _ hy=>hy)
      rw [← e1] at q1 q2
      refine ⟨q2,e2.symm,?_⟩
      show mapF b (f+1) S m=_
      rw [mapF,if_neg hS0,if_neg (by rw [hk]; simp),e1,e2]
end Go.Proofs.Ytemklbioijmjiaa
namespace Go.Proofs.Ytemklbioijmjiaa
open Go Ax
open Go.Proofs
/-- Whether a part may be the first one. -/
def WN (b:List Int) (S x:Nat):Bool:=Ya b S == 1+Ya b (without S x)
def pickS (b:List Int) (S:Nat):Option Nat:=(Xa b S).find? (WN b S)
/-- The payments that settle a set. -/
def XC (b:List Int):Nat→Nat→List Pay
 | 0,_=>[]
 | n+1,S=>if S=0 then [] else match pickS b S with
  | some x=>Xq b x++XC b n (without S x)
  | none=>[]
def mapW (b:List Int) (f S:Nat):List (Int × Int)→List Nat→List (Int × Int)
 | m,[]=>m
 | m,x :: l=>if WN b S x=true then mapF b f (without S x) (mapF b f S m) else mapW b f S (mapF b f (without S x) (mapF b f S m)) l
def YU (b:List Int) (f:Nat):Nat→Nat→List (Int × Int)→List (Int × Int)
 | 0,_,m=>m
 | n+1,S,m=>if S=0 then m else match pickS b S with
  | some x=>YU b f n (without S x) (mapW b f S m (Xa b S))
  | none=>m
abbrev StS:=List (Int × Int) × Int × List Pay × Nat
def stStep (b:List Int) (f S:Nat) (s:StS) (x:Nat):StS × Bool :=
 if WN b S x=true then ((mapF b f (without S x) (mapF b f S s.1),((without S x:Nat):Int),s.2.2.1++Xq b x,s.2.2.2+1),false)
 else ((mapF b f (without S x) (mapF b f S s.1),s.2.1,s.2.2.1,s.2.2.2),true)
def stRes (b:List Int) (f S:Nat) (m:List (Int × Int)) (o:List Pay) (g:Nat) (l:List Nat):Option Nat→StS × Bool
 | some x=>((mapW b f S m l,((without S x:Nat):Int),o++Xq b x,g+1),false)
 | none=>((mapW b f S m l,(S:Int),o,g),true)
theorem st_fold {b:List Int} {f S:Nat} {o:List Pay} {g:Nat} {l:List Nat}:∀ {m:List (Int × Int)},QM (stStep b f S) (m,(S:Int),o,g) l=stRes b f S m o g l (l.find? (WN b S)):=by
 induction l with
 | nil=>intro m; rfl
 | cons x l ih =>
  intro m
  rw [QM,stStep,List.find?_cons]
  cases hg:WN b S x with
  | true =>
   rw [if_pos rfl]
   simp only [stRes]
   rw [mapW,if_pos hg]; rfl
  | false =>
   rw [if_neg (by simp)]
   have:=ih (m:=mapF b f (without S x) (mapF b f S m))
   simp only [cond_true]
   rw [this]
   cases l.find? (WN b S) <;> simp only [stRes] <;> rw [mapW,if_neg (by rw [hg]; simp)]
theorem mapW_ok {b:List Int} {f S:Nat} (h:S<f):∀ {l:List Nat} {m:List (Int × Int)},(∀ x ∈ l,x ∈ Xa b S)→KInv b m→KInv b (mapW b f S m l)
 | [],m,_,hm=>hm
 | x :: l,m,hl,hm=>by
  have hp:=XU (hl x (by simp))
  have hs:=Xw hp.1
  have h1:=(Ki (f:=f) h hm).1
  have h2:=(Ki (f:=f) (S:=without S x) (by omega) h1).1
  rw [mapW]
  split
  · exact h2
  · exact mapW_ok h (fun y hy=>hl y (by simp [hy])) h2
theorem lowP_self {S:Nat} (h0:S ≠ 0) (h:S<1024):lowP S S=true:=by
 obtain ⟨i,h1,h2,h3,h4⟩:=low_of h0 h
 rw [lowP_iff h h h1 h4]; exact h2
/-- A set that is together 0 has a part to begin with. -/
theorem yV {b:List Int} {S:Nat} (h:VE b (S:Int)) (h0:S ≠ 0) (ht:totN b S=0):∃ x,pickS b S=some x∧x ∈ Xa b S∧Ya b S=1+Ya b (without S x):=by
 obtain ⟨S',h1,h2,h3,h4⟩:=h
 have:S=S':=by omega
 subst this
 have hS:=Wz h3 h2
 have hself:S ∈ Xa b S:=Kf (Nat.and_self S) (by omega) (lowP_self h0 hS) ht
 have he:=yC (b:=b) h0
 obtain ⟨m1,m2,m3⟩:=yE (v:=fun x=>1+Ya b (without S x)) (l:=Xa b S) (a:=0)
 rw [← he] at m1 m2 m3
 have m4:=m2 S hself
 have hb:=(Wn (b:=b) (without S S)).1
 have hex:∃ y ∈ Xa b S,WN b S y=true:=by
  rcases m3 with m3 | ⟨y,hy,m3⟩
  · omega
  · exact ⟨y,hy,by unfold WN; simpa using m3⟩
 cases hp:pickS b S with
 | none =>
  obtain ⟨y,hy,hg⟩:=hex
  unfold pickS at hp
  rw [List.find?_eq_none] at hp
  exact absurd hg (hp y hy)
 | some x =>
  unfold pickS at hp
  have hg:=List.find?_some hp
  exact ⟨x,rfl,List.mem_of_find?_eq_some hp,by unfold WN at hg; simpa using hg⟩
theorem qU {b:List Int} {S x:Nat} (h:x &&& S=x):∀ i,totP b (without S x) i+totP b x i=totP b S i
 | 0=>rfl
 | i+1=>by
  have ih:=qU (b:=b) h i
  have hb:(x.testBit i && S.testBit i)=x.testBit i:=by rw [← Nat.testBit_and,h]
  rw [totP,totP,totP,Yb]
  cases hx:x.testBit i <;> cases hs:S.testBit i <;> simp_all <;> omega
theorem WG {b:List Int} {S x:Nat} (h:x &&& S=x) (hS:totN b S=0) (hx:totN b x=0):totN b (without S x)=0:=by
 have:=qU (b:=b) h b.length
 unfold totN at *
 omega
theorem f175b:Try.f175.body=some (Qd Try.prog 175):=by kernel_rfl
def YH (P:Program):List Item:=kAt 400 [.code (Qd P 175)] [.b true]
def Yp (set:Int) (b:List Int) (m:List (Int × Int)) (f:Nat) (v:Int) (s:List (Int × Int) × Int × List Pay × Nat):St:=⟨([J,J,.ptr 1 0 0,.ptr 2 0 0,.ptr 3 0 0]++jj 5 ([.clos 266 [] [.rptr [.int .i64 v] 0,.rptr [.rptr [.rsl (rowI b) 0 b.length] 0] 0]]++Js 20)),[⟨true,0,0,true,(QJ s.1),false⟩,⟨true,0,1,false,[.pm [.rsl (rowI b) 0 b.length] 0 0 0],false⟩,⟨true,0,1,true,[.int .i64 s.2.1],false⟩,⟨true,0,1,false,[.sl 4 s.2.2.2 0 s.2.2.1.length 3],false⟩,⟨true,s.2.2.2,3,true,(QE s.2.2.1),true⟩]⟩
def f175Gr0 (E:Env) (set:Int) (b:List Int) (m:List (Int × Int)) (f:Nat) (v:Int) (s:List (Int × Int) × Int × List Pay × Nat):Prop:=G Try.prog E (YH Try.prog) (Yp set b m f v s)
def KB (set:Int) (b:List Int) (m:List (Int × Int)) (f:Nat) (v:Int) (s:List (Int × Int) × Int × List Pay × Nat) (x:Nat):St:=⟨([J,J,.ptr 1 0 0,.ptr 2 0 0,.ptr 3 0 0,.int .i64 (x:Int),J,J,J,J,.clos 266 [] [.rptr [.int .i64 v] 0,.rptr [.rptr [.rsl (rowI b) 0 b.length] 0] 0],.int .i64 (x:Int)]++Js 19),[⟨true,0,0,true,(QJ s.1),false⟩,⟨true,0,1,false,[.pm [.rsl (rowI b) 0 b.length] 0 0 0],false⟩,⟨true,0,1,true,[.int .i64 s.2.1],false⟩,⟨true,0,1,false,[.sl 4 s.2.2.2 0 s.2.2.1.length 3],false⟩,⟨true,s.2.2.2,3,true,(QE s.2.2.1),true⟩]⟩
def QaC (P:Program):List Item:=kAt 400 [.code (Qd P 175)] [.stop]
def f175S0 (set:Int) (b:List Int) (m:List (Int × Int)) (f:Nat) (v0:List (Int × Int)) (v2_0:Int) (v4:List Pay) (g4:Nat):St:=⟨([J,J,.ptr 1 0 0,.ptr 2 0 0,.ptr 3 0 0]++Js 26),[⟨true,0,0,true,(QJ v0),false⟩,⟨true,0,1,false,[.pm [.rsl (rowI b) 0 b.length] 0 0 0],false⟩,⟨true,0,1,true,[.int .i64 v2_0],false⟩,⟨true,0,1,false,[.sl 4 g4 0 v4.length 3],false⟩,⟨true,g4,3,true,(QE v4),true⟩]⟩
def KC (E:Env) (set:Int) (b:List Int) (m:List (Int × Int)) (f:Nat) (v0:List (Int × Int)) (v2_0:Int) (v4:List Pay):Prop:=∀ g4:Nat,G Try.prog E (QaC Try.prog) (f175S0 set b m f v0 v2_0 v4 g4)
abbrev z175_1 (s:List (Int × Int) × Int × List Pay × Nat) (b:List Int):List Blk:=[⟨true,0,0,true,(QJ s.1),false⟩,⟨true,0,1,false,[.pm [.rsl (rowI b) 0 b.length] 0 0 0],false⟩,⟨true,0,1,true,[.int .i64 s.2.1],false⟩,⟨true,0,1,false,[.sl 4 s.2.2.2 0 s.2.2.1.length 3],false⟩,⟨true,s.2.2.2,3,true,(QE s.2.2.1),true⟩]
theorem p175_start_0 (set:Int) (b:List Int) (m:List (Int × Int)) (f:Nat) {E:Env} {rv:AV} {bs2:List Blk} (hE:LentE Try.prog 175 [.pm [.rsl (rowI b) 0 b.length] 0 0 0] rv bs2 E) (ho:AllP [])
 (hg:G Try.prog E (QaC Try.prog) ⟨([J,J,.ptr 1 0 0,.ptr 2 0 0,.ptr 3 0 0]++Js 26),[⟨true,0,0,true,(QJ m),false⟩,⟨true,0,1,false,[.pm [.rsl (rowI b) 0 b.length] 0 0 0],false⟩,⟨true,0,1,true,[.int .i64 set],false⟩,⟨true,0,1,false,[.sl 4 0 0 0 3],false⟩,⟨true,0,3,true,[],true⟩]⟩):G Try.prog E [.code (Qd Try.prog 175)] ⟨[.pm [.rsl (rowI b) 0 b.length] 0 0 0,.int .i64 set]++unds (Try.f175.ntmps - 2),[⟨true,0,0,true,(QJ m),false⟩]⟩ :=
 Ql (n:=400) (ds:=[]) (cs:=[(3,0,3)]) (live:=[2,3,4]) (m:=5) (evs:=[.stop]) (obs:=_) hE.kind (by rw [hE.gA]; kernel_rfl) Qo (by kernel_rfl) ho hg
theorem f175W (set:Int) (b:List Int) (m:List (Int × Int)) (f:Nat) {E:Env} {rv:(List Pay)} {m2:List (Int × Int)} (hE:LentE Try.prog 175 [.pm [.rsl (rowI b) 0 b.length] 0 0 0] (.rsl (QE rv) 0 rv.length) [⟨true,0,0,true,(QJ m2),false⟩] E)
 (h:KC E set b m f m set ([])):G Try.prog E [.code (Qd Try.prog 175)] ⟨[.pm [.rsl (rowI b) 0 b.length] 0 0 0,.int .i64 set]++unds (Try.f175.ntmps - 2),[⟨true,0,0,true,(QJ m),false⟩]⟩:=by
 exact p175_start_0 set b m f hE trivial (h 0)
theorem p175_0_0 (set:Int) (b:List Int) (m:List (Int × Int)) (f:Nat) (v0:List (Int × Int)) (v2_0:Int) (v4:List Pay) (g4:Nat) {E:Env} {rv:AV} {bs2:List Blk} (hE:LentE Try.prog 175 [.pm [.rsl (rowI b) 0 b.length] 0 0 0] rv bs2 E) (ho:AllP [(v2_0 != 0)=true,Qe Try.prog (.clos 227 [] []) [.rptr [.rsl (rowI b) 0 b.length] 0,.int .i64 v2_0] (.clos 266 [] [.rptr [.int .i64 v2_0] 0,.rptr [.rptr [.rsl (rowI b) 0 b.length] 0] 0])])
 (hg:G Try.prog E (YH Try.prog) ⟨([J,J,.ptr 1 0 0,.ptr 2 0 0,.ptr 3 0 0]++jj 5 ([.clos 266 [] [.rptr [.int .i64 v2_0] 0,.rptr [.rptr [.rsl (rowI b) 0 b.length] 0] 0]]++Js 20)),[⟨true,0,0,true,(QJ v0),false⟩,⟨true,0,1,false,[.pm [.rsl (rowI b) 0 b.length] 0 0 0],false⟩,⟨true,0,1,true,[.int .i64 v2_0],false⟩,⟨true,0,1,false,[.sl 4 g4 0 v4.length 3],false⟩,⟨true,g4,3,true,(QE v4),true⟩]⟩):G Try.prog E (QaC Try.prog) (f175S0 set b m f v0 v2_0 v4 g4) :=
 Ql (n:=400) (ds:=[]) (cs:=[]) (live:=[2,3,4,10]) (m:=5) (evs:=[.b true,.v (.clos 266 [] [.rptr [.int .i64 v2_0] 0,.rptr [.rptr [.rsl (rowI b) 0 b.length] 0] 0])]) (obs:=_) hE.kind (by rw [hE.gA]; kernel_rfl) Qo (by kernel_rfl) ho hg
theorem p175_0_1 (set:Int) (b:List Int) (m:List (Int × Int)) (f:Nat) (v0:List (Int × Int)) (v2_0:Int) (v4:List Pay) (g4:Nat) {E:Env} {res:AV} {bs2:List Blk} (hE:LentE Try.prog 175 [.pm [.rsl (rowI b) 0 b.length] 0 0 0] res bs2 E) (ho:AllP [(v2_0 != 0)=false,g4=g4,1≤1])
 (hr:AvLe (.rsl (QE v4) 0 v4.length) res) (hb:[⟨true,0,0,true,(QJ v0),false⟩]=bs2):G Try.prog E (QaC Try.prog) (f175S0 set b m f v0 v2_0 v4 g4) :=
 endW_step (n:=400) (m:=1) (evs:=[.b false,.wt 30]) (obs:=_) hE (by rw [hE.gA]; kernel_rfl) Try.func175 Qo (by kernel_rfl) ho hr hb
theorem f175W0 (set:Int) (b:List Int) (m:List (Int × Int)) (f:Nat) (v0:List (Int × Int)) (v2_0:Int) (v4:List Pay) {E:Env} {rv:(List Pay)} {m2:List (Int × Int)} (hE:LentE Try.prog 175 [.pm [.rsl (rowI b) 0 b.length] 0 0 0] (.rsl (QE rv) 0 rv.length) [⟨true,0,0,true,(QJ m2),false⟩] E)
 (h:∀ g4:Nat,((¬ (v2_0=0)→f175Gr0 E set b m f v2_0 (v0,v2_0,v4,g4))∧(v2_0=0→rv=v4∧m2=v0))):KC E set b m f v0 v2_0 v4:=by
 intro g4
 have h:=h g4
 rcases bft (v2_0 != 0) with hc0 | hc0
 · have h:=h.1 (bneT hc0)
   exact p175_0_0 set b m f v0 v2_0 v4 g4 hE ⟨hc0,(u227 (parts_ok b v2_0)),trivial⟩ h
 · have h:=h.2 (bneF hc0)
   obtain ⟨qe0,qe1⟩:=h
   exact p175_0_1 set b m f v0 v2_0 v4 g4 hE ⟨hc0,rfl,(by decide),trivial⟩ (AvLe.of_eq (by rw [qe0]; try rfl)) (by rw [qe1]; all_goals (first | rfl | (simp only [List.length_set]; done) | (simp only [List.length_set]; rfl) | (simp only [List.length_set,List.length_replicate]; done)))
theorem p175_r0e_0 (set:Int) (b:List Int) (m:List (Int × Int)) (f:Nat) (v:Int) (s:List (Int × Int) × Int × List Pay × Nat) {E:Env} {rv:AV} {bs2:List Blk} (hE:LentE Try.prog 175 [.pm [.rsl (rowI b) 0 b.length] 0 0 0] rv bs2 E) (ho:AllP [])
 (hg:G Try.prog E (QaC Try.prog) ⟨([J,J,.ptr 1 0 0,.ptr 2 0 0,.ptr 3 0 0]++Js 26),(z175_1 s b)⟩):G Try.prog E (WB (YH Try.prog)) (Yp set b m f v s) :=
 Ql (n:=400) (ds:=[]) (cs:=[]) (live:=[2,3,4]) (m:=5) (evs:=[.stop]) (obs:=_) hE.kind (by rw [hE.gA]; kernel_rfl) Qo (by kernel_rfl) ho hg
theorem f175Wr0e (set:Int) (b:List Int) (m:List (Int × Int)) (f:Nat) (v:Int) (s:List (Int × Int) × Int × List Pay × Nat) {E:Env} {rv:(List Pay)} {m2:List (Int × Int)} (hE:LentE Try.prog 175 [.pm [.rsl (rowI b) 0 b.length] 0 0 0] (.rsl (QE rv) 0 rv.length) [⟨true,0,0,true,(QJ m2),false⟩] E)
 (h:KC E set b m f s.1 s.2.1 s.2.2.1):G Try.prog E (WB (YH Try.prog)) (Yp set b m f v s):=by
 exact p175_r0e_0 set b m f v s hE trivial (h s.2.2.2)
theorem p175_r0j_0 (set:Int) (b:List Int) (m:List (Int × Int)) (f:Nat) (v:Int) (s:List (Int × Int) × Int × List Pay × Nat) {E:Env} {rv:AV} {bs2:List Blk} (hE:LentE Try.prog 175 [.pm [.rsl (rowI b) 0 b.length] 0 0 0] rv bs2 E) (ho:AllP [])
 (hg:G Try.prog E (QaC Try.prog) ⟨([J,J,.ptr 1 0 0,.ptr 2 0 0,.ptr 3 0 0]++Js 26),(z175_1 s b)⟩):G Try.prog E (.code (.exit 2) :: WB (YH Try.prog)) (Yp set b m f v s) :=
 Ql (n:=400) (ds:=[]) (cs:=[]) (live:=[2,3,4]) (m:=5) (evs:=[.stop]) (obs:=_) hE.kind (by rw [hE.gA]; kernel_rfl) Qo (by kernel_rfl) ho hg
theorem f175Wr0j (set:Int) (b:List Int) (m:List (Int × Int)) (f:Nat) (v:Int) (s:List (Int × Int) × Int × List Pay × Nat) {E:Env} {rv:(List Pay)} {m2:List (Int × Int)} (hE:LentE Try.prog 175 [.pm [.rsl (rowI b) 0 b.length] 0 0 0] (.rsl (QE rv) 0 rv.length) [⟨true,0,0,true,(QJ m2),false⟩] E)
 (h:KC E set b m f s.1 s.2.1 s.2.2.1):G Try.prog E (.code (.exit 2) :: WB (YH Try.prog)) (Yp set b m f v s):=by
 exact p175_r0j_0 set b m f v s hE trivial (h s.2.2.2)
theorem f175Ar0 (set:Int) (b:List Int) (m:List (Int × Int)) (f:Nat) (v:Int) (s:List (Int × Int) × Int × List Pay × Nat) (x:Nat) {E:Env} (hE:RoundE ((Yp set b m f v s).tmps++[.pm [.rsl (rowI b) 0 b.length] 0 0 0]) E) (hg:G Try.prog E [.beginRound,.code (YZ (YH Try.prog))] (KB set b m f v s x)):G Try.prog E [.code (yA (YH Try.prog)),.beginRound,.code (YZ (YH Try.prog))] ⟨yl (Yp set b m f v s).tmps [11] (argS x),(Yp set b m f v s).blks⟩ :=
 Ql (n:=400) (ds:=[]) (cs:=[]) (live:=[0,1,2,3,4,5,6,7,8,9,10,11,12,13,14,15,16,17,18,19,20,21,22,23,24,25,26,27,28,29,30]) (m:=5) (evs:=[]) (obs:=[]) hE.kind (by rw [hE.gA]; kernel_rfl) Qo (by kernel_rfl) trivial hg
theorem f175Br0_0 (set:Int) (b:List Int) (m:List (Int × Int)) (f:Nat) (v:Int) (s:List (Int × Int) × Int × List Pay × Nat) (x:Nat) {E:Env} (hE:RoundE ((Yp set b m f v s).tmps++[.pm [.rsl (rowI b) 0 b.length] 0 0 0]) E) (ho:AllP [PureU Try.prog (.clos 228 [] []) [.pm [.rsl (rowI b) 0 b.length] 0 0 0,.int .i64 s.2.1] 0 ⟨true,0,0,true,(QJ s.1),false⟩ ⟨true,0,0,true,(QJ (QT b f (Int.toNat s.2.1) s.1).2),false⟩ (.int .i64 ((QT b f (Int.toNat s.2.1) s.1).1)),PureU Try.prog (.clos 228 [] []) [.pm [.rsl (rowI b) 0 b.length] 0 0 0,.int .i64 (bits .andNot .i64 s.2.1 (x:Int))] 0 ⟨true,0,0,true,(QJ (QT b f (Int.toNat s.2.1) s.1).2),false⟩ ⟨true,0,0,true,(QJ (QT b f (Int.toNat (bits .andNot .i64 s.2.1 (x:Int))) ((QT b f (Int.toNat s.2.1) s.1).2)).2),false⟩ (.int .i64 ((QT b f (Int.toNat (bits .andNot .i64 s.2.1 (x:Int))) ((QT b f (Int.toNat s.2.1) s.1).2)).1)),InR .i64 (1+(QT b f (Int.toNat (bits .andNot .i64 s.2.1 (x:Int))) ((QT b f (Int.toNat s.2.1) s.1).2)).1),((QT b f (Int.toNat s.2.1) s.1).1 != (1+(QT b f (Int.toNat (bits .andNot .i64 s.2.1 (x:Int))) ((QT b f (Int.toNat s.2.1) s.1).2)).1))=true])
 (hg:G Try.prog E [] ⟨(Js 31),[⟨true,0,0,true,(QJ (QT b f (Int.toNat (bits .andNot .i64 s.2.1 (x:Int))) ((QT b f (Int.toNat s.2.1) s.1).2)).2),false⟩,⟨true,0,1,false,[.pm [.rsl (rowI b) 0 b.length] 0 0 0],false⟩,⟨true,0,1,true,[.int .i64 s.2.1],false⟩,⟨true,0,1,false,[.sl 4 s.2.2.2 0 s.2.2.1.length 3],false⟩,⟨true,s.2.2.2,3,true,(QE s.2.2.1),true⟩]⟩):G Try.prog E [.code (YZ (YH Try.prog))] (KB set b m f v s x) :=
 Ql (n:=400) (ds:=[]) (cs:=[]) (live:=[]) (m:=5) (evs:=[.lent [0] (.int .i64 ((QT b f (Int.toNat s.2.1) s.1).1)) [⟨true,0,0,true,(QJ (QT b f (Int.toNat s.2.1) s.1).2),false⟩],.lent [0] (.int .i64 ((QT b f (Int.toNat (bits .andNot .i64 s.2.1 (x:Int))) ((QT b f (Int.toNat s.2.1) s.1).2)).1)) [⟨true,0,0,true,(QJ (QT b f (Int.toNat (bits .andNot .i64 s.2.1 (x:Int))) ((QT b f (Int.toNat s.2.1) s.1).2)).2),false⟩],.b true]) (obs:=_) hE.kind (by rw [hE.gA]; kernel_rfl) Qo (by kernel_rfl) ho hg
theorem f175Br0_1 (set:Int) (b:List Int) (m:List (Int × Int)) (f:Nat) (v:Int) (s:List (Int × Int) × Int × List Pay × Nat) (x:Nat) {E:Env} (hE:RoundE ((Yp set b m f v s).tmps++[.pm [.rsl (rowI b) 0 b.length] 0 0 0]) E) (ho:AllP [PureU Try.prog (.clos 228 [] []) [.pm [.rsl (rowI b) 0 b.length] 0 0 0,.int .i64 s.2.1] 0 ⟨true,0,0,true,(QJ s.1),false⟩ ⟨true,0,0,true,(QJ (QT b f (Int.toNat s.2.1) s.1).2),false⟩ (.int .i64 ((QT b f (Int.toNat s.2.1) s.1).1)),PureU Try.prog (.clos 228 [] []) [.pm [.rsl (rowI b) 0 b.length] 0 0 0,.int .i64 (bits .andNot .i64 s.2.1 (x:Int))] 0 ⟨true,0,0,true,(QJ (QT b f (Int.toNat s.2.1) s.1).2),false⟩ ⟨true,0,0,true,(QJ (QT b f (Int.toNat (bits .andNot .i64 s.2.1 (x:Int))) ((QT b f (Int.toNat s.2.1) s.1).2)).2),false⟩ (.int .i64 ((QT b f (Int.toNat (bits .andNot .i64 s.2.1 (x:Int))) ((QT b f (Int.toNat s.2.1) s.1).2)).1)),InR .i64 (1+(QT b f (Int.toNat (bits .andNot .i64 s.2.1 (x:Int))) ((QT b f (Int.toNat s.2.1) s.1).2)).1),((QT b f (Int.toNat s.2.1) s.1).1 != (1+(QT b f (Int.toNat (bits .andNot .i64 s.2.1 (x:Int))) ((QT b f (Int.toNat s.2.1) s.1).2)).1))=false,Qe Try.prog (.clos 229 [] []) [.rptr [.rsl (rowI b) 0 b.length] 0,.int .i64 (x:Int)] (.rsl (QE (Xq b (Int.toNat (x:Int)))) 0 ((Xq b (Int.toNat (x:Int))).length)),s.2.2.2=s.2.2.2,(0+(s.2.2.1.length*3))=(QE s.2.2.1).length,(s.2.2.1.length+(Xq b (Int.toNat (x:Int))).length)≤2147483648,((QE (Xq b (Int.toNat (x:Int)))).drop 0).take ((Xq b (Int.toNat (x:Int))).length*3)=(QE (Xq b (Int.toNat (x:Int)))),(QE (Xq b (Int.toNat (x:Int)))).length=((Xq b (Int.toNat (x:Int))).length*3),noRefs (QE (Xq b (Int.toNat (x:Int))))=true,1≤1,1≤1])
 (hg:G Try.prog E (kAt 400 [.code (YZ (YH Try.prog))] [.b false]) ⟨(Js 31),[⟨true,0,0,true,(QJ (QT b f (Int.toNat (bits .andNot .i64 s.2.1 (x:Int))) ((QT b f (Int.toNat s.2.1) s.1).2)).2),false⟩,⟨true,0,1,false,[.pm [.rsl (rowI b) 0 b.length] 0 0 0],false⟩,⟨true,0,1,true,[.int .i64 (bits .andNot .i64 s.2.1 (x:Int))],false⟩,⟨true,0,1,false,[.sl 4 (s.2.2.2+1) 0 (s.2.2.1.length+(Xq b (Int.toNat (x:Int))).length) 3],false⟩,⟨true,(s.2.2.2+1),3,true,((QE s.2.2.1)++(QE (Xq b (Int.toNat (x:Int))))),true⟩]⟩):G Try.prog E [.code (YZ (YH Try.prog))] (KB set b m f v s x) :=
 Ql (n:=400) (ds:=[]) (cs:=[]) (live:=[]) (m:=5) (evs:=[.lent [0] (.int .i64 ((QT b f (Int.toNat s.2.1) s.1).1)) [⟨true,0,0,true,(QJ (QT b f (Int.toNat s.2.1) s.1).2),false⟩],.lent [0] (.int .i64 ((QT b f (Int.toNat (bits .andNot .i64 s.2.1 (x:Int))) ((QT b f (Int.toNat s.2.1) s.1).2)).1)) [⟨true,0,0,true,(QJ (QT b f (Int.toNat (bits .andNot .i64 s.2.1 (x:Int))) ((QT b f (Int.toNat s.2.1) s.1).2)).2),false⟩],.b false,.v (.rsl (QE (Xq b (Int.toNat (x:Int)))) 0 ((Xq b (Int.toNat (x:Int))).length)),.cs (QE (Xq b (Int.toNat (x:Int))))]) (obs:=_) hE.kind (by rw [hE.gA]; kernel_rfl) Qo (by kernel_rfl) ho hg
theorem f175Br0 (set:Int) (b:List Int) (m:List (Int × Int)) (f:Nat) (v:Int) (s:List (Int × Int) × Int × List Pay × Nat) (x:Nat) {rq:(List (Int × Int) × Int × List Pay × Nat) × Bool} {E:Env} (hE:RoundE ((Yp set b m f v s).tmps++[.pm [.rsl (rowI b) 0 b.length] 0 0 0]) E) (hQ:QaK (fun s=>(Yp set b m f v s).blks) (.exit 2) rq E)
 (h:((Vo b f s.2.1 s.1)∧((Vo b f (bits .andNot .i64 s.2.1 (x:Int)) ((QT b f (Int.toNat s.2.1) s.1).2))∧((I6 (1+(QT b f (Int.toNat (bits .andNot .i64 s.2.1 (x:Int))) ((QT b f (Int.toNat s.2.1) s.1).2)).1))∧((¬ ((QT b f (Int.toNat s.2.1) s.1).1=(1+(QT b f (Int.toNat (bits .andNot .i64 s.2.1 (x:Int))) ((QT b f (Int.toNat s.2.1) s.1).2)).1))→rq=(((QT b f (Int.toNat (bits .andNot .i64 s.2.1 (x:Int))) ((QT b f (Int.toNat s.2.1) s.1).2)).2,s.2.1,s.2.2.1,s.2.2.2),true))∧((QT b f (Int.toNat s.2.1) s.1).1=(1+(QT b f (Int.toNat (bits .andNot .i64 s.2.1 (x:Int))) ((QT b f (Int.toNat s.2.1) s.1).2)).1)→((VE b (x:Int))∧((s.2.2.1.length+(Xq b (Int.toNat (x:Int))).length)≤2147483648∧rq=(((QT b f (Int.toNat (bits .andNot .i64 s.2.1 (x:Int))) ((QT b f (Int.toNat s.2.1) s.1).2)).2,(bits .andNot .i64 s.2.1 (x:Int)),(s.2.2.1++(Xq b (Int.toNat (x:Int)))),(s.2.2.2+1)),false))))))))):G Try.prog E [.code (YZ (YH Try.prog))] (KB set b m f v s x):=by
 obtain ⟨h1,h⟩:=h
 obtain ⟨h2,h⟩:=h
 obtain ⟨q2_0,h⟩:=h
 rcases bft ((QT b f (Int.toNat s.2.1) s.1).1 != (1+(QT b f (Int.toNat (bits .andNot .i64 s.2.1 (x:Int))) ((QT b f (Int.toNat s.2.1) s.1).2)).1)) with hc0 | hc0
 · have h:=h.1 (bneT hc0)
   exact f175Br0_0 set b m f v s x hE ⟨(Yu (Qw Try.func228 (by kernel_rfl) f228b (Vo.lent h1)) rfl rfl rfl rfl rfl rfl),(Yu (Qw Try.func228 (by kernel_rfl) f228b (Vo.lent h2)) rfl rfl rfl rfl rfl rfl),q2_0,hc0,trivial⟩ (round_go hQ h rfl)
 · have h:=h.2 (bneF hc0)
   obtain ⟨h3,h⟩:=h
   obtain ⟨h4,h⟩:=h
   exact f175Br0_1 set b m f v s x hE ⟨(Yu (Qw Try.func228 (by kernel_rfl) f228b (Vo.lent h1)) rfl rfl rfl rfl rfl rfl),(Yu (Qw Try.func228 (by kernel_rfl) f228b (Vo.lent h2)) rfl rfl rfl rfl rfl rfl),q2_0,hc0,(u229 (chain_ok b (x:Int) h3)),rfl,(by have hx:=QI cPay (s:=3) (fun _=>rfl) s.2.2.1; simp only [QE] at hx ⊢; rw [hx]; simp),h4,(by exact QX cPay (fun _=>rfl) (Xq b (Int.toNat (x:Int)))),(by exact QI cPay (fun _=>rfl) (Xq b (Int.toNat (x:Int)))),(by exact Xk cPay (fun _=>rfl) (Xq b (Int.toNat (x:Int)))),(by decide),(by decide),trivial⟩ (round_jump hQ h (by kernel_rfl) (by rw [(show QE s.2.2.1++QE (Xq b (Int.toNat (x:Int)))=QE (s.2.2.1++(Xq b (Int.toNat (x:Int)))) from (qw cPay s.2.2.1 (Xq b (Int.toNat (x:Int)))).symm)]; rw [(show (s.2.2.1.length+(Xq b (Int.toNat (x:Int))).length)=(s.2.2.1++(Xq b (Int.toNat (x:Int)))).length from by simp)]; rfl))
theorem f175Rr0 (set:Int) (b:List Int) (m:List (Int × Int)) (f:Nat) (v:Int) (s0:List (Int × Int) × Int × List Pay × Nat) {E:Env} {rv:(List Pay)} {m2:List (Int × Int)} (hE:LentE Try.prog 175 [.pm [.rsl (rowI b) 0 b.length] 0 0 0] (.rsl (QE rv) 0 rv.length) [⟨true,0,0,true,(QJ m2),false⟩] E) (step:(List (Int × Int) × Int × List Pay × Nat)→(Nat)→(List (Int × Int) × Int × List Pay × Nat) × Bool)
 (h:VE b v∧(∀ (i:Nat) (x:Nat) (s:List (Int × Int) × Int × List Pay × Nat),(Xa b (Int.toNat v))[i]?=some x→QM step s0 ((Xa b (Int.toNat v)).take i)=(s,true)→((Vo b f s.2.1 s.1)∧((Vo b f (bits .andNot .i64 s.2.1 (x:Int)) ((QT b f (Int.toNat s.2.1) s.1).2))∧((I6 (1+(QT b f (Int.toNat (bits .andNot .i64 s.2.1 (x:Int))) ((QT b f (Int.toNat s.2.1) s.1).2)).1))∧((¬ ((QT b f (Int.toNat s.2.1) s.1).1=(1+(QT b f (Int.toNat (bits .andNot .i64 s.2.1 (x:Int))) ((QT b f (Int.toNat s.2.1) s.1).2)).1))→step s x=(((QT b f (Int.toNat (bits .andNot .i64 s.2.1 (x:Int))) ((QT b f (Int.toNat s.2.1) s.1).2)).2,s.2.1,s.2.2.1,s.2.2.2),true))∧((QT b f (Int.toNat s.2.1) s.1).1=(1+(QT b f (Int.toNat (bits .andNot .i64 s.2.1 (x:Int))) ((QT b f (Int.toNat s.2.1) s.1).2)).1)→((VE b (x:Int))∧((s.2.2.1.length+(Xq b (Int.toNat (x:Int))).length)≤2147483648∧step s x=(((QT b f (Int.toNat (bits .andNot .i64 s.2.1 (x:Int))) ((QT b f (Int.toNat s.2.1) s.1).2)).2,(bits .andNot .i64 s.2.1 (x:Int)),(s.2.2.1++(Xq b (Int.toNat (x:Int)))),(s.2.2.2+1)),false)))))))))∧(∀ s:List (Int × Int) × Int × List Pay × Nat,QM step s0 (Xa b (Int.toNat v))=(s,true)→KC E set b m f s.1 s.2.1 s.2.2.1)∧(∀ s:List (Int × Int) × Int × List Pay × Nat,QM step s0 (Xa b (Int.toNat v))=(s,false)→KC E set b m f s.1 s.2.1 s.2.2.1)):f175Gr0 E set b m f v s0:=by
 have hT:(Yp set b m f v s0).tmps++E.gA=(Yp set b m f v s0).tmps++[.pm [.rsl (rowI b) 0 b.length] 0 0 0]:=by rw [hE.gA]
 refine Qak (σ:=List (Int × Int) × Int × List Pay × Nat) (X:=Nat) (arg:=argS) (L:=(Xa b (Int.toNat v))) (jump:=.exit 2) (g:=.tmp 10) (ps:=#[11]) (fun s=>(Yp set b m f v s).blks) (fun s x=>(KB set b m f v s x)) step s0 hE.ro hE.kind (by kernel_rfl) rfl rfl (parts_it b v h.1) rfl (fun x=>rfl) (fun s x E' hR hg=>?_) (fun i x s hx hs E' hR hQ=>?_) (fun s hs=>?_) (fun s hs=>?_)
 · rw [hT] at hR; exact f175Ar0 set b m f v s x hR hg
 · rw [hT] at hR; exact f175Br0 set b m f v s x hR hQ (h.2.1 i x s hx hs)
 · exact f175Wr0e set b m f v s hE (h.2.2.1 s hs)
 · exact f175Wr0j set b m f v s hE (h.2.2.2 s hs)
theorem settle_ok (b:List Int) (S0:Nat) (hS:VE b (S0:Int)) (ht:totN b S0=0):Lent Try.prog 175 [.pm [.rsl (rowI b) 0 b.length] 0 0 0,.int .i64 (S0:Int)] [⟨true,0,0,true,QJ [],false⟩]
 (.rsl (QE (XC b 1024 S0)) 0 (XC b 1024 S0).length) [⟨true,0,0,true,QJ (YU b 1024 1024 S0 []),false⟩]:=by
 refine lent_ofA (.pm [.rsl (rowI b) 0 b.length] 0 0 0) 0 rfl (fun n h=>by simp [refsBelows,Xd] at h; exact h) Try.func175 f175b fun E hE=>?_
 have key:∀ (n S:Nat) (m:List (Int × Int)) (o:List Pay),S<n→n≤1024→VE b (S:Int)→totN b S=0→KInv b m→o.length+10*n≤20000→o++XC b n S=XC b 1024 S0→YU b 1024 n S m=YU b 1024 1024 S0 []→KC E (S0:Int) b [] 1024 m (S:Int) o:=by
  intro n
  induction n with
  | zero=>intro S m o h; omega
  | succ n ih =>
   intro S m o hn hn2 hin ht hm ho hp hM
   refine f175W0 (S0:Int) b [] 1024 m (S:Int) o (rv:=XC b 1024 S0) (m2:=YU b 1024 1024 S0 []) hE fun g4=>⟨fun h0=>?_,fun h0=>?_⟩
   rotate_left
   · have:S=0:=by omega
     subst this
     rw [XC,if_pos rfl,List.append_nil] at hp
     rw [YU,if_pos rfl] at hM
     exact ⟨hp.symm,hM.symm⟩
   have hS0:S ≠ 0:=by omega
   obtain ⟨y,hy,hym,hyv⟩:=yV hin hS0 ht
   have hy2:(Xa b S).find? (WN b S)=some y:=hy
   refine f175Rr0 (S0:Int) b [] 1024 (S:Int) (m,(S:Int),o,g4) (rv:=XC b 1024 S0) (m2:=YU b 1024 1024 S0 []) hE (stStep b 1024 S) ⟨hin,fun i x s hx hs=>?_,fun s hs=>?_,fun s hs=>?_⟩
   · rw [Int.toNat_natCast] at hx hs
     have hxm:=List.mem_of_getElem? hx
     rw [st_fold] at hs
     cases hf:((Xa b S).take i).find? (WN b S) with
     | some z=>rw [hf] at hs; simp [stRes] at hs
     | none =>
      rw [hf] at hs
      simp only [stRes,Prod.mk.injEq,and_true] at hs
      subst hs
      have hxin:=part_in hin hxm
      have hk:=mapW_ok (b:=b) (f:=1024) (S:=S) (by omega) (l:=(Xa b S).take i) (m:=m) (fun z hz=>List.mem_of_mem_take hz) hm
      have hp':=XU hxm
      have hw:=Xw hp'.1
      have ean:bits .andNot .i64 (S:Int) (x:Int)=((without S x:Nat):Int):=QaJ (by omega) (by omega)
      have hb1:=Wn (b:=b) (without S x)
      have hcl:=Qcn (b:=b) (S:=x) b.length
      have hlen:b.length≤10:=by obtain ⟨_,_,_,h3,_⟩:=hin; exact h3
      simp only
      rw [ean,Int.toNat_natCast,Int.toNat_natCast,Int.toNat_natCast]
      refine ⟨many_ok b 1024 S _ (by omega) hin hk,many_ok b 1024 (without S x) _ (by omega) (Wi hin) (Ki (by omega) hk).1,?_,fun hne=>?_,fun heq=>⟨hxin,?_,?_⟩⟩
      · show _≤1+Ya b (without S x)∧1+Ya b (without S x)≤_
        omega
      · have hg:WN b S x=false:=by unfold WN; exact beq_eq_false_iff_ne.2 hne
        rw [stStep,if_neg (by rw [hg]; simp)]; rfl
      · unfold Xq; omega
      · have hg:WN b S x=true:=by unfold WN; exact beq_iff_eq.2 heq
        rw [stStep,if_pos hg]; rfl
   · rw [Int.toNat_natCast,st_fold,hy2] at hs
     simp [stRes] at hs
   · rw [Int.toNat_natCast,st_fold,hy2] at hs
     simp only [stRes,Prod.mk.injEq,and_true] at hs
     subst hs
     have hp':=XU hym
     have hw:=Xw hp'.1
     rw [XC,if_neg hS0,hy] at hp
     rw [YU,if_neg hS0,hy] at hM
     have hcl:=Qcn (b:=b) (S:=y) b.length
     have hlen:b.length≤10:=by obtain ⟨_,_,_,h3,_⟩:=hin; exact h3
     refine ih (without S y) _ _ (by omega) (by omega) (Wi hin) (WG hp'.1 ht hp'.2.2.2) (mapW_ok (by omega) (fun _ h=>h) hm) ?_ (by rw [List.append_assoc]; exact hp) hM
     rw [List.length_append]; unfold Xq; omega
 have hlt:S0<1024:=by obtain ⟨S',h1,h2,h3,_⟩:=hS; have:=Wz h3 h2; omega
 exact f175W (S0:Int) b [] 1024 (rv:=XC b 1024 S0) (m2:=YU b 1024 1024 S0 []) hE (key 1024 S0 [] [] hlt (by omega) hS ht (fun e he=>by simp at he) (by simp) rfl rfl)
end Go.Proofs.Ytemklbioijmjiaa
namespace Go.Proofs.Ytemklbioijmjiaa
open Go Ax
open Go.Proofs
/-- Those whose balance is not 0. -/
def setB (b:List Int):Nat→Nat
 | 0=>0
 | i+1=>if b.getD i 0=0 then setB b i else setB b i ||| 2 ^ i
theorem Wl {b:List Int}:∀ {n i:Nat},(setB b n).testBit i=(decide (i<n) && decide (b.getD i 0 ≠ 0))
 | 0,i=>by simp [setB]
 | n+1,i=>by
  have ih:=Wl (b:=b) (n:=n) (i:=i)
  rw [setB]
  by_cases hi:i=n
  · subst hi
    split
    · rename_i h; rw [ih,decide_eq_false (show ¬ (b.getD i 0 ≠ 0) by simpa using h)]; simp
    · rename_i h; rw [Nat.testBit_or,ih,Nat.testBit_two_pow_self,decide_eq_true h]; simp
  · have e:decide (i<n+1)=decide (i<n):=decide_eq_decide.2 (by omega)
    split
    · rw [ih,e]
    · rw [Nat.testBit_or,ih,Nat.testBit_two_pow_of_ne (fun h=>hi h.symm),Bool.or_false,e]
theorem qu {b:List Int}:∀ {n:Nat},setB b n<2 ^ n
 | 0=>by simp [setB]
 | n+1=>by
  have ih:=qu (b:=b) (n:=n)
  have h2:2 ^ (n+1)=2*2 ^ n:=by rw [Nat.pow_succ,Nat.mul_comm]
  rw [setB]
  split
  · omega
  · exact Nat.or_lt_two_pow (by omega) (by omega)
theorem totP_setB {b:List Int}:∀ {i:Nat},i≤b.length→totP b (setB b b.length) i=(b.take i).sum
 | 0,_=>by simp [totP]
 | i+1,h=>by
  have ih:=totP_setB (b:=b) (i:=i) (by omega)
  have hi:b[i]?=some b[i]:=List.getElem?_eq_getElem (by omega)
  rw [WR hi,ih,List.take_add_one,hi,List.sum_append,Wl]
  have hd:b.getD i 0=b[i]:=by rw [List.getD,hi]; rfl
  rw [hd,decide_eq_true (show i<b.length by omega)]
  by_cases h0:b[i]=0
  · simp [h0]
  · simp [h0]
/-- The errors of balances that are to be settled. -/
def Xv (b:List Int):Int:=if balB b=false then 1 else if sumI b=0 then 0 else 110
def Qm (b:List Int):List Pay × Int:=if Xv b=0 then (XC b 1024 (setB b b.length),0) else ([],Xv b)
def fewK (b:List Int):Int × Int:=((((Qm b).1.length:Nat):Int),(Qm b).2)
theorem pow_cast (i:Nat):(1:Int)*2 ^ (Int.toNat (i:Int))=((2 ^ i:Nat):Int):=by
 rw [Int.one_mul,Int.toNat_natCast,Int.natCast_pow]; rfl
theorem pow_le {i n:Nat} (h:i≤n):2 ^ i≤2 ^ n:=Nat.pow_le_pow_right (by omega) h
theorem qr {B:Int} (hB0:0≤B) (hB:B≤1000000000000000) {u:List Int} (hu:u.length≤1000) (hx:∀ x ∈ u,-B≤x∧x≤B):yr u:=by
 refine ⟨by omega,fun k hk=>?_⟩
 have:∀ {w:List Int},(∀ x ∈ w,-B≤x∧x≤B)→-B*(w.length:Int)≤w.sum∧w.sum≤B*(w.length:Int):=by
  intro w
  induction w with
  | nil=>simp
  | cons y w ih =>
   intro hw
   have:=ih fun x hx=>hw x (by simp [hx])
   have:=hw y (by simp)
   simp only [List.sum_cons,List.length_cons,Int.natCast_add,Int.mul_add] at *; omega
 have h3:=this (w:=u.take k) fun x hx'=>hx x (List.mem_of_mem_take hx')
 have h4:((u.take k).length:Int)≤1000:=by rw [List.length_take]; omega
 have h5:B*((u.take k).length:Int)≤1000000000000000*1000:=Int.mul_le_mul hB h4 (by omega) (by omega)
 have h6:=Int.neg_mul B ((u.take k).length:Int)
 omega
theorem sumOk_bal {b:List Int} (h:balB b=true):yr b:=by
 have hb:=bal_of h
 exact qr (B:=10000000000) (by omega) (by omega) (by omega) hb.2
theorem f174b:Try.f174.body=some (Qd Try.prog 174):=by kernel_rfl
def KD (P:Program):List Item:=kAt 400 [.code (Qd P 174)] [.b false,.b false,.stop]
def f174S0 (b:(List Int)) (set:Int) (i:Nat):St:=⟨([.rsl (rowI b) 0 b.length,J,J,.int .i64 set]++jj 9 ([.rsl (rowI b) 0 b.length,.int .i64 (b.length:Int),.int .i64 (i:Int)]++Js 16)),[]⟩
def f174G0 (E:Env) (b:(List Int)) (set:Int) (i:Nat):Prop:=G Try.prog E (KD Try.prog) (f174S0 b set i )
theorem p174_start_0 (b:(List Int)) {E:Env} {res:AV} {bs2:List Blk} (hE:LentE Try.prog 174 [] res bs2 E) (ho:AllP [Qe Try.prog (.clos 176 [] []) [.rsl (rowI b) 0 b.length] (.bool (balB b)),(!(balB b))=true])
 (hr:(.tup [.nilPtr,.int .i64 0,.int .i64 1])=res) (hb:[]=bs2):G Try.prog E [.code (Qd Try.prog 174)] ⟨[.rsl (rowI b) 0 b.length]++unds (Try.f174.ntmps - 1),[]⟩ :=
 QV (n:=400) (live:=[2,3,4]) (m:=0) (evs:=[.v (.bool (balB b)),.b true]) (obs:=_) hE (hE.nogh0 _) Try.func174 Qo (by kernel_rfl) ho hr hb
theorem p174_start_1 (b:(List Int)) {E:Env} {res:AV} {bs2:List Blk} (hE:LentE Try.prog 174 [] res bs2 E) (ho:AllP [Qe Try.prog (.clos 176 [] []) [.rsl (rowI b) 0 b.length] (.bool (balB b)),(!(balB b))=false,Qe Try.prog (.clos 158 [] []) [.rsl (rowI b) 0 b.length] (.int .i64 (sumI b)),((sumI b) != 0)=true])
 (hr:(.tup [.nilPtr,.int .i64 0,.int .i64 110])=res) (hb:[]=bs2):G Try.prog E [.code (Qd Try.prog 174)] ⟨[.rsl (rowI b) 0 b.length]++unds (Try.f174.ntmps - 1),[]⟩ :=
 QV (n:=400) (live:=[2,3,4]) (m:=0) (evs:=[.v (.bool (balB b)),.b false,.v (.int .i64 (sumI b)),.b true]) (obs:=_) hE (hE.nogh0 _) Try.func174 Qo (by kernel_rfl) ho hr hb
theorem p174_start_2 (b:(List Int)) {E:Env} {rv:AV} {bs2:List Blk} (hE:LentE Try.prog 174 [] rv bs2 E) (ho:AllP [Qe Try.prog (.clos 176 [] []) [.rsl (rowI b) 0 b.length] (.bool (balB b)),(!(balB b))=false,Qe Try.prog (.clos 158 [] []) [.rsl (rowI b) 0 b.length] (.int .i64 (sumI b)),((sumI b) != 0)=false])
 (hg:G Try.prog E (KD Try.prog) ⟨([.rsl (rowI b) 0 b.length,J,J,.int .i64 0]++jj 9 ([.rsl (rowI b) 0 b.length,.int .i64 (b.length:Int),.int .i64 0]++Js 16)),[]⟩):G Try.prog E [.code (Qd Try.prog 174)] ⟨[.rsl (rowI b) 0 b.length]++unds (Try.f174.ntmps - 1),[]⟩ :=
 Ql (n:=400) (ds:=[]) (cs:=[]) (live:=[0,3,13,14,15]) (m:=0) (evs:=[.v (.bool (balB b)),.b false,.v (.int .i64 (sumI b)),.b false,.stop]) (obs:=_) hE.kind (hE.nogh0 _) Qo (by kernel_rfl) ho hg
theorem f174W (b:(List Int)) {E:Env} {res:AV} {bs2:List Blk} (hE:LentE Try.prog 174 [] res bs2 E)
 (h:((b.length≤9223372036854775807)∧(((balB b)=false→((.tup [.nilPtr,.int .i64 0,.int .i64 1])=res∧[]=bs2))∧((balB b)=true→((yr b)∧((¬ ((sumI b)=0)→((.tup [.nilPtr,.int .i64 0,.int .i64 110])=res∧[]=bs2))∧((sumI b)=0→f174G0 E b 0 0))))))):G Try.prog E [.code (Qd Try.prog 174)] ⟨[.rsl (rowI b) 0 b.length]++unds (Try.f174.ntmps - 1),[]⟩:=by
 obtain ⟨h1,h⟩:=h
 rcases bft (!(balB b)) with hc0 | hc0
 · have h:=h.1 (bnT hc0)
   exact p174_start_0 b hE ⟨(u176 (YJ b h1)),hc0,trivial⟩ h.1 h.2
 · have h:=h.2 (bnF hc0)
   obtain ⟨h2,h⟩:=h
   rcases bft ((sumI b) != 0) with hc1 | hc1
   · have h:=h.1 (bneT hc1)
     exact p174_start_1 b hE ⟨(u176 (YJ b h1)),hc0,(u158 (sum_ok b h2)),hc1,trivial⟩ h.1 h.2
   · have h:=h.2 (bneF hc1)
     exact p174_start_2 b hE ⟨(u176 (YJ b h1)),hc0,(u158 (sum_ok b h2)),hc1,trivial⟩ h
theorem p174_0_0 (b:(List Int)) (set:Int) (i:Nat) (e:Int) {E:Env} {rv:AV} {bs2:List Blk} (hE:LentE Try.prog 174 [] rv bs2 E) (ho:AllP [(decide ((i:Int)<(b.length:Int)))=true,0≤(i:Int)∧(i:Int)<(b.length:Int),((rowI b).drop (0+(Int.toNat (i:Int))*1)).take 1=[.int .i64 e],(e != 0)=true,InR .i64 (1*2 ^ (Int.toNat (i:Int))),(0:Int)≤(i:Int)∧(i:Int)≤((IntKind.bits .i64:Nat):Int),InR .i64 ((i:Int)+1)])
 (hg:G Try.prog E (KD Try.prog) ⟨([.rsl (rowI b) 0 b.length,J,J,.int .i64 (bits .or .i64 set (1*2 ^ (Int.toNat (i:Int))))]++jj 9 ([.rsl (rowI b) 0 b.length,.int .i64 (b.length:Int),.int .i64 ((i:Int)+1)]++Js 16)),[]⟩):G Try.prog E (KD Try.prog) (f174S0 b set i ) :=
 Ql (n:=400) (ds:=[]) (cs:=[]) (live:=[0,3,13,14,15]) (m:=0) (evs:=[.b true,.ld (.int .i64 e),.b true,.stop]) (obs:=_) hE.kind (hE.nogh0 _) Qo (by kernel_rfl) ho hg
theorem p174_0_1 (b:(List Int)) (set:Int) (i:Nat) (e:Int) {E:Env} {rv:AV} {bs2:List Blk} (hE:LentE Try.prog 174 [] rv bs2 E) (ho:AllP [(decide ((i:Int)<(b.length:Int)))=true,0≤(i:Int)∧(i:Int)<(b.length:Int),((rowI b).drop (0+(Int.toNat (i:Int))*1)).take 1=[.int .i64 e],(e != 0)=false,InR .i64 ((i:Int)+1)])
 (hg:G Try.prog E (KD Try.prog) ⟨([.rsl (rowI b) 0 b.length,J,J,.int .i64 set]++jj 9 ([.rsl (rowI b) 0 b.length,.int .i64 (b.length:Int),.int .i64 ((i:Int)+1)]++Js 16)),[]⟩):G Try.prog E (KD Try.prog) (f174S0 b set i ) :=
 Ql (n:=400) (ds:=[]) (cs:=[]) (live:=[0,3,13,14,15]) (m:=0) (evs:=[.b true,.ld (.int .i64 e),.b false,.stop]) (obs:=_) hE.kind (hE.nogh0 _) Qo (by kernel_rfl) ho hg
theorem p174_0_2 (b:(List Int)) (set:Int) (i:Nat) {E:Env} {res:AV} {bs2:List Blk} (hE:LentE Try.prog 174 [] res bs2 E) (ho:AllP [(decide ((i:Int)<(b.length:Int)))=false])
 (hr:(.tup [.pm [.rsl (rowI b) 0 b.length] 0 0 0,.int .i64 set,.int .i64 0])=res) (hb:[⟨true,0,0,true,[],false⟩]=bs2):G Try.prog E (KD Try.prog) (f174S0 b set i ) :=
 QV (n:=400) (live:=[2,3,4]) (m:=1) (evs:=[.b false,.vn .nilFunc]) (obs:=_) hE (hE.nogh0 _) Try.func174 Qo (by kernel_rfl) ho hr hb
theorem f174W0 (b:(List Int)) (set:Int) (i:Nat) {E:Env} {res:AV} {bs2:List Blk} (hE:LentE Try.prog 174 [] res bs2 E)
 (h:(((i:Int)<(b.length:Int)→(∃ e:Int,b[i]?=some e∧((¬ (e=0)→((I6 ((1*2 ^ (Int.toNat (i:Int)):Int)))∧(((0:Int)≤(i:Int)∧(i:Int)≤((IntKind.bits .i64:Nat):Int))∧((I6 ((i:Int)+1))∧f174G0 E b (bits .or .i64 set (1*2 ^ (Int.toNat (i:Int)))) (i+1)))))∧(e=0→((I6 ((i:Int)+1))∧f174G0 E b set (i+1))))))∧(¬ ((i:Int)<(b.length:Int))→((.tup [.pm [.rsl (rowI b) 0 b.length] 0 0 0,.int .i64 set,.int .i64 0])=res∧[⟨true,0,0,true,[],false⟩]=bs2)))):f174G0 E b set i:=by
 rcases bft (decide ((i:Int)<(b.length:Int))) with hc0 | hc0
 · have h:=h.1 (odt hc0)
   obtain ⟨e,h1,h⟩:=h
   rcases bft (e != 0) with hc1 | hc1
   · have h:=h.1 (bneT hc1)
     obtain ⟨q5_2,h⟩:=h
     obtain ⟨q6_2,h⟩:=h
     obtain ⟨q7_2,h⟩:=h
     exact p174_0_0 b set i e hE ⟨hc0,(QF h1),(rp cI 1 0 1 h1),hc1,q5_2,q6_2,q7_2,trivial⟩ h
   · have h:=h.2 (bneF hc1)
     obtain ⟨q5_2,h⟩:=h
     exact p174_0_1 b set i e hE ⟨hc0,(QF h1),(rp cI 1 0 1 h1),hc1,q5_2,trivial⟩ h
 · have h:=h.2 (odf hc0)
   exact p174_0_2 b set i hE ⟨hc0,trivial⟩ h.1 h.2
theorem WX {b:List Int} (h:Xv b=0):balB b=true∧sumI b=0:=by
 unfold Xv at h
 split at h
 · cases h
 · rename_i h1
   split at h
   · rename_i h2; exact ⟨by simpa using h1,h2⟩
   · cases h
theorem bal_in {b:List Int} (h:balB b=true):b.length≤10∧∀ x ∈ b,-10000000000≤x∧x≤10000000000:=by
 have hb:=bal_of h
 exact ⟨by omega,hb.2⟩
theorem setB_in {b:List Int} (h:balB b=true):VE b ((setB b b.length:Nat):Int):=⟨_,rfl,qu,bal_in h⟩
theorem setB_tot {b:List Int} (h:sumI b=0):totN b (setB b b.length)=0:=by
 unfold totN
 rw [totP_setB (Nat.le_refl _),List.take_length]; exact h
theorem yZ (b:List Int) (h:b.length≤9223372036854775807) {res:AV} {bs2:List Blk} (h1:Xv b ≠ 0→(.tup [.nilPtr,.int .i64 0,.int .i64 (Xv b)])=res∧[]=bs2)
 (h2:Xv b=0→(.tup [.pm [.rsl (rowI b) 0 b.length] 0 0 0,.int .i64 ((setB b b.length:Nat):Int),.int .i64 0])=res∧[⟨true,0,0,true,[],false⟩]=bs2):Lent Try.prog 174 [.rsl (rowI b) 0 b.length] [] res bs2:=VH Try.func174 f174b fun E hE=>by
 refine f174W b hE ⟨h,fun e=>?_,fun e=>⟨?_,fun e2=>?_,fun e2=>?_⟩⟩
 · have e1:Xv b=1:=by rw [Xv,if_pos e]
   have:=h1 (by rw [e1]; omega)
   rw [e1] at this; exact this
 · exact sumOk_bal e
 · have e1:Xv b=110:=by rw [Xv,if_neg (by rw [e]; simp),if_neg e2]
   have:=h1 (by rw [e1]; omega)
   rw [e1] at this; exact this
 · have e1:Xv b=0:=by rw [Xv,if_neg (by rw [e]; simp),if_pos e2]
   have hr:=h2 e1
   have hb:=bal_of e
   have key:∀ (d i:Nat),i+d=b.length→f174G0 E b ((setB b i:Nat):Int) i:=by
    intro d
    induction d with
    | zero =>
     intro i hd
     have:i=b.length:=by omega
     subst this
     exact f174W0 b _ _ hE ⟨fun h=>by omega,fun _=>hr⟩
    | succ d ih =>
     intro i hd
     have hi:b[i]?=some b[i]:=List.getElem?_eq_getElem (by omega)
     have hd':b.getD i 0=b[i]:=by rw [List.getD,hi]; rfl
     have nx:=ih (i+1) (by omega)
     rw [setB,hd'] at nx
     have hp:2 ^ i≤2 ^ 9:=pow_le (by omega)
     have hp2:2 ^ i≤2 ^ 10:=pow_le (by omega)
     have hs:setB b i<2 ^ i:=qu
     refine f174W0 b _ _ hE ⟨fun _=>⟨b[i],hi,fun h0=>⟨?_,⟨by omega,by simp [IntKind.bits]; omega⟩,by omega,?_⟩,fun h0=>⟨by omega,?_⟩⟩,fun h=>by omega⟩
     · rw [pow_cast]; omega
     · rw [pow_cast,or_nat (by omega) (by omega)]
       rw [if_neg h0] at nx
       exact nx
     · rw [if_pos h0] at nx; exact nx
   exact key b.length 0 (by omega)
theorem parted_fine (b:List Int) (h:b.length≤9223372036854775807) (he:Xv b=0):Lent Try.prog 174 [.rsl (rowI b) 0 b.length] [] (.tup [.pm [.rsl (rowI b) 0 b.length] 0 0 0,.int .i64 ((setB b b.length:Nat):Int),.int .i64 0]) [⟨true,0,0,true,[],false⟩]:=yZ b h (fun h=>absurd he h) fun _=>⟨rfl,rfl⟩
theorem parted_err (b:List Int) (h:b.length≤9223372036854775807) (he:¬ Xv b=0):Lent Try.prog 174 [.rsl (rowI b) 0 b.length] [] (.tup [.nilPtr,.int .i64 0,.int .i64 (Xv b)]) []:=yZ b h (fun _=>⟨rfl,rfl⟩) fun h=>absurd h he
theorem settle_okI (b:List Int) (st:Int) (h:VE b st∧totN b (Int.toNat st)=0):Lent Try.prog 175 [.pm [.rsl (rowI b) 0 b.length] 0 0 0,.int .i64 st] [⟨true,0,0,true,[],false⟩]
 (.rsl (QE (XC b 1024 (Int.toNat st))) 0 (XC b 1024 (Int.toNat st)).length) [⟨true,0,0,true,QJ (YU b 1024 1024 (Int.toNat st) []),false⟩]:=by
 obtain ⟨⟨S,rfl,h2⟩,h3⟩:=h
 rw [Int.toNat_natCast] at h3 ⊢
 exact settle_ok b S ⟨S,rfl,h2⟩ h3
theorem f102b:Try.f102.body=some (Qd Try.prog 102):=by kernel_rfl
theorem u102 {a c k:List AV} {r:AV} (h:Pure Try.prog 102 (a++c++k) r):Qe Try.prog (.clos 102 a k) c r:=Qs Try.func102 (by kernel_rfl) f102b h
abbrev Qad (b:(List Int)):=XC b 1024 (Int.toNat ((setB b b.length:Nat):Int))
theorem p102_start_0 (b:(List Int)) {E:Env} {res:AV} (hE:Qg Try.prog 102 res E) (ho:AllP [Xf Try.prog (.clos 174 [] []) [.rsl (rowI b) 0 b.length] [] (.tup [.pm [.rsl (rowI b) 0 b.length] 0 0 0,.int .i64 ((setB b b.length:Nat):Int),.int .i64 0]) [⟨true,0,0,true,[],false⟩],false=false,Xf Try.prog (.clos 175 [] []) [.pm [.rsl (rowI b) 0 b.length] 0 0 0,.int .i64 ((setB b b.length:Nat):Int)] [⟨true,0,0,true,[],false⟩] (.rsl (QE (Qad b)) 0 ((Qad b).length)) [⟨true,0,0,true,(QJ (YU b 1024 1024 (Int.toNat ((setB b b.length:Nat):Int)) [])),false⟩]])
 (hr:AvLe (.tup [.rsl (QE (Qad b)) 0 ((Qad b).length),.int .i64 0]) res):G Try.prog E [.code (Qd Try.prog 102)] ⟨[.rsl (rowI b) 0 b.length]++unds (Try.f102.ntmps - 1),[]⟩ :=
 Qc (n:=400) (evs:=[.lent [] (.tup [.pm [.rsl (rowI b) 0 b.length] 0 0 0,.int .i64 ((setB b b.length:Nat):Int),.int .i64 0]) [⟨true,0,0,true,[],false⟩],.b false,.lent [0] (.rsl (QE (Qad b)) 0 ((Qad b).length)) [⟨true,0,0,true,(QJ (YU b 1024 1024 (Int.toNat ((setB b b.length:Nat):Int)) [])),false⟩]]) (obs:=_) hE Try.func102 Qo (by kernel_rfl) ho hr
theorem p102_start_1 (b:(List Int)) {E:Env} {res:AV} (hE:Qg Try.prog 102 res E) (ho:AllP [Xf Try.prog (.clos 174 [] []) [.rsl (rowI b) 0 b.length] [] (.tup [.nilPtr,.int .i64 0,.int .i64 (Xv b)]) [],((Xv b) != 0)=true])
 (hr:AvLe (.tup [.nilSl,.int .i64 (Xv b)]) res):G Try.prog E [.code (Qd Try.prog 102)] ⟨[.rsl (rowI b) 0 b.length]++unds (Try.f102.ntmps - 1),[]⟩ :=
 Qc (n:=400) (evs:=[.lent [] (.tup [.nilPtr,.int .i64 0,.int .i64 (Xv b)]) [],.b true]) (obs:=_) hE Try.func102 Qo (by kernel_rfl) ho hr
theorem f102W (b:(List Int)) {E:Env} {rv:((List Pay) × Int)} (hE:Qg Try.prog 102 (.tup [.rsl (QE rv.1) 0 rv.1.length,.int .i64 rv.2]) E)
 (h:((Xv b=0→((b.length≤9223372036854775807)∧((VE b ((setB b b.length:Nat):Int)∧totN b (Int.toNat ((setB b b.length:Nat):Int))=0)∧rv=((XC b 1024 (Int.toNat ((setB b b.length:Nat):Int))),0))))∧(¬ (Xv b=0)→((b.length≤9223372036854775807)∧((¬ ((Xv b)=0)→rv=(([]:List Pay),(Xv b)))∧((Xv b)=0→False)))))):G Try.prog E [.code (Qd Try.prog 102)] ⟨[.rsl (rowI b) 0 b.length]++unds (Try.f102.ntmps - 1),[]⟩:=by
 rcases bft (decide (Xv b=0)) with hc0 | hc0
 · have h:=h.1 (odt hc0)
   obtain ⟨h1,h⟩:=h
   obtain ⟨h2,h⟩:=h
   exact p102_start_0 b hE ⟨(Qw Try.func174 (by kernel_rfl) f174b (parted_fine b h1 (odt hc0))),rfl,(Qw Try.func175 (by kernel_rfl) f175b (settle_okI b ((setB b b.length:Nat):Int) h2)),trivial⟩ (AvLe.of_eq (by rw [h]; try rfl))
 · have h:=h.2 (odf hc0)
   obtain ⟨h1,h⟩:=h
   rcases bft ((Xv b) != 0) with hc1 | hc1
   · have h:=h.1 (bneT hc1)
     exact p102_start_1 b hE ⟨(Qw Try.func174 (by kernel_rfl) f174b (parted_err b h1 (odf hc0))),hc1,trivial⟩ (by rw [h]; exact (Vh ⟨Yd,⟨AvLe.of_eq rfl,trivial⟩⟩))
   · have h:=h.2 (bneF hc1)
     exact h.elim
theorem Wg (b:List Int) (h:b.length≤9223372036854775807):Pure Try.prog 102 [.rsl (rowI b) 0 b.length] (.tup [.rsl (QE (Qm b).1) 0 (Qm b).1.length,.int .i64 (Qm b).2]):=QC Try.func102 f102b fun E hE=>by
 refine f102W b (rv:=Qm b) hE ⟨fun e=>⟨h,⟨?_,?_⟩,?_⟩,fun e=>⟨h,fun _=>?_,fun h=>absurd h e⟩⟩
 · exact setB_in (WX e).1
 · rw [Int.toNat_natCast]; exact setB_tot (WX e).2
 · rw [Int.toNat_natCast,Qm,if_pos e]
 · rw [Qm,if_neg e]
theorem f103b:Try.f103.body=some (Qd Try.prog 103):=by kernel_rfl
theorem u103 {a c k:List AV} {r:AV} (h:Pure Try.prog 103 (a++c++k) r):Qe Try.prog (.clos 103 a k) c r:=Qs Try.func103 (by kernel_rfl) f103b h
theorem p103_start_0 (b:(List Int)) {E:Env} {res:AV} (hE:Qg Try.prog 103 res E) (ho:AllP [Qe Try.prog (.clos 102 [] []) [.rsl (rowI b) 0 b.length] (.tup [.rsl (QE ((Qm b).1)) 0 (((Qm b).1).length),.int .i64 ((Qm b).2)])])
 (hr:AvLe (.tup [.int .i64 ((((Qm b).1).length:Nat):Int),.int .i64 ((Qm b).2)]) res):G Try.prog E [.code (Qd Try.prog 103)] ⟨[.rsl (rowI b) 0 b.length]++unds (Try.f103.ntmps - 1),[]⟩ :=
 Qc (n:=400) (evs:=[.v (.tup [.rsl (QE ((Qm b).1)) 0 (((Qm b).1).length),.int .i64 ((Qm b).2)])]) (obs:=_) hE Try.func103 Qo (by kernel_rfl) ho hr
theorem f103W (b:(List Int)) {E:Env} {rv:(Int × Int)} (hE:Qg Try.prog 103 (.tup [.int .i64 rv.1,.int .i64 rv.2]) E)
 (h:((b.length≤9223372036854775807)∧rv=(((((Qm b).1).length:Nat):Int),(Qm b).2))):G Try.prog E [.code (Qd Try.prog 103)] ⟨[.rsl (rowI b) 0 b.length]++unds (Try.f103.ntmps - 1),[]⟩:=by
 obtain ⟨h1,h⟩:=h
 exact p103_start_0 b hE ⟨(u102 (Wg b h1)),trivial⟩ (AvLe.of_eq (by rw [h]; try rfl))
theorem qo (b:List Int) (h:b.length≤9223372036854775807):Pure Try.prog 103 [.rsl (rowI b) 0 b.length] (.tup [.int .i64 (fewK b).1,.int .i64 (fewK b).2]):=QC Try.func103 f103b fun E hE=>f103W b (rv:=fewK b) hE ⟨h,rfl⟩
end Go.Proofs.Ytemklbioijmjiaa
namespace Go.Proofs.Ytemklbioijmjiaa
open Go Ax
open Go.Proofs
/-! ### the members of a set -/
def memS (n S:Nat):List Nat:=(List.range n).filter fun i=>S.testBit i
def vB (b:List Int):Nat→Int:=fun i=>b.getD i 0
theorem Wo {n S i:Nat}:i ∈ memS n S ↔ i<n∧S.testBit i=true:=by
 unfold memS; rw [List.mem_filter,List.mem_range]
theorem Wa {L:List Nat} (h:L.Nodup) (P:Nat→Bool):(L.filter P).Nodup:=List.Pairwise.filter P h
theorem Kg {n:Nat}:memS n 0=[]:=List.filter_eq_nil_iff.2 fun i _=>by simp
theorem sm_app {v:Nat→Int} {a b:List Nat}:sm v (a++b)=sm v a+sm v b:=by unfold sm; rw [List.map_append,List.sum_append]
theorem totP_sm {b:List Int} {S:Nat}:∀ n,totP b S n=sm (vB b) (memS n S)
 | 0=>rfl
 | n+1=>by
  have ih:=totP_sm (b:=b) (S:=S) n
  unfold memS at ih ⊢
  rw [totP,List.range_succ,List.filter_append,sm_app,ih]
  cases hs:S.testBit n <;> simp [hs,sm,vB]
theorem totN_sm {b:List Int} {S:Nat}:totN b S=sm (vB b) (memS b.length S):=totP_sm _
theorem memS_filter {n S:Nat} {P:Nat→Bool}:(memS n S).filter P=memS n (ym n fun i=>S.testBit i && P i):=by
 unfold memS
 refine filt fun i hi=>?_
 rw [WZ,decide_eq_true (List.mem_range.1 hi),Bool.true_and]
theorem memS_part {n S x:Nat} (h:x &&& S=x):(memS n S).filter (fun i=>x.testBit i)=memS n x:=by
 unfold memS
 refine filt fun i _=>?_
 have:(x.testBit i && S.testBit i)=x.testBit i:=by rw [← Nat.testBit_and,h]
 rw [Bool.and_comm]; exact this
theorem Kh {n S x:Nat}:(memS n S).filter (fun i=>!x.testBit i)=memS n (without S x):=by
 unfold memS
 refine filt fun i _=>?_
 rw [Yb]
theorem part_ne {n S x:Nat} (h:x<2 ^ n) (h0:0<x):∃ i,i<n∧x.testBit i=true:=by
 apply Classical.byContradiction
 intro hc
 have:x=0:=Nat.eq_of_testBit_eq fun i=>by
  rw [Nat.zero_testBit]
  by_cases hi:i<n
  · cases hb:x.testBit i with
    | false=>rfl
    | true=>exact absurd ⟨i,hi,hb⟩ hc
  · exact Nat.testBit_lt_two_pow (Nat.lt_of_lt_of_le h (Nat.pow_le_pow_right (by omega) (by omega)))
 omega
/-- The program finds the greatest number of groups. -/
theorem most_is {b:List Int} (hl:b.length≤10):∀ (S:Nat),S<2 ^ b.length→totN b S=0→IsMost (vB b) (memS b.length S) (Int.toNat (Ya b S)):=by
 intro S
 induction S using Nat.strongRecOn with
 | ind S ih =>
  intro hS ht
  by_cases h0:S=0
  · subst h0
    rw [Kg]
    intro j
    exact ⟨fun h=>by have:=grp_nil h; omega,fun h=>by
     have:j=0:=by rw [qE] at h; simpa using h
     subst this; exact yD _ _⟩
  have hS2:=Wz hl hS
  have hin:∀ x ∈ Xa b S,x &&& S=x∧0<x∧totN b x=0∧without S x<S∧x≤S:=fun x hx=>by
   have hp:=XU hx
   have hw:=Xw hp.1
   exact ⟨hp.1,hp.2.1,hp.2.2.2,by omega,by omega⟩
  have IH:∀ x ∈ Xa b S,IsMost (vB b) (memS b.length (without S x)) (Int.toNat (Ya b (without S x))):=fun x hx=>by
   obtain ⟨a1,a2,a3,a4,a5⟩:=hin x hx
   exact ih _ a4 (by omega) (WG a1 ht a3)
  have hself:S ∈ Xa b S:=Kf (Nat.and_self S) (by omega) (lowP_self h0 hS2) ht
  obtain ⟨m1,m2,m3⟩:=yE (v:=fun x=>1+Ya b (without S x)) (l:=Xa b S) (a:=0)
  rw [← yC h0] at m1 m2 m3
  have mb:=fun x=>(Wn (b:=b) x).1
  have hs:sm (vB b) (memS b.length S)=0:=by rw [← totN_sm]; exact ht
  intro j
  constructor
  · intro hg
    cases j with
    | zero=>omega
    | succ j =>
     obtain ⟨i0,h1,h2,h3,h4⟩:=low_of h0 hS2
     have hi0:i0<b.length:=by
      apply Classical.byContradiction
      intro hn
      rw [Nat.testBit_lt_two_pow (Nat.lt_of_lt_of_le hS (Nat.pow_le_pow_right (by omega) (by omega)))] at h2
      cases h2
     obtain ⟨P,p1,p2,p3⟩:=grp_take hs (Wo.2 ⟨hi0,h2⟩) hg
     have hx1:(ym b.length fun i=>S.testBit i && P i) &&& S=ym b.length fun i=>S.testBit i && P i:=by
      refine Nat.eq_of_testBit_eq fun i=>?_
      rw [Nat.testBit_and,WZ]
      cases S.testBit i <;> simp
     rw [memS_filter,← totN_sm] at p2
     have hrest:(memS b.length S).filter (fun i=>!P i)=memS b.length (without S (ym b.length fun i=>S.testBit i && P i)):=by
      rw [← Kh]
      refine List.filter_congr fun i hi=>?_
      have:=Wo.1 hi
      rw [WZ,decide_eq_true this.1,this.2]; simp
     rw [hrest] at p3
     generalize hx:(ym b.length fun i=>S.testBit i && P i)=x at hx1 p2 p3
     have hxi:x.testBit i0=true:=by rw [← hx,WZ,decide_eq_true hi0,h2,p1]; rfl
     have hx0:0<x:=by
      rcases Nat.eq_zero_or_pos x with h | h
      · rw [h,Nat.zero_testBit] at hxi; cases hxi
      · exact h
     have hxS:=@Nat.and_le_right x S
     have hxp:x ∈ Xa b S:=Kf hx1 hx0 (by rw [lowP_iff hS2 (by omega) h1 h4]; exact hxi) p2
     have a:=(IH x hxp j).1 p3
     have c:=m2 x hxp
     have d:=mb (without S x)
     omega
  · intro hj
    refine Grp.le ?_ hj
    rcases m3 with m3 | ⟨x,hx,m3⟩
    · rw [m3]; exact yD _ _
    · obtain ⟨a1,a2,a3,a4,a5⟩:=hin x hx
      have g:=(IH x hx _).2 (Nat.le_refl _)
      have d:=mb (without S x)
      have e:Int.toNat (Ya b S)=Int.toNat (Ya b (without S x))+1:=by omega
      rw [e]
      rw [← Kh] at g
      obtain ⟨i,hi,hxi⟩:=part_ne (n:=b.length) (S:=S) (x:=x) (by omega) a2
      have hSi:S.testBit i=true:=by
       have:(x.testBit i && S.testBit i)=x.testBit i:=by rw [← Nat.testBit_and,a1]
       rw [hxi,Bool.true_and] at this; exact this
      exact grp_add (P:=fun i=>x.testBit i) ⟨i,Wo.2 ⟨hi,hSi⟩,hxi⟩ (by rw [memS_part a1,← totN_sm]; exact a3) g
/-! ### groups under other names -/
def Lab (v:Nat→Int) (L:List Nat) (k:Nat) (c:Nat→Nat):Prop:=∀ j,1≤j→j≤k→(∃ i ∈ L,c i=j)∧sm v (L.filter fun i=>c i == j)=0
theorem Grp.lab {v:Nat→Int} {L:List Nat} {k:Nat} (h:Grp v L k):∃ c,Lab v L k c:=h
def swp (a b x:Nat):Nat:=if x=a then b else if x=b then a else x
theorem WH {a b x:Nat}:swp a b (swp a b x)=x:=by
 unfold swp
 by_cases h1:x=a
 · subst h1
   by_cases h2:b=x
   · subst h2; simp
   · rw [if_pos rfl,if_neg h2,if_pos rfl]
 · rw [if_neg h1]
   by_cases h2:x=b
   · subst h2; rw [if_pos rfl,if_pos rfl]
   · rw [if_neg h2,if_neg h1,if_neg h2]
theorem QaO {a b x k:Nat} (ha:1≤a∧a≤k) (hb:1≤b∧b≤k) (hx:1≤x∧x≤k):1≤swp a b x∧swp a b x≤k:=by
 unfold swp; split
 · exact hb
 · split
   · exact ha
   · exact hx
theorem Lab.swap {v:Nat→Int} {L:List Nat} {k a b:Nat} {c:Nat→Nat} (h:Lab v L k c) (ha:1≤a∧a≤k) (hb:1≤b∧b≤k):Lab v L k fun i=>swp a b (c i):=by
 intro j h1 h2
 obtain ⟨⟨i,hi,hc⟩,hs⟩:=h (swp a b j) (QaO ha hb ⟨h1,h2⟩).1 (QaO ha hb ⟨h1,h2⟩).2
 refine ⟨⟨i,hi,by show swp a b (c i)=j; rw [hc]; exact WH⟩,?_⟩
 rw [← hs]
 congr 1
 refine List.filter_congr fun x _=>?_
 show (swp a b (c x) == j)=_
 by_cases he:c x=swp a b j
 · rw [he,WH]; simp
 · have:¬ swp a b (c x)=j:=fun h=>he (by rw [← h]; exact WH.symm)
   rw [beq_eq_false_iff_ne.2 he,beq_eq_false_iff_ne.2 this]
theorem Lab.le {v:Nat→Int} {L:List Nat} {k j:Nat} {c:Nat→Nat} (h:Lab v L k c) (hj:j≤k):Lab v L j c:=fun i a b=>h i a (by omega)
/-- One group is given up. -/
theorem Lab.drop {v:Nat→Int} {L:List Nat} {k a:Nat} {c:Nat→Nat} (h:Lab v L (k+1) c) (ha:1≤a∧a≤k+1):∃ c',Lab v L k c'∧∀ i,c i=a→c' i=k+1 :=
 ⟨_,(h.swap ha (b:=k+1) ⟨by omega,by omega⟩).le (by omega),fun i hi=>by show swp a (k+1) (c i)=k+1; rw [hi]; simp [swp]⟩
theorem sm_zero {v:Nat→Int}:∀ {L:List Nat},(∀ i ∈ L,v i=0)→sm v L=0
 | [],_=>rfl
 | i :: L,h=>by
  have:=sm_zero (v:=v) (L:=L) fun j hj=>h j (by simp [hj])
  unfold sm at *
  rw [List.map_cons,List.sum_cons,this,h i (by simp)]; rfl
theorem sm_cong {v w:Nat→Int}:∀ {L:List Nat},(∀ i ∈ L,v i=w i)→sm v L=sm w L
 | [],_=>rfl
 | i :: L,h=>by
  have:=sm_cong (v:=v) (w:=w) (L:=L) fun j hj=>h j (by simp [hj])
  unfold sm at *
  rw [List.map_cons,List.sum_cons,List.map_cons,List.sum_cons,this,h i (by simp)]
/-- One without a balance is left out. -/
theorem grp_out {v:Nat→Int} {L:List Nat} {i0 k:Nat} (hv:v i0=0) (h:Grp v L (k+1)):Grp v (L.filter fun i=>i != i0) k:=by
 obtain ⟨c,h⟩:=h.lab
 have same:∀ (d:Nat→Nat) (j:Nat),sm v ((L.filter fun i=>i != i0).filter fun i=>d i == j)=sm v (L.filter fun i=>d i == j):=fun d j=>by
  rw [Wk v (fun i=>i == i0) (L.filter fun i=>d i == j)]
  have e1:sm v ((L.filter fun i=>d i == j).filter fun i=>i == i0)=0:=sm_zero fun i hi=>by
   have:=(List.mem_filter.1 hi).2
   rw [eq_of_beq this]; exact hv
  rw [e1,Int.zero_add,filt (R:=fun i=>i != i0 && d i == j) (fun i _=>rfl),filt (R:=fun i=>i != i0 && d i == j) (fun i _=>by cases d i == j <;> cases h:i == i0 <;> simp [bne,h])]
 have keep:∀ (d:Nat→Nat) (j:Nat),(∃ i ∈ L,d i=j)→d i0 ≠ j→∃ i ∈ L.filter fun i=>i != i0,d i=j:=fun d j ⟨i,hi,hd⟩ hne =>
  ⟨i,List.mem_filter.2 ⟨hi,by simp; rintro rfl; exact hne hd⟩,hd⟩
 by_cases ha:1≤c i0∧c i0≤k+1
 · obtain ⟨c',hc',hk⟩:=h.drop ha
   have e0:=hk i0 rfl
   refine ⟨c',fun j h1 h2=>?_⟩
   obtain ⟨q1,q2⟩:=hc' j h1 h2
   exact ⟨keep c' j q1 (by omega),by rw [same]; exact q2⟩
 · refine ⟨c,fun j h1 h2=>?_⟩
   obtain ⟨q1,q2⟩:=h j h1 (by omega)
   exact ⟨keep c j q1 (by omega),by rw [same]; exact q2⟩
/-- All without a balance are left out. -/
theorem grp_outs {v:Nat→Int}:∀ (n:Nat) {L:List Nat} {k:Nat},L.Nodup→L.length≤n→Grp v L k→Grp v (L.filter fun i=>decide (v i ≠ 0)) (k - (L.length - (L.filter fun i=>decide (v i ≠ 0)).length))
 | n,L,k,hn,hl,h=>by
  by_cases hz:∃ i ∈ L,v i=0
  · obtain ⟨i,hi,hv⟩:=hz
    cases n with
    | zero =>
     have:L=[]:=List.eq_nil_of_length_eq_zero (by omega)
     subst this; simp at hi
    | succ n =>
     have hlen:(L.filter fun x=>x != i).length+1=L.length:=by
      have:=List.length_erase_of_mem hi
      rw [hn.erase_eq_filter] at this
      have h0:0<L.length:=List.length_pos_iff.2 fun e=>by subst e; simp at hi
      omega
     have e:(L.filter fun x=>x != i).filter (fun x=>decide (v x ≠ 0))=L.filter fun x=>decide (v x ≠ 0):=filt fun x _=>by
      by_cases hx:x=i
      · subst hx; simp [hv]
      · simp [hx]
     cases k with
     | zero=>rw [Nat.zero_sub]; exact yD _ _
     | succ k =>
      have ih:=grp_outs n (Wa hn _) (by omega) (grp_out hv h)
      rw [e] at ih
      refine ih.le ?_
      have:=List.length_filter_le (fun x=>decide (v x ≠ 0)) (L.filter fun x=>x != i)
      rw [e] at this
      omega
  · have e:L.filter (fun i=>decide (v i ≠ 0))=L:=List.filter_eq_self.2 fun i hi=>decide_eq_true fun h0=>hz ⟨i,hi,h0⟩
    rw [e,Nat.sub_self,Nat.sub_zero]; exact h
theorem Km (P:Nat→Bool):∀ L:List Nat,L.length=(L.filter P).length+(L.filter fun i=>!P i).length
 | []=>rfl
 | i :: L=>by
  have ih:=Km P L
  cases h:P i <;> simp [List.filter_cons,h] <;> omega
/-- Groups of people none of whom has 0 are of two at least. -/
theorem grp_two {v:Nat→Int}:∀ {k:Nat} {L:List Nat},(∀ i ∈ L,v i ≠ 0)→Grp v L k→2*k≤L.length
 | 0,L,_,_=>by omega
 | k+1,L,hv,h=>by
  obtain ⟨c,h⟩:=h
  obtain ⟨⟨i,hi,hc⟩,hs⟩:=h (k+1) (by omega) (by omega)
  have h2:2≤(L.filter fun i=>c i == k+1).length:=by
   have hm:i ∈ L.filter fun i=>c i == k+1:=List.mem_filter.2 ⟨hi,by simpa using hc⟩
   match hf:L.filter (fun i=>c i == k+1) with
   | []=>rw [hf] at hm; simp at hm
   | [x] =>
    rw [hf] at hs
    have hx:x ∈ L.filter fun i=>c i == k+1:=by rw [hf]; simp
    have:=hv x (List.mem_filter.1 hx).1
    unfold sm at hs
    simp at hs
    exact absurd hs this
   | x :: y :: r=>simp only [List.length_cons]; omega
  have hr:Grp v (L.filter fun i=>!(c i == k+1)) k:=⟨c,fun j h1 h2=>by
   obtain ⟨⟨x,hx,hcx⟩,hz⟩:=h j h1 (by omega)
   refine ⟨⟨x,List.mem_filter.2 ⟨hx,by simp; omega⟩,hcx⟩,?_⟩
   rw [← hz,filt (R:=fun i=>c i == j)]
   intro y _
   by_cases hy:c y=j
   · have:¬ c y=k+1:=by omega
     simp [hy]; omega
   · simp [hy]⟩
  have ih:=grp_two (fun i hi=>hv i (List.mem_filter.1 hi).1) hr
  have hlen:=Km (fun i=>c i == k+1) L
  omega
/-! ### payments -/
theorem sm_upd {v:Nat→Int} {a:Nat} {e:Int}:∀ {L:List Nat},L.Nodup→sm (fun i=>if i=a then v i+e else v i) L=sm v L+if a ∈ L then e else 0
 | [],_=>by simp [sm]
 | x :: L,h=>by
  obtain ⟨h1,h2⟩:=List.nodup_cons.1 h
  have ih:=sm_upd (v:=v) (a:=a) (e:=e) h2
  unfold sm at *
  rw [List.map_cons,List.sum_cons,List.map_cons,List.sum_cons,ih]
  by_cases hx:x=a
  · subst hx
    rw [if_pos rfl,if_neg h1,if_pos (by simp)]; omega
  · have:(a ∈ x :: L) ↔ a ∈ L:=by
     rw [List.mem_cons]
     exact ⟨fun h=>h.resolve_left fun e=>hx e.symm,.inr⟩
    rw [if_neg hx]
    by_cases ha:a ∈ L
    · rw [if_pos ha,if_pos (this.2 ha)]; omega
    · rw [if_neg ha,if_neg (fun h=>ha (this.1 h))]; omega
/-- A payment of c from one to the other costs one group at the most. -/
theorem grp_pay {v:Nat→Int} {L:List Nat} {p q:Nat} {c:Int} {k:Nat} (hL:L.Nodup) (hp:p ∈ L) (hq:q ∈ L) (hpq:p ≠ q)
 (h:Grp (fun i=>(if i=q then (if i=p then v i+c else v i)+(0 - c) else if i=p then v i+c else v i)) L (k+1)):Grp v L k:=by
 have hs:∀ (P:Nat→Bool),sm (fun i=>(if i=q then (if i=p then v i+c else v i)+(0 - c) else if i=p then v i+c else v i)) (L.filter P)=sm v (L.filter P)+(if P p=true then c else 0)+(if P q=true then 0 - c else 0):=fun P=>by
  rw [sm_upd (v:=fun i=>if i=p then v i+c else v i) (Wa hL _),sm_upd (Wa hL _)]
  have e1:(p ∈ L.filter P) ↔ P p=true:=by rw [List.mem_filter]; exact ⟨fun h=>h.2,fun h=>⟨hp,h⟩⟩
  have e2:(q ∈ L.filter P) ↔ P q=true:=by rw [List.mem_filter]; exact ⟨fun h=>h.2,fun h=>⟨hq,h⟩⟩
  simp only [e1,e2]
 obtain ⟨d,h⟩:=h.lab
 -- the group that one of them is in is given up
 have give:∀ (a:Nat),(1≤a∧a≤k+1)→(∀ j,1≤j→j≤k+1→j ≠ a→d p ≠ j∧d q ≠ j)→Grp v L k:=fun a ha hno=>by
  obtain ⟨d',h1,-⟩:∃ c',Lab _ L k c'∧∀ i,d i=a→c' i=k+1:=h.drop ha
  obtain ⟨d'',h2⟩:∃ c':Nat→Nat,c'=fun i=>swp a (k+1) (d i):=⟨_,rfl⟩
  refine ⟨d'',fun j j1 j2=>?_⟩
  obtain ⟨q1,q2⟩:=(h.swap ha (b:=k+1) ⟨by omega,by omega⟩) j j1 (by omega)
  rw [h2]
  refine ⟨q1,?_⟩
  have hne:∀ x,(x=p ∨ x=q)→(swp a (k+1) (d x) == j)=false:=fun x hx=>by
   refine beq_eq_false_iff_ne.2 fun he=>?_
   have hr:=QaO ha (⟨by omega,by omega⟩:1≤k+1∧k+1≤k+1) ⟨j1,by omega⟩
   have hdx:d x=swp a (k+1) j:=by rw [← he,WH]
   have hna:swp a (k+1) j ≠ a:=fun h=>by
    have:j=swp a (k+1) a:=by
     have e:=congrArg (swp a (k+1)) h
     rw [WH] at e; exact e
    rw [this] at j2
    simp only [swp,if_true] at j2
    omega
   have:=hno _ hr.1 hr.2 hna
   rcases hx with rfl | rfl
   · exact this.1 hdx
   · exact this.2 hdx
  rw [hs,hne p (.inl rfl),hne q (.inr rfl)] at q2
  simpa using q2
 by_cases hP:1≤d p∧d p≤k+1
 · by_cases hQ:1≤d q∧d q≤k+1
   · by_cases he:d p=d q
     · -- both in one group
       refine ⟨d,fun j j1 j2=>?_⟩
       obtain ⟨q1,q2⟩:=h j j1 (by omega)
       refine ⟨q1,?_⟩
       rw [hs,he] at q2
       cases hb:d q == j <;> rw [hb] at q2 <;> simp at q2 <;> omega
     · -- two groups become one
       have hsw:=h.swap hQ (b:=k+1) ⟨by omega,by omega⟩
       have hqk:swp (d q) (k+1) (d q)=k+1:=by simp [swp]
       have hpa:swp (d q) (k+1) (d p) ≠ k+1:=fun e=>he (by
        have:=congrArg (swp (d q) (k+1)) (e.trans hqk.symm)
        rw [WH,WH] at this; exact this)
       have hpr:=QaO hQ (⟨by omega,by omega⟩:1≤k+1∧k+1≤k+1) hP
       generalize hd2:(fun i=>swp (d q) (k+1) (d i))=d2 at hsw
       have e1:d2 q=k+1:=by rw [← hd2]; exact hqk
       have e2:d2 p ≠ k+1:=by rw [← hd2]; exact hpa
       have e3:1≤d2 p∧d2 p≤k+1:=by rw [← hd2]; exact hpr
       refine ⟨fun i=>if d2 i=k+1 then d2 p else d2 i,fun j j1 j2=>?_⟩
       obtain ⟨⟨i,hi,hc⟩,q2⟩:=hsw j j1 (by omega)
       refine ⟨⟨i,hi,by simp only; rw [if_neg (by omega)]; exact hc⟩,?_⟩
       rw [hs] at q2
       by_cases hj:j=d2 p
       · obtain ⟨-,q3⟩:=hsw (k+1) (by omega) (by omega)
         rw [hs,e1] at q3
         rw [show (d2 p == k+1)=false from beq_eq_false_iff_ne.2 e2] at q3
         rw [e1,← hj] at q2
         rw [show (k+1 == j)=false from beq_eq_false_iff_ne.2 (by omega)] at q2
         rw [Wk v (fun i=>d2 i == j),filt (R:=fun i=>d2 i == j),filt (R:=fun i=>d2 i == k+1)]
         · simp at q2 q3; omega
         · intro x _
           show ((if d2 x=k+1 then d2 p else d2 x) == j && !(d2 x == j))=(d2 x == k+1)
           by_cases hx:d2 x=k+1
           · rw [if_pos hx,hx,← hj,show (k+1 == j)=false from beq_eq_false_iff_ne.2 (by omega)]; simp
           · rw [if_neg hx,beq_eq_false_iff_ne.2 hx]; simp
         · intro x _
           show ((if d2 x=k+1 then d2 p else d2 x) == j && (d2 x == j))=(d2 x == j)
           by_cases hx:d2 x=k+1
           · rw [if_pos hx,hx,show (k+1 == j)=false from beq_eq_false_iff_ne.2 (by omega)]; simp
           · rw [if_neg hx]; simp
       · rw [e1,show (k+1 == j)=false from beq_eq_false_iff_ne.2 (by omega),show (d2 p == j)=false from beq_eq_false_iff_ne.2 (fun h=>hj h.symm)] at q2
         have:L.filter (fun i=>(if d2 i=k+1 then d2 p else d2 i) == j)=L.filter fun i=>d2 i == j:=List.filter_congr fun x _=>by
          by_cases hx:d2 x=k+1
          · rw [if_pos hx,hx,show (k+1 == j)=false from beq_eq_false_iff_ne.2 (by omega)]
            exact beq_eq_false_iff_ne.2 fun h=>hj h.symm
          · rw [if_neg hx]
         rw [this]
         simpa using q2
   · exact give (d p) hP fun j j1 j2 hj=>⟨fun h=>hj h.symm,fun h=>hQ (by omega)⟩
 · by_cases hQ:1≤d q∧d q≤k+1
   · exact give (d q) hQ fun j j1 j2 hj=>⟨fun h=>hP (by omega),fun h=>hj h.symm⟩
   · exact give (k+1) ⟨by omega,by omega⟩ fun j j1 j2 hj=>⟨fun h=>hP (by omega),fun h=>hQ (by omega)⟩
end Go.Proofs.Ytemklbioijmjiaa
namespace Go.Proofs.Ytemklbioijmjiaa
open Go Ax
open Go.Proofs
theorem Qce {l:List Int} {a i:Nat} {e:Int} (h:a<l.length):(l.set a e).getD i 0=if i=a then e else l.getD i 0:=by
 by_cases hi:i=a
 · subst hi; rw [if_pos rfl,List.getD,List.getElem?_set_self h]; rfl
 · rw [if_neg hi,List.getD,List.getElem?_set_ne (fun h=>hi h.symm)]; rfl
theorem payDo_len {v:List Int} {x:Pay}:(QaX v x).length=v.length:=by unfold QaX; simp
theorem qB {n:Int}:∀ {a b:List Pay} {v:List Int},Yi n (a++b) v=(Yi n a v).bind (Yi n b)
 | [],b,v=>rfl
 | x :: a,b,v=>by
  rw [List.cons_append,Yi,Yi]
  split
  · exact qB
  · rfl
theorem payOk_of {n:Int} {x:Pay} (h:yX n x=true):(0≤x.frm∧x.frm≤n - 1)∧(0≤x.to∧x.to≤n - 1)∧x.frm ≠ x.to∧1≤x.c∧x.c≤100000000000:=by
 simp only [yX,Bool.and_eq_true,Bool.not_eq_true',decide_eq_false_iff_not] at h
 obtain ⟨h1,h2,h3,h4⟩:=h
 exact ⟨QU.1 h1,QU.1 h2,h3,QU.1 h4⟩
theorem of_payOk {n:Int} {x:Pay} (h1:0≤x.frm∧x.frm≤n - 1) (h2:0≤x.to∧x.to≤n - 1) (h3:x.frm ≠ x.to) (h4:1≤x.c∧x.c≤100000000000):yX n x=true:=by
 simp only [yX,Bool.and_eq_true,Bool.not_eq_true',decide_eq_false_iff_not]
 exact ⟨QU.2 h1,QU.2 h2,h3,QU.2 h4⟩
theorem yY {v:List Int} {x:Pay} (h1:Int.toNat x.frm<v.length) (h2:Int.toNat x.to<v.length) (i:Nat):(QaX v x).getD i 0 =
 if i=Int.toNat x.to then (if Int.toNat x.to=Int.toNat x.frm then v.getD (Int.toNat x.frm) 0+x.c else v.getD (Int.toNat x.to) 0) - x.c else if i=Int.toNat x.frm then v.getD (Int.toNat x.frm) 0+x.c else v.getD i 0:=by
 unfold QaX
 rw [Qce (by simpa using h2),Qce h1,Qce h1]
theorem Grp.cong {v w:Nat→Int} {L:List Nat} {k:Nat} (h:∀ i ∈ L,v i=w i) (hg:Grp v L k):Grp w L k:=by
 obtain ⟨c,hg⟩:=hg
 refine ⟨c,fun j h1 h2=>⟨(hg j h1 h2).1,?_⟩⟩
 rw [← (hg j h1 h2).2]
 exact (sm_cong fun i hi=>h i (List.mem_filter.1 hi).1).symm
/-- Payments that settle: there are groups. -/
theorem pay_grp:∀ {l:List Pay} {b v:List Int},Yi (b.length:Int) l b=some v→(∀ i,i<b.length→v.getD i 0=0)→Grp (vB b) (List.range b.length) (b.length - l.length)
 | [],b,v,h,hz=>by
  simp only [Yi,Option.some.injEq] at h
  subst h
  refine ⟨fun i=>i+1,fun j h1 h2=>⟨⟨j - 1,List.mem_range.2 (by simp at h2; omega),by show j - 1+1=j; omega⟩,sm_zero fun i hi=>hz i (List.mem_range.1 (List.mem_filter.1 hi).1)⟩⟩
 | x :: l,b,v,h,hz=>by
  rw [Yi] at h
  split at h
  · rename_i hp
    obtain ⟨h1,h2,h3,h4⟩:=payOk_of hp
    have hl:(QaX b x).length=b.length:=payDo_len
    have ih:=pay_grp (l:=l) (b:=QaX b x) (v:=v) (by rw [hl]; exact h) (by rw [hl]; exact hz)
    rw [hl] at ih
    cases hk:b.length - l.length with
    | zero=>rw [List.length_cons,show b.length - (l.length+1)=0 by omega]; exact yD _ _
    | succ k =>
     rw [hk] at ih
     rw [List.length_cons,show b.length - (l.length+1)=k by omega]
     refine grp_pay (p:=Int.toNat x.frm) (q:=Int.toNat x.to) (c:=x.c) List.nodup_range (List.mem_range.2 (by omega)) (List.mem_range.2 (by omega)) (by omega) (ih.cong fun i hi=>?_)
     unfold vB
     rw [yY (by omega) (by omega),if_neg (show ¬ Int.toNat x.to=Int.toNat x.frm by omega)]
     by_cases e1:i=Int.toNat x.to
     · rw [if_pos e1,if_pos e1,if_neg (by omega),e1]; omega
     · rw [if_neg e1,if_neg e1]
       by_cases e2:i=Int.toNat x.frm
       · rw [if_pos e2,if_pos e2,e2]
       · rw [if_neg e2,if_neg e2]
  · cases h
def Qcp (b:List Int):Nat:=(memS b.length (setB b b.length)).length
theorem memS_setB {b:List Int}:memS b.length (setB b b.length)=(List.range b.length).filter fun i=>decide (vB b i ≠ 0):=by
 unfold memS
 refine List.filter_congr fun i hi=>?_
 rw [Wl,decide_eq_true (List.mem_range.1 hi),Bool.true_and]; rfl
/-- Payments that settle are at least so many. -/
theorem pay_least {b:List Int} {l:List Pay} {v:List Int} (hl:b.length≤10) (ht:totN b (setB b b.length)=0) (h:Yi (b.length:Int) l b=some v) (hz:∀ i,i<b.length→v.getD i 0=0):Qcp b≤l.length+Int.toNat (Ya b (setB b b.length)):=by
 have h1:=grp_outs (List.range b.length).length List.nodup_range (Nat.le_refl _) (pay_grp h hz)
 have h2:=most_is hl (setB b b.length) qu ht
 rw [memS_setB] at h2
 have h3:=(h2 _).1 h1
 have h4:((List.range b.length).filter fun i=>decide (vB b i ≠ 0)).length≤(List.range b.length).length:=List.length_filter_le _ _
 rw [List.length_range] at h3 h4
 unfold Qcp
 rw [memS_setB]
 omega
/-! ### chains -/
theorem yL {b:List Int} {S:Nat}:∀ {i:Nat},(∀ j,j<i→S.testBit j=false)→totP b S i=0
 | 0,_=>rfl
 | i+1,h=>by rw [totP,yL fun j hj=>h j (by omega),h i (by omega)]; simp
theorem QaH {b v:List Int} {S:Nat} (hl:b.length≤10) (hb:∀ x ∈ b,-10000000000≤x∧x≤10000000000) (hv:v.length=b.length) (hag:∀ j,j<b.length→S.testBit j=true→v.getD j 0=b.getD j 0) :
 ∀ i,i≤b.length→∃ v',Yi (b.length:Int) (chP b S i).2.2 v=some v'∧v'.length=b.length ∧
  (∀ j,j<b.length→v'.getD j 0=if j<i∧S.testBit j=true then (if (j:Int)=(chP b S i).2.1 then totP b S i else 0) else v.getD j 0) ∧
  (((chP b S i).2.1=-1∧∀ j,j<i→S.testBit j=false) ∨ ∃ k,k<i∧S.testBit k=true∧(chP b S i).2.1=(k:Int))
 | 0,_=>⟨v,rfl,hv,fun j _=>by rw [if_neg (by omega)],.inl ⟨rfl,fun j hj=>by omega⟩⟩
 | i+1,hi=>by
  obtain ⟨v',p1,p2,p3,p4⟩:=QaH hl hb hv hag i (by omega)
  have hg:b[i]?=some b[i]:=List.getElem?_eq_getElem (by omega)
  have hgd:b.getD i 0=b[i]:=by rw [List.getD,hg]; rfl
  rw [Qcm hg]
  have hd:=Qco (b:=b) (S:=S) i (by omega)
  have hbd:=yM (S:=S) hb i (by omega)
  cases ht:S.testBit i with
  | false =>
   rw [yg,if_neg (by rw [ht]; simp)]
   refine ⟨v',p1,p2,fun j hj=>?_,?_⟩
   · rw [p3 j hj]
     have e:totP b S (i+1)=totP b S i:=by rw [totP,ht]; simp
     rw [e]
     by_cases hj2:j=i
     · subst hj2; rw [if_neg (by omega),if_neg (by rw [ht]; simp)]
     · by_cases hc:j<i∧S.testBit j=true
       · rw [if_pos hc,if_pos (show j<i+1∧S.testBit j=true from ⟨by omega,hc.2⟩)]
       · rw [if_neg hc,if_neg (fun h=>hc ⟨by omega,h.2⟩)]
   · rcases p4 with ⟨q1,q2⟩ | ⟨k,q1,q2,q3⟩
     · exact .inl ⟨q1,fun j hj=>by
        by_cases hj2:j=i
        · subst hj2; exact ht
        · exact q2 j (by omega)⟩
     · exact .inr ⟨k,by omega,q2,q3⟩
  | true =>
   rw [yg,if_pos ht]
   have et:totP b S (i+1)=totP b S i+b[i]:=by rw [WR hg,ht]; simp
   have vi:v'.getD i 0=b[i]:=by rw [p3 i (by omega),if_neg (by omega),hag i (by omega) ht,hgd]
   simp only
   rw [et]
   by_cases h0:totP b S i=0
   · rw [hd,h0,if_neg (by omega),if_neg (by omega)]
     refine ⟨v',p1,p2,fun j hj=>?_,.inr ⟨i,by omega,ht,rfl⟩⟩
     rw [p3 j hj,h0]
     by_cases hj2:j=i
     · subst hj2; rw [if_neg (by omega),if_pos ⟨by omega,ht⟩,if_pos rfl,hag j hj ht,hgd]; omega
     · by_cases hc:j<i∧S.testBit j=true
       · rw [if_pos hc,if_pos (show j<i+1∧S.testBit j=true from ⟨by omega,hc.2⟩),if_neg (show ¬ (j:Int)=(i:Int) by omega)]; split <;> rfl
       · rw [if_neg hc,if_neg (fun h=>hc ⟨by omega,h.2⟩)]
   · obtain ⟨k,k1,k2,k3⟩:∃ k,k<i∧S.testBit k=true∧(chP b S i).2.1=(k:Int):=by
      rcases p4 with ⟨q1,q2⟩ | q
      · exact absurd (yL q2) h0
      · exact q
     have vk:v'.getD k 0=totP b S i:=by rw [p3 k (by omega),if_pos ⟨k1,k2⟩,if_pos k3.symm]
     have fin:∀ (x:Pay),yX (b.length:Int) x=true→(∀ j,j<b.length→(QaX v' x).getD j 0=if j=i then totP b S i+b[i] else if j=k then 0 else v'.getD j 0) →
      ∃ v'',Yi (b.length:Int) ((chP b S i).2.2++[x]) v=some v''∧v''.length=b.length ∧
       (∀ j,j<b.length→v''.getD j 0=if j<i+1∧S.testBit j=true then (if (j:Int)=(i:Int) then totP b S i+b[i] else 0) else v.getD j 0) ∧
       (((i:Int)=-1∧∀ j,j<i+1→S.testBit j=false) ∨ ∃ k,k<i+1∧S.testBit k=true∧(i:Int)=(k:Int)):=fun x hx hd2=>by
      refine ⟨QaX v' x,by rw [qB,p1]; show Yi _ [x] v'=_; rw [Yi,if_pos hx]; rfl,by rw [payDo_len,p2],fun j hj=>?_,.inr ⟨i,by omega,ht,rfl⟩⟩
      rw [hd2 j hj]
      by_cases hj2:j=i
      · subst hj2; rw [if_pos rfl,if_pos ⟨by omega,ht⟩,if_pos rfl]
      · rw [if_neg hj2]
        by_cases hj3:j=k
        · subst hj3; rw [if_pos rfl,if_pos ⟨by omega,k2⟩,if_neg (by omega)]
        · rw [if_neg hj3,p3 j hj]
          by_cases hc:j<i∧S.testBit j=true
          · rw [if_pos hc,if_pos (show j<i+1∧S.testBit j=true from ⟨by omega,hc.2⟩),if_neg (by omega),if_neg (by omega)]
          · rw [if_neg hc,if_neg (fun h=>hc ⟨by omega,h.2⟩)]
     rw [hd,k3]
     by_cases hneg:totP b S i<0
     · rw [if_pos hneg]
       refine fin ⟨(k:Int),(i:Int),0 - totP b S i⟩ (of_payOk ⟨by simp,by simp only; omega⟩ ⟨by simp,by simp only; omega⟩ (by simp only; omega) ⟨by simp only; omega,by simp only; omega⟩) fun j hj=>?_
       rw [yY (by simp only [Int.toNat_natCast]; omega) (by simp only [Int.toNat_natCast]; omega)]
       simp only [Int.toNat_natCast]
       rw [if_neg (show ¬ i=k by omega),vi,vk]
       by_cases e1:j=i
       · rw [if_pos e1,if_pos e1]; omega
       · rw [if_neg e1,if_neg e1]
         by_cases e2:j=k
         · rw [if_pos e2,if_pos e2]; omega
         · rw [if_neg e2,if_neg e2]
     · rw [if_neg hneg,if_pos (by omega)]
       refine fin ⟨(i:Int),(k:Int),totP b S i⟩ (of_payOk ⟨by simp,by simp only; omega⟩ ⟨by simp,by simp only; omega⟩ (by simp only; omega) ⟨by simp only; omega,by simp only; omega⟩) fun j hj=>?_
       rw [yY (by simp only [Int.toNat_natCast]; omega) (by simp only [Int.toNat_natCast]; omega)]
       simp only [Int.toNat_natCast]
       rw [if_neg (show ¬ k=i by omega),vi,vk]
       by_cases e1:j=i
       · rw [if_neg (by omega),if_pos e1,if_pos e1]; omega
       · rw [if_neg e1]
         by_cases e2:j=k
         · rw [if_pos e2,if_pos e2]; omega
         · rw [if_neg e2,if_neg e1,if_neg e2]
theorem KL {b:List Int} {S:Nat}:∀ i,i≤b.length→(chP b S i).2.2.length≤(memS i S).length - 1
 | 0,_=>by simp [chP]
 | i+1,hi=>by
  have ih:=KL (b:=b) (S:=S) i (by omega)
  have hg:b[i]?=some b[i]:=List.getElem?_eq_getElem (by omega)
  have hd:=Qco (b:=b) (S:=S) i (by omega)
  rw [Qcm hg,yg]
  have hm:memS (i+1) S=memS i S++if S.testBit i=true then [i] else []:=by
   unfold memS
   rw [List.range_succ,List.filter_append]
   cases h:S.testBit i <;> simp [h]
  rw [hm,List.length_append]
  split
  · rename_i ht
    have hpos:totP b S i ≠ 0→1≤(memS i S).length:=fun h=>by
     rcases Nat.eq_zero_or_pos (memS i S).length with h0 | h0
     · refine absurd ?_ h
       have:memS i S=[]:=List.eq_nil_of_length_eq_zero h0
       exact yL fun j hj=>by
        cases hb:S.testBit j with
        | false=>rfl
        | true=>have:=Wo.2 ⟨hj,hb⟩; rw [‹memS i S=[]›] at this; simp at this
     · exact h0
    simp only
    rw [hd]
    split
    · rename_i h; have:=hpos (by omega); simp; omega
    · split
      · rename_i h; have:=hpos (by omega); simp; omega
      · simp; omega
  · simp; omega
/-- Settle's payments for a set. -/
theorem Qag {b:List Int}:∀ {n S:Nat} {v:List Int},S<n→VE b (S:Int)→totN b S=0→v.length=b.length→(∀ j,j<b.length→S.testBit j=true→v.getD j 0=b.getD j 0) →
 (∃ v',Yi (b.length:Int) (XC b n S) v=some v'∧v'.length=b.length∧∀ j,j<b.length→v'.getD j 0=if S.testBit j=true then 0 else v.getD j 0)∧(XC b n S).length+Int.toNat (Ya b S)≤(memS b.length S).length
 | 0,S,v,h,_,_,_,_=>by omega
 | n+1,S,v,h,hin,ht,hv,hag=>by
  rw [XC]
  by_cases h0:S=0
  · subst h0
    rw [if_pos rfl]
    exact ⟨⟨v,rfl,hv,fun j _=>by simp⟩,by simp [qE,Kg]⟩
  rw [if_neg h0]
  obtain ⟨x,x1,x2,x3⟩:=yV hin h0 ht
  rw [x1]
  simp only
  have hp:=XU x2
  have hw:=Xw hp.1
  obtain ⟨x',y1,y2,y3,y4⟩:=part_in hin x2
  have:x=x':=by omega
  subst this
  have bit:∀ j,x.testBit j=true→S.testBit j=true:=fun j hj=>by
   have:(x.testBit j && S.testBit j)=x.testBit j:=by rw [← Nat.testBit_and,hp.1]
   rw [hj,Bool.true_and] at this; exact this
  obtain ⟨v1,q1,q2,q3,q4⟩:=QaH (S:=x) y3 y4 hv (fun j hj hb=>hag j hj (bit j hb)) b.length (Nat.le_refl _)
  have hx0:totP b x b.length=0:=hp.2.2.2
  have q5:∀ j,j<b.length→v1.getD j 0=if x.testBit j=true then 0 else v.getD j 0:=fun j hj=>by
   rw [q3 j hj,hx0]
   by_cases hb:x.testBit j=true
   · rw [if_pos ⟨hj,hb⟩,if_pos hb]; split <;> rfl
   · rw [if_neg (fun h=>hb h.2),if_neg hb]
  obtain ⟨⟨v2,r1,r2,r3⟩,r4⟩:=Qag (b:=b) (n:=n) (S:=without S x) (v:=v1) (by omega) (Wi hin) (WG hp.1 ht hp.2.2.2) q2 (fun j hj hb=>by
   rw [Yb,Bool.and_eq_true,Bool.not_eq_true'] at hb
   rw [q5 j hj,if_neg (by rw [hb.2]; simp)]; exact hag j hj hb.1)
  refine ⟨⟨v2,?_,r2,fun j hj=>?_⟩,?_⟩
  · show Yi _ ((chP b x b.length).2.2++_) v=_
    rw [qB,q1]; exact r1
  · rw [r3 j hj,q5 j hj,Yb]
    cases hx:x.testBit j with
    | true=>rw [bit j hx]; simp
    | false=>simp
  · have c1:=KL (b:=b) (S:=x) b.length (Nat.le_refl _)
    have c2:=Km (fun i=>x.testBit i) (memS b.length S)
    rw [memS_part hp.1,Kh] at c2
    obtain ⟨i,i1,i2⟩:=part_ne (S:=S) y2 hp.2.1
    have c3:1≤(memS b.length x).length:=List.length_pos_iff.2 fun e=>by
     have:=Wo.2 ⟨i1,i2⟩
     rw [e] at this; simp at this
    have c4:=(Wn (b:=b) (without S x)).1
    rw [List.length_append]
    show (chP b x b.length).2.2.length+_+_≤_
    omega
end Go.Proofs.Ytemklbioijmjiaa
namespace Go.Proofs.Ytemklbioijmjiaa
open Go Ax
open Go.Proofs
/-! ### people by their places -/
/-! ### one after the other -/
def dF (l:List Int):Nat→Nat→Nat
 | 0,_=>0
 | f+1,S=>if S=0 then 0 else ((memS l.length S).foldl (fun a i=>Nat.max a (dF l f (S - 2 ^ i))) 0)+(if totN l S=0 then 1 else 0)
def dN (l:List Int) (S:Nat):Nat:=dF l (S+1) S
/-! ### how many payments -/
theorem few_of {b:List Int} (he:Xv b=0):(XC b 1024 (setB b b.length)).length+Int.toNat (Ya b (setB b b.length))=Qcp b∧2*Int.toNat (Ya b (setB b b.length))≤Qcp b∧(1≤Qcp b→1≤Int.toNat (Ya b (setB b b.length))) ∧
 ∃ v,Yi (b.length:Int) (XC b 1024 (setB b b.length)) b=some v∧v.length=b.length∧∀ j,j<b.length→v.getD j 0=0:=by
 obtain ⟨h1,h2⟩:=WX he
 have hin:=setB_in h1
 have ht:=setB_tot h2
 have hl:=(bal_in h1).1
 have hS:setB b b.length<1024:=Wz hl qu
 obtain ⟨⟨v,q1,q2,q3⟩,q4⟩:=Qag (n:=1024) hS hin ht rfl (fun j _ _=>rfl)
 have hz:∀ j,j<b.length→v.getD j 0=0:=fun j hj=>by
  rw [q3 j hj]
  split
  · rfl
  · rename_i h
    rw [Wl,decide_eq_true hj,Bool.true_and] at h
    simpa using h
 have lo:=pay_least hl ht q1 hz
 have hm:=most_is hl (setB b b.length) qu ht
 have hg:=(hm _).2 (Nat.le_refl _)
 have hv:∀ i ∈ memS b.length (setB b b.length),vB b i ≠ 0:=fun i hi=>by
  have:=(Wo.1 hi).2
  rw [Wl,Bool.and_eq_true] at this
  exact of_decide_eq_true this.2
 refine ⟨by unfold Qcp at *; omega,grp_two hv hg,fun hc=>?_,v,q1,q2,hz⟩
 have hS0:setB b b.length ≠ 0:=fun e=>by
  unfold Qcp at hc
  rw [e,Kg] at hc
  simp at hc
 obtain ⟨x,x1,x2,x3⟩:=yV hin hS0 ht
 have:=(Wn (b:=b) (without (setB b b.length) x)).1
 omega
end Go.Proofs.Ytemklbioijmjiaa
namespace Go.Proofs.Ytemklbioijmjiaa
open Go Ax
open Go.Proofs
theorem memS_succ {S i:Nat}:memS (i+1) S=memS i S++if S.testBit i=true then [i] else []:=by
 unfold memS
 rw [List.range_succ,List.filter_append]
 cases h:S.testBit i <;> simp [h]
/-- The table: what lies before a set is right,behind it is 0. -/
structure TabOk (l:List Int) (v:List Int) (S:Nat) (x:Nat):Prop where
 len:v.length=2 ^ l.length
 lo:∀ s,s<S→v[s]?=some ((dN l s:Nat):Int)
 at_:S<2 ^ l.length→v[S]?=some (x:Int)
 hi:∀ s,S<s→s<2 ^ l.length→v[s]?=some 0
theorem TabOk.set {l v:List Int} {S x y:Nat} (h:TabOk l v S x) (hS:S<2 ^ l.length):TabOk l (v.set S (y:Int)) S y:=by
 have hl:=h.len
 refine ⟨by rw [List.length_set]; exact hl,fun s hs=>?_,fun _=>List.getElem?_set_self (by omega),fun s hs h2=>?_⟩
 · rw [List.getElem?_set_ne (by omega)]; exact h.lo s hs
 · rw [List.getElem?_set_ne (by omega)]; exact h.hi s hs h2
end Go.Proofs.Ytemklbioijmjiaa
namespace Go.Proofs.Ytemklbioijmjiaa
open Go Ax
open Go.Proofs
theorem payK_of {b:List Int} {l:List Pay} {v:List Int} (hb:balB b=true) (hl:l.length≤60) (h:Yi (b.length:Int) l b=some v):payK b l=(v,0):=by
 rw [payK,if_neg (by rw [hb]; simp),if_neg (by omega),h]; rfl
theorem cardB_le {b:List Int}:Qcp b≤b.length:=by
 have:=List.length_filter_le (fun i=>(setB b b.length).testBit i) (List.range b.length)
 rw [List.length_range] at this
 exact this
/-- So many of the first ones are not 0. -/
def opnN (b:List Int) (i:Nat):Nat:=(memS i (setB b b.length)).length
theorem opnN_step {b:List Int} {i:Nat} {e:Int} (h:b[i]?=some e):opnN b (i+1)=if e=0 then opnN b i else opnN b i+1:=by
 have hi:=(List.getElem?_eq_some_iff.1 h).1
 unfold opnN
 rw [memS_succ,Wl,decide_eq_true hi,Bool.true_and,List.getD,h]
 by_cases h0:e=0
 · rw [if_pos h0]; simp [h0]
 · rw [if_neg h0]; simp [h0]
theorem opnN_le {b:List Int} {i:Nat}:opnN b i≤i:=by
 have:=List.length_filter_le (fun x=>(setB b b.length).testBit x) (List.range i)
 rw [List.length_range] at this
 exact this
end Go.Proofs.Ytemklbioijmjiaa