/- A part of the proof: several texts, one behind the other. -/
import Derived.Test.YtemklbioijmjiaaLTopDefectsC
set_option linter.unusedVariables false
set_option linter.unusedSimpArgs false
set_option maxRecDepth 100000
namespace Go.Proofs.Ytemklbioijmjiaa
open Go Ax
open Go.Proofs
structure Rul where
 ride:Int
 every:Int
 rank:Int
 two:Bool
def cRul (t:Rul):List AV:=[.int .i64 t.ride,.int .i64 t.every,.int .i64 t.rank,.bool t.two]
def Qg (l:List Rul):List AV:=l.flatMap cRul
structure Bok where
 rules:List Rul
 ranks:List Int
 insured:List Int
structure Ent where
 day:Int
 kind:Int
 a:Int
 b:Int
 c:Int
def cEnt (t:Ent):List AV:=[.int .i64 t.day,.int .i64 t.kind,.int .i64 t.a,.int .i64 t.b,.int .i64 t.c]
def Qc (l:List Ent):List AV:=l.flatMap cEnt
structure Lgb where
 k:Bok
 es:List Ent
def e0:Ent:=⟨0,0,0,0,0⟩
def r0:Rul:=⟨0,0,0,false⟩
structure BokSmall (k:Bok):Prop where
 rules:k.rules.length≤1000
 ranks:k.ranks.length≤1000
 insured:k.insured.length≤1000
structure LogSmall (l:Lgb):Prop where
 k:BokSmall l.k
 es:l.es.length≤1000
/-! ### Which books and entries are right -/
def badR (k:Bok) (r:Rul):Bool:=!(Qa r.ride 0 ((k.insured.length:Int) - 1)) || (!(Qa r.every 1 10000) || !(Qa r.rank 0 9))
def Vy (k:Bok):Bool:=decide (k.rules.length≤20) && (decide (k.ranks.length≤8) && (decide (k.insured.length≤10) && (!(k.rules.any (badR k)) && (!(k.ranks.any fun n=>!(Qa n 0 9)) && !(k.insured.any fun n=>!(Qa n 0 10000))))))
def Vl (k:Bok):Int:=if Vy k=true then 0 else 100
def QJ (k:Bok) (n:Int):Bool:=Qa n 0 ((k.insured.length:Int) - 1)
def Xu (k:Bok) (n:Int):Bool:=Qa n 0 ((k.ranks.length:Int) - 1)
def Ke (k:Bok) (r:Int):Rul:=k.rules.getD r.toNat r0
def mayB (k:Bok) (r n:Int):Bool:=Xu k n && decide (k.ranks.getD n.toNat 0≥(Ke k r).rank)
def qr (k:Bok) (r a b:Int):Bool:=if (Ke k r).two=false then mayB k r a && (b == -1) else mayB k r a && (mayB k r b && (a != b))
def Xr (n:Int) (x:Ent):Bool:=(x.kind == 3) && (x.a == n)
def Xt (es:List Ent) (n:Int):Bool:=es.any (Xr n)
def XU (es:List Ent):Int:=if 0<es.length then (es.getD (es.length - 1) e0).day else 0
def Xh (es:List Ent) (n:Int):Ent:=es.getD n.toNat e0
def XB (l:Lgb) (x:Ent):Bool :=
 if x.kind=1 then Qa x.a 0 ((l.k.rules.length:Int) - 1) && qr l.k x.a x.b x.c
 else if x.kind=2 then QJ l.k x.a && (Qa x.b 1 3 && (x.c == 0))
 else if x.kind=3 then Qa x.a 0 ((l.es.length:Int) - 1) && (((Xh l.es x.a).kind == 2) && (!(Xt l.es x.a) && (Xu l.k x.b && (x.c == 0))))
 else if x.kind=4 then QJ l.k x.a && (Xu l.k x.b && (x.c == 0))
 else if x.kind=5 then QJ l.k x.a && (Qa x.b 0 10000 && (x.c == 0))
 else if x.kind=6 then QJ l.k x.a && ((x.b == 0) && (x.c == 0))
 else false
def XI (l:Lgb) (x:Ent):Bool:=Qa x.day (XU l.es) 10000 && XB l x
def l0:Lgb:=⟨⟨[],[],[]⟩,[]⟩
/-- The log of a book and entries,as far as they are right. -/
def Ve (k:Bok):List Ent→List Ent→Nat→Lgb × Int × Int
 | pre,[],_=>(⟨k,pre⟩,0,0)
 | pre,x :: xs,i=>if XI ⟨k,pre⟩ x=true then Ve k (pre++[x]) xs (i+1) else (⟨k,pre⟩,(i:Int),101)
def logK (k:Bok) (es:List Ent):Lgb × Int × Int :=
 if Vl k=0 then (if es.length≤100 then Ve k [] es 0 else (l0,0,2)) else (l0,0,Vl k)
def cLgb (l:Lgb):List AV:=[.rsl (Qg l.k.rules) 0 l.k.rules.length,.rsl (rowI l.k.ranks) 0 l.k.ranks.length,.rsl (rowI l.k.insured) 0 l.k.insured.length,.rsl (Qc l.es) 0 l.es.length]
theorem f142b:Try.f142.body=some (Qd Try.prog 142):=by kernel_rfl
theorem u142 {a c k:List AV} {r:AV} (h:Pure Try.prog 142 (a++c++k) r):Qe Try.prog (.clos 142 a k) c r:=Qj Try.func142 (by kernel_rfl) f142b h
theorem p142_start_0 (n:Int) (lo:Int) (hi:Int) {E:Env} {res:AV} (hE:Qf Try.prog 142 res E) (ho:AllP [(decide (n≥lo))=true])
 (hr:AvLe (.bool (decide (n≤hi))) res):G Try.prog E [.code (Qd Try.prog 142)] ⟨[.int .i64 n,.int .i64 lo,.int .i64 hi]++unds (Try.f142.ntmps - 3),[]⟩ :=
 Qb (n:=400) (evs:=[.b true]) (obs:=_) hE Try.func142 Qh (by kernel_rfl) ho hr
theorem p142_start_1 (n:Int) (lo:Int) (hi:Int) {E:Env} {res:AV} (hE:Qf Try.prog 142 res E) (ho:AllP [(decide (n≥lo))=false])
 (hr:AvLe (.bool false) res):G Try.prog E [.code (Qd Try.prog 142)] ⟨[.int .i64 n,.int .i64 lo,.int .i64 hi]++unds (Try.f142.ntmps - 3),[]⟩ :=
 Qb (n:=400) (evs:=[.b false]) (obs:=_) hE Try.func142 Qh (by kernel_rfl) ho hr
theorem f142W (n:Int) (lo:Int) (hi:Int) {E:Env} {rv:Bool} (hE:Qf Try.prog 142 (.bool rv) E)
 (h:((n≥lo→rv=(decide (n≤hi)))∧(¬ (n≥lo)→rv=false))):G Try.prog E [.code (Qd Try.prog 142)] ⟨[.int .i64 n,.int .i64 lo,.int .i64 hi]++unds (Try.f142.ntmps - 3),[]⟩:=by
 rcases bft (decide (n≥lo)) with hc0 | hc0
 · have h:=h.1 (odt hc0)
   exact p142_start_0 n lo hi hE ⟨hc0,trivial⟩ (AvLe.of_eq (by rw [h]; try rfl))
 · have h:=h.2 (odf hc0)
   exact p142_start_1 n lo hi hE ⟨hc0,trivial⟩ (AvLe.of_eq (by rw [h]; try rfl))
theorem Qm (n lo hi:Int):Pure Try.prog 142 [.int .i64 n,.int .i64 lo,.int .i64 hi] (.bool (Qa n lo hi)):=Qv Try.func142 f142b fun E hE=>by
 refine f142W n lo hi hE ⟨fun h=>by simp [Qa,h],fun h=>by simp [Qa,h]⟩
theorem f245b:Try.f245.body=some (Qd Try.prog 245):=by kernel_rfl
theorem u245 {a c k:List AV} {r:AV} (h:Pure Try.prog 245 (a++c++k) r):Qe Try.prog (.clos 245 a k) c r:=Qj Try.func245 (by kernel_rfl) f245b h
abbrev z245_1 (r:Rul) (k:Bok):List AV:=[.agg [.int .i64 r.ride,.int .i64 r.every,.int .i64 r.rank,.bool r.two],.rptr [.rsl (Qg k.rules) 0 k.rules.length,.rsl (rowI k.ranks) 0 k.ranks.length,.rsl (rowI k.insured) 0 k.insured.length] 0]
abbrev QaV (r:Rul) (k:Bok):AV:=.bool (Qa r.ride 0 ((k.insured.length:Int) - 1))
theorem p245_start_0 (r:Rul) (k:Bok) {E:Env} {res:AV} (hE:Qf Try.prog 245 res E) (ho:AllP [InR .i64 ((k.insured.length:Int) - 1),Qe Try.prog (.clos 142 [] []) [.int .i64 r.ride,.int .i64 0,.int .i64 ((k.insured.length:Int) - 1)] (QaV r k),(!(Qa r.ride 0 ((k.insured.length:Int) - 1)))=true,true=true])
 (hr:AvLe (.bool true) res):G Try.prog E [.code (Qd Try.prog 245)] ⟨(z245_1 r k)++unds (Try.f245.ntmps - 2),[]⟩ :=
 Qb (n:=400) (evs:=[.v (QaV r k),.b true,.b true]) (obs:=_) hE Try.func245 Qh (by kernel_rfl) ho hr
theorem p245_start_1 (r:Rul) (k:Bok) {E:Env} {res:AV} (hE:Qf Try.prog 245 res E) (ho:AllP [InR .i64 ((k.insured.length:Int) - 1),Qe Try.prog (.clos 142 [] []) [.int .i64 r.ride,.int .i64 0,.int .i64 ((k.insured.length:Int) - 1)] (QaV r k),(!(Qa r.ride 0 ((k.insured.length:Int) - 1)))=false,Qe Try.prog (.clos 142 [] []) [.int .i64 r.every,.int .i64 1,.int .i64 10000] (.bool (Qa r.every 1 10000)),(!(Qa r.every 1 10000))=true])
 (hr:AvLe (.bool true) res):G Try.prog E [.code (Qd Try.prog 245)] ⟨(z245_1 r k)++unds (Try.f245.ntmps - 2),[]⟩ :=
 Qb (n:=400) (evs:=[.v (QaV r k),.b false,.v (.bool (Qa r.every 1 10000)),.b true]) (obs:=_) hE Try.func245 Qh (by kernel_rfl) ho hr
theorem p245_start_2 (r:Rul) (k:Bok) {E:Env} {res:AV} (hE:Qf Try.prog 245 res E) (ho:AllP [InR .i64 ((k.insured.length:Int) - 1),Qe Try.prog (.clos 142 [] []) [.int .i64 r.ride,.int .i64 0,.int .i64 ((k.insured.length:Int) - 1)] (QaV r k),(!(Qa r.ride 0 ((k.insured.length:Int) - 1)))=false,Qe Try.prog (.clos 142 [] []) [.int .i64 r.every,.int .i64 1,.int .i64 10000] (.bool (Qa r.every 1 10000)),(!(Qa r.every 1 10000))=false,Qe Try.prog (.clos 142 [] []) [.int .i64 r.rank,.int .i64 0,.int .i64 9] (.bool (Qa r.rank 0 9))])
 (hr:AvLe (.bool (!(Qa r.rank 0 9))) res):G Try.prog E [.code (Qd Try.prog 245)] ⟨(z245_1 r k)++unds (Try.f245.ntmps - 2),[]⟩ :=
 Qb (n:=400) (evs:=[.v (QaV r k),.b false,.v (.bool (Qa r.every 1 10000)),.b false,.v (.bool (Qa r.rank 0 9))]) (obs:=_) hE Try.func245 Qh (by kernel_rfl) ho hr
theorem f245W (r:Rul) (k:Bok) {E:Env} {rv:Bool} (hE:Qf Try.prog 245 (.bool rv) E)
 (h:((I6 ((k.insured.length:Int) - 1))∧(((Qa r.ride 0 ((k.insured.length:Int) - 1))=false→rv=true)∧((Qa r.ride 0 ((k.insured.length:Int) - 1))=true→(((Qa r.every 1 10000)=false→rv=true)∧((Qa r.every 1 10000)=true→rv=(!(Qa r.rank 0 9)))))))):G Try.prog E [.code (Qd Try.prog 245)] ⟨[.agg [.int .i64 r.ride,.int .i64 r.every,.int .i64 r.rank,.bool r.two],.rptr [.rsl (Qg k.rules) 0 k.rules.length,.rsl (rowI k.ranks) 0 k.ranks.length,.rsl (rowI k.insured) 0 k.insured.length] 0]++unds (Try.f245.ntmps - 2),[]⟩:=by
 obtain ⟨q0_0,h⟩:=h
 rcases bft (!(Qa r.ride 0 ((k.insured.length:Int) - 1))) with hc0 | hc0
 · have h:=h.1 (bnT hc0)
   exact p245_start_0 r k hE ⟨q0_0,(u142 (Qm r.ride 0 ((k.insured.length:Int) - 1))),hc0,rfl,trivial⟩ (AvLe.of_eq (by rw [h]; try rfl))
 · have h:=h.2 (bnF hc0)
   rcases bft (!(Qa r.every 1 10000)) with hc1 | hc1
   · have h:=h.1 (bnT hc1)
     exact p245_start_1 r k hE ⟨q0_0,(u142 (Qm r.ride 0 ((k.insured.length:Int) - 1))),hc0,(u142 (Qm r.every 1 10000)),hc1,trivial⟩ (AvLe.of_eq (by rw [h]; try rfl))
   · have h:=h.2 (bnF hc1)
     exact p245_start_2 r k hE ⟨q0_0,(u142 (Qm r.ride 0 ((k.insured.length:Int) - 1))),hc0,(u142 (Qm r.every 1 10000)),hc1,(u142 (Qm r.rank 0 9)),trivial⟩ (AvLe.of_eq (by rw [h]; try rfl))
theorem badR_ok (r:Rul) (k:Bok) (h:k.insured.length≤1000):Pure Try.prog 245 [.agg (cRul r),.rptr [.rsl (Qg k.rules) 0 k.rules.length,.rsl (rowI k.ranks) 0 k.ranks.length,.rsl (rowI k.insured) 0 k.insured.length] 0] (.bool (badR k r)):=Qv Try.func245 f245b fun E hE=>by
 refine f245W r k (rv:=badR k r) hE ⟨⟨by omega,by omega⟩,fun h1=>?_,fun h1=>⟨fun h2=>?_,fun h2=>?_⟩⟩
 all_goals (unfold badR; simp [*])
theorem f277bkb:Try.f277.body=some (Qd Try.prog 277):=by kernel_rfl
def qk (P:Program):List Item:=kAt 400 [.code (Qd P 277)] [.stop]
def Ko (l:(List Rul)) (k:Bok) (i:Nat):St:=⟨([.rsl (Qg l) 0 l.length,.clos 245 [] [.rptr [.rsl (Qg k.rules) 0 k.rules.length,.rsl (rowI k.ranks) 0 k.ranks.length,.rsl (rowI k.insured) 0 k.insured.length] 0]]++jj 5 ([.int .i64 (l.length:Int),.int .i64 (i:Int)]++Js 10)),[]⟩
def Kq (E:Env) (l:(List Rul)) (k:Bok) (i:Nat):Prop:=G Try.prog E (qk Try.prog) (Ko l k i )
abbrev qH (k:Bok):List AV:=[.rptr [.rsl (Qg k.rules) 0 k.rules.length,.rsl (rowI k.ranks) 0 k.ranks.length,.rsl (rowI k.insured) 0 k.insured.length] 0]
abbrev WW (re:Rul):List AV:=[.int .i64 re.ride,.int .i64 re.every,.int .i64 re.rank,.bool re.two]
theorem QaI (l:(List Rul)) (k:Bok) {E:Env} {rv:AV} (hE:Qf Try.prog 277 rv E) (ho:AllP [])
 (hg:G Try.prog E (qk Try.prog) ⟨([.rsl (Qg l) 0 l.length,.clos 245 [] (qH k)]++jj 5 ([.int .i64 (l.length:Int),.int .i64 0]++Js 10)),[]⟩):G Try.prog E [.code (Qd Try.prog 277)] ⟨[.rsl (Qg l) 0 l.length,.clos 245 [] (qH k)]++unds (Try.f277.ntmps - 2),[]⟩ :=
 Ql (n:=400) (ds:=[]) (cs:=[]) (live:=[0,1,7,8]) (m:=0) (evs:=[.stop]) (obs:=_) hE.2.1 (hE.nogh _) Qh (by kernel_rfl) ho hg
theorem f277bkW (l:(List Rul)) (k:Bok) {E:Env} {rv:Int} (hE:Qf Try.prog 277 (.int .i64 rv) E)
 (h:Kq E l k 0):G Try.prog E [.code (Qd Try.prog 277)] ⟨[.rsl (Qg l) 0 l.length,.clos 245 [] [.rptr [.rsl (Qg k.rules) 0 k.rules.length,.rsl (rowI k.ranks) 0 k.ranks.length,.rsl (rowI k.insured) 0 k.insured.length] 0]]++unds (Try.f277.ntmps - 2),[]⟩:=by
 exact QaI l k hE trivial h
theorem p277bk_0_0 (l:(List Rul)) (k:Bok) (i:Nat) (re:Rul) {E:Env} {res:AV} (hE:Qf Try.prog 277 res E) (ho:AllP [(decide ((i:Int)<(l.length:Int)))=true,0≤(i:Int)∧(i:Int)<(l.length:Int),((Qg l).drop (0+(Int.toNat (i:Int))*4)).take 4=(WW re),Qe Try.prog (.clos 245 [] (qH k)) [.agg (WW re)] (.bool (badR k re)),(badR k re)=true])
 (hr:AvLe (.int .i64 (i:Int)) res):G Try.prog E (qk Try.prog) (Ko l k i ) :=
 Qb (n:=400) (evs:=[.b true,.ld (.agg (WW re)),.v (.bool (badR k re)),.b true]) (obs:=_) hE Try.func277 Qh (by kernel_rfl) ho hr
theorem p277bk_0_1 (l:(List Rul)) (k:Bok) (i:Nat) (re:Rul) {E:Env} {rv:AV} (hE:Qf Try.prog 277 rv E) (ho:AllP [(decide ((i:Int)<(l.length:Int)))=true,0≤(i:Int)∧(i:Int)<(l.length:Int),((Qg l).drop (0+(Int.toNat (i:Int))*4)).take 4=(WW re),Qe Try.prog (.clos 245 [] (qH k)) [.agg (WW re)] (.bool (badR k re)),(badR k re)=false,InR .i64 ((i:Int)+1)])
 (hg:G Try.prog E (qk Try.prog) ⟨([.rsl (Qg l) 0 l.length,.clos 245 [] (qH k)]++jj 5 ([.int .i64 (l.length:Int),.int .i64 ((i:Int)+1)]++Js 10)),[]⟩):G Try.prog E (qk Try.prog) (Ko l k i ) :=
 Ql (n:=400) (ds:=[]) (cs:=[]) (live:=[0,1,7,8]) (m:=0) (evs:=[.b true,.ld (.agg (WW re)),.v (.bool (badR k re)),.b false,.stop]) (obs:=_) hE.2.1 (hE.nogh _) Qh (by kernel_rfl) ho hg
theorem p277bk_0_2 (l:(List Rul)) (k:Bok) (i:Nat) {E:Env} {res:AV} (hE:Qf Try.prog 277 res E) (ho:AllP [(decide ((i:Int)<(l.length:Int)))=false])
 (hr:AvLe (.int .i64 (-1)) res):G Try.prog E (qk Try.prog) (Ko l k i ) :=
 Qb (n:=400) (evs:=[.b false]) (obs:=_) hE Try.func277 Qh (by kernel_rfl) ho hr
theorem f277bkW0 (l:(List Rul)) (k:Bok) (i:Nat) {E:Env} {rv:Int} (hE:Qf Try.prog 277 (.int .i64 rv) E)
 (h:(((i:Int)<(l.length:Int)→(∃ re:Rul,l[i]?=some re∧((k.insured.length≤1000)∧(((badR k re)=true→rv=(i:Int))∧((badR k re)=false→((I6 ((i:Int)+1))∧Kq E l k (i+1)))))))∧(¬ ((i:Int)<(l.length:Int))→rv=(-1)))):Kq E l k i:=by
 rcases bft (decide ((i:Int)<(l.length:Int))) with hc0 | hc0
 · have h:=h.1 (odt hc0)
   obtain ⟨re,h1,h⟩:=h
   obtain ⟨h2,h⟩:=h
   rcases bft (badR k re) with hc1 | hc1
   · have h:=h.1 hc1
     exact p277bk_0_0 l k i re hE ⟨hc0,(QE h1),(rp cRul 4 0 4 h1),(u245 (badR_ok re k h2)),hc1,trivial⟩ (AvLe.of_eq (by rw [h]; try rfl))
   · have h:=h.2 hc1
     obtain ⟨q6_2,h⟩:=h
     exact p277bk_0_1 l k i re hE ⟨hc0,(QE h1),(rp cRul 4 0 4 h1),(u245 (badR_ok re k h2)),hc1,q6_2,trivial⟩ h
 · have h:=h.2 (odf hc0)
   exact p277bk_0_2 l k i hE ⟨hc0,trivial⟩ (AvLe.of_eq (by rw [h]; try rfl))
theorem idxBadR_ok (l:List Rul) (k:Bok) (h:(∀ x ∈ l,k.insured.length≤1000)∧l.length≤9223372036854775807):Pure Try.prog 277 [.rsl (Qg l) 0 l.length,.clos 245 [] [.rptr [.rsl (Qg k.rules) 0 k.rules.length,.rsl (rowI k.ranks) 0 k.ranks.length,.rsl (rowI k.insured) 0 k.insured.length] 0]] (.int .i64 (idxG (badR k) l)):=Qv Try.func277 f277bkb fun E hE=>by
 have hl:=h.2
 refine f277bkW l k (rv:=idxG (badR k) l) hE (Yy (badR k) l l.length 0 (by omega) (fun j x hj=>by omega) (fun i=>Kq E l k i) (fun i hi' h1 h2=>?_) (fun _ h2=>?_))
 · have hx:l[i]?=some l[i]:=List.getElem?_eq_getElem hi'
   have hm:=List.mem_of_getElem? hx
   exact f277bkW0 l k i (rv:=idxG (badR k) l) hE ⟨fun _=>⟨_,hx,h.1 _ hm,fun hp=>h1 _ hx (by simpa using hp),fun hp=>⟨by omega,h2 _ hx (by simpa using hp)⟩⟩,fun h=>by omega⟩
 · exact f277bkW0 l k _ (rv:=idxG (badR k) l) hE ⟨fun h=>by omega,fun _=>h2⟩
theorem Qah:Try.f244.body=some (Qd Try.prog 244):=by kernel_rfl
abbrev z244bk_1 (l:(List Rul)) (k:Bok):List AV:=[.rsl (Qg l) 0 l.length,.clos 245 [] [.rptr [.rsl (Qg k.rules) 0 k.rules.length,.rsl (rowI k.ranks) 0 k.ranks.length,.rsl (rowI k.insured) 0 k.insured.length] 0]]
theorem QaK (l:(List Rul)) (k:Bok) {E:Env} {res:AV} (hE:Qf Try.prog 244 res E) (ho:AllP [Qe Try.prog (.clos 277 [] []) (z244bk_1 l k) (.int .i64 (idxG (badR k) l))])
 (hr:AvLe (.bool (decide ((idxG (badR k) l)≥0))) res):G Try.prog E [.code (Qd Try.prog 244)] ⟨(z244bk_1 l k)++unds (Try.f244.ntmps - 2),[]⟩ :=
 Qb (n:=400) (evs:=[.v (.int .i64 (idxG (badR k) l))]) (obs:=_) hE Try.func244 Qh (by kernel_rfl) ho hr
theorem f244bkW (l:(List Rul)) (k:Bok) {E:Env} {rv:Bool} (hE:Qf Try.prog 244 (.bool rv) E)
 (h:(((∀ x ∈ l,k.insured.length≤1000)∧l.length≤9223372036854775807)∧rv=(decide ((idxG (badR k) l)≥0)))):G Try.prog E [.code (Qd Try.prog 244)] ⟨[.rsl (Qg l) 0 l.length,.clos 245 [] [.rptr [.rsl (Qg k.rules) 0 k.rules.length,.rsl (rowI k.ranks) 0 k.ranks.length,.rsl (rowI k.insured) 0 k.insured.length] 0]]++unds (Try.f244.ntmps - 2),[]⟩:=by
 obtain ⟨h1,h⟩:=h
 exact QaK l k hE ⟨(Qj Try.func277 (by kernel_rfl) f277bkb (idxBadR_ok l k h1)),trivial⟩ (AvLe.of_eq (by rw [h]; try rfl))
theorem qo (l:List Rul) (k:Bok) (h:(∀ x ∈ l,k.insured.length≤1000)∧l.length≤9223372036854775807):Pure Try.prog 244 [.rsl (Qg l) 0 l.length,.clos 245 [] [.rptr [.rsl (Qg k.rules) 0 k.rules.length,.rsl (rowI k.ranks) 0 k.ranks.length,.rsl (rowI k.insured) 0 k.insured.length] 0]] (.bool (l.any (badR k))):=Qv Try.func244 Qah fun E hE =>
 f244bkW l k (rv:=l.any (badR k)) hE ⟨h,(VI _ _).symm⟩
theorem f246b:Try.f246.body=some (Qd Try.prog 246):=by kernel_rfl
theorem u246 {a c k:List AV} {r:AV} (h:Pure Try.prog 246 (a++c++k) r):Qe Try.prog (.clos 246 a k) c r:=Qj Try.func246 (by kernel_rfl) f246b h
theorem p246_start_0 (n:Int) {E:Env} {res:AV} (hE:Qf Try.prog 246 res E) (ho:AllP [Qe Try.prog (.clos 142 [] []) [.int .i64 n,.int .i64 0,.int .i64 9] (.bool (Qa n 0 9))])
 (hr:AvLe (.bool (!(Qa n 0 9))) res):G Try.prog E [.code (Qd Try.prog 246)] ⟨[.int .i64 n]++unds (Try.f246.ntmps - 1),[]⟩ :=
 Qb (n:=400) (evs:=[.v (.bool (Qa n 0 9))]) (obs:=_) hE Try.func246 Qh (by kernel_rfl) ho hr
theorem f246W (n:Int) {E:Env} {rv:Bool} (hE:Qf Try.prog 246 (.bool rv) E)
 (h:rv=(!(Qa n 0 9))):G Try.prog E [.code (Qd Try.prog 246)] ⟨[.int .i64 n]++unds (Try.f246.ntmps - 1),[]⟩:=by
 exact p246_start_0 n hE ⟨(u142 (Qm n 0 9)),trivial⟩ (AvLe.of_eq (by rw [h]; try rfl))
theorem bk2_ok (n:Int):Pure Try.prog 246 [.int .i64 n] (.bool (!(Qa n 0 9))):=Qv Try.func246 f246b fun E hE=>f246W n (rv:=!(Qa n 0 9)) hE rfl
theorem f59i9b:Try.f59.body=some (Qd Try.prog 59):=by kernel_rfl
def yr (P:Program):List Item:=kAt 400 [.code (Qd P 59)] [.stop]
def Qdc (l:(List Int)) (i:Nat):St:=⟨([.rsl (rowI l) 0 l.length,.clos 246 [] []]++jj 5 ([.int .i64 (l.length:Int),.int .i64 (i:Int)]++Js 10)),[]⟩
def Qdd (E:Env) (l:(List Int)) (i:Nat):Prop:=G Try.prog E (yr Try.prog) (Qdc l i )
theorem QbR (l:(List Int)) {E:Env} {rv:AV} (hE:Qf Try.prog 59 rv E) (ho:AllP [])
 (hg:G Try.prog E (yr Try.prog) ⟨([.rsl (rowI l) 0 l.length,.clos 246 [] []]++jj 5 ([.int .i64 (l.length:Int),.int .i64 0]++Js 10)),[]⟩):G Try.prog E [.code (Qd Try.prog 59)] ⟨[.rsl (rowI l) 0 l.length,.clos 246 [] []]++unds (Try.f59.ntmps - 2),[]⟩ :=
 Ql (n:=400) (ds:=[]) (cs:=[]) (live:=[0,1,7,8]) (m:=0) (evs:=[.stop]) (obs:=_) hE.2.1 (hE.nogh _) Qh (by kernel_rfl) ho hg
theorem f59i9W (l:(List Int)) {E:Env} {rv:Int} (hE:Qf Try.prog 59 (.int .i64 rv) E)
 (h:Qdd E l 0):G Try.prog E [.code (Qd Try.prog 59)] ⟨[.rsl (rowI l) 0 l.length,.clos 246 [] []]++unds (Try.f59.ntmps - 2),[]⟩:=by
 exact QbR l hE trivial h
theorem p59i9_0_0 (l:(List Int)) (i:Nat) (e:Int) {E:Env} {res:AV} (hE:Qf Try.prog 59 res E) (ho:AllP [(decide ((i:Int)<(l.length:Int)))=true,0≤(i:Int)∧(i:Int)<(l.length:Int),((rowI l).drop (0+(Int.toNat (i:Int))*1)).take 1=[.int .i64 e],Qe Try.prog (.clos 246 [] []) [.int .i64 e] (.bool (!(Qa e 0 9))),(!(Qa e 0 9))=true])
 (hr:AvLe (.int .i64 (i:Int)) res):G Try.prog E (yr Try.prog) (Qdc l i ) :=
 Qb (n:=400) (evs:=[.b true,.ld (.int .i64 e),.v (.bool (!(Qa e 0 9))),.b true]) (obs:=_) hE Try.func59 Qh (by kernel_rfl) ho hr
theorem p59i9_0_1 (l:(List Int)) (i:Nat) (e:Int) {E:Env} {rv:AV} (hE:Qf Try.prog 59 rv E) (ho:AllP [(decide ((i:Int)<(l.length:Int)))=true,0≤(i:Int)∧(i:Int)<(l.length:Int),((rowI l).drop (0+(Int.toNat (i:Int))*1)).take 1=[.int .i64 e],Qe Try.prog (.clos 246 [] []) [.int .i64 e] (.bool (!(Qa e 0 9))),(!(Qa e 0 9))=false,InR .i64 ((i:Int)+1)])
 (hg:G Try.prog E (yr Try.prog) ⟨([.rsl (rowI l) 0 l.length,.clos 246 [] []]++jj 5 ([.int .i64 (l.length:Int),.int .i64 ((i:Int)+1)]++Js 10)),[]⟩):G Try.prog E (yr Try.prog) (Qdc l i ) :=
 Ql (n:=400) (ds:=[]) (cs:=[]) (live:=[0,1,7,8]) (m:=0) (evs:=[.b true,.ld (.int .i64 e),.v (.bool (!(Qa e 0 9))),.b false,.stop]) (obs:=_) hE.2.1 (hE.nogh _) Qh (by kernel_rfl) ho hg
theorem p59i9_0_2 (l:(List Int)) (i:Nat) {E:Env} {res:AV} (hE:Qf Try.prog 59 res E) (ho:AllP [(decide ((i:Int)<(l.length:Int)))=false])
 (hr:AvLe (.int .i64 (-1)) res):G Try.prog E (yr Try.prog) (Qdc l i ) :=
 Qb (n:=400) (evs:=[.b false]) (obs:=_) hE Try.func59 Qh (by kernel_rfl) ho hr
theorem f59i9W0 (l:(List Int)) (i:Nat) {E:Env} {rv:Int} (hE:Qf Try.prog 59 (.int .i64 rv) E)
 (h:(((i:Int)<(l.length:Int)→(∃ e:Int,l[i]?=some e∧(((Qa e 0 9)=false→rv=(i:Int))∧((Qa e 0 9)=true→((I6 ((i:Int)+1))∧Qdd E l (i+1))))))∧(¬ ((i:Int)<(l.length:Int))→rv=(-1)))):Qdd E l i:=by
 rcases bft (decide ((i:Int)<(l.length:Int))) with hc0 | hc0
 · have h:=h.1 (odt hc0)
   obtain ⟨e,h1,h⟩:=h
   rcases bft (!(Qa e 0 9)) with hc1 | hc1
   · have h:=h.1 (bnT hc1)
     exact p59i9_0_0 l i e hE ⟨hc0,(QE h1),(rp cI 1 0 1 h1),(u246 (bk2_ok e)),hc1,trivial⟩ (AvLe.of_eq (by rw [h]; try rfl))
   · have h:=h.2 (bnF hc1)
     obtain ⟨q6_2,h⟩:=h
     exact p59i9_0_1 l i e hE ⟨hc0,(QE h1),(rp cI 1 0 1 h1),(u246 (bk2_ok e)),hc1,q6_2,trivial⟩ h
 · have h:=h.2 (odf hc0)
   exact p59i9_0_2 l i hE ⟨hc0,trivial⟩ (AvLe.of_eq (by rw [h]; try rfl))
theorem idxOut9_ok (l:List Int) (h:l.length≤9223372036854775807):Pure Try.prog 59 [.rsl (rowI l) 0 l.length,.clos 246 [] []] (.int .i64 (idxG (fun n=>!(Qa n 0 9)) l)):=Qv Try.func59 f59i9b fun E hE=>by
 have hl:=h
 refine f59i9W l (rv:=idxG (fun n=>!(Qa n 0 9)) l) hE (Yy (fun n=>!(Qa n 0 9)) l l.length 0 (by omega) (fun j x hj=>by omega) (fun i=>Qdd E l i) (fun i hi' h1 h2=>?_) (fun _ h2=>?_))
 · have hx:l[i]?=some l[i]:=List.getElem?_eq_getElem hi'
   have hm:=List.mem_of_getElem? hx
   exact f59i9W0 l i (rv:=idxG (fun n=>!(Qa n 0 9)) l) hE ⟨fun _=>⟨_,hx,fun hp=>h1 _ hx (by simpa using hp),fun hp=>⟨by omega,h2 _ hx (by simpa using hp)⟩⟩,fun h=>by omega⟩
 · exact f59i9W0 l _ (rv:=idxG (fun n=>!(Qa n 0 9)) l) hE ⟨fun h=>by omega,fun _=>h2⟩
theorem f76i9b:Try.f76.body=some (Qd Try.prog 76):=by kernel_rfl
theorem QbP (l:(List Int)) {E:Env} {res:AV} (hE:Qf Try.prog 76 res E) (ho:AllP [Qe Try.prog (.clos 59 [] []) [.rsl (rowI l) 0 l.length,.clos 246 [] []] (.int .i64 (idxG (fun n=>!(Qa n 0 9)) l))])
 (hr:AvLe (.bool (decide ((idxG (fun n=>!(Qa n 0 9)) l)≥0))) res):G Try.prog E [.code (Qd Try.prog 76)] ⟨[.rsl (rowI l) 0 l.length,.clos 246 [] []]++unds (Try.f76.ntmps - 2),[]⟩ :=
 Qb (n:=400) (evs:=[.v (.int .i64 (idxG (fun n=>!(Qa n 0 9)) l))]) (obs:=_) hE Try.func76 Qh (by kernel_rfl) ho hr
theorem f76i9W (l:(List Int)) {E:Env} {rv:Bool} (hE:Qf Try.prog 76 (.bool rv) E)
 (h:((l.length≤9223372036854775807)∧rv=(decide ((idxG (fun n=>!(Qa n 0 9)) l)≥0)))):G Try.prog E [.code (Qd Try.prog 76)] ⟨[.rsl (rowI l) 0 l.length,.clos 246 [] []]++unds (Try.f76.ntmps - 2),[]⟩:=by
 obtain ⟨h1,h⟩:=h
 exact QbP l hE ⟨(Qj Try.func59 (by kernel_rfl) f59i9b (idxOut9_ok l h1)),trivial⟩ (AvLe.of_eq (by rw [h]; try rfl))
theorem yE (l:List Int) (h:l.length≤9223372036854775807):Pure Try.prog 76 [.rsl (rowI l) 0 l.length,.clos 246 [] []] (.bool (l.any (fun n=>!(Qa n 0 9)))):=Qv Try.func76 f76i9b fun E hE =>
 f76i9W l (rv:=l.any (fun n=>!(Qa n 0 9))) hE ⟨h,(VI _ _).symm⟩
theorem f247b:Try.f247.body=some (Qd Try.prog 247):=by kernel_rfl
theorem u247 {a c k:List AV} {r:AV} (h:Pure Try.prog 247 (a++c++k) r):Qe Try.prog (.clos 247 a k) c r:=Qj Try.func247 (by kernel_rfl) f247b h
theorem p247_start_0 (n:Int) {E:Env} {res:AV} (hE:Qf Try.prog 247 res E) (ho:AllP [Qe Try.prog (.clos 142 [] []) [.int .i64 n,.int .i64 0,.int .i64 10000] (.bool (Qa n 0 10000))])
 (hr:AvLe (.bool (!(Qa n 0 10000))) res):G Try.prog E [.code (Qd Try.prog 247)] ⟨[.int .i64 n]++unds (Try.f247.ntmps - 1),[]⟩ :=
 Qb (n:=400) (evs:=[.v (.bool (Qa n 0 10000))]) (obs:=_) hE Try.func247 Qh (by kernel_rfl) ho hr
theorem f247W (n:Int) {E:Env} {rv:Bool} (hE:Qf Try.prog 247 (.bool rv) E)
 (h:rv=(!(Qa n 0 10000))):G Try.prog E [.code (Qd Try.prog 247)] ⟨[.int .i64 n]++unds (Try.f247.ntmps - 1),[]⟩:=by
 exact p247_start_0 n hE ⟨(u142 (Qm n 0 10000)),trivial⟩ (AvLe.of_eq (by rw [h]; try rfl))
theorem bk3_ok (n:Int):Pure Try.prog 247 [.int .i64 n] (.bool (!(Qa n 0 10000))):=Qv Try.func247 f247b fun E hE=>f247W n (rv:=!(Qa n 0 10000)) hE rfl
theorem Qbr:Try.f59.body=some (Qd Try.prog 59):=by kernel_rfl
def YQ (P:Program):List Item:=kAt 400 [.code (Qd P 59)] [.stop]
def Wu (l:(List Int)) (i:Nat):St:=⟨([.rsl (rowI l) 0 l.length,.clos 247 [] []]++jj 5 ([.int .i64 (l.length:Int),.int .i64 (i:Int)]++Js 10)),[]⟩
def Wv (E:Env) (l:(List Int)) (i:Nat):Prop:=G Try.prog E (YQ Try.prog) (Wu l i )
theorem yl (l:(List Int)) {E:Env} {rv:AV} (hE:Qf Try.prog 59 rv E) (ho:AllP [])
 (hg:G Try.prog E (YQ Try.prog) ⟨([.rsl (rowI l) 0 l.length,.clos 247 [] []]++jj 5 ([.int .i64 (l.length:Int),.int .i64 0]++Js 10)),[]⟩):G Try.prog E [.code (Qd Try.prog 59)] ⟨[.rsl (rowI l) 0 l.length,.clos 247 [] []]++unds (Try.f59.ntmps - 2),[]⟩ :=
 Ql (n:=400) (ds:=[]) (cs:=[]) (live:=[0,1,7,8]) (m:=0) (evs:=[.stop]) (obs:=_) hE.2.1 (hE.nogh _) Qh (by kernel_rfl) ho hg
theorem f59i10000W (l:(List Int)) {E:Env} {rv:Int} (hE:Qf Try.prog 59 (.int .i64 rv) E)
 (h:Wv E l 0):G Try.prog E [.code (Qd Try.prog 59)] ⟨[.rsl (rowI l) 0 l.length,.clos 247 [] []]++unds (Try.f59.ntmps - 2),[]⟩:=by
 exact yl l hE trivial h
theorem QbU (l:(List Int)) (i:Nat) (e:Int) {E:Env} {res:AV} (hE:Qf Try.prog 59 res E) (ho:AllP [(decide ((i:Int)<(l.length:Int)))=true,0≤(i:Int)∧(i:Int)<(l.length:Int),((rowI l).drop (0+(Int.toNat (i:Int))*1)).take 1=[.int .i64 e],Qe Try.prog (.clos 247 [] []) [.int .i64 e] (.bool (!(Qa e 0 10000))),(!(Qa e 0 10000))=true])
 (hr:AvLe (.int .i64 (i:Int)) res):G Try.prog E (YQ Try.prog) (Wu l i ) :=
 Qb (n:=400) (evs:=[.b true,.ld (.int .i64 e),.v (.bool (!(Qa e 0 10000))),.b true]) (obs:=_) hE Try.func59 Qh (by kernel_rfl) ho hr
theorem QbT (l:(List Int)) (i:Nat) (e:Int) {E:Env} {rv:AV} (hE:Qf Try.prog 59 rv E) (ho:AllP [(decide ((i:Int)<(l.length:Int)))=true,0≤(i:Int)∧(i:Int)<(l.length:Int),((rowI l).drop (0+(Int.toNat (i:Int))*1)).take 1=[.int .i64 e],Qe Try.prog (.clos 247 [] []) [.int .i64 e] (.bool (!(Qa e 0 10000))),(!(Qa e 0 10000))=false,InR .i64 ((i:Int)+1)])
 (hg:G Try.prog E (YQ Try.prog) ⟨([.rsl (rowI l) 0 l.length,.clos 247 [] []]++jj 5 ([.int .i64 (l.length:Int),.int .i64 ((i:Int)+1)]++Js 10)),[]⟩):G Try.prog E (YQ Try.prog) (Wu l i ) :=
 Ql (n:=400) (ds:=[]) (cs:=[]) (live:=[0,1,7,8]) (m:=0) (evs:=[.b true,.ld (.int .i64 e),.v (.bool (!(Qa e 0 10000))),.b false,.stop]) (obs:=_) hE.2.1 (hE.nogh _) Qh (by kernel_rfl) ho hg
theorem QbS (l:(List Int)) (i:Nat) {E:Env} {res:AV} (hE:Qf Try.prog 59 res E) (ho:AllP [(decide ((i:Int)<(l.length:Int)))=false])
 (hr:AvLe (.int .i64 (-1)) res):G Try.prog E (YQ Try.prog) (Wu l i ) :=
 Qb (n:=400) (evs:=[.b false]) (obs:=_) hE Try.func59 Qh (by kernel_rfl) ho hr
theorem Qad (l:(List Int)) (i:Nat) {E:Env} {rv:Int} (hE:Qf Try.prog 59 (.int .i64 rv) E)
 (h:(((i:Int)<(l.length:Int)→(∃ e:Int,l[i]?=some e∧(((Qa e 0 10000)=false→rv=(i:Int))∧((Qa e 0 10000)=true→((I6 ((i:Int)+1))∧Wv E l (i+1))))))∧(¬ ((i:Int)<(l.length:Int))→rv=(-1)))):Wv E l i:=by
 rcases bft (decide ((i:Int)<(l.length:Int))) with hc0 | hc0
 · have h:=h.1 (odt hc0)
   obtain ⟨e,h1,h⟩:=h
   rcases bft (!(Qa e 0 10000)) with hc1 | hc1
   · have h:=h.1 (bnT hc1)
     exact QbU l i e hE ⟨hc0,(QE h1),(rp cI 1 0 1 h1),(u247 (bk3_ok e)),hc1,trivial⟩ (AvLe.of_eq (by rw [h]; try rfl))
   · have h:=h.2 (bnF hc1)
     obtain ⟨q6_2,h⟩:=h
     exact QbT l i e hE ⟨hc0,(QE h1),(rp cI 1 0 1 h1),(u247 (bk3_ok e)),hc1,q6_2,trivial⟩ h
 · have h:=h.2 (odf hc0)
   exact QbS l i hE ⟨hc0,trivial⟩ (AvLe.of_eq (by rw [h]; try rfl))
theorem QaS (l:List Int) (h:l.length≤9223372036854775807):Pure Try.prog 59 [.rsl (rowI l) 0 l.length,.clos 247 [] []] (.int .i64 (idxG (fun n=>!(Qa n 0 10000)) l)):=Qv Try.func59 Qbr fun E hE=>by
 have hl:=h
 refine f59i10000W l (rv:=idxG (fun n=>!(Qa n 0 10000)) l) hE (Yy (fun n=>!(Qa n 0 10000)) l l.length 0 (by omega) (fun j x hj=>by omega) (fun i=>Wv E l i) (fun i hi' h1 h2=>?_) (fun _ h2=>?_))
 · have hx:l[i]?=some l[i]:=List.getElem?_eq_getElem hi'
   have hm:=List.mem_of_getElem? hx
   exact Qad l i (rv:=idxG (fun n=>!(Qa n 0 10000)) l) hE ⟨fun _=>⟨_,hx,fun hp=>h1 _ hx (by simpa using hp),fun hp=>⟨by omega,h2 _ hx (by simpa using hp)⟩⟩,fun h=>by omega⟩
 · exact Qad l _ (rv:=idxG (fun n=>!(Qa n 0 10000)) l) hE ⟨fun h=>by omega,fun _=>h2⟩
theorem yq:Try.f76.body=some (Qd Try.prog 76):=by kernel_rfl
theorem yj (l:(List Int)) {E:Env} {res:AV} (hE:Qf Try.prog 76 res E) (ho:AllP [Qe Try.prog (.clos 59 [] []) [.rsl (rowI l) 0 l.length,.clos 247 [] []] (.int .i64 (idxG (fun n=>!(Qa n 0 10000)) l))])
 (hr:AvLe (.bool (decide ((idxG (fun n=>!(Qa n 0 10000)) l)≥0))) res):G Try.prog E [.code (Qd Try.prog 76)] ⟨[.rsl (rowI l) 0 l.length,.clos 247 [] []]++unds (Try.f76.ntmps - 2),[]⟩ :=
 Qb (n:=400) (evs:=[.v (.int .i64 (idxG (fun n=>!(Qa n 0 10000)) l))]) (obs:=_) hE Try.func76 Qh (by kernel_rfl) ho hr
theorem f76i10000W (l:(List Int)) {E:Env} {rv:Bool} (hE:Qf Try.prog 76 (.bool rv) E)
 (h:((l.length≤9223372036854775807)∧rv=(decide ((idxG (fun n=>!(Qa n 0 10000)) l)≥0)))):G Try.prog E [.code (Qd Try.prog 76)] ⟨[.rsl (rowI l) 0 l.length,.clos 247 [] []]++unds (Try.f76.ntmps - 2),[]⟩:=by
 obtain ⟨h1,h⟩:=h
 exact yj l hE ⟨(Qj Try.func59 (by kernel_rfl) Qbr (QaS l h1)),trivial⟩ (AvLe.of_eq (by rw [h]; try rfl))
theorem qz (l:List Int) (h:l.length≤9223372036854775807):Pure Try.prog 76 [.rsl (rowI l) 0 l.length,.clos 247 [] []] (.bool (l.any (fun n=>!(Qa n 0 10000)))):=Qv Try.func76 yq fun E hE =>
 f76i10000W l (rv:=l.any (fun n=>!(Qa n 0 10000))) hE ⟨h,(VI _ _).symm⟩
theorem f205b:Try.f205.body=some (Qd Try.prog 205):=by kernel_rfl
theorem u205 {a c k:List AV} {r:AV} (h:Pure Try.prog 205 (a++c++k) r):Qe Try.prog (.clos 205 a k) c r:=Qj Try.func205 (by kernel_rfl) f205b h
abbrev yM (k:Bok):List AV:=[.rsl (Qg k.rules) 0 k.rules.length,.rsl (rowI k.ranks) 0 k.ranks.length,.rsl (rowI k.insured) 0 k.insured.length]
abbrev z205_2 (k:Bok):List AV:=[.rsl (Qg k.rules) 0 k.rules.length,.clos 245 [] [.rptr (yM k) 0]]
theorem p205_start_0 (k:Bok) {E:Env} {res:AV} (hE:Qf Try.prog 205 res E) (ho:AllP [(decide ((k.rules.length:Int) > 20))=true,true=true,true=true,true=true,true=true,true=true])
 (hr:AvLe (.int .i64 100) res):G Try.prog E [.code (Qd Try.prog 205)] ⟨[.agg (yM k)]++unds (Try.f205.ntmps - 1),[]⟩ :=
 Qb (n:=400) (evs:=[.b true,.b true,.b true,.b true,.b true,.b true]) (obs:=_) hE Try.func205 Qh (by kernel_rfl) ho hr
theorem p205_start_1 (k:Bok) {E:Env} {res:AV} (hE:Qf Try.prog 205 res E) (ho:AllP [(decide ((k.rules.length:Int) > 20))=false,(decide ((k.ranks.length:Int) > 8))=true,true=true,true=true,true=true,true=true])
 (hr:AvLe (.int .i64 100) res):G Try.prog E [.code (Qd Try.prog 205)] ⟨[.agg (yM k)]++unds (Try.f205.ntmps - 1),[]⟩ :=
 Qb (n:=400) (evs:=[.b false,.b true,.b true,.b true,.b true,.b true]) (obs:=_) hE Try.func205 Qh (by kernel_rfl) ho hr
theorem p205_start_2 (k:Bok) {E:Env} {res:AV} (hE:Qf Try.prog 205 res E) (ho:AllP [(decide ((k.rules.length:Int) > 20))=false,(decide ((k.ranks.length:Int) > 8))=false,(decide ((k.insured.length:Int) > 10))=true,true=true,true=true,true=true])
 (hr:AvLe (.int .i64 100) res):G Try.prog E [.code (Qd Try.prog 205)] ⟨[.agg (yM k)]++unds (Try.f205.ntmps - 1),[]⟩ :=
 Qb (n:=400) (evs:=[.b false,.b false,.b true,.b true,.b true,.b true]) (obs:=_) hE Try.func205 Qh (by kernel_rfl) ho hr
theorem p205_start_3 (k:Bok) {E:Env} {res:AV} (hE:Qf Try.prog 205 res E) (ho:AllP [(decide ((k.rules.length:Int) > 20))=false,(decide ((k.ranks.length:Int) > 8))=false,(decide ((k.insured.length:Int) > 10))=false,Qe Try.prog (.clos 244 [] []) (z205_2 k) (.bool (k.rules.any (badR k))),(k.rules.any (badR k))=true,true=true,true=true])
 (hr:AvLe (.int .i64 100) res):G Try.prog E [.code (Qd Try.prog 205)] ⟨[.agg (yM k)]++unds (Try.f205.ntmps - 1),[]⟩ :=
 Qb (n:=400) (evs:=[.b false,.b false,.b false,.v (.bool (k.rules.any (badR k))),.b true,.b true,.b true]) (obs:=_) hE Try.func205 Qh (by kernel_rfl) ho hr
theorem p205_start_4 (k:Bok) {E:Env} {res:AV} (hE:Qf Try.prog 205 res E) (ho:AllP [(decide ((k.rules.length:Int) > 20))=false,(decide ((k.ranks.length:Int) > 8))=false,(decide ((k.insured.length:Int) > 10))=false,Qe Try.prog (.clos 244 [] []) (z205_2 k) (.bool (k.rules.any (badR k))),(k.rules.any (badR k))=false,Qe Try.prog (.clos 76 [] []) [.rsl (rowI k.ranks) 0 k.ranks.length,.clos 246 [] []] (.bool (k.ranks.any (fun n=>!(Qa n 0 9)))),(k.ranks.any (fun n=>!(Qa n 0 9)))=true,true=true])
 (hr:AvLe (.int .i64 100) res):G Try.prog E [.code (Qd Try.prog 205)] ⟨[.agg (yM k)]++unds (Try.f205.ntmps - 1),[]⟩ :=
 Qb (n:=400) (evs:=[.b false,.b false,.b false,.v (.bool (k.rules.any (badR k))),.b false,.v (.bool (k.ranks.any (fun n=>!(Qa n 0 9)))),.b true,.b true]) (obs:=_) hE Try.func205 Qh (by kernel_rfl) ho hr
theorem p205_start_5 (k:Bok) {E:Env} {res:AV} (hE:Qf Try.prog 205 res E) (ho:AllP [(decide ((k.rules.length:Int) > 20))=false,(decide ((k.ranks.length:Int) > 8))=false,(decide ((k.insured.length:Int) > 10))=false,Qe Try.prog (.clos 244 [] []) (z205_2 k) (.bool (k.rules.any (badR k))),(k.rules.any (badR k))=false,Qe Try.prog (.clos 76 [] []) [.rsl (rowI k.ranks) 0 k.ranks.length,.clos 246 [] []] (.bool (k.ranks.any (fun n=>!(Qa n 0 9)))),(k.ranks.any (fun n=>!(Qa n 0 9)))=false,Qe Try.prog (.clos 76 [] []) [.rsl (rowI k.insured) 0 k.insured.length,.clos 247 [] []] (.bool (k.insured.any (fun n=>!(Qa n 0 10000)))),(k.insured.any (fun n=>!(Qa n 0 10000)))=true])
 (hr:AvLe (.int .i64 100) res):G Try.prog E [.code (Qd Try.prog 205)] ⟨[.agg (yM k)]++unds (Try.f205.ntmps - 1),[]⟩ :=
 Qb (n:=400) (evs:=[.b false,.b false,.b false,.v (.bool (k.rules.any (badR k))),.b false,.v (.bool (k.ranks.any (fun n=>!(Qa n 0 9)))),.b false,.v (.bool (k.insured.any (fun n=>!(Qa n 0 10000)))),.b true]) (obs:=_) hE Try.func205 Qh (by kernel_rfl) ho hr
theorem p205_start_6 (k:Bok) {E:Env} {res:AV} (hE:Qf Try.prog 205 res E) (ho:AllP [(decide ((k.rules.length:Int) > 20))=false,(decide ((k.ranks.length:Int) > 8))=false,(decide ((k.insured.length:Int) > 10))=false,Qe Try.prog (.clos 244 [] []) (z205_2 k) (.bool (k.rules.any (badR k))),(k.rules.any (badR k))=false,Qe Try.prog (.clos 76 [] []) [.rsl (rowI k.ranks) 0 k.ranks.length,.clos 246 [] []] (.bool (k.ranks.any (fun n=>!(Qa n 0 9)))),(k.ranks.any (fun n=>!(Qa n 0 9)))=false,Qe Try.prog (.clos 76 [] []) [.rsl (rowI k.insured) 0 k.insured.length,.clos 247 [] []] (.bool (k.insured.any (fun n=>!(Qa n 0 10000)))),(k.insured.any (fun n=>!(Qa n 0 10000)))=false])
 (hr:AvLe (.int .i64 0) res):G Try.prog E [.code (Qd Try.prog 205)] ⟨[.agg (yM k)]++unds (Try.f205.ntmps - 1),[]⟩ :=
 Qb (n:=400) (evs:=[.b false,.b false,.b false,.v (.bool (k.rules.any (badR k))),.b false,.v (.bool (k.ranks.any (fun n=>!(Qa n 0 9)))),.b false,.v (.bool (k.insured.any (fun n=>!(Qa n 0 10000)))),.b false]) (obs:=_) hE Try.func205 Qh (by kernel_rfl) ho hr
theorem f205W (k:Bok) {E:Env} {rv:Int} (hE:Qf Try.prog 205 (.int .i64 rv) E)
 (h:(((k.rules.length:Int) > 20→rv=100)∧(¬ ((k.rules.length:Int) > 20)→(((k.ranks.length:Int) > 8→rv=100)∧(¬ ((k.ranks.length:Int) > 8)→(((k.insured.length:Int) > 10→rv=100)∧(¬ ((k.insured.length:Int) > 10)→(((∀ x ∈ k.rules,k.insured.length≤1000)∧k.rules.length≤9223372036854775807)∧(((k.rules.any (badR k))=true→rv=100)∧((k.rules.any (badR k))=false→((k.ranks.length≤9223372036854775807)∧(((k.ranks.any (fun n=>!(Qa n 0 9)))=true→rv=100)∧((k.ranks.any (fun n=>!(Qa n 0 9)))=false→((k.insured.length≤9223372036854775807)∧(((k.insured.any (fun n=>!(Qa n 0 10000)))=true→rv=100)∧((k.insured.any (fun n=>!(Qa n 0 10000)))=false→rv=0)))))))))))))))):G Try.prog E [.code (Qd Try.prog 205)] ⟨[.agg [.rsl (Qg k.rules) 0 k.rules.length,.rsl (rowI k.ranks) 0 k.ranks.length,.rsl (rowI k.insured) 0 k.insured.length]]++unds (Try.f205.ntmps - 1),[]⟩:=by
 rcases bft (decide ((k.rules.length:Int) > 20)) with hc0 | hc0
 · have h:=h.1 (odt hc0)
   exact p205_start_0 k hE ⟨hc0,rfl,rfl,rfl,rfl,rfl,trivial⟩ (AvLe.of_eq (by rw [h]; try rfl))
 · have h:=h.2 (odf hc0)
   rcases bft (decide ((k.ranks.length:Int) > 8)) with hc1 | hc1
   · have h:=h.1 (odt hc1)
     exact p205_start_1 k hE ⟨hc0,hc1,rfl,rfl,rfl,rfl,trivial⟩ (AvLe.of_eq (by rw [h]; try rfl))
   · have h:=h.2 (odf hc1)
     rcases bft (decide ((k.insured.length:Int) > 10)) with hc2 | hc2
     · have h:=h.1 (odt hc2)
       exact p205_start_2 k hE ⟨hc0,hc1,hc2,rfl,rfl,rfl,trivial⟩ (AvLe.of_eq (by rw [h]; try rfl))
     · have h:=h.2 (odf hc2)
       obtain ⟨h1,h⟩:=h
       rcases bft (k.rules.any (badR k)) with hc3 | hc3
       · have h:=h.1 hc3
         exact p205_start_3 k hE ⟨hc0,hc1,hc2,(Qj Try.func244 (by kernel_rfl) Qah (qo k.rules k h1)),hc3,rfl,rfl,trivial⟩ (AvLe.of_eq (by rw [h]; try rfl))
       · have h:=h.2 hc3
         obtain ⟨h2,h⟩:=h
         rcases bft (k.ranks.any (fun n=>!(Qa n 0 9))) with hc4 | hc4
         · have h:=h.1 hc4
           exact p205_start_4 k hE ⟨hc0,hc1,hc2,(Qj Try.func244 (by kernel_rfl) Qah (qo k.rules k h1)),hc3,(Qj Try.func76 (by kernel_rfl) f76i9b (yE k.ranks h2)),hc4,rfl,trivial⟩ (AvLe.of_eq (by rw [h]; try rfl))
         · have h:=h.2 hc4
           obtain ⟨h3,h⟩:=h
           rcases bft (k.insured.any (fun n=>!(Qa n 0 10000))) with hc5 | hc5
           · have h:=h.1 hc5
             exact p205_start_5 k hE ⟨hc0,hc1,hc2,(Qj Try.func244 (by kernel_rfl) Qah (qo k.rules k h1)),hc3,(Qj Try.func76 (by kernel_rfl) f76i9b (yE k.ranks h2)),hc4,(Qj Try.func76 (by kernel_rfl) yq (qz k.insured h3)),hc5,trivial⟩ (AvLe.of_eq (by rw [h]; try rfl))
           · have h:=h.2 hc5
             exact p205_start_6 k hE ⟨hc0,hc1,hc2,(Qj Try.func244 (by kernel_rfl) Qah (qo k.rules k h1)),hc3,(Qj Try.func76 (by kernel_rfl) f76i9b (yE k.ranks h2)),hc4,(Qj Try.func76 (by kernel_rfl) yq (qz k.insured h3)),hc5,trivial⟩ (AvLe.of_eq (by rw [h]; try rfl))
theorem WR (k:Bok) (h:BokSmall k):Pure Try.prog 205 [.agg [.rsl (Qg k.rules) 0 k.rules.length,.rsl (rowI k.ranks) 0 k.ranks.length,.rsl (rowI k.insured) 0 k.insured.length]] (.int .i64 (Vl k)):=Qv Try.func205 f205b fun E hE=>by
 have s1:=h.rules
 have s2:=h.ranks
 have s3:=h.insured
 have bad:Vy k=false→Vl k=100:=fun h=>by unfold Vl; rw [if_neg (by rw [h]; exact Bool.false_ne_true)]
 refine f205W k (rv:=Vl k) hE ⟨fun q1=>bad ?_,fun q1=>⟨fun q2=>bad ?_,fun q2=>⟨fun q3=>bad ?_,fun q3=>⟨⟨fun _ _=>s3,by omega⟩,fun q4=>bad ?_,fun q4=>⟨by omega,fun q5=>bad ?_,fun q5=>⟨by omega,fun q6=>bad ?_,fun q6=>?_⟩⟩⟩⟩⟩⟩
 · unfold Vy; rw [decide_eq_false (by omega)]; rfl
 · unfold Vy; rw [decide_eq_false (show ¬ k.ranks.length≤8 by omega)]; simp
 · unfold Vy; rw [decide_eq_false (show ¬ k.insured.length≤10 by omega)]; simp
 · unfold Vy; rw [q4]; simp
 · unfold Vy; rw [q5]; simp
 · unfold Vy; rw [q6]; simp
 · have:Vy k=true:=by
    unfold Vy; rw [q4,q5,q6,decide_eq_true (show k.rules.length≤20 by omega),decide_eq_true (show k.ranks.length≤8 by omega),decide_eq_true (show k.insured.length≤10 by omega)]; rfl
   unfold Vl; rw [if_pos this]
theorem f249b:Try.f249.body=some (Qd Try.prog 249):=by kernel_rfl
theorem u249 {a c k:List AV} {r:AV} (h:Pure Try.prog 249 (a++c++k) r):Qe Try.prog (.clos 249 a k) c r:=Qj Try.func249 (by kernel_rfl) f249b h
theorem p249_start_0 (l:Lgb) (n:Int) {E:Env} {res:AV} (hE:Qf Try.prog 249 res E) (ho:AllP [InR .i64 ((l.k.insured.length:Int) - 1),Qe Try.prog (.clos 142 [] []) [.int .i64 n,.int .i64 0,.int .i64 ((l.k.insured.length:Int) - 1)] (.bool (Qa n 0 ((l.k.insured.length:Int) - 1)))])
 (hr:AvLe (.bool (Qa n 0 ((l.k.insured.length:Int) - 1))) res):G Try.prog E [.code (Qd Try.prog 249)] ⟨[.agg [.rsl (Qg l.k.rules) 0 l.k.rules.length,.rsl (rowI l.k.ranks) 0 l.k.ranks.length,.rsl (rowI l.k.insured) 0 l.k.insured.length,.rsl (Qc l.es) 0 l.es.length],.int .i64 n]++unds (Try.f249.ntmps - 2),[]⟩ :=
 Qb (n:=400) (evs:=[.v (.bool (Qa n 0 ((l.k.insured.length:Int) - 1)))]) (obs:=_) hE Try.func249 Qh (by kernel_rfl) ho hr
theorem f249W (l:Lgb) (n:Int) {E:Env} {rv:Bool} (hE:Qf Try.prog 249 (.bool rv) E)
 (h:((I6 ((l.k.insured.length:Int) - 1))∧rv=(Qa n 0 ((l.k.insured.length:Int) - 1)))):G Try.prog E [.code (Qd Try.prog 249)] ⟨[.agg [.rsl (Qg l.k.rules) 0 l.k.rules.length,.rsl (rowI l.k.ranks) 0 l.k.ranks.length,.rsl (rowI l.k.insured) 0 l.k.insured.length,.rsl (Qc l.es) 0 l.es.length],.int .i64 n]++unds (Try.f249.ntmps - 2),[]⟩:=by
 obtain ⟨q0_0,h⟩:=h
 exact p249_start_0 l n hE ⟨q0_0,(u142 (Qm n 0 ((l.k.insured.length:Int) - 1))),trivial⟩ (AvLe.of_eq (by rw [h]; try rfl))
theorem f251b:Try.f251.body=some (Qd Try.prog 251):=by kernel_rfl
theorem u251 {a c k:List AV} {r:AV} (h:Pure Try.prog 251 (a++c++k) r):Qe Try.prog (.clos 251 a k) c r:=Qj Try.func251 (by kernel_rfl) f251b h
theorem p251_start_0 (l:Lgb) (n:Int) {E:Env} {res:AV} (hE:Qf Try.prog 251 res E) (ho:AllP [InR .i64 ((l.k.ranks.length:Int) - 1),Qe Try.prog (.clos 142 [] []) [.int .i64 n,.int .i64 0,.int .i64 ((l.k.ranks.length:Int) - 1)] (.bool (Qa n 0 ((l.k.ranks.length:Int) - 1)))])
 (hr:AvLe (.bool (Qa n 0 ((l.k.ranks.length:Int) - 1))) res):G Try.prog E [.code (Qd Try.prog 251)] ⟨[.agg [.rsl (Qg l.k.rules) 0 l.k.rules.length,.rsl (rowI l.k.ranks) 0 l.k.ranks.length,.rsl (rowI l.k.insured) 0 l.k.insured.length,.rsl (Qc l.es) 0 l.es.length],.int .i64 n]++unds (Try.f251.ntmps - 2),[]⟩ :=
 Qb (n:=400) (evs:=[.v (.bool (Qa n 0 ((l.k.ranks.length:Int) - 1)))]) (obs:=_) hE Try.func251 Qh (by kernel_rfl) ho hr
theorem f251W (l:Lgb) (n:Int) {E:Env} {rv:Bool} (hE:Qf Try.prog 251 (.bool rv) E)
 (h:((I6 ((l.k.ranks.length:Int) - 1))∧rv=(Qa n 0 ((l.k.ranks.length:Int) - 1)))):G Try.prog E [.code (Qd Try.prog 251)] ⟨[.agg [.rsl (Qg l.k.rules) 0 l.k.rules.length,.rsl (rowI l.k.ranks) 0 l.k.ranks.length,.rsl (rowI l.k.insured) 0 l.k.insured.length,.rsl (Qc l.es) 0 l.es.length],.int .i64 n]++unds (Try.f251.ntmps - 2),[]⟩:=by
 obtain ⟨q0_0,h⟩:=h
 exact p251_start_0 l n hE ⟨q0_0,(u142 (Qm n 0 ((l.k.ranks.length:Int) - 1))),trivial⟩ (AvLe.of_eq (by rw [h]; try rfl))
theorem Xw (l:Lgb) (n:Int) (h:l.k.insured.length≤1000):Pure Try.prog 249 [.agg [.rsl (Qg l.k.rules) 0 l.k.rules.length,.rsl (rowI l.k.ranks) 0 l.k.ranks.length,.rsl (rowI l.k.insured) 0 l.k.insured.length,.rsl (Qc l.es) 0 l.es.length],.int .i64 n] (.bool (QJ l.k n)):=Qv Try.func249 f249b fun E hE=>by
 refine f249W l n (rv:=QJ l.k n) hE ⟨⟨by omega,by omega⟩,rfl⟩
theorem VQ (l:Lgb) (n:Int) (h:l.k.ranks.length≤1000):Pure Try.prog 251 [.agg [.rsl (Qg l.k.rules) 0 l.k.rules.length,.rsl (rowI l.k.ranks) 0 l.k.ranks.length,.rsl (rowI l.k.insured) 0 l.k.insured.length,.rsl (Qc l.es) 0 l.es.length],.int .i64 n] (.bool (Xu l.k n)):=Qv Try.func251 f251b fun E hE=>by
 refine f251W l n (rv:=Xu l.k n) hE ⟨⟨by omega,by omega⟩,rfl⟩
theorem f278b:Try.f278.body=some (Qd Try.prog 278):=by kernel_rfl
theorem u278 {a c k:List AV} {r:AV} (h:Pure Try.prog 278 (a++c++k) r):Qe Try.prog (.clos 278 a k) c r:=Qj Try.func278 (by kernel_rfl) f278b h
abbrev z278_1 (l:Lgb):List AV:=[.rsl (Qg l.k.rules) 0 l.k.rules.length,.rsl (rowI l.k.ranks) 0 l.k.ranks.length,.rsl (rowI l.k.insured) 0 l.k.insured.length,.rsl (Qc l.es) 0 l.es.length]
theorem p278_start_0 (l:Lgb) (r:Int) (n:Int) (e:Int) (re:Rul) {E:Env} {res:AV} (hE:Qf Try.prog 278 res E) (ho:AllP [Qe Try.prog (.clos 251 [] []) [.agg (z278_1 l),.int .i64 n] (.bool (Xu l.k n)),(Xu l.k n)=true,0≤n∧n<(l.k.ranks.length:Int),((rowI l.k.ranks).drop (0+(Int.toNat n)*1)).take 1=[.int .i64 e],0≤r∧r<(l.k.rules.length:Int),((Qg l.k.rules).drop ((0+(Int.toNat r)*4)+2)).take 1=[.int .i64 re.rank]])
 (hr:AvLe (.bool (decide (e≥re.rank))) res):G Try.prog E [.code (Qd Try.prog 278)] ⟨[.agg (z278_1 l),.int .i64 r,.int .i64 n]++unds (Try.f278.ntmps - 3),[]⟩ :=
 Qb (n:=400) (evs:=[.v (.bool (Xu l.k n)),.b true,.auto,.ld (.int .i64 e),.auto,.ld (.int .i64 re.rank)]) (obs:=_) hE Try.func278 Qh (by kernel_rfl) ho hr
theorem p278_start_1 (l:Lgb) (r:Int) (n:Int) {E:Env} {res:AV} (hE:Qf Try.prog 278 res E) (ho:AllP [Qe Try.prog (.clos 251 [] []) [.agg (z278_1 l),.int .i64 n] (.bool (Xu l.k n)),(Xu l.k n)=false])
 (hr:AvLe (.bool false) res):G Try.prog E [.code (Qd Try.prog 278)] ⟨[.agg (z278_1 l),.int .i64 r,.int .i64 n]++unds (Try.f278.ntmps - 3),[]⟩ :=
 Qb (n:=400) (evs:=[.v (.bool (Xu l.k n)),.b false]) (obs:=_) hE Try.func278 Qh (by kernel_rfl) ho hr
theorem f278W (l:Lgb) (r:Int) (n:Int) {E:Env} {rv:Bool} (hE:Qf Try.prog 278 (.bool rv) E)
 (h:((l.k.ranks.length≤1000)∧(((Xu l.k n)=true→(0≤n∧(∃ e:Int,l.k.ranks[Int.toNat n]?=some e∧(0≤r∧(∃ re:Rul,l.k.rules[Int.toNat r]?=some re∧rv=(decide (e≥re.rank)))))))∧((Xu l.k n)=false→rv=false)))):G Try.prog E [.code (Qd Try.prog 278)] ⟨[.agg [.rsl (Qg l.k.rules) 0 l.k.rules.length,.rsl (rowI l.k.ranks) 0 l.k.ranks.length,.rsl (rowI l.k.insured) 0 l.k.insured.length,.rsl (Qc l.es) 0 l.es.length],.int .i64 r,.int .i64 n]++unds (Try.f278.ntmps - 3),[]⟩:=by
 obtain ⟨h1,h⟩:=h
 rcases bft (Xu l.k n) with hc0 | hc0
 · have h:=h.1 hc0
   obtain ⟨h3,h⟩:=h
   obtain ⟨e,h2,h⟩:=h
   obtain ⟨h5,h⟩:=h
   obtain ⟨re,h4,h⟩:=h
   exact p278_start_0 l r n e re hE ⟨(u251 (VQ l n h1)),hc0,(Qx h3 h2),(rp cI 1 0 1 h2),(Qx h5 h4),(rp cRul 4 2 1 h4),trivial⟩ (AvLe.of_eq (by rw [h]; try rfl))
 · have h:=h.2 hc0
   exact p278_start_1 l r n hE ⟨(u251 (VQ l n h1)),hc0,trivial⟩ (AvLe.of_eq (by rw [h]; try rfl))
theorem KQ (l:Lgb) (r n:Int) (h:BokSmall l.k∧0≤r∧r<(l.k.rules.length:Int)):Pure Try.prog 278 [.agg [.rsl (Qg l.k.rules) 0 l.k.rules.length,.rsl (rowI l.k.ranks) 0 l.k.ranks.length,.rsl (rowI l.k.insured) 0 l.k.insured.length,.rsl (Qc l.es) 0 l.es.length],.int .i64 r,.int .i64 n] (.bool (mayB l.k r n)):=Qv Try.func278 f278b fun E hE=>by
 obtain ⟨h1,h2,h3⟩:=h
 have g2:=Xx (l:=l.k.rules) r0 ⟨h2,h3⟩
 refine f278W l r n (rv:=mayB l.k r n) hE ⟨h1.ranks,fun q1=>?_,fun q1=>?_⟩
 · have q:=QH.1 q1
   have g1:=Xx (l:=l.k.ranks) 0 (i:=n) (by omega)
   refine ⟨q.1,_,g1,h2,_,g2,?_⟩
   unfold mayB; rw [q1]; rfl
 · unfold mayB; rw [q1]; rfl
theorem f248b:Try.f248.body=some (Qd Try.prog 248):=by kernel_rfl
theorem u248 {a c k:List AV} {r:AV} (h:Pure Try.prog 248 (a++c++k) r):Qe Try.prog (.clos 248 a k) c r:=Qj Try.func248 (by kernel_rfl) f248b h
abbrev yI (l:Lgb):List AV:=[.rsl (Qg l.k.rules) 0 l.k.rules.length,.rsl (rowI l.k.ranks) 0 l.k.ranks.length,.rsl (rowI l.k.insured) 0 l.k.insured.length,.rsl (Qc l.es) 0 l.es.length]
abbrev z248_2 (l:Lgb) (r:Int) (a:Int) (b:Int):List AV:=[.agg (yI l),.int .i64 r,.int .i64 a,.int .i64 b]
theorem p248_start_0 (l:Lgb) (r:Int) (a:Int) (b:Int) (re:Rul) {E:Env} {res:AV} (hE:Qf Try.prog 248 res E) (ho:AllP [0≤r∧r<(l.k.rules.length:Int),((Qg l.k.rules).drop ((0+(Int.toNat r)*4)+3)).take 1=[.bool re.two],(!re.two)=true,Qe Try.prog (.clos 278 [] []) [.agg (yI l),.int .i64 r,.int .i64 a] (.bool (mayB l.k r a)),(mayB l.k r a)=true])
 (hr:AvLe (.bool (b == (-1))) res):G Try.prog E [.code (Qd Try.prog 248)] ⟨(z248_2 l r a b)++unds (Try.f248.ntmps - 4),[]⟩ :=
 Qb (n:=400) (evs:=[.auto,.ld (.bool re.two),.b true,.v (.bool (mayB l.k r a)),.b true]) (obs:=_) hE Try.func248 Qh (by kernel_rfl) ho hr
theorem p248_start_1 (l:Lgb) (r:Int) (a:Int) (b:Int) (re:Rul) {E:Env} {res:AV} (hE:Qf Try.prog 248 res E) (ho:AllP [0≤r∧r<(l.k.rules.length:Int),((Qg l.k.rules).drop ((0+(Int.toNat r)*4)+3)).take 1=[.bool re.two],(!re.two)=true,Qe Try.prog (.clos 278 [] []) [.agg (yI l),.int .i64 r,.int .i64 a] (.bool (mayB l.k r a)),(mayB l.k r a)=false])
 (hr:AvLe (.bool false) res):G Try.prog E [.code (Qd Try.prog 248)] ⟨(z248_2 l r a b)++unds (Try.f248.ntmps - 4),[]⟩ :=
 Qb (n:=400) (evs:=[.auto,.ld (.bool re.two),.b true,.v (.bool (mayB l.k r a)),.b false]) (obs:=_) hE Try.func248 Qh (by kernel_rfl) ho hr
theorem p248_start_2 (l:Lgb) (r:Int) (a:Int) (b:Int) (re:Rul) {E:Env} {res:AV} (hE:Qf Try.prog 248 res E) (ho:AllP [0≤r∧r<(l.k.rules.length:Int),((Qg l.k.rules).drop ((0+(Int.toNat r)*4)+3)).take 1=[.bool re.two],(!re.two)=false,Qe Try.prog (.clos 278 [] []) [.agg (yI l),.int .i64 r,.int .i64 a] (.bool (mayB l.k r a)),(mayB l.k r a)=true,Qe Try.prog (.clos 278 [] []) [.agg (yI l),.int .i64 r,.int .i64 b] (.bool (mayB l.k r b)),(mayB l.k r b)=true])
 (hr:AvLe (.bool (a != b)) res):G Try.prog E [.code (Qd Try.prog 248)] ⟨(z248_2 l r a b)++unds (Try.f248.ntmps - 4),[]⟩ :=
 Qb (n:=400) (evs:=[.auto,.ld (.bool re.two),.b false,.v (.bool (mayB l.k r a)),.b true,.v (.bool (mayB l.k r b)),.b true]) (obs:=_) hE Try.func248 Qh (by kernel_rfl) ho hr
theorem p248_start_3 (l:Lgb) (r:Int) (a:Int) (b:Int) (re:Rul) {E:Env} {res:AV} (hE:Qf Try.prog 248 res E) (ho:AllP [0≤r∧r<(l.k.rules.length:Int),((Qg l.k.rules).drop ((0+(Int.toNat r)*4)+3)).take 1=[.bool re.two],(!re.two)=false,Qe Try.prog (.clos 278 [] []) [.agg (yI l),.int .i64 r,.int .i64 a] (.bool (mayB l.k r a)),(mayB l.k r a)=true,Qe Try.prog (.clos 278 [] []) [.agg (yI l),.int .i64 r,.int .i64 b] (.bool (mayB l.k r b)),(mayB l.k r b)=false])
 (hr:AvLe (.bool false) res):G Try.prog E [.code (Qd Try.prog 248)] ⟨(z248_2 l r a b)++unds (Try.f248.ntmps - 4),[]⟩ :=
 Qb (n:=400) (evs:=[.auto,.ld (.bool re.two),.b false,.v (.bool (mayB l.k r a)),.b true,.v (.bool (mayB l.k r b)),.b false]) (obs:=_) hE Try.func248 Qh (by kernel_rfl) ho hr
theorem p248_start_4 (l:Lgb) (r:Int) (a:Int) (b:Int) (re:Rul) {E:Env} {res:AV} (hE:Qf Try.prog 248 res E) (ho:AllP [0≤r∧r<(l.k.rules.length:Int),((Qg l.k.rules).drop ((0+(Int.toNat r)*4)+3)).take 1=[.bool re.two],(!re.two)=false,Qe Try.prog (.clos 278 [] []) [.agg (yI l),.int .i64 r,.int .i64 a] (.bool (mayB l.k r a)),(mayB l.k r a)=false,false=false])
 (hr:AvLe (.bool false) res):G Try.prog E [.code (Qd Try.prog 248)] ⟨(z248_2 l r a b)++unds (Try.f248.ntmps - 4),[]⟩ :=
 Qb (n:=400) (evs:=[.auto,.ld (.bool re.two),.b false,.v (.bool (mayB l.k r a)),.b false,.b false]) (obs:=_) hE Try.func248 Qh (by kernel_rfl) ho hr
theorem f248W (l:Lgb) (r:Int) (a:Int) (b:Int) {E:Env} {rv:Bool} (hE:Qf Try.prog 248 (.bool rv) E)
 (h:(0≤r∧(∃ re:Rul,l.k.rules[Int.toNat r]?=some re∧((re.two=false→((BokSmall l.k∧0≤r∧r<(l.k.rules.length:Int))∧(((mayB l.k r a)=true→rv=(b == (-1)))∧((mayB l.k r a)=false→rv=false))))∧(re.two=true→((BokSmall l.k∧0≤r∧r<(l.k.rules.length:Int))∧(((mayB l.k r a)=true→((BokSmall l.k∧0≤r∧r<(l.k.rules.length:Int))∧(((mayB l.k r b)=true→rv=(a != b))∧((mayB l.k r b)=false→rv=false))))∧((mayB l.k r a)=false→rv=false)))))))):G Try.prog E [.code (Qd Try.prog 248)] ⟨[.agg [.rsl (Qg l.k.rules) 0 l.k.rules.length,.rsl (rowI l.k.ranks) 0 l.k.ranks.length,.rsl (rowI l.k.insured) 0 l.k.insured.length,.rsl (Qc l.es) 0 l.es.length],.int .i64 r,.int .i64 a,.int .i64 b]++unds (Try.f248.ntmps - 4),[]⟩:=by
 obtain ⟨h2,h⟩:=h
 obtain ⟨re,h1,h⟩:=h
 rcases bft (!re.two) with hc0 | hc0
 · have h:=h.1 (bnT hc0)
   obtain ⟨h3,h⟩:=h
   rcases bft (mayB l.k r a) with hc1 | hc1
   · have h:=h.1 hc1
     exact p248_start_0 l r a b re hE ⟨(Qx h2 h1),(rp cRul 4 3 1 h1),hc0,(u278 (KQ l r a h3)),hc1,trivial⟩ (AvLe.of_eq (by rw [h]; try rfl))
   · have h:=h.2 hc1
     exact p248_start_1 l r a b re hE ⟨(Qx h2 h1),(rp cRul 4 3 1 h1),hc0,(u278 (KQ l r a h3)),hc1,trivial⟩ (AvLe.of_eq (by rw [h]; try rfl))
 · have h:=h.2 (bnF hc0)
   obtain ⟨h3,h⟩:=h
   rcases bft (mayB l.k r a) with hc1 | hc1
   · have h:=h.1 hc1
     obtain ⟨h4,h⟩:=h
     rcases bft (mayB l.k r b) with hc2 | hc2
     · have h:=h.1 hc2
       exact p248_start_2 l r a b re hE ⟨(Qx h2 h1),(rp cRul 4 3 1 h1),hc0,(u278 (KQ l r a h3)),hc1,(u278 (KQ l r b h4)),hc2,trivial⟩ (AvLe.of_eq (by rw [h]; try rfl))
     · have h:=h.2 hc2
       exact p248_start_3 l r a b re hE ⟨(Qx h2 h1),(rp cRul 4 3 1 h1),hc0,(u278 (KQ l r a h3)),hc1,(u278 (KQ l r b h4)),hc2,trivial⟩ (AvLe.of_eq (by rw [h]; try rfl))
   · have h:=h.2 hc1
     exact p248_start_4 l r a b re hE ⟨(Qx h2 h1),(rp cRul 4 3 1 h1),hc0,(u278 (KQ l r a h3)),hc1,rfl,trivial⟩ (AvLe.of_eq (by rw [h]; try rfl))
theorem signs_ok (l:Lgb) (r a b:Int) (h:BokSmall l.k∧0≤r∧r<(l.k.rules.length:Int)):Pure Try.prog 248 [.agg [.rsl (Qg l.k.rules) 0 l.k.rules.length,.rsl (rowI l.k.ranks) 0 l.k.ranks.length,.rsl (rowI l.k.insured) 0 l.k.insured.length,.rsl (Qc l.es) 0 l.es.length],.int .i64 r,.int .i64 a,.int .i64 b] (.bool (qr l.k r a b)):=Qv Try.func248 f248b fun E hE=>by
 have g2:=Xx (l:=l.k.rules) r0 h.2
 refine f248W l r a b (rv:=qr l.k r a b) hE ⟨h.2.1,_,g2,fun t=>⟨h,fun q1=>?_,fun q1=>?_⟩,fun t=>⟨h,fun q1=>⟨h,fun q2=>?_,fun q2=>?_⟩,fun q1=>?_⟩⟩
 · have t':(Ke l.k r).two=false:=t
   unfold qr; rw [if_pos t',q1]; rfl
 · have t':(Ke l.k r).two=false:=t
   unfold qr; rw [if_pos t',q1]; rfl
 · have t':(Ke l.k r).two=true:=t
   unfold qr; rw [if_neg (by rw [t']; simp),q1,q2]; rfl
 · have t':(Ke l.k r).two=true:=t
   unfold qr; rw [if_neg (by rw [t']; simp),q1,q2]; rfl
 · have t':(Ke l.k r).two=true:=t
   unfold qr; rw [if_neg (by rw [t']; simp),q1]; rfl
theorem f280b:Try.f280.body=some (Qd Try.prog 280):=by kernel_rfl
theorem u280 {a c k:List AV} {r:AV} (h:Pure Try.prog 280 (a++c++k) r):Qe Try.prog (.clos 280 a k) c r:=Qj Try.func280 (by kernel_rfl) f280b h
theorem p280_start_0 (x:Ent) (n:Int) {E:Env} {res:AV} (hE:Qf Try.prog 280 res E) (ho:AllP [(x.kind == 3)=true])
 (hr:AvLe (.bool (x.a == n)) res):G Try.prog E [.code (Qd Try.prog 280)] ⟨[.agg [.int .i64 x.day,.int .i64 x.kind,.int .i64 x.a,.int .i64 x.b,.int .i64 x.c],.rptr [.int .i64 n] 0]++unds (Try.f280.ntmps - 2),[]⟩ :=
 Qb (n:=400) (evs:=[.b true]) (obs:=_) hE Try.func280 Qh (by kernel_rfl) ho hr
theorem p280_start_1 (x:Ent) (n:Int) {E:Env} {res:AV} (hE:Qf Try.prog 280 res E) (ho:AllP [(x.kind == 3)=false])
 (hr:AvLe (.bool false) res):G Try.prog E [.code (Qd Try.prog 280)] ⟨[.agg [.int .i64 x.day,.int .i64 x.kind,.int .i64 x.a,.int .i64 x.b,.int .i64 x.c],.rptr [.int .i64 n] 0]++unds (Try.f280.ntmps - 2),[]⟩ :=
 Qb (n:=400) (evs:=[.b false]) (obs:=_) hE Try.func280 Qh (by kernel_rfl) ho hr
theorem f280W (x:Ent) (n:Int) {E:Env} {rv:Bool} (hE:Qf Try.prog 280 (.bool rv) E)
 (h:((x.kind=3→rv=(x.a == n))∧(¬ (x.kind=3)→rv=false))):G Try.prog E [.code (Qd Try.prog 280)] ⟨[.agg [.int .i64 x.day,.int .i64 x.kind,.int .i64 x.a,.int .i64 x.b,.int .i64 x.c],.rptr [.int .i64 n] 0]++unds (Try.f280.ntmps - 2),[]⟩:=by
 rcases bft (x.kind == 3) with hc0 | hc0
 · have h:=h.1 (eq_of_beq hc0)
   exact p280_start_0 x n hE ⟨hc0,trivial⟩ (AvLe.of_eq (by rw [h]; try rfl))
 · have h:=h.2 (ne_of_beq_false hc0)
   exact p280_start_1 x n hE ⟨hc0,trivial⟩ (AvLe.of_eq (by rw [h]; try rfl))
theorem isMend_ok (x:Ent) (n:Int):Pure Try.prog 280 [.agg [.int .i64 x.day,.int .i64 x.kind,.int .i64 x.a,.int .i64 x.b,.int .i64 x.c],.rptr [.int .i64 n] 0] (.bool (Xr n x)):=Qv Try.func280 f280b fun E hE=>by
 refine f280W x n (rv:=Xr n x) hE ⟨fun h=>?_,fun h=>?_⟩
 · unfold Xr; rw [h]; rfl
 · unfold Xr; rw [beq_eq_false_iff_ne.2 h]; rfl
theorem f207meb:Try.f207.body=some (Qd Try.prog 207):=by kernel_rfl
def qm (P:Program):List Item:=kAt 400 [.code (Qd P 207)] [.stop]
def Kt (l:(List Ent)) (n:Int) (i:Nat):St:=⟨([.rsl (Qc l) 0 l.length,.clos 280 [] [.rptr [.int .i64 n] 0]]++jj 5 ([.int .i64 (l.length:Int),.int .i64 (i:Int)]++Js 10)),[]⟩
def Ku (E:Env) (l:(List Ent)) (n:Int) (i:Nat):Prop:=G Try.prog E (qm Try.prog) (Kt l n i )
abbrev WY (ee:Ent):List AV:=[.int .i64 ee.day,.int .i64 ee.kind,.int .i64 ee.a,.int .i64 ee.b,.int .i64 ee.c]
theorem QaM (l:(List Ent)) (n:Int) {E:Env} {rv:AV} (hE:Qf Try.prog 207 rv E) (ho:AllP [])
 (hg:G Try.prog E (qm Try.prog) ⟨([.rsl (Qc l) 0 l.length,.clos 280 [] [.rptr [.int .i64 n] 0]]++jj 5 ([.int .i64 (l.length:Int),.int .i64 0]++Js 10)),[]⟩):G Try.prog E [.code (Qd Try.prog 207)] ⟨[.rsl (Qc l) 0 l.length,.clos 280 [] [.rptr [.int .i64 n] 0]]++unds (Try.f207.ntmps - 2),[]⟩ :=
 Ql (n:=400) (ds:=[]) (cs:=[]) (live:=[0,1,7,8]) (m:=0) (evs:=[.stop]) (obs:=_) hE.2.1 (hE.nogh _) Qh (by kernel_rfl) ho hg
theorem f207meW (l:(List Ent)) (n:Int) {E:Env} {rv:Int} (hE:Qf Try.prog 207 (.int .i64 rv) E)
 (h:Ku E l n 0):G Try.prog E [.code (Qd Try.prog 207)] ⟨[.rsl (Qc l) 0 l.length,.clos 280 [] [.rptr [.int .i64 n] 0]]++unds (Try.f207.ntmps - 2),[]⟩:=by
 exact QaM l n hE trivial h
theorem p207me_0_0 (l:(List Ent)) (n:Int) (i:Nat) (ee:Ent) {E:Env} {res:AV} (hE:Qf Try.prog 207 res E) (ho:AllP [(decide ((i:Int)<(l.length:Int)))=true,0≤(i:Int)∧(i:Int)<(l.length:Int),((Qc l).drop (0+(Int.toNat (i:Int))*5)).take 5=(WY ee),Qe Try.prog (.clos 280 [] [.rptr [.int .i64 n] 0]) [.agg (WY ee)] (.bool (Xr n ee)),(Xr n ee)=true])
 (hr:AvLe (.int .i64 (i:Int)) res):G Try.prog E (qm Try.prog) (Kt l n i ) :=
 Qb (n:=400) (evs:=[.b true,.ld (.agg (WY ee)),.v (.bool (Xr n ee)),.b true]) (obs:=_) hE Try.func207 Qh (by kernel_rfl) ho hr
theorem p207me_0_1 (l:(List Ent)) (n:Int) (i:Nat) (ee:Ent) {E:Env} {rv:AV} (hE:Qf Try.prog 207 rv E) (ho:AllP [(decide ((i:Int)<(l.length:Int)))=true,0≤(i:Int)∧(i:Int)<(l.length:Int),((Qc l).drop (0+(Int.toNat (i:Int))*5)).take 5=(WY ee),Qe Try.prog (.clos 280 [] [.rptr [.int .i64 n] 0]) [.agg (WY ee)] (.bool (Xr n ee)),(Xr n ee)=false,InR .i64 ((i:Int)+1)])
 (hg:G Try.prog E (qm Try.prog) ⟨([.rsl (Qc l) 0 l.length,.clos 280 [] [.rptr [.int .i64 n] 0]]++jj 5 ([.int .i64 (l.length:Int),.int .i64 ((i:Int)+1)]++Js 10)),[]⟩):G Try.prog E (qm Try.prog) (Kt l n i ) :=
 Ql (n:=400) (ds:=[]) (cs:=[]) (live:=[0,1,7,8]) (m:=0) (evs:=[.b true,.ld (.agg (WY ee)),.v (.bool (Xr n ee)),.b false,.stop]) (obs:=_) hE.2.1 (hE.nogh _) Qh (by kernel_rfl) ho hg
theorem p207me_0_2 (l:(List Ent)) (n:Int) (i:Nat) {E:Env} {res:AV} (hE:Qf Try.prog 207 res E) (ho:AllP [(decide ((i:Int)<(l.length:Int)))=false])
 (hr:AvLe (.int .i64 (-1)) res):G Try.prog E (qm Try.prog) (Kt l n i ) :=
 Qb (n:=400) (evs:=[.b false]) (obs:=_) hE Try.func207 Qh (by kernel_rfl) ho hr
theorem f207meW0 (l:(List Ent)) (n:Int) (i:Nat) {E:Env} {rv:Int} (hE:Qf Try.prog 207 (.int .i64 rv) E)
 (h:(((i:Int)<(l.length:Int)→(∃ ee:Ent,l[i]?=some ee∧(((Xr n ee)=true→rv=(i:Int))∧((Xr n ee)=false→((I6 ((i:Int)+1))∧Ku E l n (i+1))))))∧(¬ ((i:Int)<(l.length:Int))→rv=(-1)))):Ku E l n i:=by
 rcases bft (decide ((i:Int)<(l.length:Int))) with hc0 | hc0
 · have h:=h.1 (odt hc0)
   obtain ⟨ee,h1,h⟩:=h
   rcases bft (Xr n ee) with hc1 | hc1
   · have h:=h.1 hc1
     exact p207me_0_0 l n i ee hE ⟨hc0,(QE h1),(rp cEnt 5 0 5 h1),(u280 (isMend_ok ee n)),hc1,trivial⟩ (AvLe.of_eq (by rw [h]; try rfl))
   · have h:=h.2 hc1
     obtain ⟨q6_2,h⟩:=h
     exact p207me_0_1 l n i ee hE ⟨hc0,(QE h1),(rp cEnt 5 0 5 h1),(u280 (isMend_ok ee n)),hc1,q6_2,trivial⟩ h
 · have h:=h.2 (odf hc0)
   exact p207me_0_2 l n i hE ⟨hc0,trivial⟩ (AvLe.of_eq (by rw [h]; try rfl))
theorem idxMend_ok (l:List Ent) (n:Int) (h:l.length≤9223372036854775807):Pure Try.prog 207 [.rsl (Qc l) 0 l.length,.clos 280 [] [.rptr [.int .i64 n] 0]] (.int .i64 (idxG (Xr n) l)):=Qv Try.func207 f207meb fun E hE=>by
 have hl:=h
 refine f207meW l n (rv:=idxG (Xr n) l) hE (Yy (Xr n) l l.length 0 (by omega) (fun j x hj=>by omega) (fun i=>Ku E l n i) (fun i hi' h1 h2=>?_) (fun _ h2=>?_))
 · have hx:l[i]?=some l[i]:=List.getElem?_eq_getElem hi'
   have hm:=List.mem_of_getElem? hx
   exact f207meW0 l n i (rv:=idxG (Xr n) l) hE ⟨fun _=>⟨_,hx,fun hp=>h1 _ hx (by simpa using hp),fun hp=>⟨by omega,h2 _ hx (by simpa using hp)⟩⟩,fun h=>by omega⟩
 · exact f207meW0 l n _ (rv:=idxG (Xr n) l) hE ⟨fun h=>by omega,fun _=>h2⟩
theorem f279meb:Try.f279.body=some (Qd Try.prog 279):=by kernel_rfl
theorem QaH (l:(List Ent)) (n:Int) {E:Env} {res:AV} (hE:Qf Try.prog 279 res E) (ho:AllP [Qe Try.prog (.clos 207 [] []) [.rsl (Qc l) 0 l.length,.clos 280 [] [.rptr [.int .i64 n] 0]] (.int .i64 (idxG (Xr n) l))])
 (hr:AvLe (.bool (decide ((idxG (Xr n) l)≥0))) res):G Try.prog E [.code (Qd Try.prog 279)] ⟨[.rsl (Qc l) 0 l.length,.clos 280 [] [.rptr [.int .i64 n] 0]]++unds (Try.f279.ntmps - 2),[]⟩ :=
 Qb (n:=400) (evs:=[.v (.int .i64 (idxG (Xr n) l))]) (obs:=_) hE Try.func279 Qh (by kernel_rfl) ho hr
theorem f279meW (l:(List Ent)) (n:Int) {E:Env} {rv:Bool} (hE:Qf Try.prog 279 (.bool rv) E)
 (h:((l.length≤9223372036854775807)∧rv=(decide ((idxG (Xr n) l)≥0)))):G Try.prog E [.code (Qd Try.prog 279)] ⟨[.rsl (Qc l) 0 l.length,.clos 280 [] [.rptr [.int .i64 n] 0]]++unds (Try.f279.ntmps - 2),[]⟩:=by
 obtain ⟨h1,h⟩:=h
 exact QaH l n hE ⟨(Qj Try.func207 (by kernel_rfl) f207meb (idxMend_ok l n h1)),trivial⟩ (AvLe.of_eq (by rw [h]; try rfl))
theorem anyMend_ok (l:List Ent) (n:Int) (h:l.length≤9223372036854775807):Pure Try.prog 279 [.rsl (Qc l) 0 l.length,.clos 280 [] [.rptr [.int .i64 n] 0]] (.bool (l.any (Xr n))):=Qv Try.func279 f279meb fun E hE =>
 f279meW l n (rv:=l.any (Xr n)) hE ⟨h,(VI _ _).symm⟩
theorem f250b:Try.f250.body=some (Qd Try.prog 250):=by kernel_rfl
theorem u250 {a c k:List AV} {r:AV} (h:Pure Try.prog 250 (a++c++k) r):Qe Try.prog (.clos 250 a k) c r:=Qj Try.func250 (by kernel_rfl) f250b h
theorem p250_start_0 (l:Lgb) (n:Int) {E:Env} {res:AV} (hE:Qf Try.prog 250 res E) (ho:AllP [Qe Try.prog (.clos 279 [] []) [.rsl (Qc l.es) 0 l.es.length,.clos 280 [] [.rptr [.int .i64 n] 0]] (.bool (l.es.any (Xr n)))])
 (hr:AvLe (.bool (l.es.any (Xr n))) res):G Try.prog E [.code (Qd Try.prog 250)] ⟨[.agg [.rsl (Qg l.k.rules) 0 l.k.rules.length,.rsl (rowI l.k.ranks) 0 l.k.ranks.length,.rsl (rowI l.k.insured) 0 l.k.insured.length,.rsl (Qc l.es) 0 l.es.length],.int .i64 n]++unds (Try.f250.ntmps - 2),[]⟩ :=
 Qb (n:=400) (evs:=[.v (.bool (l.es.any (Xr n)))]) (obs:=_) hE Try.func250 Qh (by kernel_rfl) ho hr
theorem f250W (l:Lgb) (n:Int) {E:Env} {rv:Bool} (hE:Qf Try.prog 250 (.bool rv) E)
 (h:((l.es.length≤9223372036854775807)∧rv=(l.es.any (Xr n)))):G Try.prog E [.code (Qd Try.prog 250)] ⟨[.agg [.rsl (Qg l.k.rules) 0 l.k.rules.length,.rsl (rowI l.k.ranks) 0 l.k.ranks.length,.rsl (rowI l.k.insured) 0 l.k.insured.length,.rsl (Qc l.es) 0 l.es.length],.int .i64 n]++unds (Try.f250.ntmps - 2),[]⟩:=by
 obtain ⟨h1,h⟩:=h
 exact p250_start_0 l n hE ⟨(Qj Try.func279 (by kernel_rfl) f279meb (anyMend_ok l.es n h1)),trivial⟩ (AvLe.of_eq (by rw [h]; try rfl))
theorem Vd (l:Lgb) (n:Int) (h:l.es.length≤1000):Pure Try.prog 250 [.agg [.rsl (Qg l.k.rules) 0 l.k.rules.length,.rsl (rowI l.k.ranks) 0 l.k.ranks.length,.rsl (rowI l.k.insured) 0 l.k.insured.length,.rsl (Qc l.es) 0 l.es.length],.int .i64 n] (.bool (Xt l.es n)):=Qv Try.func250 f250b fun E hE =>
 f250W l n (rv:=Xt l.es n) hE ⟨by omega,rfl⟩
theorem f206b:Try.f206.body=some (Qd Try.prog 206):=by kernel_rfl
theorem u206 {a c k:List AV} {r:AV} (h:Pure Try.prog 206 (a++c++k) r):Qe Try.prog (.clos 206 a k) c r:=Qj Try.func206 (by kernel_rfl) f206b h
abbrev Xc (l:Lgb):List AV:=[.rsl (Qg l.k.rules) 0 l.k.rules.length,.rsl (rowI l.k.ranks) 0 l.k.ranks.length,.rsl (rowI l.k.insured) 0 l.k.insured.length,.rsl (Qc l.es) 0 l.es.length]
abbrev Xb (l:Lgb) (x:Ent):List AV:=[.agg (Xc l),.agg [.int .i64 x.day,.int .i64 x.kind,.int .i64 x.a,.int .i64 x.b,.int .i64 x.c]]
abbrev Yo (x:Ent) (ee:Ent):List AV:=[.int .i64 x.day,.int .i64 ee.day,.int .i64 10000]
abbrev Yv (x:Ent) (l:Lgb):AV:=.bool (Qa x.a 0 ((l.es.length:Int) - 1))
abbrev qu (x:Ent) (l:Lgb):List AV:=[.int .i64 x.a,.int .i64 0,.int .i64 ((l.es.length:Int) - 1)]
abbrev yL (x:Ent) (l:Lgb):AV:=.bool (Qa x.a 0 ((l.k.rules.length:Int) - 1))
abbrev z206_7 (x:Ent) (l:Lgb):List AV:=[.int .i64 x.a,.int .i64 0,.int .i64 ((l.k.rules.length:Int) - 1)]
theorem p206_start_0 (l:Lgb) (x:Ent) (ee:Ent) {E:Env} {res:AV} (hE:Qf Try.prog 206 res E) (ho:AllP [(decide ((l.es.length:Int) > 0))=true,InR .i64 ((l.es.length:Int) - 1),0≤((l.es.length:Int) - 1)∧((l.es.length:Int) - 1)<(l.es.length:Int),((Qc l.es).drop ((0+(Int.toNat ((l.es.length:Int) - 1))*5)+0)).take 1=[.int .i64 ee.day],Qe Try.prog (.clos 142 [] []) (Yo x ee) (.bool (Qa x.day ee.day 10000)),(!(Qa x.day ee.day 10000))=true])
 (hr:AvLe (.bool false) res):G Try.prog E [.code (Qd Try.prog 206)] ⟨(Xb l x)++unds (Try.f206.ntmps - 2),[]⟩ :=
 Qb (n:=400) (evs:=[.b true,.auto,.ld (.int .i64 ee.day),.v (.bool (Qa x.day ee.day 10000)),.b true]) (obs:=_) hE Try.func206 Qh (by kernel_rfl) ho hr
theorem p206_start_1 (l:Lgb) (x:Ent) (ee:Ent) {E:Env} {res:AV} (hE:Qf Try.prog 206 res E) (ho:AllP [(decide ((l.es.length:Int) > 0))=true,InR .i64 ((l.es.length:Int) - 1),0≤((l.es.length:Int) - 1)∧((l.es.length:Int) - 1)<(l.es.length:Int),((Qc l.es).drop ((0+(Int.toNat ((l.es.length:Int) - 1))*5)+0)).take 1=[.int .i64 ee.day],Qe Try.prog (.clos 142 [] []) (Yo x ee) (.bool (Qa x.day ee.day 10000)),(!(Qa x.day ee.day 10000))=false,(x.kind == 1)=true,InR .i64 ((l.k.rules.length:Int) - 1),Qe Try.prog (.clos 142 [] []) (z206_7 x l) (yL x l),(Qa x.a 0 ((l.k.rules.length:Int) - 1))=true,Qe Try.prog (.clos 248 [] []) [.agg (Xc l),.int .i64 x.a,.int .i64 x.b,.int .i64 x.c] (.bool (qr l.k x.a x.b x.c))])
 (hr:AvLe (.bool (qr l.k x.a x.b x.c)) res):G Try.prog E [.code (Qd Try.prog 206)] ⟨(Xb l x)++unds (Try.f206.ntmps - 2),[]⟩ :=
 Qb (n:=400) (evs:=[.b true,.auto,.ld (.int .i64 ee.day),.v (.bool (Qa x.day ee.day 10000)),.b false,.b true,.v (yL x l),.b true,.v (.bool (qr l.k x.a x.b x.c))]) (obs:=_) hE Try.func206 Qh (by kernel_rfl) ho hr
theorem p206_start_2 (l:Lgb) (x:Ent) (ee:Ent) {E:Env} {res:AV} (hE:Qf Try.prog 206 res E) (ho:AllP [(decide ((l.es.length:Int) > 0))=true,InR .i64 ((l.es.length:Int) - 1),0≤((l.es.length:Int) - 1)∧((l.es.length:Int) - 1)<(l.es.length:Int),((Qc l.es).drop ((0+(Int.toNat ((l.es.length:Int) - 1))*5)+0)).take 1=[.int .i64 ee.day],Qe Try.prog (.clos 142 [] []) (Yo x ee) (.bool (Qa x.day ee.day 10000)),(!(Qa x.day ee.day 10000))=false,(x.kind == 1)=true,InR .i64 ((l.k.rules.length:Int) - 1),Qe Try.prog (.clos 142 [] []) (z206_7 x l) (yL x l),(Qa x.a 0 ((l.k.rules.length:Int) - 1))=false])
 (hr:AvLe (.bool false) res):G Try.prog E [.code (Qd Try.prog 206)] ⟨(Xb l x)++unds (Try.f206.ntmps - 2),[]⟩ :=
 Qb (n:=400) (evs:=[.b true,.auto,.ld (.int .i64 ee.day),.v (.bool (Qa x.day ee.day 10000)),.b false,.b true,.v (yL x l),.b false]) (obs:=_) hE Try.func206 Qh (by kernel_rfl) ho hr
theorem p206_start_3 (l:Lgb) (x:Ent) (ee:Ent) {E:Env} {res:AV} (hE:Qf Try.prog 206 res E) (ho:AllP [(decide ((l.es.length:Int) > 0))=true,InR .i64 ((l.es.length:Int) - 1),0≤((l.es.length:Int) - 1)∧((l.es.length:Int) - 1)<(l.es.length:Int),((Qc l.es).drop ((0+(Int.toNat ((l.es.length:Int) - 1))*5)+0)).take 1=[.int .i64 ee.day],Qe Try.prog (.clos 142 [] []) (Yo x ee) (.bool (Qa x.day ee.day 10000)),(!(Qa x.day ee.day 10000))=false,(x.kind == 1)=false,(x.kind == 2)=true,Qe Try.prog (.clos 249 [] []) [.agg (Xc l),.int .i64 x.a] (.bool (QJ l.k x.a)),(QJ l.k x.a)=true,Qe Try.prog (.clos 142 [] []) [.int .i64 x.b,.int .i64 1,.int .i64 3] (.bool (Qa x.b 1 3)),(Qa x.b 1 3)=true])
 (hr:AvLe (.bool (x.c == 0)) res):G Try.prog E [.code (Qd Try.prog 206)] ⟨(Xb l x)++unds (Try.f206.ntmps - 2),[]⟩ :=
 Qb (n:=400) (evs:=[.b true,.auto,.ld (.int .i64 ee.day),.v (.bool (Qa x.day ee.day 10000)),.b false,.b false,.b true,.v (.bool (QJ l.k x.a)),.b true,.v (.bool (Qa x.b 1 3)),.b true]) (obs:=_) hE Try.func206 Qh (by kernel_rfl) ho hr
theorem p206_start_4 (l:Lgb) (x:Ent) (ee:Ent) {E:Env} {res:AV} (hE:Qf Try.prog 206 res E) (ho:AllP [(decide ((l.es.length:Int) > 0))=true,InR .i64 ((l.es.length:Int) - 1),0≤((l.es.length:Int) - 1)∧((l.es.length:Int) - 1)<(l.es.length:Int),((Qc l.es).drop ((0+(Int.toNat ((l.es.length:Int) - 1))*5)+0)).take 1=[.int .i64 ee.day],Qe Try.prog (.clos 142 [] []) (Yo x ee) (.bool (Qa x.day ee.day 10000)),(!(Qa x.day ee.day 10000))=false,(x.kind == 1)=false,(x.kind == 2)=true,Qe Try.prog (.clos 249 [] []) [.agg (Xc l),.int .i64 x.a] (.bool (QJ l.k x.a)),(QJ l.k x.a)=true,Qe Try.prog (.clos 142 [] []) [.int .i64 x.b,.int .i64 1,.int .i64 3] (.bool (Qa x.b 1 3)),(Qa x.b 1 3)=false])
 (hr:AvLe (.bool false) res):G Try.prog E [.code (Qd Try.prog 206)] ⟨(Xb l x)++unds (Try.f206.ntmps - 2),[]⟩ :=
 Qb (n:=400) (evs:=[.b true,.auto,.ld (.int .i64 ee.day),.v (.bool (Qa x.day ee.day 10000)),.b false,.b false,.b true,.v (.bool (QJ l.k x.a)),.b true,.v (.bool (Qa x.b 1 3)),.b false]) (obs:=_) hE Try.func206 Qh (by kernel_rfl) ho hr
theorem p206_start_5 (l:Lgb) (x:Ent) (ee:Ent) {E:Env} {res:AV} (hE:Qf Try.prog 206 res E) (ho:AllP [(decide ((l.es.length:Int) > 0))=true,InR .i64 ((l.es.length:Int) - 1),0≤((l.es.length:Int) - 1)∧((l.es.length:Int) - 1)<(l.es.length:Int),((Qc l.es).drop ((0+(Int.toNat ((l.es.length:Int) - 1))*5)+0)).take 1=[.int .i64 ee.day],Qe Try.prog (.clos 142 [] []) (Yo x ee) (.bool (Qa x.day ee.day 10000)),(!(Qa x.day ee.day 10000))=false,(x.kind == 1)=false,(x.kind == 2)=true,Qe Try.prog (.clos 249 [] []) [.agg (Xc l),.int .i64 x.a] (.bool (QJ l.k x.a)),(QJ l.k x.a)=false,false=false])
 (hr:AvLe (.bool false) res):G Try.prog E [.code (Qd Try.prog 206)] ⟨(Xb l x)++unds (Try.f206.ntmps - 2),[]⟩ :=
 Qb (n:=400) (evs:=[.b true,.auto,.ld (.int .i64 ee.day),.v (.bool (Qa x.day ee.day 10000)),.b false,.b false,.b true,.v (.bool (QJ l.k x.a)),.b false,.b false]) (obs:=_) hE Try.func206 Qh (by kernel_rfl) ho hr
theorem p206_start_6 (l:Lgb) (x:Ent) (ee:Ent) (ee1:Ent) {E:Env} {res:AV} (hE:Qf Try.prog 206 res E) (ho:AllP [(decide ((l.es.length:Int) > 0))=true,InR .i64 ((l.es.length:Int) - 1),0≤((l.es.length:Int) - 1)∧((l.es.length:Int) - 1)<(l.es.length:Int),((Qc l.es).drop ((0+(Int.toNat ((l.es.length:Int) - 1))*5)+0)).take 1=[.int .i64 ee.day],Qe Try.prog (.clos 142 [] []) (Yo x ee) (.bool (Qa x.day ee.day 10000)),(!(Qa x.day ee.day 10000))=false,(x.kind == 1)=false,(x.kind == 2)=false,(x.kind == 3)=true,InR .i64 ((l.es.length:Int) - 1),Qe Try.prog (.clos 142 [] []) (qu x l) (Yv x l),(Qa x.a 0 ((l.es.length:Int) - 1))=true,0≤x.a∧x.a<(l.es.length:Int),((Qc l.es).drop ((0+(Int.toNat x.a)*5)+1)).take 1=[.int .i64 ee1.kind],(ee1.kind == 2)=true,Qe Try.prog (.clos 250 [] []) [.agg (Xc l),.int .i64 x.a] (.bool (Xt l.es x.a)),(!(Xt l.es x.a))=true,Qe Try.prog (.clos 251 [] []) [.agg (Xc l),.int .i64 x.b] (.bool (Xu l.k x.b)),(Xu l.k x.b)=true])
 (hr:AvLe (.bool (x.c == 0)) res):G Try.prog E [.code (Qd Try.prog 206)] ⟨(Xb l x)++unds (Try.f206.ntmps - 2),[]⟩ :=
 Qb (n:=400) (evs:=[.b true,.auto,.ld (.int .i64 ee.day),.v (.bool (Qa x.day ee.day 10000)),.b false,.b false,.b false,.b true,.v (Yv x l),.b true,.auto,.auto,.ld (.int .i64 ee1.kind),.b true,.v (.bool (Xt l.es x.a)),.b true,.v (.bool (Xu l.k x.b)),.b true]) (obs:=_) hE Try.func206 Qh (by kernel_rfl) ho hr
theorem p206_start_7 (l:Lgb) (x:Ent) (ee:Ent) (ee1:Ent) {E:Env} {res:AV} (hE:Qf Try.prog 206 res E) (ho:AllP [(decide ((l.es.length:Int) > 0))=true,InR .i64 ((l.es.length:Int) - 1),0≤((l.es.length:Int) - 1)∧((l.es.length:Int) - 1)<(l.es.length:Int),((Qc l.es).drop ((0+(Int.toNat ((l.es.length:Int) - 1))*5)+0)).take 1=[.int .i64 ee.day],Qe Try.prog (.clos 142 [] []) (Yo x ee) (.bool (Qa x.day ee.day 10000)),(!(Qa x.day ee.day 10000))=false,(x.kind == 1)=false,(x.kind == 2)=false,(x.kind == 3)=true,InR .i64 ((l.es.length:Int) - 1),Qe Try.prog (.clos 142 [] []) (qu x l) (Yv x l),(Qa x.a 0 ((l.es.length:Int) - 1))=true,0≤x.a∧x.a<(l.es.length:Int),((Qc l.es).drop ((0+(Int.toNat x.a)*5)+1)).take 1=[.int .i64 ee1.kind],(ee1.kind == 2)=true,Qe Try.prog (.clos 250 [] []) [.agg (Xc l),.int .i64 x.a] (.bool (Xt l.es x.a)),(!(Xt l.es x.a))=true,Qe Try.prog (.clos 251 [] []) [.agg (Xc l),.int .i64 x.b] (.bool (Xu l.k x.b)),(Xu l.k x.b)=false])
 (hr:AvLe (.bool false) res):G Try.prog E [.code (Qd Try.prog 206)] ⟨(Xb l x)++unds (Try.f206.ntmps - 2),[]⟩ :=
 Qb (n:=400) (evs:=[.b true,.auto,.ld (.int .i64 ee.day),.v (.bool (Qa x.day ee.day 10000)),.b false,.b false,.b false,.b true,.v (Yv x l),.b true,.auto,.auto,.ld (.int .i64 ee1.kind),.b true,.v (.bool (Xt l.es x.a)),.b true,.v (.bool (Xu l.k x.b)),.b false]) (obs:=_) hE Try.func206 Qh (by kernel_rfl) ho hr
theorem p206_start_8 (l:Lgb) (x:Ent) (ee:Ent) (ee1:Ent) {E:Env} {res:AV} (hE:Qf Try.prog 206 res E) (ho:AllP [(decide ((l.es.length:Int) > 0))=true,InR .i64 ((l.es.length:Int) - 1),0≤((l.es.length:Int) - 1)∧((l.es.length:Int) - 1)<(l.es.length:Int),((Qc l.es).drop ((0+(Int.toNat ((l.es.length:Int) - 1))*5)+0)).take 1=[.int .i64 ee.day],Qe Try.prog (.clos 142 [] []) (Yo x ee) (.bool (Qa x.day ee.day 10000)),(!(Qa x.day ee.day 10000))=false,(x.kind == 1)=false,(x.kind == 2)=false,(x.kind == 3)=true,InR .i64 ((l.es.length:Int) - 1),Qe Try.prog (.clos 142 [] []) (qu x l) (Yv x l),(Qa x.a 0 ((l.es.length:Int) - 1))=true,0≤x.a∧x.a<(l.es.length:Int),((Qc l.es).drop ((0+(Int.toNat x.a)*5)+1)).take 1=[.int .i64 ee1.kind],(ee1.kind == 2)=true,Qe Try.prog (.clos 250 [] []) [.agg (Xc l),.int .i64 x.a] (.bool (Xt l.es x.a)),(!(Xt l.es x.a))=false,false=false])
 (hr:AvLe (.bool false) res):G Try.prog E [.code (Qd Try.prog 206)] ⟨(Xb l x)++unds (Try.f206.ntmps - 2),[]⟩ :=
 Qb (n:=400) (evs:=[.b true,.auto,.ld (.int .i64 ee.day),.v (.bool (Qa x.day ee.day 10000)),.b false,.b false,.b false,.b true,.v (Yv x l),.b true,.auto,.auto,.ld (.int .i64 ee1.kind),.b true,.v (.bool (Xt l.es x.a)),.b false,.b false]) (obs:=_) hE Try.func206 Qh (by kernel_rfl) ho hr
theorem p206_start_9 (l:Lgb) (x:Ent) (ee:Ent) (ee1:Ent) {E:Env} {res:AV} (hE:Qf Try.prog 206 res E) (ho:AllP [(decide ((l.es.length:Int) > 0))=true,InR .i64 ((l.es.length:Int) - 1),0≤((l.es.length:Int) - 1)∧((l.es.length:Int) - 1)<(l.es.length:Int),((Qc l.es).drop ((0+(Int.toNat ((l.es.length:Int) - 1))*5)+0)).take 1=[.int .i64 ee.day],Qe Try.prog (.clos 142 [] []) (Yo x ee) (.bool (Qa x.day ee.day 10000)),(!(Qa x.day ee.day 10000))=false,(x.kind == 1)=false,(x.kind == 2)=false,(x.kind == 3)=true,InR .i64 ((l.es.length:Int) - 1),Qe Try.prog (.clos 142 [] []) (qu x l) (Yv x l),(Qa x.a 0 ((l.es.length:Int) - 1))=true,0≤x.a∧x.a<(l.es.length:Int),((Qc l.es).drop ((0+(Int.toNat x.a)*5)+1)).take 1=[.int .i64 ee1.kind],(ee1.kind == 2)=false,false=false,false=false])
 (hr:AvLe (.bool false) res):G Try.prog E [.code (Qd Try.prog 206)] ⟨(Xb l x)++unds (Try.f206.ntmps - 2),[]⟩ :=
 Qb (n:=400) (evs:=[.b true,.auto,.ld (.int .i64 ee.day),.v (.bool (Qa x.day ee.day 10000)),.b false,.b false,.b false,.b true,.v (Yv x l),.b true,.auto,.auto,.ld (.int .i64 ee1.kind),.b false,.b false,.b false]) (obs:=_) hE Try.func206 Qh (by kernel_rfl) ho hr
theorem QcE (l:Lgb) (x:Ent) (ee:Ent) {E:Env} {res:AV} (hE:Qf Try.prog 206 res E) (ho:AllP [(decide ((l.es.length:Int) > 0))=true,InR .i64 ((l.es.length:Int) - 1),0≤((l.es.length:Int) - 1)∧((l.es.length:Int) - 1)<(l.es.length:Int),((Qc l.es).drop ((0+(Int.toNat ((l.es.length:Int) - 1))*5)+0)).take 1=[.int .i64 ee.day],Qe Try.prog (.clos 142 [] []) (Yo x ee) (.bool (Qa x.day ee.day 10000)),(!(Qa x.day ee.day 10000))=false,(x.kind == 1)=false,(x.kind == 2)=false,(x.kind == 3)=true,InR .i64 ((l.es.length:Int) - 1),Qe Try.prog (.clos 142 [] []) (qu x l) (Yv x l),(Qa x.a 0 ((l.es.length:Int) - 1))=false,false=false,false=false,false=false])
 (hr:AvLe (.bool false) res):G Try.prog E [.code (Qd Try.prog 206)] ⟨(Xb l x)++unds (Try.f206.ntmps - 2),[]⟩ :=
 Qb (n:=400) (evs:=[.b true,.auto,.ld (.int .i64 ee.day),.v (.bool (Qa x.day ee.day 10000)),.b false,.b false,.b false,.b true,.v (Yv x l),.b false,.b false,.b false,.b false]) (obs:=_) hE Try.func206 Qh (by kernel_rfl) ho hr
theorem QcD (l:Lgb) (x:Ent) (ee:Ent) {E:Env} {res:AV} (hE:Qf Try.prog 206 res E) (ho:AllP [(decide ((l.es.length:Int) > 0))=true,InR .i64 ((l.es.length:Int) - 1),0≤((l.es.length:Int) - 1)∧((l.es.length:Int) - 1)<(l.es.length:Int),((Qc l.es).drop ((0+(Int.toNat ((l.es.length:Int) - 1))*5)+0)).take 1=[.int .i64 ee.day],Qe Try.prog (.clos 142 [] []) (Yo x ee) (.bool (Qa x.day ee.day 10000)),(!(Qa x.day ee.day 10000))=false,(x.kind == 1)=false,(x.kind == 2)=false,(x.kind == 3)=false,(x.kind == 4)=true,Qe Try.prog (.clos 249 [] []) [.agg (Xc l),.int .i64 x.a] (.bool (QJ l.k x.a)),(QJ l.k x.a)=true,Qe Try.prog (.clos 251 [] []) [.agg (Xc l),.int .i64 x.b] (.bool (Xu l.k x.b)),(Xu l.k x.b)=true])
 (hr:AvLe (.bool (x.c == 0)) res):G Try.prog E [.code (Qd Try.prog 206)] ⟨(Xb l x)++unds (Try.f206.ntmps - 2),[]⟩ :=
 Qb (n:=400) (evs:=[.b true,.auto,.ld (.int .i64 ee.day),.v (.bool (Qa x.day ee.day 10000)),.b false,.b false,.b false,.b false,.b true,.v (.bool (QJ l.k x.a)),.b true,.v (.bool (Xu l.k x.b)),.b true]) (obs:=_) hE Try.func206 Qh (by kernel_rfl) ho hr
theorem QcC (l:Lgb) (x:Ent) (ee:Ent) {E:Env} {res:AV} (hE:Qf Try.prog 206 res E) (ho:AllP [(decide ((l.es.length:Int) > 0))=true,InR .i64 ((l.es.length:Int) - 1),0≤((l.es.length:Int) - 1)∧((l.es.length:Int) - 1)<(l.es.length:Int),((Qc l.es).drop ((0+(Int.toNat ((l.es.length:Int) - 1))*5)+0)).take 1=[.int .i64 ee.day],Qe Try.prog (.clos 142 [] []) (Yo x ee) (.bool (Qa x.day ee.day 10000)),(!(Qa x.day ee.day 10000))=false,(x.kind == 1)=false,(x.kind == 2)=false,(x.kind == 3)=false,(x.kind == 4)=true,Qe Try.prog (.clos 249 [] []) [.agg (Xc l),.int .i64 x.a] (.bool (QJ l.k x.a)),(QJ l.k x.a)=true,Qe Try.prog (.clos 251 [] []) [.agg (Xc l),.int .i64 x.b] (.bool (Xu l.k x.b)),(Xu l.k x.b)=false])
 (hr:AvLe (.bool false) res):G Try.prog E [.code (Qd Try.prog 206)] ⟨(Xb l x)++unds (Try.f206.ntmps - 2),[]⟩ :=
 Qb (n:=400) (evs:=[.b true,.auto,.ld (.int .i64 ee.day),.v (.bool (Qa x.day ee.day 10000)),.b false,.b false,.b false,.b false,.b true,.v (.bool (QJ l.k x.a)),.b true,.v (.bool (Xu l.k x.b)),.b false]) (obs:=_) hE Try.func206 Qh (by kernel_rfl) ho hr
theorem QcB (l:Lgb) (x:Ent) (ee:Ent) {E:Env} {res:AV} (hE:Qf Try.prog 206 res E) (ho:AllP [(decide ((l.es.length:Int) > 0))=true,InR .i64 ((l.es.length:Int) - 1),0≤((l.es.length:Int) - 1)∧((l.es.length:Int) - 1)<(l.es.length:Int),((Qc l.es).drop ((0+(Int.toNat ((l.es.length:Int) - 1))*5)+0)).take 1=[.int .i64 ee.day],Qe Try.prog (.clos 142 [] []) (Yo x ee) (.bool (Qa x.day ee.day 10000)),(!(Qa x.day ee.day 10000))=false,(x.kind == 1)=false,(x.kind == 2)=false,(x.kind == 3)=false,(x.kind == 4)=true,Qe Try.prog (.clos 249 [] []) [.agg (Xc l),.int .i64 x.a] (.bool (QJ l.k x.a)),(QJ l.k x.a)=false,false=false])
 (hr:AvLe (.bool false) res):G Try.prog E [.code (Qd Try.prog 206)] ⟨(Xb l x)++unds (Try.f206.ntmps - 2),[]⟩ :=
 Qb (n:=400) (evs:=[.b true,.auto,.ld (.int .i64 ee.day),.v (.bool (Qa x.day ee.day 10000)),.b false,.b false,.b false,.b false,.b true,.v (.bool (QJ l.k x.a)),.b false,.b false]) (obs:=_) hE Try.func206 Qh (by kernel_rfl) ho hr
theorem QcA (l:Lgb) (x:Ent) (ee:Ent) {E:Env} {res:AV} (hE:Qf Try.prog 206 res E) (ho:AllP [(decide ((l.es.length:Int) > 0))=true,InR .i64 ((l.es.length:Int) - 1),0≤((l.es.length:Int) - 1)∧((l.es.length:Int) - 1)<(l.es.length:Int),((Qc l.es).drop ((0+(Int.toNat ((l.es.length:Int) - 1))*5)+0)).take 1=[.int .i64 ee.day],Qe Try.prog (.clos 142 [] []) (Yo x ee) (.bool (Qa x.day ee.day 10000)),(!(Qa x.day ee.day 10000))=false,(x.kind == 1)=false,(x.kind == 2)=false,(x.kind == 3)=false,(x.kind == 4)=false,(x.kind == 5)=true,Qe Try.prog (.clos 249 [] []) [.agg (Xc l),.int .i64 x.a] (.bool (QJ l.k x.a)),(QJ l.k x.a)=true,Qe Try.prog (.clos 142 [] []) [.int .i64 x.b,.int .i64 0,.int .i64 10000] (.bool (Qa x.b 0 10000)),(Qa x.b 0 10000)=true])
 (hr:AvLe (.bool (x.c == 0)) res):G Try.prog E [.code (Qd Try.prog 206)] ⟨(Xb l x)++unds (Try.f206.ntmps - 2),[]⟩ :=
 Qb (n:=400) (evs:=[.b true,.auto,.ld (.int .i64 ee.day),.v (.bool (Qa x.day ee.day 10000)),.b false,.b false,.b false,.b false,.b false,.b true,.v (.bool (QJ l.k x.a)),.b true,.v (.bool (Qa x.b 0 10000)),.b true]) (obs:=_) hE Try.func206 Qh (by kernel_rfl) ho hr
theorem Qcz (l:Lgb) (x:Ent) (ee:Ent) {E:Env} {res:AV} (hE:Qf Try.prog 206 res E) (ho:AllP [(decide ((l.es.length:Int) > 0))=true,InR .i64 ((l.es.length:Int) - 1),0≤((l.es.length:Int) - 1)∧((l.es.length:Int) - 1)<(l.es.length:Int),((Qc l.es).drop ((0+(Int.toNat ((l.es.length:Int) - 1))*5)+0)).take 1=[.int .i64 ee.day],Qe Try.prog (.clos 142 [] []) (Yo x ee) (.bool (Qa x.day ee.day 10000)),(!(Qa x.day ee.day 10000))=false,(x.kind == 1)=false,(x.kind == 2)=false,(x.kind == 3)=false,(x.kind == 4)=false,(x.kind == 5)=true,Qe Try.prog (.clos 249 [] []) [.agg (Xc l),.int .i64 x.a] (.bool (QJ l.k x.a)),(QJ l.k x.a)=true,Qe Try.prog (.clos 142 [] []) [.int .i64 x.b,.int .i64 0,.int .i64 10000] (.bool (Qa x.b 0 10000)),(Qa x.b 0 10000)=false])
 (hr:AvLe (.bool false) res):G Try.prog E [.code (Qd Try.prog 206)] ⟨(Xb l x)++unds (Try.f206.ntmps - 2),[]⟩ :=
 Qb (n:=400) (evs:=[.b true,.auto,.ld (.int .i64 ee.day),.v (.bool (Qa x.day ee.day 10000)),.b false,.b false,.b false,.b false,.b false,.b true,.v (.bool (QJ l.k x.a)),.b true,.v (.bool (Qa x.b 0 10000)),.b false]) (obs:=_) hE Try.func206 Qh (by kernel_rfl) ho hr
theorem Qcy (l:Lgb) (x:Ent) (ee:Ent) {E:Env} {res:AV} (hE:Qf Try.prog 206 res E) (ho:AllP [(decide ((l.es.length:Int) > 0))=true,InR .i64 ((l.es.length:Int) - 1),0≤((l.es.length:Int) - 1)∧((l.es.length:Int) - 1)<(l.es.length:Int),((Qc l.es).drop ((0+(Int.toNat ((l.es.length:Int) - 1))*5)+0)).take 1=[.int .i64 ee.day],Qe Try.prog (.clos 142 [] []) (Yo x ee) (.bool (Qa x.day ee.day 10000)),(!(Qa x.day ee.day 10000))=false,(x.kind == 1)=false,(x.kind == 2)=false,(x.kind == 3)=false,(x.kind == 4)=false,(x.kind == 5)=true,Qe Try.prog (.clos 249 [] []) [.agg (Xc l),.int .i64 x.a] (.bool (QJ l.k x.a)),(QJ l.k x.a)=false,false=false])
 (hr:AvLe (.bool false) res):G Try.prog E [.code (Qd Try.prog 206)] ⟨(Xb l x)++unds (Try.f206.ntmps - 2),[]⟩ :=
 Qb (n:=400) (evs:=[.b true,.auto,.ld (.int .i64 ee.day),.v (.bool (Qa x.day ee.day 10000)),.b false,.b false,.b false,.b false,.b false,.b true,.v (.bool (QJ l.k x.a)),.b false,.b false]) (obs:=_) hE Try.func206 Qh (by kernel_rfl) ho hr
theorem Qcx (l:Lgb) (x:Ent) (ee:Ent) {E:Env} {res:AV} (hE:Qf Try.prog 206 res E) (ho:AllP [(decide ((l.es.length:Int) > 0))=true,InR .i64 ((l.es.length:Int) - 1),0≤((l.es.length:Int) - 1)∧((l.es.length:Int) - 1)<(l.es.length:Int),((Qc l.es).drop ((0+(Int.toNat ((l.es.length:Int) - 1))*5)+0)).take 1=[.int .i64 ee.day],Qe Try.prog (.clos 142 [] []) (Yo x ee) (.bool (Qa x.day ee.day 10000)),(!(Qa x.day ee.day 10000))=false,(x.kind == 1)=false,(x.kind == 2)=false,(x.kind == 3)=false,(x.kind == 4)=false,(x.kind == 5)=false,(x.kind == 6)=true,Qe Try.prog (.clos 249 [] []) [.agg (Xc l),.int .i64 x.a] (.bool (QJ l.k x.a)),(QJ l.k x.a)=true,(x.b == 0)=true])
 (hr:AvLe (.bool (x.c == 0)) res):G Try.prog E [.code (Qd Try.prog 206)] ⟨(Xb l x)++unds (Try.f206.ntmps - 2),[]⟩ :=
 Qb (n:=400) (evs:=[.b true,.auto,.ld (.int .i64 ee.day),.v (.bool (Qa x.day ee.day 10000)),.b false,.b false,.b false,.b false,.b false,.b false,.b true,.v (.bool (QJ l.k x.a)),.b true,.b true]) (obs:=_) hE Try.func206 Qh (by kernel_rfl) ho hr
theorem Qcw (l:Lgb) (x:Ent) (ee:Ent) {E:Env} {res:AV} (hE:Qf Try.prog 206 res E) (ho:AllP [(decide ((l.es.length:Int) > 0))=true,InR .i64 ((l.es.length:Int) - 1),0≤((l.es.length:Int) - 1)∧((l.es.length:Int) - 1)<(l.es.length:Int),((Qc l.es).drop ((0+(Int.toNat ((l.es.length:Int) - 1))*5)+0)).take 1=[.int .i64 ee.day],Qe Try.prog (.clos 142 [] []) (Yo x ee) (.bool (Qa x.day ee.day 10000)),(!(Qa x.day ee.day 10000))=false,(x.kind == 1)=false,(x.kind == 2)=false,(x.kind == 3)=false,(x.kind == 4)=false,(x.kind == 5)=false,(x.kind == 6)=true,Qe Try.prog (.clos 249 [] []) [.agg (Xc l),.int .i64 x.a] (.bool (QJ l.k x.a)),(QJ l.k x.a)=true,(x.b == 0)=false])
 (hr:AvLe (.bool false) res):G Try.prog E [.code (Qd Try.prog 206)] ⟨(Xb l x)++unds (Try.f206.ntmps - 2),[]⟩ :=
 Qb (n:=400) (evs:=[.b true,.auto,.ld (.int .i64 ee.day),.v (.bool (Qa x.day ee.day 10000)),.b false,.b false,.b false,.b false,.b false,.b false,.b true,.v (.bool (QJ l.k x.a)),.b true,.b false]) (obs:=_) hE Try.func206 Qh (by kernel_rfl) ho hr
theorem Qcv (l:Lgb) (x:Ent) (ee:Ent) {E:Env} {res:AV} (hE:Qf Try.prog 206 res E) (ho:AllP [(decide ((l.es.length:Int) > 0))=true,InR .i64 ((l.es.length:Int) - 1),0≤((l.es.length:Int) - 1)∧((l.es.length:Int) - 1)<(l.es.length:Int),((Qc l.es).drop ((0+(Int.toNat ((l.es.length:Int) - 1))*5)+0)).take 1=[.int .i64 ee.day],Qe Try.prog (.clos 142 [] []) (Yo x ee) (.bool (Qa x.day ee.day 10000)),(!(Qa x.day ee.day 10000))=false,(x.kind == 1)=false,(x.kind == 2)=false,(x.kind == 3)=false,(x.kind == 4)=false,(x.kind == 5)=false,(x.kind == 6)=true,Qe Try.prog (.clos 249 [] []) [.agg (Xc l),.int .i64 x.a] (.bool (QJ l.k x.a)),(QJ l.k x.a)=false,false=false])
 (hr:AvLe (.bool false) res):G Try.prog E [.code (Qd Try.prog 206)] ⟨(Xb l x)++unds (Try.f206.ntmps - 2),[]⟩ :=
 Qb (n:=400) (evs:=[.b true,.auto,.ld (.int .i64 ee.day),.v (.bool (Qa x.day ee.day 10000)),.b false,.b false,.b false,.b false,.b false,.b false,.b true,.v (.bool (QJ l.k x.a)),.b false,.b false]) (obs:=_) hE Try.func206 Qh (by kernel_rfl) ho hr
theorem Qcu (l:Lgb) (x:Ent) (ee:Ent) {E:Env} {res:AV} (hE:Qf Try.prog 206 res E) (ho:AllP [(decide ((l.es.length:Int) > 0))=true,InR .i64 ((l.es.length:Int) - 1),0≤((l.es.length:Int) - 1)∧((l.es.length:Int) - 1)<(l.es.length:Int),((Qc l.es).drop ((0+(Int.toNat ((l.es.length:Int) - 1))*5)+0)).take 1=[.int .i64 ee.day],Qe Try.prog (.clos 142 [] []) (Yo x ee) (.bool (Qa x.day ee.day 10000)),(!(Qa x.day ee.day 10000))=false,(x.kind == 1)=false,(x.kind == 2)=false,(x.kind == 3)=false,(x.kind == 4)=false,(x.kind == 5)=false,(x.kind == 6)=false])
 (hr:AvLe (.bool false) res):G Try.prog E [.code (Qd Try.prog 206)] ⟨(Xb l x)++unds (Try.f206.ntmps - 2),[]⟩ :=
 Qb (n:=400) (evs:=[.b true,.auto,.ld (.int .i64 ee.day),.v (.bool (Qa x.day ee.day 10000)),.b false,.b false,.b false,.b false,.b false,.b false,.b false]) (obs:=_) hE Try.func206 Qh (by kernel_rfl) ho hr
theorem Qct (l:Lgb) (x:Ent) {E:Env} {res:AV} (hE:Qf Try.prog 206 res E) (ho:AllP [(decide ((l.es.length:Int) > 0))=false,Qe Try.prog (.clos 142 [] []) [.int .i64 x.day,.int .i64 0,.int .i64 10000] (.bool (Qa x.day 0 10000)),(!(Qa x.day 0 10000))=true])
 (hr:AvLe (.bool false) res):G Try.prog E [.code (Qd Try.prog 206)] ⟨(Xb l x)++unds (Try.f206.ntmps - 2),[]⟩ :=
 Qb (n:=400) (evs:=[.b false,.v (.bool (Qa x.day 0 10000)),.b true]) (obs:=_) hE Try.func206 Qh (by kernel_rfl) ho hr
theorem Qcs (l:Lgb) (x:Ent) {E:Env} {res:AV} (hE:Qf Try.prog 206 res E) (ho:AllP [(decide ((l.es.length:Int) > 0))=false,Qe Try.prog (.clos 142 [] []) [.int .i64 x.day,.int .i64 0,.int .i64 10000] (.bool (Qa x.day 0 10000)),(!(Qa x.day 0 10000))=false,(x.kind == 1)=true,InR .i64 ((l.k.rules.length:Int) - 1),Qe Try.prog (.clos 142 [] []) (z206_7 x l) (yL x l),(Qa x.a 0 ((l.k.rules.length:Int) - 1))=true,Qe Try.prog (.clos 248 [] []) [.agg (Xc l),.int .i64 x.a,.int .i64 x.b,.int .i64 x.c] (.bool (qr l.k x.a x.b x.c))])
 (hr:AvLe (.bool (qr l.k x.a x.b x.c)) res):G Try.prog E [.code (Qd Try.prog 206)] ⟨(Xb l x)++unds (Try.f206.ntmps - 2),[]⟩ :=
 Qb (n:=400) (evs:=[.b false,.v (.bool (Qa x.day 0 10000)),.b false,.b true,.v (yL x l),.b true,.v (.bool (qr l.k x.a x.b x.c))]) (obs:=_) hE Try.func206 Qh (by kernel_rfl) ho hr
theorem Qcr (l:Lgb) (x:Ent) {E:Env} {res:AV} (hE:Qf Try.prog 206 res E) (ho:AllP [(decide ((l.es.length:Int) > 0))=false,Qe Try.prog (.clos 142 [] []) [.int .i64 x.day,.int .i64 0,.int .i64 10000] (.bool (Qa x.day 0 10000)),(!(Qa x.day 0 10000))=false,(x.kind == 1)=true,InR .i64 ((l.k.rules.length:Int) - 1),Qe Try.prog (.clos 142 [] []) (z206_7 x l) (yL x l),(Qa x.a 0 ((l.k.rules.length:Int) - 1))=false])
 (hr:AvLe (.bool false) res):G Try.prog E [.code (Qd Try.prog 206)] ⟨(Xb l x)++unds (Try.f206.ntmps - 2),[]⟩ :=
 Qb (n:=400) (evs:=[.b false,.v (.bool (Qa x.day 0 10000)),.b false,.b true,.v (yL x l),.b false]) (obs:=_) hE Try.func206 Qh (by kernel_rfl) ho hr
theorem Qcq (l:Lgb) (x:Ent) {E:Env} {res:AV} (hE:Qf Try.prog 206 res E) (ho:AllP [(decide ((l.es.length:Int) > 0))=false,Qe Try.prog (.clos 142 [] []) [.int .i64 x.day,.int .i64 0,.int .i64 10000] (.bool (Qa x.day 0 10000)),(!(Qa x.day 0 10000))=false,(x.kind == 1)=false,(x.kind == 2)=true,Qe Try.prog (.clos 249 [] []) [.agg (Xc l),.int .i64 x.a] (.bool (QJ l.k x.a)),(QJ l.k x.a)=true,Qe Try.prog (.clos 142 [] []) [.int .i64 x.b,.int .i64 1,.int .i64 3] (.bool (Qa x.b 1 3)),(Qa x.b 1 3)=true])
 (hr:AvLe (.bool (x.c == 0)) res):G Try.prog E [.code (Qd Try.prog 206)] ⟨(Xb l x)++unds (Try.f206.ntmps - 2),[]⟩ :=
 Qb (n:=400) (evs:=[.b false,.v (.bool (Qa x.day 0 10000)),.b false,.b false,.b true,.v (.bool (QJ l.k x.a)),.b true,.v (.bool (Qa x.b 1 3)),.b true]) (obs:=_) hE Try.func206 Qh (by kernel_rfl) ho hr
theorem Qcp (l:Lgb) (x:Ent) {E:Env} {res:AV} (hE:Qf Try.prog 206 res E) (ho:AllP [(decide ((l.es.length:Int) > 0))=false,Qe Try.prog (.clos 142 [] []) [.int .i64 x.day,.int .i64 0,.int .i64 10000] (.bool (Qa x.day 0 10000)),(!(Qa x.day 0 10000))=false,(x.kind == 1)=false,(x.kind == 2)=true,Qe Try.prog (.clos 249 [] []) [.agg (Xc l),.int .i64 x.a] (.bool (QJ l.k x.a)),(QJ l.k x.a)=true,Qe Try.prog (.clos 142 [] []) [.int .i64 x.b,.int .i64 1,.int .i64 3] (.bool (Qa x.b 1 3)),(Qa x.b 1 3)=false])
 (hr:AvLe (.bool false) res):G Try.prog E [.code (Qd Try.prog 206)] ⟨(Xb l x)++unds (Try.f206.ntmps - 2),[]⟩ :=
 Qb (n:=400) (evs:=[.b false,.v (.bool (Qa x.day 0 10000)),.b false,.b false,.b true,.v (.bool (QJ l.k x.a)),.b true,.v (.bool (Qa x.b 1 3)),.b false]) (obs:=_) hE Try.func206 Qh (by kernel_rfl) ho hr
theorem Qco (l:Lgb) (x:Ent) {E:Env} {res:AV} (hE:Qf Try.prog 206 res E) (ho:AllP [(decide ((l.es.length:Int) > 0))=false,Qe Try.prog (.clos 142 [] []) [.int .i64 x.day,.int .i64 0,.int .i64 10000] (.bool (Qa x.day 0 10000)),(!(Qa x.day 0 10000))=false,(x.kind == 1)=false,(x.kind == 2)=true,Qe Try.prog (.clos 249 [] []) [.agg (Xc l),.int .i64 x.a] (.bool (QJ l.k x.a)),(QJ l.k x.a)=false,false=false])
 (hr:AvLe (.bool false) res):G Try.prog E [.code (Qd Try.prog 206)] ⟨(Xb l x)++unds (Try.f206.ntmps - 2),[]⟩ :=
 Qb (n:=400) (evs:=[.b false,.v (.bool (Qa x.day 0 10000)),.b false,.b false,.b true,.v (.bool (QJ l.k x.a)),.b false,.b false]) (obs:=_) hE Try.func206 Qh (by kernel_rfl) ho hr
theorem Qcn (l:Lgb) (x:Ent) (ee:Ent) {E:Env} {res:AV} (hE:Qf Try.prog 206 res E) (ho:AllP [(decide ((l.es.length:Int) > 0))=false,Qe Try.prog (.clos 142 [] []) [.int .i64 x.day,.int .i64 0,.int .i64 10000] (.bool (Qa x.day 0 10000)),(!(Qa x.day 0 10000))=false,(x.kind == 1)=false,(x.kind == 2)=false,(x.kind == 3)=true,InR .i64 ((l.es.length:Int) - 1),Qe Try.prog (.clos 142 [] []) (qu x l) (Yv x l),(Qa x.a 0 ((l.es.length:Int) - 1))=true,0≤x.a∧x.a<(l.es.length:Int),((Qc l.es).drop ((0+(Int.toNat x.a)*5)+1)).take 1=[.int .i64 ee.kind],(ee.kind == 2)=true,Qe Try.prog (.clos 250 [] []) [.agg (Xc l),.int .i64 x.a] (.bool (Xt l.es x.a)),(!(Xt l.es x.a))=true,Qe Try.prog (.clos 251 [] []) [.agg (Xc l),.int .i64 x.b] (.bool (Xu l.k x.b)),(Xu l.k x.b)=true])
 (hr:AvLe (.bool (x.c == 0)) res):G Try.prog E [.code (Qd Try.prog 206)] ⟨(Xb l x)++unds (Try.f206.ntmps - 2),[]⟩ :=
 Qb (n:=400) (evs:=[.b false,.v (.bool (Qa x.day 0 10000)),.b false,.b false,.b false,.b true,.v (Yv x l),.b true,.auto,.auto,.ld (.int .i64 ee.kind),.b true,.v (.bool (Xt l.es x.a)),.b true,.v (.bool (Xu l.k x.b)),.b true]) (obs:=_) hE Try.func206 Qh (by kernel_rfl) ho hr
theorem Qcm (l:Lgb) (x:Ent) (ee:Ent) {E:Env} {res:AV} (hE:Qf Try.prog 206 res E) (ho:AllP [(decide ((l.es.length:Int) > 0))=false,Qe Try.prog (.clos 142 [] []) [.int .i64 x.day,.int .i64 0,.int .i64 10000] (.bool (Qa x.day 0 10000)),(!(Qa x.day 0 10000))=false,(x.kind == 1)=false,(x.kind == 2)=false,(x.kind == 3)=true,InR .i64 ((l.es.length:Int) - 1),Qe Try.prog (.clos 142 [] []) (qu x l) (Yv x l),(Qa x.a 0 ((l.es.length:Int) - 1))=true,0≤x.a∧x.a<(l.es.length:Int),((Qc l.es).drop ((0+(Int.toNat x.a)*5)+1)).take 1=[.int .i64 ee.kind],(ee.kind == 2)=true,Qe Try.prog (.clos 250 [] []) [.agg (Xc l),.int .i64 x.a] (.bool (Xt l.es x.a)),(!(Xt l.es x.a))=true,Qe Try.prog (.clos 251 [] []) [.agg (Xc l),.int .i64 x.b] (.bool (Xu l.k x.b)),(Xu l.k x.b)=false])
 (hr:AvLe (.bool false) res):G Try.prog E [.code (Qd Try.prog 206)] ⟨(Xb l x)++unds (Try.f206.ntmps - 2),[]⟩ :=
 Qb (n:=400) (evs:=[.b false,.v (.bool (Qa x.day 0 10000)),.b false,.b false,.b false,.b true,.v (Yv x l),.b true,.auto,.auto,.ld (.int .i64 ee.kind),.b true,.v (.bool (Xt l.es x.a)),.b true,.v (.bool (Xu l.k x.b)),.b false]) (obs:=_) hE Try.func206 Qh (by kernel_rfl) ho hr
theorem Qcl (l:Lgb) (x:Ent) (ee:Ent) {E:Env} {res:AV} (hE:Qf Try.prog 206 res E) (ho:AllP [(decide ((l.es.length:Int) > 0))=false,Qe Try.prog (.clos 142 [] []) [.int .i64 x.day,.int .i64 0,.int .i64 10000] (.bool (Qa x.day 0 10000)),(!(Qa x.day 0 10000))=false,(x.kind == 1)=false,(x.kind == 2)=false,(x.kind == 3)=true,InR .i64 ((l.es.length:Int) - 1),Qe Try.prog (.clos 142 [] []) (qu x l) (Yv x l),(Qa x.a 0 ((l.es.length:Int) - 1))=true,0≤x.a∧x.a<(l.es.length:Int),((Qc l.es).drop ((0+(Int.toNat x.a)*5)+1)).take 1=[.int .i64 ee.kind],(ee.kind == 2)=true,Qe Try.prog (.clos 250 [] []) [.agg (Xc l),.int .i64 x.a] (.bool (Xt l.es x.a)),(!(Xt l.es x.a))=false,false=false])
 (hr:AvLe (.bool false) res):G Try.prog E [.code (Qd Try.prog 206)] ⟨(Xb l x)++unds (Try.f206.ntmps - 2),[]⟩ :=
 Qb (n:=400) (evs:=[.b false,.v (.bool (Qa x.day 0 10000)),.b false,.b false,.b false,.b true,.v (Yv x l),.b true,.auto,.auto,.ld (.int .i64 ee.kind),.b true,.v (.bool (Xt l.es x.a)),.b false,.b false]) (obs:=_) hE Try.func206 Qh (by kernel_rfl) ho hr
theorem Qck (l:Lgb) (x:Ent) (ee:Ent) {E:Env} {res:AV} (hE:Qf Try.prog 206 res E) (ho:AllP [(decide ((l.es.length:Int) > 0))=false,Qe Try.prog (.clos 142 [] []) [.int .i64 x.day,.int .i64 0,.int .i64 10000] (.bool (Qa x.day 0 10000)),(!(Qa x.day 0 10000))=false,(x.kind == 1)=false,(x.kind == 2)=false,(x.kind == 3)=true,InR .i64 ((l.es.length:Int) - 1),Qe Try.prog (.clos 142 [] []) (qu x l) (Yv x l),(Qa x.a 0 ((l.es.length:Int) - 1))=true,0≤x.a∧x.a<(l.es.length:Int),((Qc l.es).drop ((0+(Int.toNat x.a)*5)+1)).take 1=[.int .i64 ee.kind],(ee.kind == 2)=false,false=false,false=false])
 (hr:AvLe (.bool false) res):G Try.prog E [.code (Qd Try.prog 206)] ⟨(Xb l x)++unds (Try.f206.ntmps - 2),[]⟩ :=
 Qb (n:=400) (evs:=[.b false,.v (.bool (Qa x.day 0 10000)),.b false,.b false,.b false,.b true,.v (Yv x l),.b true,.auto,.auto,.ld (.int .i64 ee.kind),.b false,.b false,.b false]) (obs:=_) hE Try.func206 Qh (by kernel_rfl) ho hr
theorem Qcj (l:Lgb) (x:Ent) {E:Env} {res:AV} (hE:Qf Try.prog 206 res E) (ho:AllP [(decide ((l.es.length:Int) > 0))=false,Qe Try.prog (.clos 142 [] []) [.int .i64 x.day,.int .i64 0,.int .i64 10000] (.bool (Qa x.day 0 10000)),(!(Qa x.day 0 10000))=false,(x.kind == 1)=false,(x.kind == 2)=false,(x.kind == 3)=true,InR .i64 ((l.es.length:Int) - 1),Qe Try.prog (.clos 142 [] []) (qu x l) (Yv x l),(Qa x.a 0 ((l.es.length:Int) - 1))=false,false=false,false=false,false=false])
 (hr:AvLe (.bool false) res):G Try.prog E [.code (Qd Try.prog 206)] ⟨(Xb l x)++unds (Try.f206.ntmps - 2),[]⟩ :=
 Qb (n:=400) (evs:=[.b false,.v (.bool (Qa x.day 0 10000)),.b false,.b false,.b false,.b true,.v (Yv x l),.b false,.b false,.b false,.b false]) (obs:=_) hE Try.func206 Qh (by kernel_rfl) ho hr
theorem Qci (l:Lgb) (x:Ent) {E:Env} {res:AV} (hE:Qf Try.prog 206 res E) (ho:AllP [(decide ((l.es.length:Int) > 0))=false,Qe Try.prog (.clos 142 [] []) [.int .i64 x.day,.int .i64 0,.int .i64 10000] (.bool (Qa x.day 0 10000)),(!(Qa x.day 0 10000))=false,(x.kind == 1)=false,(x.kind == 2)=false,(x.kind == 3)=false,(x.kind == 4)=true,Qe Try.prog (.clos 249 [] []) [.agg (Xc l),.int .i64 x.a] (.bool (QJ l.k x.a)),(QJ l.k x.a)=true,Qe Try.prog (.clos 251 [] []) [.agg (Xc l),.int .i64 x.b] (.bool (Xu l.k x.b)),(Xu l.k x.b)=true])
 (hr:AvLe (.bool (x.c == 0)) res):G Try.prog E [.code (Qd Try.prog 206)] ⟨(Xb l x)++unds (Try.f206.ntmps - 2),[]⟩ :=
 Qb (n:=400) (evs:=[.b false,.v (.bool (Qa x.day 0 10000)),.b false,.b false,.b false,.b false,.b true,.v (.bool (QJ l.k x.a)),.b true,.v (.bool (Xu l.k x.b)),.b true]) (obs:=_) hE Try.func206 Qh (by kernel_rfl) ho hr
theorem Qch (l:Lgb) (x:Ent) {E:Env} {res:AV} (hE:Qf Try.prog 206 res E) (ho:AllP [(decide ((l.es.length:Int) > 0))=false,Qe Try.prog (.clos 142 [] []) [.int .i64 x.day,.int .i64 0,.int .i64 10000] (.bool (Qa x.day 0 10000)),(!(Qa x.day 0 10000))=false,(x.kind == 1)=false,(x.kind == 2)=false,(x.kind == 3)=false,(x.kind == 4)=true,Qe Try.prog (.clos 249 [] []) [.agg (Xc l),.int .i64 x.a] (.bool (QJ l.k x.a)),(QJ l.k x.a)=true,Qe Try.prog (.clos 251 [] []) [.agg (Xc l),.int .i64 x.b] (.bool (Xu l.k x.b)),(Xu l.k x.b)=false])
 (hr:AvLe (.bool false) res):G Try.prog E [.code (Qd Try.prog 206)] ⟨(Xb l x)++unds (Try.f206.ntmps - 2),[]⟩ :=
 Qb (n:=400) (evs:=[.b false,.v (.bool (Qa x.day 0 10000)),.b false,.b false,.b false,.b false,.b true,.v (.bool (QJ l.k x.a)),.b true,.v (.bool (Xu l.k x.b)),.b false]) (obs:=_) hE Try.func206 Qh (by kernel_rfl) ho hr
theorem Qcg (l:Lgb) (x:Ent) {E:Env} {res:AV} (hE:Qf Try.prog 206 res E) (ho:AllP [(decide ((l.es.length:Int) > 0))=false,Qe Try.prog (.clos 142 [] []) [.int .i64 x.day,.int .i64 0,.int .i64 10000] (.bool (Qa x.day 0 10000)),(!(Qa x.day 0 10000))=false,(x.kind == 1)=false,(x.kind == 2)=false,(x.kind == 3)=false,(x.kind == 4)=true,Qe Try.prog (.clos 249 [] []) [.agg (Xc l),.int .i64 x.a] (.bool (QJ l.k x.a)),(QJ l.k x.a)=false,false=false])
 (hr:AvLe (.bool false) res):G Try.prog E [.code (Qd Try.prog 206)] ⟨(Xb l x)++unds (Try.f206.ntmps - 2),[]⟩ :=
 Qb (n:=400) (evs:=[.b false,.v (.bool (Qa x.day 0 10000)),.b false,.b false,.b false,.b false,.b true,.v (.bool (QJ l.k x.a)),.b false,.b false]) (obs:=_) hE Try.func206 Qh (by kernel_rfl) ho hr
theorem Qcf (l:Lgb) (x:Ent) {E:Env} {res:AV} (hE:Qf Try.prog 206 res E) (ho:AllP [(decide ((l.es.length:Int) > 0))=false,Qe Try.prog (.clos 142 [] []) [.int .i64 x.day,.int .i64 0,.int .i64 10000] (.bool (Qa x.day 0 10000)),(!(Qa x.day 0 10000))=false,(x.kind == 1)=false,(x.kind == 2)=false,(x.kind == 3)=false,(x.kind == 4)=false,(x.kind == 5)=true,Qe Try.prog (.clos 249 [] []) [.agg (Xc l),.int .i64 x.a] (.bool (QJ l.k x.a)),(QJ l.k x.a)=true,Qe Try.prog (.clos 142 [] []) [.int .i64 x.b,.int .i64 0,.int .i64 10000] (.bool (Qa x.b 0 10000)),(Qa x.b 0 10000)=true])
 (hr:AvLe (.bool (x.c == 0)) res):G Try.prog E [.code (Qd Try.prog 206)] ⟨(Xb l x)++unds (Try.f206.ntmps - 2),[]⟩ :=
 Qb (n:=400) (evs:=[.b false,.v (.bool (Qa x.day 0 10000)),.b false,.b false,.b false,.b false,.b false,.b true,.v (.bool (QJ l.k x.a)),.b true,.v (.bool (Qa x.b 0 10000)),.b true]) (obs:=_) hE Try.func206 Qh (by kernel_rfl) ho hr
theorem Qce (l:Lgb) (x:Ent) {E:Env} {res:AV} (hE:Qf Try.prog 206 res E) (ho:AllP [(decide ((l.es.length:Int) > 0))=false,Qe Try.prog (.clos 142 [] []) [.int .i64 x.day,.int .i64 0,.int .i64 10000] (.bool (Qa x.day 0 10000)),(!(Qa x.day 0 10000))=false,(x.kind == 1)=false,(x.kind == 2)=false,(x.kind == 3)=false,(x.kind == 4)=false,(x.kind == 5)=true,Qe Try.prog (.clos 249 [] []) [.agg (Xc l),.int .i64 x.a] (.bool (QJ l.k x.a)),(QJ l.k x.a)=true,Qe Try.prog (.clos 142 [] []) [.int .i64 x.b,.int .i64 0,.int .i64 10000] (.bool (Qa x.b 0 10000)),(Qa x.b 0 10000)=false])
 (hr:AvLe (.bool false) res):G Try.prog E [.code (Qd Try.prog 206)] ⟨(Xb l x)++unds (Try.f206.ntmps - 2),[]⟩ :=
 Qb (n:=400) (evs:=[.b false,.v (.bool (Qa x.day 0 10000)),.b false,.b false,.b false,.b false,.b false,.b true,.v (.bool (QJ l.k x.a)),.b true,.v (.bool (Qa x.b 0 10000)),.b false]) (obs:=_) hE Try.func206 Qh (by kernel_rfl) ho hr
theorem Qcd (l:Lgb) (x:Ent) {E:Env} {res:AV} (hE:Qf Try.prog 206 res E) (ho:AllP [(decide ((l.es.length:Int) > 0))=false,Qe Try.prog (.clos 142 [] []) [.int .i64 x.day,.int .i64 0,.int .i64 10000] (.bool (Qa x.day 0 10000)),(!(Qa x.day 0 10000))=false,(x.kind == 1)=false,(x.kind == 2)=false,(x.kind == 3)=false,(x.kind == 4)=false,(x.kind == 5)=true,Qe Try.prog (.clos 249 [] []) [.agg (Xc l),.int .i64 x.a] (.bool (QJ l.k x.a)),(QJ l.k x.a)=false,false=false])
 (hr:AvLe (.bool false) res):G Try.prog E [.code (Qd Try.prog 206)] ⟨(Xb l x)++unds (Try.f206.ntmps - 2),[]⟩ :=
 Qb (n:=400) (evs:=[.b false,.v (.bool (Qa x.day 0 10000)),.b false,.b false,.b false,.b false,.b false,.b true,.v (.bool (QJ l.k x.a)),.b false,.b false]) (obs:=_) hE Try.func206 Qh (by kernel_rfl) ho hr
theorem Qcc (l:Lgb) (x:Ent) {E:Env} {res:AV} (hE:Qf Try.prog 206 res E) (ho:AllP [(decide ((l.es.length:Int) > 0))=false,Qe Try.prog (.clos 142 [] []) [.int .i64 x.day,.int .i64 0,.int .i64 10000] (.bool (Qa x.day 0 10000)),(!(Qa x.day 0 10000))=false,(x.kind == 1)=false,(x.kind == 2)=false,(x.kind == 3)=false,(x.kind == 4)=false,(x.kind == 5)=false,(x.kind == 6)=true,Qe Try.prog (.clos 249 [] []) [.agg (Xc l),.int .i64 x.a] (.bool (QJ l.k x.a)),(QJ l.k x.a)=true,(x.b == 0)=true])
 (hr:AvLe (.bool (x.c == 0)) res):G Try.prog E [.code (Qd Try.prog 206)] ⟨(Xb l x)++unds (Try.f206.ntmps - 2),[]⟩ :=
 Qb (n:=400) (evs:=[.b false,.v (.bool (Qa x.day 0 10000)),.b false,.b false,.b false,.b false,.b false,.b false,.b true,.v (.bool (QJ l.k x.a)),.b true,.b true]) (obs:=_) hE Try.func206 Qh (by kernel_rfl) ho hr
theorem Qcb (l:Lgb) (x:Ent) {E:Env} {res:AV} (hE:Qf Try.prog 206 res E) (ho:AllP [(decide ((l.es.length:Int) > 0))=false,Qe Try.prog (.clos 142 [] []) [.int .i64 x.day,.int .i64 0,.int .i64 10000] (.bool (Qa x.day 0 10000)),(!(Qa x.day 0 10000))=false,(x.kind == 1)=false,(x.kind == 2)=false,(x.kind == 3)=false,(x.kind == 4)=false,(x.kind == 5)=false,(x.kind == 6)=true,Qe Try.prog (.clos 249 [] []) [.agg (Xc l),.int .i64 x.a] (.bool (QJ l.k x.a)),(QJ l.k x.a)=true,(x.b == 0)=false])
 (hr:AvLe (.bool false) res):G Try.prog E [.code (Qd Try.prog 206)] ⟨(Xb l x)++unds (Try.f206.ntmps - 2),[]⟩ :=
 Qb (n:=400) (evs:=[.b false,.v (.bool (Qa x.day 0 10000)),.b false,.b false,.b false,.b false,.b false,.b false,.b true,.v (.bool (QJ l.k x.a)),.b true,.b false]) (obs:=_) hE Try.func206 Qh (by kernel_rfl) ho hr
theorem Qca (l:Lgb) (x:Ent) {E:Env} {res:AV} (hE:Qf Try.prog 206 res E) (ho:AllP [(decide ((l.es.length:Int) > 0))=false,Qe Try.prog (.clos 142 [] []) [.int .i64 x.day,.int .i64 0,.int .i64 10000] (.bool (Qa x.day 0 10000)),(!(Qa x.day 0 10000))=false,(x.kind == 1)=false,(x.kind == 2)=false,(x.kind == 3)=false,(x.kind == 4)=false,(x.kind == 5)=false,(x.kind == 6)=true,Qe Try.prog (.clos 249 [] []) [.agg (Xc l),.int .i64 x.a] (.bool (QJ l.k x.a)),(QJ l.k x.a)=false,false=false])
 (hr:AvLe (.bool false) res):G Try.prog E [.code (Qd Try.prog 206)] ⟨(Xb l x)++unds (Try.f206.ntmps - 2),[]⟩ :=
 Qb (n:=400) (evs:=[.b false,.v (.bool (Qa x.day 0 10000)),.b false,.b false,.b false,.b false,.b false,.b false,.b true,.v (.bool (QJ l.k x.a)),.b false,.b false]) (obs:=_) hE Try.func206 Qh (by kernel_rfl) ho hr
theorem QbZ (l:Lgb) (x:Ent) {E:Env} {res:AV} (hE:Qf Try.prog 206 res E) (ho:AllP [(decide ((l.es.length:Int) > 0))=false,Qe Try.prog (.clos 142 [] []) [.int .i64 x.day,.int .i64 0,.int .i64 10000] (.bool (Qa x.day 0 10000)),(!(Qa x.day 0 10000))=false,(x.kind == 1)=false,(x.kind == 2)=false,(x.kind == 3)=false,(x.kind == 4)=false,(x.kind == 5)=false,(x.kind == 6)=false])
 (hr:AvLe (.bool false) res):G Try.prog E [.code (Qd Try.prog 206)] ⟨(Xb l x)++unds (Try.f206.ntmps - 2),[]⟩ :=
 Qb (n:=400) (evs:=[.b false,.v (.bool (Qa x.day 0 10000)),.b false,.b false,.b false,.b false,.b false,.b false,.b false]) (obs:=_) hE Try.func206 Qh (by kernel_rfl) ho hr
theorem f206W (l:Lgb) (x:Ent) {E:Env} {rv:Bool} (hE:Qf Try.prog 206 (.bool rv) E)
 (h:(((l.es.length:Int) > 0→((I6 ((l.es.length:Int) - 1))∧(0≤((l.es.length:Int) - 1)∧(∃ ee:Ent,l.es[Int.toNat ((l.es.length:Int) - 1)]?=some ee∧(((Qa x.day ee.day 10000)=false→rv=false)∧((Qa x.day ee.day 10000)=true→((x.kind=1→((I6 ((l.k.rules.length:Int) - 1))∧(((Qa x.a 0 ((l.k.rules.length:Int) - 1))=true→((BokSmall l.k∧0≤x.a∧x.a<(l.k.rules.length:Int))∧rv=(qr l.k x.a x.b x.c)))∧((Qa x.a 0 ((l.k.rules.length:Int) - 1))=false→rv=false))))∧(¬ (x.kind=1)→((x.kind=2→((l.k.insured.length≤1000)∧(((QJ l.k x.a)=true→(((Qa x.b 1 3)=true→rv=(x.c == 0))∧((Qa x.b 1 3)=false→rv=false)))∧((QJ l.k x.a)=false→rv=false))))∧(¬ (x.kind=2)→((x.kind=3→((I6 ((l.es.length:Int) - 1))∧(((Qa x.a 0 ((l.es.length:Int) - 1))=true→(0≤x.a∧(∃ ee1:Ent,l.es[Int.toNat x.a]?=some ee1∧((ee1.kind=2→((l.es.length≤1000)∧(((Xt l.es x.a)=false→((l.k.ranks.length≤1000)∧(((Xu l.k x.b)=true→rv=(x.c == 0))∧((Xu l.k x.b)=false→rv=false))))∧((Xt l.es x.a)=true→rv=false))))∧(¬ (ee1.kind=2)→rv=false)))))∧((Qa x.a 0 ((l.es.length:Int) - 1))=false→rv=false))))∧(¬ (x.kind=3)→((x.kind=4→((l.k.insured.length≤1000)∧(((QJ l.k x.a)=true→((l.k.ranks.length≤1000)∧(((Xu l.k x.b)=true→rv=(x.c == 0))∧((Xu l.k x.b)=false→rv=false))))∧((QJ l.k x.a)=false→rv=false))))∧(¬ (x.kind=4)→((x.kind=5→((l.k.insured.length≤1000)∧(((QJ l.k x.a)=true→(((Qa x.b 0 10000)=true→rv=(x.c == 0))∧((Qa x.b 0 10000)=false→rv=false)))∧((QJ l.k x.a)=false→rv=false))))∧(¬ (x.kind=5)→((x.kind=6→((l.k.insured.length≤1000)∧(((QJ l.k x.a)=true→((x.b=0→rv=(x.c == 0))∧(¬ (x.b=0)→rv=false)))∧((QJ l.k x.a)=false→rv=false))))∧(¬ (x.kind=6)→rv=false))))))))))))))))))∧(¬ ((l.es.length:Int) > 0)→(((Qa x.day 0 10000)=false→rv=false)∧((Qa x.day 0 10000)=true→((x.kind=1→((I6 ((l.k.rules.length:Int) - 1))∧(((Qa x.a 0 ((l.k.rules.length:Int) - 1))=true→((BokSmall l.k∧0≤x.a∧x.a<(l.k.rules.length:Int))∧rv=(qr l.k x.a x.b x.c)))∧((Qa x.a 0 ((l.k.rules.length:Int) - 1))=false→rv=false))))∧(¬ (x.kind=1)→((x.kind=2→((l.k.insured.length≤1000)∧(((QJ l.k x.a)=true→(((Qa x.b 1 3)=true→rv=(x.c == 0))∧((Qa x.b 1 3)=false→rv=false)))∧((QJ l.k x.a)=false→rv=false))))∧(¬ (x.kind=2)→((x.kind=3→((I6 ((l.es.length:Int) - 1))∧(((Qa x.a 0 ((l.es.length:Int) - 1))=true→(0≤x.a∧(∃ ee:Ent,l.es[Int.toNat x.a]?=some ee∧((ee.kind=2→((l.es.length≤1000)∧(((Xt l.es x.a)=false→((l.k.ranks.length≤1000)∧(((Xu l.k x.b)=true→rv=(x.c == 0))∧((Xu l.k x.b)=false→rv=false))))∧((Xt l.es x.a)=true→rv=false))))∧(¬ (ee.kind=2)→rv=false)))))∧((Qa x.a 0 ((l.es.length:Int) - 1))=false→rv=false))))∧(¬ (x.kind=3)→((x.kind=4→((l.k.insured.length≤1000)∧(((QJ l.k x.a)=true→((l.k.ranks.length≤1000)∧(((Xu l.k x.b)=true→rv=(x.c == 0))∧((Xu l.k x.b)=false→rv=false))))∧((QJ l.k x.a)=false→rv=false))))∧(¬ (x.kind=4)→((x.kind=5→((l.k.insured.length≤1000)∧(((QJ l.k x.a)=true→(((Qa x.b 0 10000)=true→rv=(x.c == 0))∧((Qa x.b 0 10000)=false→rv=false)))∧((QJ l.k x.a)=false→rv=false))))∧(¬ (x.kind=5)→((x.kind=6→((l.k.insured.length≤1000)∧(((QJ l.k x.a)=true→((x.b=0→rv=(x.c == 0))∧(¬ (x.b=0)→rv=false)))∧((QJ l.k x.a)=false→rv=false))))∧(¬ (x.kind=6)→rv=false))))))))))))))))):G Try.prog E [.code (Qd Try.prog 206)] ⟨[.agg [.rsl (Qg l.k.rules) 0 l.k.rules.length,.rsl (rowI l.k.ranks) 0 l.k.ranks.length,.rsl (rowI l.k.insured) 0 l.k.insured.length,.rsl (Qc l.es) 0 l.es.length],.agg [.int .i64 x.day,.int .i64 x.kind,.int .i64 x.a,.int .i64 x.b,.int .i64 x.c]]++unds (Try.f206.ntmps - 2),[]⟩:=by
 rcases bft (decide ((l.es.length:Int) > 0)) with hc0 | hc0
 · have h:=h.1 (odt hc0)
   obtain ⟨q1_1,h⟩:=h
   obtain ⟨h2,h⟩:=h
   obtain ⟨ee,h1,h⟩:=h
   rcases bft (!(Qa x.day ee.day 10000)) with hc1 | hc1
   · have h:=h.1 (bnT hc1)
     exact p206_start_0 l x ee hE ⟨hc0,q1_1,(Qx h2 h1),(rp cEnt 5 0 1 h1),(u142 (Qm x.day ee.day 10000)),hc1,trivial⟩ (AvLe.of_eq (by rw [h]; try rfl))
   · have h:=h.2 (bnF hc1)
     rcases bft (x.kind == 1) with hc2 | hc2
     · have h:=h.1 (eq_of_beq hc2)
       obtain ⟨q8_3,h⟩:=h
       rcases bft (Qa x.a 0 ((l.k.rules.length:Int) - 1)) with hc3 | hc3
       · have h:=h.1 hc3
         obtain ⟨h3,h⟩:=h
         exact p206_start_1 l x ee hE ⟨hc0,q1_1,(Qx h2 h1),(rp cEnt 5 0 1 h1),(u142 (Qm x.day ee.day 10000)),hc1,hc2,q8_3,(u142 (Qm x.a 0 ((l.k.rules.length:Int) - 1))),hc3,(u248 (signs_ok l x.a x.b x.c h3)),trivial⟩ (AvLe.of_eq (by rw [h]; try rfl))
       · have h:=h.2 hc3
         exact p206_start_2 l x ee hE ⟨hc0,q1_1,(Qx h2 h1),(rp cEnt 5 0 1 h1),(u142 (Qm x.day ee.day 10000)),hc1,hc2,q8_3,(u142 (Qm x.a 0 ((l.k.rules.length:Int) - 1))),hc3,trivial⟩ (AvLe.of_eq (by rw [h]; try rfl))
     · have h:=h.2 (ne_of_beq_false hc2)
       rcases bft (x.kind == 2) with hc3 | hc3
       · have h:=h.1 (eq_of_beq hc3)
         obtain ⟨h3,h⟩:=h
         rcases bft (QJ l.k x.a) with hc4 | hc4
         · have h:=h.1 hc4
           rcases bft (Qa x.b 1 3) with hc5 | hc5
           · have h:=h.1 hc5
             exact p206_start_3 l x ee hE ⟨hc0,q1_1,(Qx h2 h1),(rp cEnt 5 0 1 h1),(u142 (Qm x.day ee.day 10000)),hc1,hc2,hc3,(u249 (Xw l x.a h3)),hc4,(u142 (Qm x.b 1 3)),hc5,trivial⟩ (AvLe.of_eq (by rw [h]; try rfl))
           · have h:=h.2 hc5
             exact p206_start_4 l x ee hE ⟨hc0,q1_1,(Qx h2 h1),(rp cEnt 5 0 1 h1),(u142 (Qm x.day ee.day 10000)),hc1,hc2,hc3,(u249 (Xw l x.a h3)),hc4,(u142 (Qm x.b 1 3)),hc5,trivial⟩ (AvLe.of_eq (by rw [h]; try rfl))
         · have h:=h.2 hc4
           exact p206_start_5 l x ee hE ⟨hc0,q1_1,(Qx h2 h1),(rp cEnt 5 0 1 h1),(u142 (Qm x.day ee.day 10000)),hc1,hc2,hc3,(u249 (Xw l x.a h3)),hc4,rfl,trivial⟩ (AvLe.of_eq (by rw [h]; try rfl))
       · have h:=h.2 (ne_of_beq_false hc3)
         rcases bft (x.kind == 3) with hc4 | hc4
         · have h:=h.1 (eq_of_beq hc4)
           obtain ⟨q10_5,h⟩:=h
           rcases bft (Qa x.a 0 ((l.es.length:Int) - 1)) with hc5 | hc5
           · have h:=h.1 hc5
             obtain ⟨h4,h⟩:=h
             obtain ⟨ee1,h3,h⟩:=h
             rcases bft (ee1.kind == 2) with hc6 | hc6
             · have h:=h.1 (eq_of_beq hc6)
               obtain ⟨h5,h⟩:=h
               rcases bft (!(Xt l.es x.a)) with hc7 | hc7
               · have h:=h.1 (bnT hc7)
                 obtain ⟨h6,h⟩:=h
                 rcases bft (Xu l.k x.b) with hc8 | hc8
                 · have h:=h.1 hc8
                   exact p206_start_6 l x ee ee1 hE ⟨hc0,q1_1,(Qx h2 h1),(rp cEnt 5 0 1 h1),(u142 (Qm x.day ee.day 10000)),hc1,hc2,hc3,hc4,q10_5,(u142 (Qm x.a 0 ((l.es.length:Int) - 1))),hc5,(Qx h4 h3),(rp cEnt 5 1 1 h3),hc6,(u250 (Vd l x.a h5)),hc7,(u251 (VQ l x.b h6)),hc8,trivial⟩ (AvLe.of_eq (by rw [h]; try rfl))
                 · have h:=h.2 hc8
                   exact p206_start_7 l x ee ee1 hE ⟨hc0,q1_1,(Qx h2 h1),(rp cEnt 5 0 1 h1),(u142 (Qm x.day ee.day 10000)),hc1,hc2,hc3,hc4,q10_5,(u142 (Qm x.a 0 ((l.es.length:Int) - 1))),hc5,(Qx h4 h3),(rp cEnt 5 1 1 h3),hc6,(u250 (Vd l x.a h5)),hc7,(u251 (VQ l x.b h6)),hc8,trivial⟩ (AvLe.of_eq (by rw [h]; try rfl))
               · have h:=h.2 (bnF hc7)
                 exact p206_start_8 l x ee ee1 hE ⟨hc0,q1_1,(Qx h2 h1),(rp cEnt 5 0 1 h1),(u142 (Qm x.day ee.day 10000)),hc1,hc2,hc3,hc4,q10_5,(u142 (Qm x.a 0 ((l.es.length:Int) - 1))),hc5,(Qx h4 h3),(rp cEnt 5 1 1 h3),hc6,(u250 (Vd l x.a h5)),hc7,rfl,trivial⟩ (AvLe.of_eq (by rw [h]; try rfl))
             · have h:=h.2 (ne_of_beq_false hc6)
               exact p206_start_9 l x ee ee1 hE ⟨hc0,q1_1,(Qx h2 h1),(rp cEnt 5 0 1 h1),(u142 (Qm x.day ee.day 10000)),hc1,hc2,hc3,hc4,q10_5,(u142 (Qm x.a 0 ((l.es.length:Int) - 1))),hc5,(Qx h4 h3),(rp cEnt 5 1 1 h3),hc6,rfl,rfl,trivial⟩ (AvLe.of_eq (by rw [h]; try rfl))
           · have h:=h.2 hc5
             exact QcE l x ee hE ⟨hc0,q1_1,(Qx h2 h1),(rp cEnt 5 0 1 h1),(u142 (Qm x.day ee.day 10000)),hc1,hc2,hc3,hc4,q10_5,(u142 (Qm x.a 0 ((l.es.length:Int) - 1))),hc5,rfl,rfl,rfl,trivial⟩ (AvLe.of_eq (by rw [h]; try rfl))
         · have h:=h.2 (ne_of_beq_false hc4)
           rcases bft (x.kind == 4) with hc5 | hc5
           · have h:=h.1 (eq_of_beq hc5)
             obtain ⟨h3,h⟩:=h
             rcases bft (QJ l.k x.a) with hc6 | hc6
             · have h:=h.1 hc6
               obtain ⟨h4,h⟩:=h
               rcases bft (Xu l.k x.b) with hc7 | hc7
               · have h:=h.1 hc7
                 exact QcD l x ee hE ⟨hc0,q1_1,(Qx h2 h1),(rp cEnt 5 0 1 h1),(u142 (Qm x.day ee.day 10000)),hc1,hc2,hc3,hc4,hc5,(u249 (Xw l x.a h3)),hc6,(u251 (VQ l x.b h4)),hc7,trivial⟩ (AvLe.of_eq (by rw [h]; try rfl))
               · have h:=h.2 hc7
                 exact QcC l x ee hE ⟨hc0,q1_1,(Qx h2 h1),(rp cEnt 5 0 1 h1),(u142 (Qm x.day ee.day 10000)),hc1,hc2,hc3,hc4,hc5,(u249 (Xw l x.a h3)),hc6,(u251 (VQ l x.b h4)),hc7,trivial⟩ (AvLe.of_eq (by rw [h]; try rfl))
             · have h:=h.2 hc6
               exact QcB l x ee hE ⟨hc0,q1_1,(Qx h2 h1),(rp cEnt 5 0 1 h1),(u142 (Qm x.day ee.day 10000)),hc1,hc2,hc3,hc4,hc5,(u249 (Xw l x.a h3)),hc6,rfl,trivial⟩ (AvLe.of_eq (by rw [h]; try rfl))
           · have h:=h.2 (ne_of_beq_false hc5)
             rcases bft (x.kind == 5) with hc6 | hc6
             · have h:=h.1 (eq_of_beq hc6)
               obtain ⟨h3,h⟩:=h
               rcases bft (QJ l.k x.a) with hc7 | hc7
               · have h:=h.1 hc7
                 rcases bft (Qa x.b 0 10000) with hc8 | hc8
                 · have h:=h.1 hc8
                   exact QcA l x ee hE ⟨hc0,q1_1,(Qx h2 h1),(rp cEnt 5 0 1 h1),(u142 (Qm x.day ee.day 10000)),hc1,hc2,hc3,hc4,hc5,hc6,(u249 (Xw l x.a h3)),hc7,(u142 (Qm x.b 0 10000)),hc8,trivial⟩ (AvLe.of_eq (by rw [h]; try rfl))
                 · have h:=h.2 hc8
                   exact Qcz l x ee hE ⟨hc0,q1_1,(Qx h2 h1),(rp cEnt 5 0 1 h1),(u142 (Qm x.day ee.day 10000)),hc1,hc2,hc3,hc4,hc5,hc6,(u249 (Xw l x.a h3)),hc7,(u142 (Qm x.b 0 10000)),hc8,trivial⟩ (AvLe.of_eq (by rw [h]; try rfl))
               · have h:=h.2 hc7
                 exact Qcy l x ee hE ⟨hc0,q1_1,(Qx h2 h1),(rp cEnt 5 0 1 h1),(u142 (Qm x.day ee.day 10000)),hc1,hc2,hc3,hc4,hc5,hc6,(u249 (Xw l x.a h3)),hc7,rfl,trivial⟩ (AvLe.of_eq (by rw [h]; try rfl))
             · have h:=h.2 (ne_of_beq_false hc6)
               rcases bft (x.kind == 6) with hc7 | hc7
               · have h:=h.1 (eq_of_beq hc7)
                 obtain ⟨h3,h⟩:=h
                 rcases bft (QJ l.k x.a) with hc8 | hc8
                 · have h:=h.1 hc8
                   rcases bft (x.b == 0) with hc9 | hc9
                   · have h:=h.1 (eq_of_beq hc9)
                     exact Qcx l x ee hE ⟨hc0,q1_1,(Qx h2 h1),(rp cEnt 5 0 1 h1),(u142 (Qm x.day ee.day 10000)),hc1,hc2,hc3,hc4,hc5,hc6,hc7,(u249 (Xw l x.a h3)),hc8,hc9,trivial⟩ (AvLe.of_eq (by rw [h]; try rfl))
                   · have h:=h.2 (ne_of_beq_false hc9)
                     exact Qcw l x ee hE ⟨hc0,q1_1,(Qx h2 h1),(rp cEnt 5 0 1 h1),(u142 (Qm x.day ee.day 10000)),hc1,hc2,hc3,hc4,hc5,hc6,hc7,(u249 (Xw l x.a h3)),hc8,hc9,trivial⟩ (AvLe.of_eq (by rw [h]; try rfl))
                 · have h:=h.2 hc8
                   exact Qcv l x ee hE ⟨hc0,q1_1,(Qx h2 h1),(rp cEnt 5 0 1 h1),(u142 (Qm x.day ee.day 10000)),hc1,hc2,hc3,hc4,hc5,hc6,hc7,(u249 (Xw l x.a h3)),hc8,rfl,trivial⟩ (AvLe.of_eq (by rw [h]; try rfl))
               · have h:=h.2 (ne_of_beq_false hc7)
                 exact Qcu l x ee hE ⟨hc0,q1_1,(Qx h2 h1),(rp cEnt 5 0 1 h1),(u142 (Qm x.day ee.day 10000)),hc1,hc2,hc3,hc4,hc5,hc6,hc7,trivial⟩ (AvLe.of_eq (by rw [h]; try rfl))
 · have h:=h.2 (odf hc0)
   rcases bft (!(Qa x.day 0 10000)) with hc1 | hc1
   · have h:=h.1 (bnT hc1)
     exact Qct l x hE ⟨hc0,(u142 (Qm x.day 0 10000)),hc1,trivial⟩ (AvLe.of_eq (by rw [h]; try rfl))
   · have h:=h.2 (bnF hc1)
     rcases bft (x.kind == 1) with hc2 | hc2
     · have h:=h.1 (eq_of_beq hc2)
       obtain ⟨q4_3,h⟩:=h
       rcases bft (Qa x.a 0 ((l.k.rules.length:Int) - 1)) with hc3 | hc3
       · have h:=h.1 hc3
         obtain ⟨h1,h⟩:=h
         exact Qcs l x hE ⟨hc0,(u142 (Qm x.day 0 10000)),hc1,hc2,q4_3,(u142 (Qm x.a 0 ((l.k.rules.length:Int) - 1))),hc3,(u248 (signs_ok l x.a x.b x.c h1)),trivial⟩ (AvLe.of_eq (by rw [h]; try rfl))
       · have h:=h.2 hc3
         exact Qcr l x hE ⟨hc0,(u142 (Qm x.day 0 10000)),hc1,hc2,q4_3,(u142 (Qm x.a 0 ((l.k.rules.length:Int) - 1))),hc3,trivial⟩ (AvLe.of_eq (by rw [h]; try rfl))
     · have h:=h.2 (ne_of_beq_false hc2)
       rcases bft (x.kind == 2) with hc3 | hc3
       · have h:=h.1 (eq_of_beq hc3)
         obtain ⟨h1,h⟩:=h
         rcases bft (QJ l.k x.a) with hc4 | hc4
         · have h:=h.1 hc4
           rcases bft (Qa x.b 1 3) with hc5 | hc5
           · have h:=h.1 hc5
             exact Qcq l x hE ⟨hc0,(u142 (Qm x.day 0 10000)),hc1,hc2,hc3,(u249 (Xw l x.a h1)),hc4,(u142 (Qm x.b 1 3)),hc5,trivial⟩ (AvLe.of_eq (by rw [h]; try rfl))
           · have h:=h.2 hc5
             exact Qcp l x hE ⟨hc0,(u142 (Qm x.day 0 10000)),hc1,hc2,hc3,(u249 (Xw l x.a h1)),hc4,(u142 (Qm x.b 1 3)),hc5,trivial⟩ (AvLe.of_eq (by rw [h]; try rfl))
         · have h:=h.2 hc4
           exact Qco l x hE ⟨hc0,(u142 (Qm x.day 0 10000)),hc1,hc2,hc3,(u249 (Xw l x.a h1)),hc4,rfl,trivial⟩ (AvLe.of_eq (by rw [h]; try rfl))
       · have h:=h.2 (ne_of_beq_false hc3)
         rcases bft (x.kind == 3) with hc4 | hc4
         · have h:=h.1 (eq_of_beq hc4)
           obtain ⟨q6_5,h⟩:=h
           rcases bft (Qa x.a 0 ((l.es.length:Int) - 1)) with hc5 | hc5
           · have h:=h.1 hc5
             obtain ⟨h2,h⟩:=h
             obtain ⟨ee,h1,h⟩:=h
             rcases bft (ee.kind == 2) with hc6 | hc6
             · have h:=h.1 (eq_of_beq hc6)
               obtain ⟨h3,h⟩:=h
               rcases bft (!(Xt l.es x.a)) with hc7 | hc7
               · have h:=h.1 (bnT hc7)
                 obtain ⟨h4,h⟩:=h
                 rcases bft (Xu l.k x.b) with hc8 | hc8
                 · have h:=h.1 hc8
                   exact Qcn l x ee hE ⟨hc0,(u142 (Qm x.day 0 10000)),hc1,hc2,hc3,hc4,q6_5,(u142 (Qm x.a 0 ((l.es.length:Int) - 1))),hc5,(Qx h2 h1),(rp cEnt 5 1 1 h1),hc6,(u250 (Vd l x.a h3)),hc7,(u251 (VQ l x.b h4)),hc8,trivial⟩ (AvLe.of_eq (by rw [h]; try rfl))
                 · have h:=h.2 hc8
                   exact Qcm l x ee hE ⟨hc0,(u142 (Qm x.day 0 10000)),hc1,hc2,hc3,hc4,q6_5,(u142 (Qm x.a 0 ((l.es.length:Int) - 1))),hc5,(Qx h2 h1),(rp cEnt 5 1 1 h1),hc6,(u250 (Vd l x.a h3)),hc7,(u251 (VQ l x.b h4)),hc8,trivial⟩ (AvLe.of_eq (by rw [h]; try rfl))
               · have h:=h.2 (bnF hc7)
                 exact Qcl l x ee hE ⟨hc0,(u142 (Qm x.day 0 10000)),hc1,hc2,hc3,hc4,q6_5,(u142 (Qm x.a 0 ((l.es.length:Int) - 1))),hc5,(Qx h2 h1),(rp cEnt 5 1 1 h1),hc6,(u250 (Vd l x.a h3)),hc7,rfl,trivial⟩ (AvLe.of_eq (by rw [h]; try rfl))
             · have h:=h.2 (ne_of_beq_false hc6)
               exact Qck l x ee hE ⟨hc0,(u142 (Qm x.day 0 10000)),hc1,hc2,hc3,hc4,q6_5,(u142 (Qm x.a 0 ((l.es.length:Int) - 1))),hc5,(Qx h2 h1),(rp cEnt 5 1 1 h1),hc6,rfl,rfl,trivial⟩ (AvLe.of_eq (by rw [h]; try rfl))
           · have h:=h.2 hc5
             exact Qcj l x hE ⟨hc0,(u142 (Qm x.day 0 10000)),hc1,hc2,hc3,hc4,q6_5,(u142 (Qm x.a 0 ((l.es.length:Int) - 1))),hc5,rfl,rfl,rfl,trivial⟩ (AvLe.of_eq (by rw [h]; try rfl))
         · have h:=h.2 (ne_of_beq_false hc4)
           rcases bft (x.kind == 4) with hc5 | hc5
           · have h:=h.1 (eq_of_beq hc5)
             obtain ⟨h1,h⟩:=h
             rcases bft (QJ l.k x.a) with hc6 | hc6
             · have h:=h.1 hc6
               obtain ⟨h2,h⟩:=h
               rcases bft (Xu l.k x.b) with hc7 | hc7
               · have h:=h.1 hc7
                 exact Qci l x hE ⟨hc0,(u142 (Qm x.day 0 10000)),hc1,hc2,hc3,hc4,hc5,(u249 (Xw l x.a h1)),hc6,(u251 (VQ l x.b h2)),hc7,trivial⟩ (AvLe.of_eq (by rw [h]; try rfl))
               · have h:=h.2 hc7
                 exact Qch l x hE ⟨hc0,(u142 (Qm x.day 0 10000)),hc1,hc2,hc3,hc4,hc5,(u249 (Xw l x.a h1)),hc6,(u251 (VQ l x.b h2)),hc7,trivial⟩ (AvLe.of_eq (by rw [h]; try rfl))
             · have h:=h.2 hc6
               exact Qcg l x hE ⟨hc0,(u142 (Qm x.day 0 10000)),hc1,hc2,hc3,hc4,hc5,(u249 (Xw l x.a h1)),hc6,rfl,trivial⟩ (AvLe.of_eq (by rw [h]; try rfl))
           · have h:=h.2 (ne_of_beq_false hc5)
             rcases bft (x.kind == 5) with hc6 | hc6
             · have h:=h.1 (eq_of_beq hc6)
               obtain ⟨h1,h⟩:=h
               rcases bft (QJ l.k x.a) with hc7 | hc7
               · have h:=h.1 hc7
                 rcases bft (Qa x.b 0 10000) with hc8 | hc8
                 · have h:=h.1 hc8
                   exact Qcf l x hE ⟨hc0,(u142 (Qm x.day 0 10000)),hc1,hc2,hc3,hc4,hc5,hc6,(u249 (Xw l x.a h1)),hc7,(u142 (Qm x.b 0 10000)),hc8,trivial⟩ (AvLe.of_eq (by rw [h]; try rfl))
                 · have h:=h.2 hc8
                   exact Qce l x hE ⟨hc0,(u142 (Qm x.day 0 10000)),hc1,hc2,hc3,hc4,hc5,hc6,(u249 (Xw l x.a h1)),hc7,(u142 (Qm x.b 0 10000)),hc8,trivial⟩ (AvLe.of_eq (by rw [h]; try rfl))
               · have h:=h.2 hc7
                 exact Qcd l x hE ⟨hc0,(u142 (Qm x.day 0 10000)),hc1,hc2,hc3,hc4,hc5,hc6,(u249 (Xw l x.a h1)),hc7,rfl,trivial⟩ (AvLe.of_eq (by rw [h]; try rfl))
             · have h:=h.2 (ne_of_beq_false hc6)
               rcases bft (x.kind == 6) with hc7 | hc7
               · have h:=h.1 (eq_of_beq hc7)
                 obtain ⟨h1,h⟩:=h
                 rcases bft (QJ l.k x.a) with hc8 | hc8
                 · have h:=h.1 hc8
                   rcases bft (x.b == 0) with hc9 | hc9
                   · have h:=h.1 (eq_of_beq hc9)
                     exact Qcc l x hE ⟨hc0,(u142 (Qm x.day 0 10000)),hc1,hc2,hc3,hc4,hc5,hc6,hc7,(u249 (Xw l x.a h1)),hc8,hc9,trivial⟩ (AvLe.of_eq (by rw [h]; try rfl))
                   · have h:=h.2 (ne_of_beq_false hc9)
                     exact Qcb l x hE ⟨hc0,(u142 (Qm x.day 0 10000)),hc1,hc2,hc3,hc4,hc5,hc6,hc7,(u249 (Xw l x.a h1)),hc8,hc9,trivial⟩ (AvLe.of_eq (by rw [h]; try rfl))
                 · have h:=h.2 hc8
                   exact Qca l x hE ⟨hc0,(u142 (Qm x.day 0 10000)),hc1,hc2,hc3,hc4,hc5,hc6,hc7,(u249 (Xw l x.a h1)),hc8,rfl,trivial⟩ (AvLe.of_eq (by rw [h]; try rfl))
               · have h:=h.2 (ne_of_beq_false hc7)
                 exact QbZ l x hE ⟨hc0,(u142 (Qm x.day 0 10000)),hc1,hc2,hc3,hc4,hc5,hc6,hc7,trivial⟩ (AvLe.of_eq (by rw [h]; try rfl))
theorem right_ok (l:Lgb) (x:Ent) (h:LogSmall l):Pure Try.prog 206 [.agg [.rsl (Qg l.k.rules) 0 l.k.rules.length,.rsl (rowI l.k.ranks) 0 l.k.ranks.length,.rsl (rowI l.k.insured) 0 l.k.insured.length,.rsl (Qc l.es) 0 l.es.length],.agg [.int .i64 x.day,.int .i64 x.kind,.int .i64 x.a,.int .i64 x.b,.int .i64 x.c]] (.bool (XI l x)):=Qv Try.func206 f206b fun E hE=>by
 have hk:=h.k
 have s1:=hk.rules
 have s2:=hk.ranks
 have s3:=hk.insured
 have s4:=h.es
 refine f206W l x (rv:=XI l x) hE ⟨fun c=>⟨⟨by omega,by omega⟩,by omega,l.es.getD (l.es.length - 1) e0,?_,fun d=>?_,fun d=>?_⟩,fun c=>⟨fun d=>?_,fun d=>?_⟩⟩
 · rw [show Int.toNat ((l.es.length:Int) - 1)=l.es.length - 1 by omega,List.getD_eq_getElem?_getD,List.getElem?_eq_getElem (by omega)]; rfl
 · unfold XI XU; rw [if_pos (by omega),d]; rfl
 · have e:XI l x=XB l x:=by unfold XI XU; rw [if_pos (by omega),d]; rfl
   rw [e]
   refine ⟨fun k1=>⟨⟨by omega,by omega⟩,fun q1=>⟨⟨hk,?_⟩,?_⟩,fun q1=>?_⟩,fun k1=>⟨fun k2=>⟨s3,fun q1=>⟨fun q2=>?_,fun q2=>?_⟩,fun q1=>?_⟩,fun k2=>⟨fun k3=>⟨⟨by omega,by omega⟩,fun q1=>?_,fun q1=>?_⟩,fun k3=>⟨fun k4=>⟨s3,fun q1=>⟨s2,fun q2=>?_,fun q2=>?_⟩,fun q1=>?_⟩,fun k4=>⟨fun k5=>⟨s3,fun q1=>⟨fun q2=>?_,fun q2=>?_⟩,fun q1=>?_⟩,fun k5=>⟨fun k6=>⟨s3,fun q1=>⟨fun q2=>?_,fun q2=>?_⟩,fun q1=>?_⟩,fun k6=>?_⟩⟩⟩⟩⟩⟩
   · have:=QH.1 q1; omega
   · unfold XB; simp [k1,q1]
   · unfold XB; simp [k1,q1]
   · unfold XB; simp [k2,q1,q2]
   · unfold XB; simp [k2,q1,q2]
   · unfold XB; simp [k2,q1]
   · have q:=QH.1 q1
     have g3:=Xx (l:=l.es) e0 (i:=x.a) (by omega)
     refine ⟨q.1,_,g3,fun q2=>⟨s4,fun q3=>⟨s2,fun q4=>?_,fun q4=>?_⟩,fun q3=>?_⟩,fun q2=>?_⟩
     · unfold XB; rw [if_neg k1,if_neg k2,if_pos k3,q1,show (Xh l.es x.a).kind=2 from q2,q3,q4]; rfl
     · unfold XB; rw [if_neg k1,if_neg k2,if_pos k3,q1,show (Xh l.es x.a).kind=2 from q2,q3,q4]; rfl
     · unfold XB; rw [if_neg k1,if_neg k2,if_pos k3,q1,show (Xh l.es x.a).kind=2 from q2,q3]; rfl
     · unfold XB; rw [if_neg k1,if_neg k2,if_pos k3,q1,beq_eq_false_iff_ne.2 (show (Xh l.es x.a).kind ≠ 2 from q2)]; rfl
   · unfold XB; simp [k3,q1]
   · unfold XB; simp [k4,q1,q2]
   · unfold XB; simp [k4,q1,q2]
   · unfold XB; simp [k4,q1]
   · unfold XB; simp [k5,q1,q2]
   · unfold XB; simp [k5,q1,q2]
   · unfold XB; simp [k5,q1]
   · unfold XB; simp [k6,q1,q2]
   · unfold XB; simp [k6,q1,q2]
   · unfold XB; simp [k6,q1]
   · unfold XB; simp [k1,k2,k3,k4,k5,k6]
 · unfold XI XU; rw [if_neg (by omega),d]; rfl
 · have e:XI l x=XB l x:=by unfold XI XU; rw [if_neg (by omega),d]; rfl
   rw [e]
   refine ⟨fun k1=>⟨⟨by omega,by omega⟩,fun q1=>⟨⟨hk,?_⟩,?_⟩,fun q1=>?_⟩,fun k1=>⟨fun k2=>⟨s3,fun q1=>⟨fun q2=>?_,fun q2=>?_⟩,fun q1=>?_⟩,fun k2=>⟨fun k3=>⟨⟨by omega,by omega⟩,fun q1=>?_,fun q1=>?_⟩,fun k3=>⟨fun k4=>⟨s3,fun q1=>⟨s2,fun q2=>?_,fun q2=>?_⟩,fun q1=>?_⟩,fun k4=>⟨fun k5=>⟨s3,fun q1=>⟨fun q2=>?_,fun q2=>?_⟩,fun q1=>?_⟩,fun k5=>⟨fun k6=>⟨s3,fun q1=>⟨fun q2=>?_,fun q2=>?_⟩,fun q1=>?_⟩,fun k6=>?_⟩⟩⟩⟩⟩⟩
   · have:=QH.1 q1; omega
   · unfold XB; simp [k1,q1]
   · unfold XB; simp [k1,q1]
   · unfold XB; simp [k2,q1,q2]
   · unfold XB; simp [k2,q1,q2]
   · unfold XB; simp [k2,q1]
   · have q:=QH.1 q1
     have g3:=Xx (l:=l.es) e0 (i:=x.a) (by omega)
     refine ⟨q.1,_,g3,fun q2=>⟨s4,fun q3=>⟨s2,fun q4=>?_,fun q4=>?_⟩,fun q3=>?_⟩,fun q2=>?_⟩
     · unfold XB; rw [if_neg k1,if_neg k2,if_pos k3,q1,show (Xh l.es x.a).kind=2 from q2,q3,q4]; rfl
     · unfold XB; rw [if_neg k1,if_neg k2,if_pos k3,q1,show (Xh l.es x.a).kind=2 from q2,q3,q4]; rfl
     · unfold XB; rw [if_neg k1,if_neg k2,if_pos k3,q1,show (Xh l.es x.a).kind=2 from q2,q3]; rfl
     · unfold XB; rw [if_neg k1,if_neg k2,if_pos k3,q1,beq_eq_false_iff_ne.2 (show (Xh l.es x.a).kind ≠ 2 from q2)]; rfl
   · unfold XB; simp [k3,q1]
   · unfold XB; simp [k4,q1,q2]
   · unfold XB; simp [k4,q1,q2]
   · unfold XB; simp [k4,q1]
   · unfold XB; simp [k5,q1,q2]
   · unfold XB; simp [k5,q1,q2]
   · unfold XB; simp [k5,q1]
   · unfold XB; simp [k6,q1,q2]
   · unfold XB; simp [k6,q1,q2]
   · unfold XB; simp [k6,q1]
   · unfold XB; simp [k1,k2,k3,k4,k5,k6]
theorem f141b:Try.f141.body=some (Qd Try.prog 141):=by kernel_rfl
theorem u141 {a c k:List AV} {r:AV} (h:Pure Try.prog 141 (a++c++k) r):Qe Try.prog (.clos 141 a k) c r:=Qj Try.func141 (by kernel_rfl) f141b h
def Qby (P:Program):List Item:=kAt 400 [.code (Qd P 141)] [.b false,.b false,.stop]
def f141S0 (k:Bok) (es:(List Ent)) (i:Nat) (v2:List Ent) (g2:Nat):St:=⟨([J,J,J,J,.ptr 1 0 0]++jj 17 ([.rsl (Qc es) 0 es.length,.int .i64 (es.length:Int),.int .i64 (i:Int)]++Js 18)),[⟨true,0,1,true,[.rsl (Qg k.rules) 0 k.rules.length,.rsl (rowI k.ranks) 0 k.ranks.length,.rsl (rowI k.insured) 0 k.insured.length],false⟩,⟨true,0,1,false,[.rsl (Qg k.rules) 0 k.rules.length,.rsl (rowI k.ranks) 0 k.ranks.length,.rsl (rowI k.insured) 0 k.insured.length,.sl 2 g2 0 v2.length 5],false⟩,⟨true,g2,5,true,(Qc v2),true⟩]⟩
def f141G0 (E:Env) (k:Bok) (es:(List Ent)) (i:Nat) (v2:List Ent):Prop:=∀ g2:Nat,G Try.prog E (Qby Try.prog) (f141S0 k es i v2 g2)
abbrev Kw (k:Bok):List AV:=[.rsl (Qg k.rules) 0 k.rules.length,.rsl (rowI k.ranks) 0 k.ranks.length,.rsl (rowI k.insured) 0 k.insured.length]
abbrev z141_2 (k:Bok) (v2:List Ent):List AV:=[.rsl (Qg k.rules) 0 k.rules.length,.rsl (rowI k.ranks) 0 k.ranks.length,.rsl (rowI k.insured) 0 k.insured.length,.rsl (Qc v2) 0 v2.length]
abbrev z141_3 (ee:Ent):List AV:=[.int .i64 ee.day,.int .i64 ee.kind,.int .i64 ee.a,.int .i64 ee.b,.int .i64 ee.c]
theorem p141_start_0 (k:Bok) (es:(List Ent)) {E:Env} {res:AV} (hE:Qf Try.prog 141 res E) (ho:AllP [Qe Try.prog (.clos 205 [] []) [.agg (Kw k)] (.int .i64 (Vl k)),((Vl k) != 0)=true,4≤4])
 (hr:AvLe (.tup [.agg [.nilSl,.nilSl,.nilSl,.nilSl],.int .i64 0,.int .i64 (Vl k)]) res):G Try.prog E [.code (Qd Try.prog 141)] ⟨[.agg (Kw k),.rsl (Qc es) 0 es.length]++unds (Try.f141.ntmps - 2),[]⟩ :=
 Qb (n:=400) (evs:=[.v (.int .i64 (Vl k)),.b true]) (obs:=_) hE Try.func141 Qh (by kernel_rfl) ho hr
theorem p141_start_1 (k:Bok) (es:(List Ent)) {E:Env} {res:AV} (hE:Qf Try.prog 141 res E) (ho:AllP [Qe Try.prog (.clos 205 [] []) [.agg (Kw k)] (.int .i64 (Vl k)),((Vl k) != 0)=false,(decide ((es.length:Int) > 100))=true,4≤4])
 (hr:AvLe (.tup [.agg [.nilSl,.nilSl,.nilSl,.nilSl],.int .i64 0,.int .i64 2]) res):G Try.prog E [.code (Qd Try.prog 141)] ⟨[.agg (Kw k),.rsl (Qc es) 0 es.length]++unds (Try.f141.ntmps - 2),[]⟩ :=
 Qb (n:=400) (evs:=[.v (.int .i64 (Vl k)),.b false,.b true]) (obs:=_) hE Try.func141 Qh (by kernel_rfl) ho hr
theorem p141_start_2 (k:Bok) (es:(List Ent)) {E:Env} {rv:AV} (hE:Qf Try.prog 141 rv E) (ho:AllP [Qe Try.prog (.clos 205 [] []) [.agg (Kw k)] (.int .i64 (Vl k)),((Vl k) != 0)=false,(decide ((es.length:Int) > 100))=false,4≤4])
 (hg:G Try.prog E (Qby Try.prog) ⟨([J,J,J,J,.ptr 1 0 0]++jj 17 ([.rsl (Qc es) 0 es.length,.int .i64 (es.length:Int),.int .i64 0]++Js 18)),[⟨true,0,1,true,(Kw k),false⟩,⟨true,0,1,false,[.rsl (Qg k.rules) 0 k.rules.length,.rsl (rowI k.ranks) 0 k.ranks.length,.rsl (rowI k.insured) 0 k.insured.length,.sl 2 0 0 0 5],false⟩,⟨true,0,5,true,[],true⟩]⟩):G Try.prog E [.code (Qd Try.prog 141)] ⟨[.agg (Kw k),.rsl (Qc es) 0 es.length]++unds (Try.f141.ntmps - 2),[]⟩ :=
 Ql (n:=400) (ds:=[]) (cs:=[(1,3,5)]) (live:=[4,22,23,24]) (m:=3) (evs:=[.v (.int .i64 (Vl k)),.b false,.b false,.stop]) (obs:=_) hE.2.1 (hE.nogh _) Qh (by kernel_rfl) ho hg
theorem f141W (k:Bok) (es:(List Ent)) {E:Env} {rv:(Lgb × Int × Int)} (hE:Qf Try.prog 141 (.tup [.agg [.rsl (Qg rv.1.k.rules) 0 rv.1.k.rules.length,.rsl (rowI rv.1.k.ranks) 0 rv.1.k.ranks.length,.rsl (rowI rv.1.k.insured) 0 rv.1.k.insured.length,.rsl (Qc rv.1.es) 0 rv.1.es.length],.int .i64 rv.2.1,.int .i64 rv.2.2]) E)
 (h:((BokSmall k)∧((¬ ((Vl k)=0)→rv=((⟨(⟨([]:List Rul),([]:List Int),([]:List Int)⟩:Bok),([]:List Ent)⟩:Lgb),0,(Vl k)))∧((Vl k)=0→(((es.length:Int) > 100→rv=((⟨(⟨([]:List Rul),([]:List Int),([]:List Int)⟩:Bok),([]:List Ent)⟩:Lgb),0,2))∧(¬ ((es.length:Int) > 100)→f141G0 E k es 0 ([]))))))):G Try.prog E [.code (Qd Try.prog 141)] ⟨[.agg [.rsl (Qg k.rules) 0 k.rules.length,.rsl (rowI k.ranks) 0 k.ranks.length,.rsl (rowI k.insured) 0 k.insured.length],.rsl (Qc es) 0 es.length]++unds (Try.f141.ntmps - 2),[]⟩:=by
 obtain ⟨h1,h⟩:=h
 rcases bft ((Vl k) != 0) with hc0 | hc0
 · have h:=h.1 (bneT hc0)
   exact p141_start_0 k es hE ⟨(u205 (WR k h1)),hc0,(by decide),trivial⟩ (by rw [h]; exact (QaZ ⟨(agg_le ⟨VZ,⟨VZ,⟨VZ,⟨VZ,trivial⟩⟩⟩⟩),⟨AvLe.of_eq rfl,⟨AvLe.of_eq rfl,trivial⟩⟩⟩))
 · have h:=h.2 (bneF hc0)
   rcases bft (decide ((es.length:Int) > 100)) with hc1 | hc1
   · have h:=h.1 (odt hc1)
     exact p141_start_1 k es hE ⟨(u205 (WR k h1)),hc0,hc1,(by decide),trivial⟩ (by rw [h]; exact (QaZ ⟨(agg_le ⟨VZ,⟨VZ,⟨VZ,⟨VZ,trivial⟩⟩⟩⟩),⟨AvLe.of_eq rfl,⟨AvLe.of_eq rfl,trivial⟩⟩⟩))
   · have h:=h.2 (odf hc1)
     exact p141_start_2 k es hE ⟨(u205 (WR k h1)),hc0,hc1,(by decide),trivial⟩ (h 0)
theorem p141_0_0 (k:Bok) (es:(List Ent)) (i:Nat) (v2:List Ent) (g2:Nat) (ee:Ent) {E:Env} {res:AV} (hE:Qf Try.prog 141 res E) (ho:AllP [(decide ((i:Int)<(es.length:Int)))=true,0≤(i:Int)∧(i:Int)<(es.length:Int),((Qc es).drop (0+(Int.toNat (i:Int))*5)).take 5=(z141_3 ee),5≤5,Qe Try.prog (.clos 206 [] []) [.agg (z141_2 k v2),.agg (z141_3 ee)] (.bool (XI (⟨k,v2⟩:Lgb) ee)),g2=g2,(!(XI (⟨k,v2⟩:Lgb) ee))=true,4≤4,g2=g2])
 (hr:AvLe (.tup [.agg (z141_2 k v2),.int .i64 (i:Int),.int .i64 101]) res):G Try.prog E (Qby Try.prog) (f141S0 k es i v2 g2) :=
 Qb (n:=400) (evs:=[.b true,.ld (.agg (z141_3 ee)),.v (.bool (XI (⟨k,v2⟩:Lgb) ee)),.b true]) (obs:=_) hE Try.func141 Qh (by kernel_rfl) ho hr
theorem p141_0_1 (k:Bok) (es:(List Ent)) (i:Nat) (v2:List Ent) (g2:Nat) (ee:Ent) {E:Env} {rv:AV} (hE:Qf Try.prog 141 rv E) (ho:AllP [(decide ((i:Int)<(es.length:Int)))=true,0≤(i:Int)∧(i:Int)<(es.length:Int),((Qc es).drop (0+(Int.toNat (i:Int))*5)).take 5=[.int .i64 ee.day,.int .i64 ee.kind,.int .i64 ee.a,.int .i64 ee.b,.int .i64 ee.c],5≤5,Qe Try.prog (.clos 206 [] []) [.agg [.rsl (Qg k.rules) 0 k.rules.length,.rsl (rowI k.ranks) 0 k.ranks.length,.rsl (rowI k.insured) 0 k.insured.length,.rsl (Qc v2) 0 v2.length],.agg [.int .i64 ee.day,.int .i64 ee.kind,.int .i64 ee.a,.int .i64 ee.b,.int .i64 ee.c]] (.bool (XI (⟨k,v2⟩:Lgb) ee)),g2=g2,(!(XI (⟨k,v2⟩:Lgb) ee))=false,g2=g2,(0+(v2.length*5))=(Qc v2).length,(v2.length+1)≤2147483648,0=0,4≤4,InR .i64 ((i:Int)+1)])
 (hg:G Try.prog E (Qby Try.prog) ⟨([J,J,J,J,.ptr 1 0 0]++jj 17 ([.rsl (Qc es) 0 es.length,.int .i64 (es.length:Int),.int .i64 ((i:Int)+1)]++Js 18)),[⟨true,0,1,true,[.rsl (Qg k.rules) 0 k.rules.length,.rsl (rowI k.ranks) 0 k.ranks.length,.rsl (rowI k.insured) 0 k.insured.length],false⟩,⟨true,0,1,false,[.rsl (Qg k.rules) 0 k.rules.length,.rsl (rowI k.ranks) 0 k.ranks.length,.rsl (rowI k.insured) 0 k.insured.length,.sl 2 (g2+1) 0 (v2.length+1) 5],false⟩,⟨true,(g2+1),5,true,((Qc v2)++[.int .i64 ee.day,.int .i64 ee.kind,.int .i64 ee.a,.int .i64 ee.b,.int .i64 ee.c]),true⟩]⟩):G Try.prog E (Qby Try.prog) (f141S0 k es i v2 g2) :=
 Ql (n:=400) (ds:=[]) (cs:=[]) (live:=[4,22,23,24]) (m:=3) (evs:=[.b true,.ld (.agg [.int .i64 ee.day,.int .i64 ee.kind,.int .i64 ee.a,.int .i64 ee.b,.int .i64 ee.c]),.v (.bool (XI (⟨k,v2⟩:Lgb) ee)),.b false,.stop]) (obs:=_) hE.2.1 (hE.nogh _) Qh (by kernel_rfl) ho hg
theorem p141_0_2 (k:Bok) (es:(List Ent)) (i:Nat) (v2:List Ent) (g2:Nat) {E:Env} {res:AV} (hE:Qf Try.prog 141 res E) (ho:AllP [(decide ((i:Int)<(es.length:Int)))=false,4≤4,g2=g2])
 (hr:AvLe (.tup [.agg (z141_2 k v2),.int .i64 0,.int .i64 0]) res):G Try.prog E (Qby Try.prog) (f141S0 k es i v2 g2) :=
 Qb (n:=400) (evs:=[.b false]) (obs:=_) hE Try.func141 Qh (by kernel_rfl) ho hr
theorem f141W0 (k:Bok) (es:(List Ent)) (i:Nat) (v2:List Ent) {E:Env} {rv:(Lgb × Int × Int)} (hE:Qf Try.prog 141 (.tup [.agg [.rsl (Qg rv.1.k.rules) 0 rv.1.k.rules.length,.rsl (rowI rv.1.k.ranks) 0 rv.1.k.ranks.length,.rsl (rowI rv.1.k.insured) 0 rv.1.k.insured.length,.rsl (Qc rv.1.es) 0 rv.1.es.length],.int .i64 rv.2.1,.int .i64 rv.2.2]) E)
 (h:(((i:Int)<(es.length:Int)→(∃ ee:Ent,es[i]?=some ee∧((LogSmall (⟨k,v2⟩:Lgb))∧(((XI (⟨k,v2⟩:Lgb) ee)=false→rv=((⟨k,v2⟩:Lgb),(i:Int),101))∧((XI (⟨k,v2⟩:Lgb) ee)=true→((v2.length+1)≤2147483648∧((I6 ((i:Int)+1))∧f141G0 E k es (i+1) (v2++[ee]))))))))∧(¬ ((i:Int)<(es.length:Int))→rv=((⟨k,v2⟩:Lgb),0,0)))):f141G0 E k es i v2:=by
 intro g2
 rcases bft (decide ((i:Int)<(es.length:Int))) with hc0 | hc0
 · have h:=h.1 (odt hc0)
   obtain ⟨ee,h1,h⟩:=h
   obtain ⟨h2,h⟩:=h
   rcases bft (!(XI (⟨k,v2⟩:Lgb) ee)) with hc1 | hc1
   · have h:=h.1 (bnT hc1)
     exact p141_0_0 k es i v2 g2 ee hE ⟨hc0,(QE h1),(rp cEnt 5 0 5 h1),(by decide),(u206 (right_ok (⟨k,v2⟩:Lgb) ee h2)),rfl,hc1,(by decide),rfl,trivial⟩ (AvLe.of_eq (by rw [h]; try rfl))
   · have h:=h.2 (bnF hc1)
     obtain ⟨h3,h⟩:=h
     obtain ⟨q13_2,h⟩:=h
     refine p141_0_1 k es i v2 g2 ee hE ⟨hc0,(QE h1),(rp cEnt 5 0 5 h1),(by decide),(u206 (right_ok (⟨k,v2⟩:Lgb) ee h2)),rfl,hc1,rfl,(by have hx:=QQ cEnt (s:=5) (fun _=>rfl) v2; simp only [Qc] at hx ⊢; rw [hx]; simp),h3,rfl,(by decide),q13_2,trivial⟩ ?_
     rw [(show Qc v2++[.int .i64 ee.day,.int .i64 ee.kind,.int .i64 ee.a,.int .i64 ee.b,.int .i64 ee.c]=Qc (v2++[ee]) from (QK cEnt v2 [ee]).symm)]; rw [(show (v2.length+1)=(v2++[ee]).length from by simp)]; exact (h (g2+1))
 · have h:=h.2 (odf hc0)
   exact p141_0_2 k es i v2 g2 hE ⟨hc0,(by decide),rfl,trivial⟩ (AvLe.of_eq (by rw [h]; try rfl))
theorem qP (k:Bok) (es:List Ent) (hk:BokSmall k):Pure Try.prog 141 [.agg [.rsl (Qg k.rules) 0 k.rules.length,.rsl (rowI k.ranks) 0 k.ranks.length,.rsl (rowI k.insured) 0 k.insured.length],.rsl (Qc es) 0 es.length] (.tup [.agg (cLgb (logK k es).1),.int .i64 (logK k es).2.1,.int .i64 (logK k es).2.2]):=Qv Try.func141 f141b fun E hE=>by
 refine f141W k es (rv:=logK k es) hE ⟨hk,fun q1=>?_,fun q1=>⟨fun q2=>?_,fun q2=>?_⟩⟩
 · unfold logK; rw [if_neg q1]; rfl
 · unfold logK; rw [if_pos q1,if_neg (by omega)]; rfl
 have hl:es.length≤100:=by omega
 have key:∀ (d i:Nat) (pre:List Ent),i+d=es.length→pre.length≤i→logK k es=Ve k pre (es.drop i) i→f141G0 E k es i pre:=by
  intro d
  induction d with
  | zero =>
   intro i pre hi hp hr
   rw [List.drop_eq_nil_of_le (by omega)] at hr
   exact f141W0 k es i pre (rv:=logK k es) hE ⟨fun h=>by omega,fun _=>hr⟩
  | succ d ih =>
   intro i pre hi hp hr
   have hx:es[i]?=some (es[i]'(by omega)):=List.getElem?_eq_getElem (by omega)
   rw [List.drop_eq_getElem_cons (by omega)] at hr
   generalize es[i]'(by omega)=x at hx hr
   simp only [Ve] at hr
   refine f141W0 k es i pre (rv:=logK k es) hE ⟨fun _=>⟨x,hx,⟨hk,by show pre.length≤1000; omega⟩,fun q=>?_,fun q=>⟨by omega,⟨by omega,by omega⟩,?_⟩⟩,fun h=>by omega⟩
   · rw [if_neg (by rw [q]; exact Bool.false_ne_true)] at hr; exact hr
   · rw [if_pos q] at hr
     exact ih (i+1) (pre++[x]) (by omega) (by simp; omega) hr
 refine key es.length 0 [] (by omega) (by simp) ?_
 unfold logK; rw [if_pos q1,if_pos hl,List.drop_zero]
end Go.Proofs.Ytemklbioijmjiaa
namespace Go.Proofs.Ytemklbioijmjiaa
open Go Ax
open Go.Proofs
def argBk (q:Int × Ent):List AV:=[.int .i64 q.1,.agg (cEnt q.2)]
def Qdl (x:Ent):List AV:=[.agg (cEnt x)]
/-- The entries before the n-th,from the last one on,with their numbers. -/
def bkGo (es:List Ent):Nat→List (Int × Ent)
 | 0=>[]
 | n+1=>((n:Int),Xh es (n:Int)) :: bkGo es n
theorem bkGo_rev (es:List Ent):∀ n,n≤es.length→(bkGo es n).map (·.2)=(es.take n).reverse
 | 0,_=>by simp [bkGo]
 | n+1,h=>by
  have hx:es[n]?=some es[n]:=List.getElem?_eq_getElem (by omega)
  have e:Xh es (n:Int)=es[n]:=by simp [Xh,List.getD,hx]
  rw [bkGo,List.map_cons,bkGo_rev es n (by omega),List.take_add_one,hx,Option.toList,List.reverse_append,e]; rfl
theorem f254b:Try.f254.body=some (Qd Try.prog 254):=by kernel_rfl
theorem u254 {a c k:List AV} {r:AV} (h:Pure Try.prog 254 (a++c++k) r):Qe Try.prog (.clos 254 a k) c r:=Qj Try.func254 (by kernel_rfl) f254b h
theorem p254_start_0 (es:(List Ent)) {E:Env} {res:AV} (hE:Qf Try.prog 254 res E) (ho:AllP [])
 (hr:AvLe (.clos 281 [] [.rptr [.rsl (Qc es) 0 es.length] 0]) res):G Try.prog E [.code (Qd Try.prog 254)] ⟨[.rsl (Qc es) 0 es.length]++unds (Try.f254.ntmps - 1),[]⟩ :=
 Qb (n:=400) (evs:=[]) (obs:=_) hE Try.func254 Qh (by kernel_rfl) ho hr
theorem f254W (es:(List Ent)) {E:Env} {rv:AV} (hE:Qf Try.prog 254 rv E)
 (h:rv=(.clos 281 [] [.rptr [.rsl (Qc es) 0 es.length] 0])):G Try.prog E [.code (Qd Try.prog 254)] ⟨[.rsl (Qc es) 0 es.length]++unds (Try.f254.ntmps - 1),[]⟩:=by
 exact p254_start_0 es hE trivial (AvLe.of_eq (by rw [h]; try rfl))
theorem f211b:Try.f211.body=some (Qd Try.prog 211):=by kernel_rfl
theorem u211 {a c k:List AV} {r:AV} (h:Pure Try.prog 211 (a++c++k) r):Qe Try.prog (.clos 211 a k) c r:=Qj Try.func211 (by kernel_rfl) f211b h
abbrev z211_1 (l:Lgb):List AV:=[.rsl (Qg l.k.rules) 0 l.k.rules.length,.rsl (rowI l.k.ranks) 0 l.k.ranks.length,.rsl (rowI l.k.insured) 0 l.k.insured.length,.rsl (Qc l.es) 0 l.es.length]
theorem p211_start_0 (l:Lgb) {E:Env} {res:AV} (hE:Qf Try.prog 211 res E) (ho:AllP [])
 (hr:AvLe (.clos 253 [] [.rptr (z211_1 l) 0]) res):G Try.prog E [.code (Qd Try.prog 211)] ⟨[.agg (z211_1 l)]++unds (Try.f211.ntmps - 1),[]⟩ :=
 Qb (n:=400) (evs:=[]) (obs:=_) hE Try.func211 Qh (by kernel_rfl) ho hr
theorem f211W (l:Lgb) {E:Env} {rv:AV} (hE:Qf Try.prog 211 rv E)
 (h:rv=(.clos 253 [] [.rptr [.rsl (Qg l.k.rules) 0 l.k.rules.length,.rsl (rowI l.k.ranks) 0 l.k.ranks.length,.rsl (rowI l.k.insured) 0 l.k.insured.length,.rsl (Qc l.es) 0 l.es.length] 0])):G Try.prog E [.code (Qd Try.prog 211)] ⟨[.agg [.rsl (Qg l.k.rules) 0 l.k.rules.length,.rsl (rowI l.k.ranks) 0 l.k.ranks.length,.rsl (rowI l.k.insured) 0 l.k.insured.length,.rsl (Qc l.es) 0 l.es.length]]++unds (Try.f211.ntmps - 1),[]⟩:=by
 exact p211_start_0 l hE trivial (AvLe.of_eq (by rw [h]; try rfl))
theorem Backward_ok (es:List Ent):Pure Try.prog 254 [.rsl (Qc es) 0 es.length] (.clos 281 [] [.rptr [.rsl (Qc es) 0 es.length] 0]):=Qv Try.func254 f254b fun E hE=>f254W es (rv:=.clos 281 [] [.rptr [.rsl (Qc es) 0 es.length] 0]) hE rfl
theorem back_ok (l:Lgb):Pure Try.prog 211 [.agg [.rsl (Qg l.k.rules) 0 l.k.rules.length,.rsl (rowI l.k.ranks) 0 l.k.ranks.length,.rsl (rowI l.k.insured) 0 l.k.insured.length,.rsl (Qc l.es) 0 l.es.length]] (.clos 253 [] [.rptr [.rsl (Qg l.k.rules) 0 l.k.rules.length,.rsl (rowI l.k.ranks) 0 l.k.ranks.length,.rsl (rowI l.k.insured) 0 l.k.insured.length,.rsl (Qc l.es) 0 l.es.length] 0]):=Qv Try.func211 f211b fun E hE=>f211W l (rv:=.clos 253 [] [.rptr [.rsl (Qg l.k.rules) 0 l.k.rules.length,.rsl (rowI l.k.ranks) 0 l.k.ranks.length,.rsl (rowI l.k.insured) 0 l.k.insured.length,.rsl (Qc l.es) 0 l.es.length] 0]) hE rfl
theorem f281b:Try.f281.body=some (Qd Try.prog 281):=by kernel_rfl
def f281K0 (P:Program):List Item:=kAt 400 [.code (Qd P 281)] [.stop]
def f281S0 (yv0:Value) (es:List Ent) (p:Int):St:=⟨([.opq yv0,.rptr [.rsl (Qc es) 0 es.length] 0,J,.int .i64 p]++Js 15),[]⟩
abbrev z281_1 (es:List Ent) (p:Int):List AV:=[.int .i64 ((Xh es p).day),.int .i64 ((Xh es p).kind),.int .i64 ((Xh es p).a),.int .i64 ((Xh es p).b),.int .i64 ((Xh es p).c)]
theorem p281_s (yv0:Value) (es:List Ent) {E:Env} {xs:List (List AV)} {yv:Value} {Y:Option Nat→Sd} {cont:Nat→Bool} {e:Option Nat} {o:Option Nat} (hE:IterE Try.prog 281 xs yv Y cont e o E) (h0:InR .i64 ((es.length:Int) - 1))
 (hg:G Try.prog E (f281K0 Try.prog) (f281S0 yv0 es ((es.length:Int) - 1))):G Try.prog E [.code (Qd Try.prog 281)] ⟨[.opq yv0,.rptr [.rsl (Qc es) 0 es.length] 0]++unds (Try.f281.ntmps - 2),[]⟩ :=
 YX (n:=400) (ds:=[]) (live:=[0,1,3]) (m:=0) (evs:=[.stop]) (obs:=[InR .i64 ((es.length:Int) - 1)]) hE.kind (hE.nogh _) Qh (by kernel_rfl) ⟨h0,trivial⟩ hg
def f281Kh0 (P:Program):List Item:=toOp 6 (kReg 400 [.code (Qd P 281)] [.b true] 2)
def f281Sh0 (yv0:Value) (es:List Ent) (p:Int):St:=⟨[.opq yv0,.rptr [.rsl (Qc es) 0 es.length] 0,J,.int .i64 p,J,J,J,.int .i64 p,.bool (decide (p≥0)),J,J,.opq yv0,.int .i64 p,.rsl (Qc es) 0 es.length,.int .i64 p,.rptr (Qc es) (0+((Int.toNat p)*5)),.agg [.int .i64 ((Xh es p).day),.int .i64 ((Xh es p).kind),.int .i64 ((Xh es p).a),.int .i64 ((Xh es p).b),.int .i64 ((Xh es p).c)],J,J],[]⟩
def Qdg (P:Program):List Item:=toOp 7 (kReg 400 [.code (Qd P 281)] [.b true] 2)
def f281Sh0a (yv0:Value) (es:List Ent) (p:Int) (y:Bool):St:=⟨[.opq yv0,.rptr [.rsl (Qc es) 0 es.length] 0,J,.int .i64 p,J,J,J,.int .i64 p,.bool (decide (p≥0)),J,J,.opq yv0,.int .i64 p,.rsl (Qc es) 0 es.length,.int .i64 p,.rptr (Qc es) (0+((Int.toNat p)*5)),.agg [.int .i64 ((Xh es p).day),.int .i64 ((Xh es p).kind),.int .i64 ((Xh es p).a),.int .i64 ((Xh es p).b),.int .i64 ((Xh es p).c)],.bool y,J],[]⟩
theorem f281_h0 (yv0:Value) (es:List Ent) (p:Int):qJ (f281Kh0 Try.prog) (f281Sh0 yv0 es p)=some (Qdg Try.prog,some 17,yv0,[.int .i64 p,.agg [.int .i64 ((Xh es p).day),.int .i64 ((Xh es p).kind),.int .i64 ((Xh es p).a),.int .i64 ((Xh es p).b),.int .i64 ((Xh es p).c)]]):=by kernel_rfl
theorem p281_0 (yv0:Value) (es:List Ent) (p:Int) {E:Env} {xs:List (List AV)} {yv:Value} {Y:Option Nat→Sd} {cont:Nat→Bool} {e:Option Nat} {o:Option Nat} (hE:IterE Try.prog 281 xs yv Y cont e o E) (h0:(decide (p≥0))=true) (h1:0≤p∧p<(es.length:Int)) (h2:((Qc es).drop (0+((Int.toNat p)*5))).take 5=(z281_1 es p))
 (hg:G Try.prog E (f281Kh0 Try.prog) (f281Sh0 yv0 es p)):G Try.prog E (f281K0 Try.prog) (f281S0 yv0 es p) :=
 YX (n:=400) (ds:=[]) (live:=[0,1,2,3,4,5,6,7,8,9,10,11,12,13,14,15,16,17,18]) (m:=0) (evs:=[.b true,.auto,.ld (.agg (z281_1 es p)),.hold 0]) (obs:=[(decide (p≥0))=true,0≤p∧p<(es.length:Int),((Qc es).drop (0+((Int.toNat p)*5))).take 5=(z281_1 es p)]) hE.kind (hE.nogh _) Qh (by kernel_rfl) ⟨h0,h1,h2,trivial⟩ hg
theorem p281_1 (yv0:Value) (es:List Ent) (p:Int) {E:Env} {xs:List (List AV)} {yv:Value} {Y:Option Nat→Sd} {cont:Nat→Bool} {e:Option Nat} (hE:IterE Try.prog 281 xs yv Y cont e e E) (h0:(decide (p≥0))=false):G Try.prog E (f281K0 Try.prog) (f281S0 yv0 es p) :=
 qf (n:=400) (evs:=[.b false]) (obs:=[(decide (p≥0))=false]) hE Try.func281 (by kernel_rfl) Qh (by kernel_rfl) ⟨h0,trivial⟩
theorem p281_a00 (yv0:Value) (es:List Ent) (p:Int) (y:Bool) {E:Env} {xs:List (List AV)} {yv:Value} {Y:Option Nat→Sd} {cont:Nat→Bool} {e:Option Nat} (hE:IterE Try.prog 281 xs yv Y cont e e E) (h0:(!y)=true):G Try.prog E (Qdg Try.prog) (f281Sh0a yv0 es p y) :=
 qf (n:=400) (evs:=[.b true]) (obs:=[(!y)=true]) hE Try.func281 (by kernel_rfl) Qh (by kernel_rfl) ⟨h0,trivial⟩
theorem p281_a01 (yv0:Value) (es:List Ent) (p:Int) (y:Bool) {E:Env} {xs:List (List AV)} {yv:Value} {Y:Option Nat→Sd} {cont:Nat→Bool} {e:Option Nat} {o:Option Nat} (hE:IterE Try.prog 281 xs yv Y cont e o E) (h0:(!y)=false) (h1:InR .i64 (p - 1))
 (hg:G Try.prog E (f281K0 Try.prog) (f281S0 yv0 es (p - 1))):G Try.prog E (Qdg Try.prog) (f281Sh0a yv0 es p y) :=
 YX (n:=400) (ds:=[]) (live:=[0,1,3]) (m:=0) (evs:=[.b false,.stop]) (obs:=[(!y)=false,InR .i64 (p - 1)]) hE.kind (hE.nogh _) Qh (by kernel_rfl) ⟨h0,h1,trivial⟩ hg
theorem ent_ld {l:List Ent} {p:Int} (h:0≤p∧p<(l.length:Int)):((Qc l).drop (0+((Int.toNat p)*5))).take 5=cEnt (Xh l p):=by
 have hx:l[Int.toNat p]?=some (Xh l p):=Xx e0 h
 exact qc cEnt (s:=5) (fun _=>rfl) (k:=0) (m:=5) (by decide) hx
theorem bk_cons {α:Type} {l:List α} {n:Nat} {x:α} {r:List α} (h:l.drop n=x :: r):l[n]?=some x∧l.drop (n+1)=r∧n<l.length:=by
 have hn:n<l.length:=by
  rcases Nat.lt_or_ge n l.length with h1 | h1
  · exact h1
  · rw [List.drop_eq_nil_of_le h1] at h; cases h
 rw [List.drop_eq_getElem_cons hn] at h
 simp only [List.cons.injEq] at h
 exact ⟨by rw [List.getElem?_eq_getElem hn,h.1],h.2,hn⟩
section
variable {L:List (Int × Ent)} {yv:Value} {Y:Option Nat→Sd} {cont:Nat→Bool} {e:Option Nat} {es:List Ent}
theorem it_bk (hl:es.length≤1000):∀ (n m:Nat) (E:Env),n≤es.length→IterE Try.prog 281 (L.map argBk) yv Y cont e (some m) E→Xi cont m (L.length - m)=e→L.drop m=bkGo es n →
 G Try.prog E (f281K0 Try.prog) (f281S0 yv es ((n:Int) - 1)):=by
 intro n
 induction n with
 | zero =>
  intro m E hn hE hi hL
  have hm:L.length≤m:=List.drop_eq_nil_iff.1 hL
  have e0:L.length - m=0:=by omega
  rw [e0] at hi
  simp only [Xi] at hi
  subst hi
  exact p281_1 yv es _ hE (decide_eq_false (by omega))
 | succ n ih =>
  intro m E hn hE hi hL
  obtain ⟨g1,g2,g3⟩:=bk_cons (show L.drop m=((n:Int),Xh es (n:Int)) :: bkGo es n from hL)
  have ep:((n+1:Nat):Int) - 1=(n:Int):=by omega
  rw [ep]
  refine p281_0 yv es (n:Int) hE (decide_eq_true (by omega)) ⟨by omega,by omega⟩ (ent_ld ⟨by omega,by omega⟩) ?_
  refine qA (x:=argBk ((n:Int),Xh es (n:Int))) hE (by simp [g1]) (f281_h0 yv es (n:Int)) rfl fun E' hE'=>?_
  have hst:L.length - m=(L.length - (m+1))+1:=by omega
  rw [hst] at hi
  simp only [Xi] at hi
  cases hc:cont m with
  | true =>
   simp only [nxt,hc,cond_true] at hE' hi
   exact p281_a01 yv es (n:Int) true hE' rfl ⟨by omega,by omega⟩ (ih (m+1) E' (by omega) hE' hi g2)
  | false =>
   simp only [nxt,hc,cond_false] at hE' hi
   subst hi
   exact p281_a00 yv es (n:Int) false hE' rfl
end
theorem bk_it (es:List Ent) (hl:es.length≤1000):IterF Try.prog (.clos 281 [] [.rptr [.rsl (Qc es) 0 es.length] 0]) ((bkGo es es.length).map argBk) :=
 iterF_of Try.func281 (by kernel_rfl) f281b fun E yv Y cont hE=>by
  have hx:((bkGo es es.length).map argBk).length=(bkGo es es.length).length:=by simp
  rw [hx] at hE
  exact p281_s yv es hE ⟨by omega,by omega⟩ (it_bk hl es.length 0 E (by omega) hE (by simp) rfl)
theorem f253b:Try.f253.body=some (Qd Try.prog 253):=by kernel_rfl
def qx (P:Program):List Item:=kAt 400 [.code (Qd P 253)] []
def VM (ly:Nat) (l:Lgb):St:=⟨([J,J,.ptr 0 0 0,J,J,J,J,.clos 281 [] [.rptr [.rsl (Qc l.es) 0 l.es.length] 0]]++Js 6),[⟨true,0,1,true,[.opq (yld ly)],false⟩]⟩
theorem f253_s (ly:Nat) (l:Lgb) {E:Env} {xs:List (List AV)} {yv:Value} {Y:Option Nat→Sd} {cont:Nat→Bool} {e:Option Nat} {o:Option Nat} (hE:IterE Try.prog 253 xs yv Y cont e o E) (hg:G Try.prog E (qx Try.prog) (VM ly l)):G Try.prog E [.code (Qd Try.prog 253)] ⟨[.opq (yld ly),.rptr [.rsl (Qg l.k.rules) 0 l.k.rules.length,.rsl (rowI l.k.ranks) 0 l.k.ranks.length,.rsl (rowI l.k.insured) 0 l.k.insured.length,.rsl (Qc l.es) 0 l.es.length] 0]++unds (Try.f253.ntmps - 2),[]⟩ :=
 YX (n:=400) (ds:=[]) (live:=[2,7]) (m:=1) (evs:=[.v (.clos 281 [] [.rptr [.rsl (Qc l.es) 0 l.es.length] 0])]) (obs:=[Qe Try.prog (.clos 254 [] []) [.rsl (Qc l.es) 0 l.es.length] (.clos 281 [] [.rptr [.rsl (Qc l.es) 0 l.es.length] 0])]) hE.kind (hE.nogh _) Qh (by kernel_rfl) ⟨((u254 (Backward_ok l.es))),trivial⟩ hg
def f253S1 (ly:Nat) (l:Lgb) (q:(Int × Ent)):St:=⟨[J,J,.ptr 0 0 0,J,.ptr 1 0 0,J,J,.clos 281 [] [.rptr [.rsl (Qc l.es) 0 l.es.length] 0],.int .i64 q.1,.agg [.int .i64 q.2.day,.int .i64 q.2.kind,.int .i64 q.2.a,.int .i64 q.2.b,.int .i64 q.2.c],J,J,J,J],[⟨true,0,1,true,[.opq (yld ly)],false⟩,⟨true,0,1,true,[.int .i64 q.2.day,.int .i64 q.2.kind,.int .i64 q.2.a,.int .i64 q.2.b,.int .i64 q.2.c],false⟩]⟩
theorem f253A (ly:Nat) (l:Lgb) (q:(Int × Ent)) {E:Env} (hE:RoundE (VM ly l).tmps E) (hg:G Try.prog E [.beginRound,.code (QW (qx Try.prog))] (f253S1 ly l q)):G Try.prog E [.code (YT (qx Try.prog)),.beginRound,.code (QW (qx Try.prog))] ⟨Wn (VM ly l).tmps [8,9] ([.int .i64 q.1,.agg [.int .i64 q.2.day,.int .i64 q.2.kind,.int .i64 q.2.a,.int .i64 q.2.b,.int .i64 q.2.c]]:List AV),(VM ly l).blks⟩ :=
 Ql (n:=400) (ds:=[]) (cs:=[]) (live:=[0,1,2,3,4,5,6,7,8,9,10,11,12,13]) (m:=2) (evs:=[]) (obs:=[5≤5]) hE.kind (by rw [hE.gA]; kernel_rfl) Qh (by kernel_rfl) ⟨(by decide),trivial⟩ hg
def f253Ky (P:Program):List Item:=toOp 2 (kReg 400 [.code (QW (qx P))] [] 0)
def Qbs (P:Program):List Item:=toOp 3 (kReg 400 [.code (QW (qx P))] [] 0)
def qS (ly:Nat) (l:Lgb) (q:(Int × Ent)):St:=⟨[J,J,.ptr 0 0 0,J,.ptr 1 0 0,J,J,.clos 281 [] [.rptr [.rsl (Qc l.es) 0 l.es.length] 0],.int .i64 q.1,.agg [.int .i64 q.2.day,.int .i64 q.2.kind,.int .i64 q.2.a,.int .i64 q.2.b,.int .i64 q.2.c],.opq (yld ly),.agg [.int .i64 q.2.day,.int .i64 q.2.kind,.int .i64 q.2.a,.int .i64 q.2.b,.int .i64 q.2.c],J,J],[⟨true,0,1,true,[.opq (yld ly)],false⟩,⟨true,0,1,true,[.int .i64 q.2.day,.int .i64 q.2.kind,.int .i64 q.2.a,.int .i64 q.2.b,.int .i64 q.2.c],false⟩]⟩
theorem f253B (ly:Nat) (l:Lgb) (q:(Int × Ent)) {E:Env} (hE:RoundE (VM ly l).tmps E) (hg:G Try.prog E (f253Ky Try.prog) (qS ly l q)):G Try.prog E [.code (QW (qx Try.prog))] (f253S1 ly l q) :=
 Ql (n:=400) (ds:=[]) (cs:=[]) (live:=[0,1,2,3,4,5,6,7,8,9,10,11,12,13]) (m:=2) (evs:=[.hold 2]) (obs:=[]) hE.kind (by rw [hE.gA]; kernel_rfl) Qh (by kernel_rfl) trivial hg
theorem f253Y (ly:Nat) (l:Lgb) (q:(Int × Ent)):qJ (f253Ky Try.prog) (qS ly l q)=some (Qbs Try.prog,some 12,(yld ly),[.agg [.int .i64 q.2.day,.int .i64 q.2.kind,.int .i64 q.2.a,.int .i64 q.2.b,.int .i64 q.2.c]]):=by kernel_rfl
theorem f253Z1 (ly:Nat) (l:Lgb) (q:(Int × Ent)) {E:Env} (hE:RoundE (VM ly l).tmps E) (hfin:E.Fin=Wi (fun K=>if true=true then K=[] else WF .ret K) (fun s=>s.blks=(VM ly l).blks) E):G Try.prog E (Qbs Try.prog) ⟨putA (qS ly l q).tmps (some 12) (.bool true),(qS ly l q).blks⟩ :=
 Ql (K':=[]) (st':=⟨(Js 14),[⟨true,0,1,true,[.opq (yld ly)],false⟩]⟩) (n:=400) (ds:=[]) (cs:=[]) (live:=[]) (m:=1) (evs:=[.b false]) (obs:=[false=false]) hE.kind (by rw [hE.gA]; kernel_rfl) Qh (by kernel_rfl) ⟨rfl,trivial⟩ (Qaz hfin (by simp) rfl)
theorem f253Z0 (ly:Nat) (l:Lgb) (q:(Int × Ent)) {E:Env} (hE:RoundE (VM ly l).tmps E) (hfin:E.Fin=Wi (fun K=>if false=true then K=[] else WF .ret K) (fun s=>s.blks=(VM ly l).blks) E):G Try.prog E (Qbs Try.prog) ⟨putA (qS ly l q).tmps (some 12) (.bool false),(qS ly l q).blks⟩ :=
 Ql (K':=(kAt 400 (Qbs Try.prog) [.b true])) (st':=⟨(Js 14),[⟨true,0,1,true,[.opq (yld ly)],false⟩]⟩) (n:=400) (ds:=[]) (cs:=[]) (live:=[]) (m:=1) (evs:=[.b true]) (obs:=[true=true]) hE.kind (by rw [hE.gA]; kernel_rfl) Qh (by kernel_rfl) ⟨rfl,trivial⟩ (Qaz hfin (by rw [if_neg Bool.false_ne_true]; exact Qbn (by kernel_rfl)) rfl)
theorem f253Zu (ly:Nat) (l:Lgb) (q:(Int × Ent)) (u:Bool) {E:Env} (hE:RoundE (VM ly l).tmps E) (hfin:E.Fin=Wi (fun K=>if u=true then K=[] else WF .ret K) (fun s=>s.blks=(VM ly l).blks) E):G Try.prog E (Qbs Try.prog) ⟨putA (qS ly l q).tmps (some 12) (.bool u),(qS ly l q).blks⟩:=by
 cases u with
 | true=>exact f253Z1 ly l q hE hfin
 | false=>exact f253Z0 ly l q hE hfin
theorem f253E1 (ly:Nat) (l:Lgb) {E:Env} {xs:List (List AV)} {yv:Value} {Y:Option Nat→Sd} {cont:Nat→Bool} {e:Option Nat} (hE:IterE Try.prog 253 xs yv Y cont e e E):G Try.prog E (XY (qx Try.prog)) (VM ly l) :=
 qf (n:=400) (evs:=[]) (obs:=[]) hE Try.func253 (by kernel_rfl) Qh (by kernel_rfl) trivial
theorem f253E0 (ly:Nat) (l:Lgb) {E:Env} {xs:List (List AV)} {yv:Value} {Y:Option Nat→Sd} {cont:Nat→Bool} {e:Option Nat} (hE:IterE Try.prog 253 xs yv Y cont e e E):G Try.prog E (.code .ret :: (XY (qx Try.prog))) (VM ly l) :=
 qf (n:=400) (evs:=[]) (obs:=[]) hE Try.func253 (by kernel_rfl) Qh (by kernel_rfl) trivial
theorem f253relay (ly:Nat) (l:Lgb) {E:Env} {L:List (Int × Ent)} {Y:Option Nat→Sd} {cont:Nat→Bool} (hit:IterF Try.prog (.clos 281 [] [.rptr [.rsl (Qc l.es) 0 l.es.length] 0]) (L.map fun q=>([.int .i64 q.1,.agg [.int .i64 q.2.day,.int .i64 q.2.kind,.int .i64 q.2.a,.int .i64 q.2.b,.int .i64 q.2.c]]:List AV)))
 (hE:IterE Try.prog 253 (L.map fun q=>([.agg [.int .i64 q.2.day,.int .i64 q.2.kind,.int .i64 q.2.a,.int .i64 q.2.b,.int .i64 q.2.c]]:List AV)) (yld ly) Y cont (Xi cont 0 (L.map fun q=>([.agg [.int .i64 q.2.day,.int .i64 q.2.kind,.int .i64 q.2.a,.int .i64 q.2.b,.int .i64 q.2.c]]:List AV)).length) (some 0) E) (hd:(Int × Ent)):G Try.prog E (qx Try.prog) (VM ly l):=by
 have hq:∀ (i:Nat) x,(L.map fun q=>([.int .i64 q.1,.agg [.int .i64 q.2.day,.int .i64 q.2.kind,.int .i64 q.2.a,.int .i64 q.2.b,.int .i64 q.2.c]]:List AV))[i]?=some x→x=(fun (q:(Int × Ent))=>([.int .i64 q.1,.agg [.int .i64 q.2.day,.int .i64 q.2.kind,.int .i64 q.2.a,.int .i64 q.2.b,.int .i64 q.2.c]]:List AV)) (L.getD i hd):=fun i x h=>by
  rw [List.getElem?_map,Option.map_eq_some_iff] at h
  obtain ⟨q,h1,h2⟩:=h
  rw [List.getD_eq_getElem?_getD,h1]; exact h2.symm
 refine relay_step (xs2:=L.map fun q=>([.int .i64 q.1,.agg [.int .i64 q.2.day,.int .i64 q.2.kind,.int .i64 q.2.a,.int .i64 q.2.b,.int .i64 q.2.c]]:List AV)) (fv:=.clos 281 [] [.rptr [.rsl (Qc l.es) 0 l.es.length] 0]) (jump:=.ret) (g:=.tmp 7) (ps:=#[8,9]) (fun i=>f253S1 ly l (L.getD i hd)) (fun i=>qS ly l (L.getD i hd)) (f253Ky Try.prog) (Qbs Try.prog) (some 12) (fun i=>(fun (q:(Int × Ent))=>([.agg [.int .i64 q.2.day,.int .i64 q.2.kind,.int .i64 q.2.a,.int .i64 q.2.b,.int .i64 q.2.c]]:List AV)) (L.getD i hd))
  hE (by simp) (fun i y h=>?_) (by kernel_rfl) rfl (by kernel_rfl) hit (fun i x h=>?_) (fun i x h E' hR hg=>?_) (fun i x h E' hR hg=>?_) (fun i _=>f253Y ly l (L.getD i hd)) (fun i _=>rfl) (fun i _ u E' hR hf=>f253Zu ly l (L.getD i hd) u hR hf) (fun E' hI=>?_)
 · rw [List.getElem?_map,Option.map_eq_some_iff] at h
   obtain ⟨q,h1,h2⟩:=h
   rw [List.getD_eq_getElem?_getD,h1]; exact h2
 · rw [hq i x h]; rfl
 · rw [hq i x h]; exact f253A ly l _ hR hg
 · exact f253B ly l _ hR hg
 · rcases YN (cont:=cont) (n:=(L.map fun q=>([.agg [.int .i64 q.2.day,.int .i64 q.2.kind,.int .i64 q.2.a,.int .i64 q.2.b,.int .i64 q.2.c]]:List AV)).length) (i:=0) with h | h
   · rw [h] at hI ⊢; exact f253E0 ly l hI
   · rw [h] at hI ⊢; exact f253E1 ly l hI
/-- The entries of a log from the last one to the first one. -/
theorem back_it (l:Lgb) (hl:l.es.length≤1000):IterF Try.prog (.clos 253 [] [.rptr [.rsl (Qg l.k.rules) 0 l.k.rules.length,.rsl (rowI l.k.ranks) 0 l.k.ranks.length,.rsl (rowI l.k.insured) 0 l.k.insured.length,.rsl (Qc l.es) 0 l.es.length] 0]) (l.es.reverse.map Qdl):=by
 have e:l.es.reverse.map Qdl=(bkGo l.es l.es.length).map (fun q=>Qdl q.2):=by
  have:=bkGo_rev l.es l.es.length (by omega)
  rw [List.take_of_length_le (by omega)] at this
  rw [← this,List.map_map]; rfl
 rw [e]
 exact iterF_ofy Try.func253 (by kernel_rfl) f253b fun E ly Y cont hE=>f253_s ly l hE (f253relay ly l (bk_it l.es hl) hE (0,e0))
end Go.Proofs.Ytemklbioijmjiaa
namespace Go.Proofs.Ytemklbioijmjiaa
open Go Ax
open Go.Proofs
/-- The day of the first entry that is wanted,from the last one on,without an accident before it. -/
def qD (P:Ent→Bool) (ride:Int):List Ent→Int
 | []=>-1
 | x :: xs=>if P x=true then x.day else if x.kind=6∧x.a=ride then -1 else qD P ride xs
def QL (P:Ent→Bool) (ride:Int) (es:List Ent):Int:=qD P ride es.reverse
def Kc (P:Ent→Bool) (ride:Int) (s:Int) (x:Ent):Int × Bool:=if P x=true then (x.day,false) else if x.kind=6∧x.a=ride then (-1,false) else (s,true)
theorem Wa {P:Ent→Bool} {ride:Int}:∀ (L:List Ent) (s s':Int) (u:Bool),QG (Kc P ride) s L=(s',u)→qD P ride L=if u=true then -1 else s'
 | [],s,s',u,h=>by
  simp only [QG,Prod.mk.injEq] at h
  rw [← h.2]; rfl
 | x :: L,s,s',u,h=>by
  unfold qD
  simp only [QG,Kc] at h
  split
  · rename_i c
    rw [if_pos c] at h
    simp only [cond_false,Prod.mk.injEq] at h
    rw [← h.2,← h.1]; rfl
  · rename_i c
    rw [if_neg c] at h
    split
    · rename_i c2
      rw [if_pos c2] at h
      simp only [cond_false,Prod.mk.injEq] at h
      rw [← h.2,← h.1]; rfl
    · rename_i c2
      rw [if_neg c2] at h
      simp only [cond_true] at h
      exact Wa L s s' u h
def isKd (k n:Int) (x:Ent):Bool:=(x.kind == k) && (x.a == n)
def VE (l:Lgb) (r:Int):Int:=if QL (isKd 1 r) (Ke l.k r).ride l.es<0 then -1 else QL (isKd 1 r) (Ke l.k r).ride l.es+(Ke l.k r).every - 1
def Yf (es:List Ent):Nat→Nat→List Int
 | 0,_=>[]
 | d+1,i=>if (Xh es (i:Int)).kind=2∧Xt es (i:Int)=false then (i:Int) :: Yf es d (i+1) else Yf es d (i+1)
def XD (es:List Ent):List Int:=Yf es es.length 0
def chkStep (l:Lgb) (ride:Int) (day:Int) (i:Nat) (r:Rul):Int:=if r.ride=ride then iMin day (VE l (i:Int)) else day
def chkGo (l:Lgb) (ride:Int):List Rul→Nat→Int→Int
 | [],_,day=>day
 | r :: rs,i,day=>chkGo l ride rs (i+1) (chkStep l ride day i r)
def Qs (l:Lgb) (ride:Int):Int:=chkGo l ride l.k.rules 0 10000
def Yx (es:List Ent) (ride:Int) (m:List Int) (i:Int):List Int:=if (Xh es i).a=ride then m.set (Xh es i).b.toNat (m.getD (Xh es i).b.toNat 0+1) else m
def qs (es:List Ent) (ride:Int):List Int:=(XD es).foldl (Yx es ride) [0,0,0,0]
def QF (l:Lgb) (ride:Int):Bool:=((qs l.es ride).getD 3 0 == 0) && decide ((qs l.es ride).getD 2 0≤1)
def insK (d ride:Int):List Ent→Int
 | []=>d
 | x :: xs=>if x.kind=5∧x.a=ride then x.b else insK d ride xs
def Qn (l:Lgb) (ride:Int):Int:=insK (l.k.insured.getD ride.toNat 0) ride l.es.reverse
def stepI (ride:Int) (s:Int) (x:Ent):Int × Bool:=if x.kind=5∧x.a=ride then (x.b,false) else (s,true)
theorem KX {d ride:Int}:∀ (L:List Ent) (s s':Int) (u:Bool),QG (stepI ride) s L=(s',u)→insK d ride L=if u=true then d else s'
 | [],s,s',u,h=>by
  simp only [QG,Prod.mk.injEq] at h
  rw [← h.2]; rfl
 | x :: L,s,s',u,h=>by
  unfold insK
  simp only [QG,stepI] at h
  split
  · rename_i c
    rw [if_pos c] at h
    simp only [cond_false,Prod.mk.injEq] at h
    rw [← h.2,← h.1]; rfl
  · rename_i c
    rw [if_neg c] at h
    simp only [cond_true] at h
    exact KX L s s' u h
/-- The reasons for which a ride is not released. -/
def whyK (l:Lgb) (ride day:Int):List Int :=
 (if Qs l ride<day then [1] else [])++((if QF l ride=false then [2] else [])++((if QL (isKd 4 ride) ride l.es=day then [] else [3])++(if Qn l ride<day then [4] else [])))
def onK (l:Lgb) (day:Int):Lgb:=if idxG (fun x=>decide (x.day > day)) l.es≥0 then ⟨l.k,l.es.take (Int.toNat (idxG (fun x=>decide (x.day > day)) l.es))⟩ else l
def dayK (k:Bok) (es:List Ent) (day:Int):Lgb × Int :=
 if (logK k es).2.2=0 then (if Qa day 0 10000=true then (onK (logK k es).1 day,0) else ((logK k es).1,1)) else ((logK k es).1,(logK k es).2.2)
def Yr (l:Lgb) (day:Int):Nat→Nat→List Int
 | 0,_=>[]
 | d+1,i=>if (whyK l (i:Int) day).length=0 then (i:Int) :: Yr l day d (i+1) else Yr l day d (i+1)
def Qr (k:Bok) (es:List Ent) (day:Int):List Int × Int :=
 if (dayK k es day).2=0 then (Yr (dayK k es day).1 day k.insured.length 0,0) else ([],(dayK k es day).2)
theorem f252b:Try.f252.body=some (Qd Try.prog 252):=by kernel_rfl
theorem u252 {a c k:List AV} {r:AV} (h:Pure Try.prog 252 (a++c++k) r):Qe Try.prog (.clos 252 a k) c r:=Qj Try.func252 (by kernel_rfl) f252b h
theorem p252_start_0 (x:Ent) (n:Int) {E:Env} {res:AV} (hE:Qf Try.prog 252 res E) (ho:AllP [(x.kind == 1)=true])
 (hr:AvLe (.bool (x.a == n)) res):G Try.prog E [.code (Qd Try.prog 252)] ⟨[.agg [.int .i64 x.day,.int .i64 x.kind,.int .i64 x.a,.int .i64 x.b,.int .i64 x.c],.rptr [.int .i64 n] 0]++unds (Try.f252.ntmps - 2),[]⟩ :=
 Qb (n:=400) (evs:=[.b true]) (obs:=_) hE Try.func252 Qh (by kernel_rfl) ho hr
theorem p252_start_1 (x:Ent) (n:Int) {E:Env} {res:AV} (hE:Qf Try.prog 252 res E) (ho:AllP [(x.kind == 1)=false])
 (hr:AvLe (.bool false) res):G Try.prog E [.code (Qd Try.prog 252)] ⟨[.agg [.int .i64 x.day,.int .i64 x.kind,.int .i64 x.a,.int .i64 x.b,.int .i64 x.c],.rptr [.int .i64 n] 0]++unds (Try.f252.ntmps - 2),[]⟩ :=
 Qb (n:=400) (evs:=[.b false]) (obs:=_) hE Try.func252 Qh (by kernel_rfl) ho hr
theorem f252W (x:Ent) (n:Int) {E:Env} {rv:Bool} (hE:Qf Try.prog 252 (.bool rv) E)
 (h:((x.kind=1→rv=(x.a == n))∧(¬ (x.kind=1)→rv=false))):G Try.prog E [.code (Qd Try.prog 252)] ⟨[.agg [.int .i64 x.day,.int .i64 x.kind,.int .i64 x.a,.int .i64 x.b,.int .i64 x.c],.rptr [.int .i64 n] 0]++unds (Try.f252.ntmps - 2),[]⟩:=by
 rcases bft (x.kind == 1) with hc0 | hc0
 · have h:=h.1 (eq_of_beq hc0)
   exact p252_start_0 x n hE ⟨hc0,trivial⟩ (AvLe.of_eq (by rw [h]; try rfl))
 · have h:=h.2 (ne_of_beq_false hc0)
   exact p252_start_1 x n hE ⟨hc0,trivial⟩ (AvLe.of_eq (by rw [h]; try rfl))
theorem kd1_ok (x:Ent) (n:Int):Pure Try.prog 252 [.agg [.int .i64 x.day,.int .i64 x.kind,.int .i64 x.a,.int .i64 x.b,.int .i64 x.c],.rptr [.int .i64 n] 0] (.bool (isKd 1 n x)):=Qv Try.func252 f252b fun E hE=>by
 refine f252W x n (rv:=isKd 1 n x) hE ⟨fun h=>?_,fun h=>?_⟩
 · unfold isKd; rw [h]; rfl
 · unfold isKd; rw [beq_eq_false_iff_ne.2 h]; rfl
theorem f148b:Try.f148.body=some (Qd Try.prog 148):=by kernel_rfl
theorem u148 {a c k:List AV} {r:AV} (h:Pure Try.prog 148 (a++c++k) r):Qe Try.prog (.clos 148 a k) c r:=Qj Try.func148 (by kernel_rfl) f148b h
theorem p148_start_0 (x:Ent) (n:Int) {E:Env} {res:AV} (hE:Qf Try.prog 148 res E) (ho:AllP [(x.kind == 4)=true])
 (hr:AvLe (.bool (x.a == n)) res):G Try.prog E [.code (Qd Try.prog 148)] ⟨[.agg [.int .i64 x.day,.int .i64 x.kind,.int .i64 x.a,.int .i64 x.b,.int .i64 x.c],.rptr [.int .i64 n] 0]++unds (Try.f148.ntmps - 2),[]⟩ :=
 Qb (n:=400) (evs:=[.b true]) (obs:=_) hE Try.func148 Qh (by kernel_rfl) ho hr
theorem p148_start_1 (x:Ent) (n:Int) {E:Env} {res:AV} (hE:Qf Try.prog 148 res E) (ho:AllP [(x.kind == 4)=false])
 (hr:AvLe (.bool false) res):G Try.prog E [.code (Qd Try.prog 148)] ⟨[.agg [.int .i64 x.day,.int .i64 x.kind,.int .i64 x.a,.int .i64 x.b,.int .i64 x.c],.rptr [.int .i64 n] 0]++unds (Try.f148.ntmps - 2),[]⟩ :=
 Qb (n:=400) (evs:=[.b false]) (obs:=_) hE Try.func148 Qh (by kernel_rfl) ho hr
theorem f148W (x:Ent) (n:Int) {E:Env} {rv:Bool} (hE:Qf Try.prog 148 (.bool rv) E)
 (h:((x.kind=4→rv=(x.a == n))∧(¬ (x.kind=4)→rv=false))):G Try.prog E [.code (Qd Try.prog 148)] ⟨[.agg [.int .i64 x.day,.int .i64 x.kind,.int .i64 x.a,.int .i64 x.b,.int .i64 x.c],.rptr [.int .i64 n] 0]++unds (Try.f148.ntmps - 2),[]⟩:=by
 rcases bft (x.kind == 4) with hc0 | hc0
 · have h:=h.1 (eq_of_beq hc0)
   exact p148_start_0 x n hE ⟨hc0,trivial⟩ (AvLe.of_eq (by rw [h]; try rfl))
 · have h:=h.2 (ne_of_beq_false hc0)
   exact p148_start_1 x n hE ⟨hc0,trivial⟩ (AvLe.of_eq (by rw [h]; try rfl))
theorem kd4_ok (x:Ent) (n:Int):Pure Try.prog 148 [.agg [.int .i64 x.day,.int .i64 x.kind,.int .i64 x.a,.int .i64 x.b,.int .i64 x.c],.rptr [.int .i64 n] 0] (.bool (isKd 4 n x)):=Qv Try.func148 f148b fun E hE=>by
 refine f148W x n (rv:=isKd 4 n x) hE ⟨fun h=>?_,fun h=>?_⟩
 · unfold isKd; rw [h]; rfl
 · unfold isKd; rw [beq_eq_false_iff_ne.2 h]; rfl
theorem f147ub:Try.f147.body=some (Qd Try.prog 147):=by kernel_rfl
def XL (P:Program):List Item:=kAt 400 [.code (Qd P 147)] []
def XF (l:Lgb) (ride:Int) (n:Int) (s:Int):St:=⟨([J,J,J,J,.ptr 1 0 0,.ptr 2 0 0,.ptr 3 0 0,J,J,.clos 253 [] [.rptr [.rsl (Qg l.k.rules) 0 l.k.rules.length,.rsl (rowI l.k.ranks) 0 l.k.ranks.length,.rsl (rowI l.k.insured) 0 l.k.insured.length,.rsl (Qc l.es) 0 l.es.length] 0]]++Js 17),[⟨true,0,1,true,[.rsl (Qg l.k.rules) 0 l.k.rules.length,.rsl (rowI l.k.ranks) 0 l.k.ranks.length,.rsl (rowI l.k.insured) 0 l.k.insured.length,.rsl (Qc l.es) 0 l.es.length],false⟩,⟨true,0,1,true,[.int .i64 ride],false⟩,⟨true,0,1,true,[.clos 252 [] [.rptr [.int .i64 n] 0]],false⟩,⟨true,0,1,true,[.int .i64 s],false⟩]⟩
def f147uGr0 (E:Env) (l:Lgb) (ride:Int) (n:Int) (s:Int):Prop:=G Try.prog E (XL Try.prog) (XF l ride n s)
def Ww (l:Lgb) (ride:Int) (n:Int) (s:Int) (x:Ent):St:=⟨([J,J,J,J,.ptr 1 0 0,.ptr 2 0 0,.ptr 3 0 0,.ptr 4 0 0,J,.clos 253 [] [.rptr [.rsl (Qg l.k.rules) 0 l.k.rules.length,.rsl (rowI l.k.ranks) 0 l.k.ranks.length,.rsl (rowI l.k.insured) 0 l.k.insured.length,.rsl (Qc l.es) 0 l.es.length] 0],.agg [.int .i64 x.day,.int .i64 x.kind,.int .i64 x.a,.int .i64 x.b,.int .i64 x.c]]++Js 16),[⟨true,0,1,true,[.rsl (Qg l.k.rules) 0 l.k.rules.length,.rsl (rowI l.k.ranks) 0 l.k.ranks.length,.rsl (rowI l.k.insured) 0 l.k.insured.length,.rsl (Qc l.es) 0 l.es.length],false⟩,⟨true,0,1,true,[.int .i64 ride],false⟩,⟨true,0,1,true,[.clos 252 [] [.rptr [.int .i64 n] 0]],false⟩,⟨true,0,1,true,[.int .i64 s],false⟩,⟨true,0,1,true,[.int .i64 x.day,.int .i64 x.kind,.int .i64 x.a,.int .i64 x.b,.int .i64 x.c],false⟩]⟩
abbrev qZ (l:Lgb):List AV:=[.rsl (Qg l.k.rules) 0 l.k.rules.length,.rsl (rowI l.k.ranks) 0 l.k.ranks.length,.rsl (rowI l.k.insured) 0 l.k.insured.length,.rsl (Qc l.es) 0 l.es.length]
theorem QcG (l:Lgb) (ride:Int) (n:Int) {E:Env} {rv:AV} (hE:Qf Try.prog 147 rv E) (ho:AllP [Qe Try.prog (.clos 211 [] []) [.agg (qZ l)] (.clos 253 [] [.rptr (qZ l) 0])])
 (hg:G Try.prog E (XL Try.prog) ⟨([J,J,J,J,.ptr 1 0 0,.ptr 2 0 0,.ptr 3 0 0,J,J,.clos 253 [] [.rptr (qZ l) 0]]++Js 17),[⟨true,0,1,true,(qZ l),false⟩,⟨true,0,1,true,[.int .i64 ride],false⟩,⟨true,0,1,true,[.clos 252 [] [.rptr [.int .i64 n] 0]],false⟩,⟨true,0,1,true,[.int .i64 0],false⟩]⟩):G Try.prog E [.code (Qd Try.prog 147)] ⟨[.agg (qZ l),.int .i64 ride,.clos 252 [] [.rptr [.int .i64 n] 0]]++unds (Try.f147.ntmps - 3),[]⟩ :=
 Ql (n:=400) (ds:=[]) (cs:=[]) (live:=[4,5,6,9]) (m:=4) (evs:=[.v (.clos 253 [] [.rptr (qZ l) 0])]) (obs:=_) hE.2.1 (hE.nogh _) Qh (by kernel_rfl) ho hg
theorem f147uW (l:Lgb) (ride:Int) (n:Int) {E:Env} {rv:Int} (hE:Qf Try.prog 147 (.int .i64 rv) E)
 (h:f147uGr0 E l ride n 0):G Try.prog E [.code (Qd Try.prog 147)] ⟨[.agg [.rsl (Qg l.k.rules) 0 l.k.rules.length,.rsl (rowI l.k.ranks) 0 l.k.ranks.length,.rsl (rowI l.k.insured) 0 l.k.insured.length,.rsl (Qc l.es) 0 l.es.length],.int .i64 ride,.clos 252 [] [.rptr [.int .i64 n] 0]]++unds (Try.f147.ntmps - 3),[]⟩:=by
 exact QcG l ride n hE ⟨(u211 (back_ok l)),trivial⟩ h
theorem p147u_r0e_0 (l:Lgb) (ride:Int) (n:Int) (s:Int) {E:Env} {res:AV} (hE:Qf Try.prog 147 res E) (ho:AllP [1≤1])
 (hr:AvLe (.int .i64 (-1)) res):G Try.prog E (XY (XL Try.prog)) (XF l ride n s) :=
 Qb (n:=400) (evs:=[]) (obs:=_) hE Try.func147 Qh (by kernel_rfl) ho hr
theorem f147uWr0e (l:Lgb) (ride:Int) (n:Int) (s:Int) {E:Env} {rv:Int} (hE:Qf Try.prog 147 (.int .i64 rv) E)
 (h:rv=(-1)):G Try.prog E (XY (XL Try.prog)) (XF l ride n s):=by
 exact p147u_r0e_0 l ride n s hE ⟨(by decide),trivial⟩ (AvLe.of_eq (by rw [h]; try rfl))
theorem p147u_r0j_0 (l:Lgb) (ride:Int) (n:Int) (s:Int) {E:Env} {res:AV} (hE:Qf Try.prog 147 res E) (ho:AllP [])
 (hr:AvLe (.int .i64 s) res):G Try.prog E (.code (.ret) :: XY (XL Try.prog)) (XF l ride n s) :=
 Qb (n:=400) (evs:=[]) (obs:=_) hE Try.func147 Qh (by kernel_rfl) ho hr
theorem f147uWr0j (l:Lgb) (ride:Int) (n:Int) (s:Int) {E:Env} {rv:Int} (hE:Qf Try.prog 147 (.int .i64 rv) E)
 (h:rv=s):G Try.prog E (.code (.ret) :: XY (XL Try.prog)) (XF l ride n s):=by
 exact p147u_r0j_0 l ride n s hE trivial (AvLe.of_eq (by rw [h]; try rfl))
theorem f147uAr0 (l:Lgb) (ride:Int) (n:Int) (s:Int) (x:Ent) {E:Env} (hE:RoundE (XF l ride n s).tmps E) (hg:G Try.prog E [.beginRound,.code (QW (XL Try.prog))] (Ww l ride n s x)):G Try.prog E [.code (YT (XL Try.prog)),.beginRound,.code (QW (XL Try.prog))] ⟨Wn (XF l ride n s).tmps [10] (Qdl x),(XF l ride n s).blks⟩ :=
 Ql (n:=400) (ds:=[]) (cs:=[]) (live:=[0,1,2,3,4,5,6,7,8,9,10,11,12,13,14,15,16,17,18,19,20,21,22,23,24,25,26]) (m:=5) (evs:=[]) (obs:=[5≤5]) hE.kind (by rw [hE.gA]; kernel_rfl) Qh (by kernel_rfl) ⟨(by decide),trivial⟩ hg
theorem f147uBr0_0 (l:Lgb) (ride:Int) (n:Int) (s:Int) (x:Ent) {E:Env} (hE:RoundE (XF l ride n s).tmps E) (ho:AllP [Qe Try.prog (.clos 252 [] [.rptr [.int .i64 n] 0]) [.agg [.int .i64 x.day,.int .i64 x.kind,.int .i64 x.a,.int .i64 x.b,.int .i64 x.c]] (.bool (isKd 1 n x)),(isKd 1 n x)=true,1≤1])
 (hg:G Try.prog E (kAt 400 [.code (QW (XL Try.prog))] [.b true]) ⟨(Js 27),[⟨true,0,1,true,[.rsl (Qg l.k.rules) 0 l.k.rules.length,.rsl (rowI l.k.ranks) 0 l.k.ranks.length,.rsl (rowI l.k.insured) 0 l.k.insured.length,.rsl (Qc l.es) 0 l.es.length],false⟩,⟨true,0,1,true,[.int .i64 ride],false⟩,⟨true,0,1,true,[.clos 252 [] [.rptr [.int .i64 n] 0]],false⟩,⟨true,0,1,true,[.int .i64 x.day],false⟩]⟩):G Try.prog E [.code (QW (XL Try.prog))] (Ww l ride n s x) :=
 Ql (n:=400) (ds:=[]) (cs:=[]) (live:=[]) (m:=4) (evs:=[.v (.bool (isKd 1 n x)),.b true]) (obs:=_) hE.kind (by rw [hE.gA]; kernel_rfl) Qh (by kernel_rfl) ho hg
theorem f147uBr0_1 (l:Lgb) (ride:Int) (n:Int) (s:Int) (x:Ent) {E:Env} (hE:RoundE (XF l ride n s).tmps E) (ho:AllP [Qe Try.prog (.clos 252 [] [.rptr [.int .i64 n] 0]) [.agg [.int .i64 x.day,.int .i64 x.kind,.int .i64 x.a,.int .i64 x.b,.int .i64 x.c]] (.bool (isKd 1 n x)),(isKd 1 n x)=false,(x.kind == 6)=true,(x.a == ride)=true,1≤1])
 (hg:G Try.prog E (kAt 400 [.code (QW (XL Try.prog))] [.b false,.b true]) ⟨(Js 27),[⟨true,0,1,true,[.rsl (Qg l.k.rules) 0 l.k.rules.length,.rsl (rowI l.k.ranks) 0 l.k.ranks.length,.rsl (rowI l.k.insured) 0 l.k.insured.length,.rsl (Qc l.es) 0 l.es.length],false⟩,⟨true,0,1,true,[.int .i64 ride],false⟩,⟨true,0,1,true,[.clos 252 [] [.rptr [.int .i64 n] 0]],false⟩,⟨true,0,1,true,[.int .i64 (-1)],false⟩]⟩):G Try.prog E [.code (QW (XL Try.prog))] (Ww l ride n s x) :=
 Ql (n:=400) (ds:=[]) (cs:=[]) (live:=[]) (m:=4) (evs:=[.v (.bool (isKd 1 n x)),.b false,.b true,.b true]) (obs:=_) hE.kind (by rw [hE.gA]; kernel_rfl) Qh (by kernel_rfl) ho hg
theorem f147uBr0_2 (l:Lgb) (ride:Int) (n:Int) (s:Int) (x:Ent) {E:Env} (hE:RoundE (XF l ride n s).tmps E) (ho:AllP [Qe Try.prog (.clos 252 [] [.rptr [.int .i64 n] 0]) [.agg [.int .i64 x.day,.int .i64 x.kind,.int .i64 x.a,.int .i64 x.b,.int .i64 x.c]] (.bool (isKd 1 n x)),(isKd 1 n x)=false,(x.kind == 6)=true,(x.a == ride)=false])
 (hg:G Try.prog E [] ⟨(Js 27),[⟨true,0,1,true,[.rsl (Qg l.k.rules) 0 l.k.rules.length,.rsl (rowI l.k.ranks) 0 l.k.ranks.length,.rsl (rowI l.k.insured) 0 l.k.insured.length,.rsl (Qc l.es) 0 l.es.length],false⟩,⟨true,0,1,true,[.int .i64 ride],false⟩,⟨true,0,1,true,[.clos 252 [] [.rptr [.int .i64 n] 0]],false⟩,⟨true,0,1,true,[.int .i64 s],false⟩]⟩):G Try.prog E [.code (QW (XL Try.prog))] (Ww l ride n s x) :=
 Ql (n:=400) (ds:=[]) (cs:=[]) (live:=[]) (m:=4) (evs:=[.v (.bool (isKd 1 n x)),.b false,.b true,.b false]) (obs:=_) hE.kind (by rw [hE.gA]; kernel_rfl) Qh (by kernel_rfl) ho hg
theorem f147uBr0_3 (l:Lgb) (ride:Int) (n:Int) (s:Int) (x:Ent) {E:Env} (hE:RoundE (XF l ride n s).tmps E) (ho:AllP [Qe Try.prog (.clos 252 [] [.rptr [.int .i64 n] 0]) [.agg [.int .i64 x.day,.int .i64 x.kind,.int .i64 x.a,.int .i64 x.b,.int .i64 x.c]] (.bool (isKd 1 n x)),(isKd 1 n x)=false,(x.kind == 6)=false,false=false])
 (hg:G Try.prog E [] ⟨(Js 27),[⟨true,0,1,true,[.rsl (Qg l.k.rules) 0 l.k.rules.length,.rsl (rowI l.k.ranks) 0 l.k.ranks.length,.rsl (rowI l.k.insured) 0 l.k.insured.length,.rsl (Qc l.es) 0 l.es.length],false⟩,⟨true,0,1,true,[.int .i64 ride],false⟩,⟨true,0,1,true,[.clos 252 [] [.rptr [.int .i64 n] 0]],false⟩,⟨true,0,1,true,[.int .i64 s],false⟩]⟩):G Try.prog E [.code (QW (XL Try.prog))] (Ww l ride n s x) :=
 Ql (n:=400) (ds:=[]) (cs:=[]) (live:=[]) (m:=4) (evs:=[.v (.bool (isKd 1 n x)),.b false,.b false,.b false]) (obs:=_) hE.kind (by rw [hE.gA]; kernel_rfl) Qh (by kernel_rfl) ho hg
theorem f147uBr0 (l:Lgb) (ride:Int) (n:Int) (s:Int) (x:Ent) {rq:(Int) × Bool} {E:Env} (hE:RoundE (XF l ride n s).tmps E) (hQ:qY (fun s=>(XF l ride n s).blks) (.ret) rq E)
 (h:(((isKd 1 n x)=true→rq=(x.day,false))∧((isKd 1 n x)=false→((x.kind=6→((x.a=ride→rq=((-1),false))∧(¬ (x.a=ride)→rq=(s,true))))∧(¬ (x.kind=6)→rq=(s,true)))))):G Try.prog E [.code (QW (XL Try.prog))] (Ww l ride n s x):=by
 rcases bft (isKd 1 n x) with hc0 | hc0
 · have h:=h.1 hc0
   exact f147uBr0_0 l ride n s x hE ⟨(u252 (kd1_ok x n)),hc0,(by decide),trivial⟩ (VW hQ h (by kernel_rfl) rfl)
 · have h:=h.2 hc0
   rcases bft (x.kind == 6) with hc1 | hc1
   · have h:=h.1 (eq_of_beq hc1)
     rcases bft (x.a == ride) with hc2 | hc2
     · have h:=h.1 (eq_of_beq hc2)
       exact f147uBr0_1 l ride n s x hE ⟨(u252 (kd1_ok x n)),hc0,hc1,hc2,(by decide),trivial⟩ (VW hQ h (by kernel_rfl) rfl)
     · have h:=h.2 (ne_of_beq_false hc2)
       exact f147uBr0_2 l ride n s x hE ⟨(u252 (kd1_ok x n)),hc0,hc1,hc2,trivial⟩ (VF hQ h rfl)
   · have h:=h.2 (ne_of_beq_false hc1)
     exact f147uBr0_3 l ride n s x hE ⟨(u252 (kd1_ok x n)),hc0,hc1,rfl,trivial⟩ (VF hQ h rfl)
theorem f147uRr0 (l:Lgb) (ride:Int) (n:Int) (s0:Int) {E:Env} {rv:Int} (hE:Qf Try.prog 147 (.int .i64 rv) E) (step:(Int)→(Ent)→(Int) × Bool)
 (h:l.es.length≤1000∧(∀ (i:Nat) (x:Ent) (s:Int),l.es.reverse[i]?=some x→QG step s0 (l.es.reverse.take i)=(s,true)→(((isKd 1 n x)=true→step s x=(x.day,false))∧((isKd 1 n x)=false→((x.kind=6→((x.a=ride→step s x=((-1),false))∧(¬ (x.a=ride)→step s x=(s,true))))∧(¬ (x.kind=6)→step s x=(s,true))))))∧(∀ s:Int,QG step s0 l.es.reverse=(s,true)→rv=(-1))∧(∀ s:Int,QG step s0 l.es.reverse=(s,false)→rv=s)):f147uGr0 E l ride n s0:=by
 have hgA:E.gA=[]:=hE.2.2.2.2.1
 have hT:(XF l ride n s0).tmps++E.gA=(XF l ride n s0).tmps:=by rw [hgA,List.append_nil]
 refine yi (σ:=Int) (X:=Ent) (arg:=Qdl) (L:=l.es.reverse) (jump:=.ret) (g:=.tmp 9) (ps:=#[10]) (fun s=>(XF l ride n s).blks) (fun s x=>(Ww l ride n s x)) step s0 hE.1 hE.2.1 (by kernel_rfl) rfl rfl (back_it l h.1) rfl (fun x=>rfl) (fun s x E' hR hg=>?_) (fun i x s hx hs E' hR hQ=>?_) (fun s hs=>?_) (fun s hs=>?_)
 · rw [hT] at hR; exact f147uAr0 l ride n s x hR hg
 · rw [hT] at hR; exact f147uBr0 l ride n s x hR hQ (h.2.1 i x s hx hs)
 · exact f147uWr0e l ride n s hE (h.2.2.1 s hs)
 · exact f147uWr0j l ride n s hE (h.2.2.2 s hs)
theorem Vh:Try.f147.body=some (Qd Try.prog 147):=by kernel_rfl
def XM (P:Program):List Item:=kAt 400 [.code (Qd P 147)] []
def XG (l:Lgb) (ride:Int) (n:Int) (s:Int):St:=⟨([J,J,J,J,.ptr 1 0 0,.ptr 2 0 0,.ptr 3 0 0,J,J,.clos 253 [] [.rptr [.rsl (Qg l.k.rules) 0 l.k.rules.length,.rsl (rowI l.k.ranks) 0 l.k.ranks.length,.rsl (rowI l.k.insured) 0 l.k.insured.length,.rsl (Qc l.es) 0 l.es.length] 0]]++Js 17),[⟨true,0,1,true,[.rsl (Qg l.k.rules) 0 l.k.rules.length,.rsl (rowI l.k.ranks) 0 l.k.ranks.length,.rsl (rowI l.k.insured) 0 l.k.insured.length,.rsl (Qc l.es) 0 l.es.length],false⟩,⟨true,0,1,true,[.int .i64 ride],false⟩,⟨true,0,1,true,[.clos 148 [] [.rptr [.int .i64 n] 0]],false⟩,⟨true,0,1,true,[.int .i64 s],false⟩]⟩
def f147tGr0 (E:Env) (l:Lgb) (ride:Int) (n:Int) (s:Int):Prop:=G Try.prog E (XM Try.prog) (XG l ride n s)
def Wx (l:Lgb) (ride:Int) (n:Int) (s:Int) (x:Ent):St:=⟨([J,J,J,J,.ptr 1 0 0,.ptr 2 0 0,.ptr 3 0 0,.ptr 4 0 0,J,.clos 253 [] [.rptr [.rsl (Qg l.k.rules) 0 l.k.rules.length,.rsl (rowI l.k.ranks) 0 l.k.ranks.length,.rsl (rowI l.k.insured) 0 l.k.insured.length,.rsl (Qc l.es) 0 l.es.length] 0],.agg [.int .i64 x.day,.int .i64 x.kind,.int .i64 x.a,.int .i64 x.b,.int .i64 x.c]]++Js 16),[⟨true,0,1,true,[.rsl (Qg l.k.rules) 0 l.k.rules.length,.rsl (rowI l.k.ranks) 0 l.k.ranks.length,.rsl (rowI l.k.insured) 0 l.k.insured.length,.rsl (Qc l.es) 0 l.es.length],false⟩,⟨true,0,1,true,[.int .i64 ride],false⟩,⟨true,0,1,true,[.clos 148 [] [.rptr [.int .i64 n] 0]],false⟩,⟨true,0,1,true,[.int .i64 s],false⟩,⟨true,0,1,true,[.int .i64 x.day,.int .i64 x.kind,.int .i64 x.a,.int .i64 x.b,.int .i64 x.c],false⟩]⟩
abbrev ya (l:Lgb):List AV:=[.rsl (Qg l.k.rules) 0 l.k.rules.length,.rsl (rowI l.k.ranks) 0 l.k.ranks.length,.rsl (rowI l.k.insured) 0 l.k.insured.length,.rsl (Qc l.es) 0 l.es.length]
theorem QcH (l:Lgb) (ride:Int) (n:Int) {E:Env} {rv:AV} (hE:Qf Try.prog 147 rv E) (ho:AllP [Qe Try.prog (.clos 211 [] []) [.agg (ya l)] (.clos 253 [] [.rptr (ya l) 0])])
 (hg:G Try.prog E (XM Try.prog) ⟨([J,J,J,J,.ptr 1 0 0,.ptr 2 0 0,.ptr 3 0 0,J,J,.clos 253 [] [.rptr (ya l) 0]]++Js 17),[⟨true,0,1,true,(ya l),false⟩,⟨true,0,1,true,[.int .i64 ride],false⟩,⟨true,0,1,true,[.clos 148 [] [.rptr [.int .i64 n] 0]],false⟩,⟨true,0,1,true,[.int .i64 0],false⟩]⟩):G Try.prog E [.code (Qd Try.prog 147)] ⟨[.agg (ya l),.int .i64 ride,.clos 148 [] [.rptr [.int .i64 n] 0]]++unds (Try.f147.ntmps - 3),[]⟩ :=
 Ql (n:=400) (ds:=[]) (cs:=[]) (live:=[4,5,6,9]) (m:=4) (evs:=[.v (.clos 253 [] [.rptr (ya l) 0])]) (obs:=_) hE.2.1 (hE.nogh _) Qh (by kernel_rfl) ho hg
theorem f147tW (l:Lgb) (ride:Int) (n:Int) {E:Env} {rv:Int} (hE:Qf Try.prog 147 (.int .i64 rv) E)
 (h:f147tGr0 E l ride n 0):G Try.prog E [.code (Qd Try.prog 147)] ⟨[.agg [.rsl (Qg l.k.rules) 0 l.k.rules.length,.rsl (rowI l.k.ranks) 0 l.k.ranks.length,.rsl (rowI l.k.insured) 0 l.k.insured.length,.rsl (Qc l.es) 0 l.es.length],.int .i64 ride,.clos 148 [] [.rptr [.int .i64 n] 0]]++unds (Try.f147.ntmps - 3),[]⟩:=by
 exact QcH l ride n hE ⟨(u211 (back_ok l)),trivial⟩ h
theorem p147t_r0e_0 (l:Lgb) (ride:Int) (n:Int) (s:Int) {E:Env} {res:AV} (hE:Qf Try.prog 147 res E) (ho:AllP [1≤1])
 (hr:AvLe (.int .i64 (-1)) res):G Try.prog E (XY (XM Try.prog)) (XG l ride n s) :=
 Qb (n:=400) (evs:=[]) (obs:=_) hE Try.func147 Qh (by kernel_rfl) ho hr
theorem f147tWr0e (l:Lgb) (ride:Int) (n:Int) (s:Int) {E:Env} {rv:Int} (hE:Qf Try.prog 147 (.int .i64 rv) E)
 (h:rv=(-1)):G Try.prog E (XY (XM Try.prog)) (XG l ride n s):=by
 exact p147t_r0e_0 l ride n s hE ⟨(by decide),trivial⟩ (AvLe.of_eq (by rw [h]; try rfl))
theorem p147t_r0j_0 (l:Lgb) (ride:Int) (n:Int) (s:Int) {E:Env} {res:AV} (hE:Qf Try.prog 147 res E) (ho:AllP [])
 (hr:AvLe (.int .i64 s) res):G Try.prog E (.code (.ret) :: XY (XM Try.prog)) (XG l ride n s) :=
 Qb (n:=400) (evs:=[]) (obs:=_) hE Try.func147 Qh (by kernel_rfl) ho hr
theorem f147tWr0j (l:Lgb) (ride:Int) (n:Int) (s:Int) {E:Env} {rv:Int} (hE:Qf Try.prog 147 (.int .i64 rv) E)
 (h:rv=s):G Try.prog E (.code (.ret) :: XY (XM Try.prog)) (XG l ride n s):=by
 exact p147t_r0j_0 l ride n s hE trivial (AvLe.of_eq (by rw [h]; try rfl))
theorem f147tAr0 (l:Lgb) (ride:Int) (n:Int) (s:Int) (x:Ent) {E:Env} (hE:RoundE (XG l ride n s).tmps E) (hg:G Try.prog E [.beginRound,.code (QW (XM Try.prog))] (Wx l ride n s x)):G Try.prog E [.code (YT (XM Try.prog)),.beginRound,.code (QW (XM Try.prog))] ⟨Wn (XG l ride n s).tmps [10] (Qdl x),(XG l ride n s).blks⟩ :=
 Ql (n:=400) (ds:=[]) (cs:=[]) (live:=[0,1,2,3,4,5,6,7,8,9,10,11,12,13,14,15,16,17,18,19,20,21,22,23,24,25,26]) (m:=5) (evs:=[]) (obs:=[5≤5]) hE.kind (by rw [hE.gA]; kernel_rfl) Qh (by kernel_rfl) ⟨(by decide),trivial⟩ hg
theorem f147tBr0_0 (l:Lgb) (ride:Int) (n:Int) (s:Int) (x:Ent) {E:Env} (hE:RoundE (XG l ride n s).tmps E) (ho:AllP [Qe Try.prog (.clos 148 [] [.rptr [.int .i64 n] 0]) [.agg [.int .i64 x.day,.int .i64 x.kind,.int .i64 x.a,.int .i64 x.b,.int .i64 x.c]] (.bool (isKd 4 n x)),(isKd 4 n x)=true,1≤1])
 (hg:G Try.prog E (kAt 400 [.code (QW (XM Try.prog))] [.b true]) ⟨(Js 27),[⟨true,0,1,true,[.rsl (Qg l.k.rules) 0 l.k.rules.length,.rsl (rowI l.k.ranks) 0 l.k.ranks.length,.rsl (rowI l.k.insured) 0 l.k.insured.length,.rsl (Qc l.es) 0 l.es.length],false⟩,⟨true,0,1,true,[.int .i64 ride],false⟩,⟨true,0,1,true,[.clos 148 [] [.rptr [.int .i64 n] 0]],false⟩,⟨true,0,1,true,[.int .i64 x.day],false⟩]⟩):G Try.prog E [.code (QW (XM Try.prog))] (Wx l ride n s x) :=
 Ql (n:=400) (ds:=[]) (cs:=[]) (live:=[]) (m:=4) (evs:=[.v (.bool (isKd 4 n x)),.b true]) (obs:=_) hE.kind (by rw [hE.gA]; kernel_rfl) Qh (by kernel_rfl) ho hg
theorem f147tBr0_1 (l:Lgb) (ride:Int) (n:Int) (s:Int) (x:Ent) {E:Env} (hE:RoundE (XG l ride n s).tmps E) (ho:AllP [Qe Try.prog (.clos 148 [] [.rptr [.int .i64 n] 0]) [.agg [.int .i64 x.day,.int .i64 x.kind,.int .i64 x.a,.int .i64 x.b,.int .i64 x.c]] (.bool (isKd 4 n x)),(isKd 4 n x)=false,(x.kind == 6)=true,(x.a == ride)=true,1≤1])
 (hg:G Try.prog E (kAt 400 [.code (QW (XM Try.prog))] [.b false,.b true]) ⟨(Js 27),[⟨true,0,1,true,[.rsl (Qg l.k.rules) 0 l.k.rules.length,.rsl (rowI l.k.ranks) 0 l.k.ranks.length,.rsl (rowI l.k.insured) 0 l.k.insured.length,.rsl (Qc l.es) 0 l.es.length],false⟩,⟨true,0,1,true,[.int .i64 ride],false⟩,⟨true,0,1,true,[.clos 148 [] [.rptr [.int .i64 n] 0]],false⟩,⟨true,0,1,true,[.int .i64 (-1)],false⟩]⟩):G Try.prog E [.code (QW (XM Try.prog))] (Wx l ride n s x) :=
 Ql (n:=400) (ds:=[]) (cs:=[]) (live:=[]) (m:=4) (evs:=[.v (.bool (isKd 4 n x)),.b false,.b true,.b true]) (obs:=_) hE.kind (by rw [hE.gA]; kernel_rfl) Qh (by kernel_rfl) ho hg
theorem f147tBr0_2 (l:Lgb) (ride:Int) (n:Int) (s:Int) (x:Ent) {E:Env} (hE:RoundE (XG l ride n s).tmps E) (ho:AllP [Qe Try.prog (.clos 148 [] [.rptr [.int .i64 n] 0]) [.agg [.int .i64 x.day,.int .i64 x.kind,.int .i64 x.a,.int .i64 x.b,.int .i64 x.c]] (.bool (isKd 4 n x)),(isKd 4 n x)=false,(x.kind == 6)=true,(x.a == ride)=false])
 (hg:G Try.prog E [] ⟨(Js 27),[⟨true,0,1,true,[.rsl (Qg l.k.rules) 0 l.k.rules.length,.rsl (rowI l.k.ranks) 0 l.k.ranks.length,.rsl (rowI l.k.insured) 0 l.k.insured.length,.rsl (Qc l.es) 0 l.es.length],false⟩,⟨true,0,1,true,[.int .i64 ride],false⟩,⟨true,0,1,true,[.clos 148 [] [.rptr [.int .i64 n] 0]],false⟩,⟨true,0,1,true,[.int .i64 s],false⟩]⟩):G Try.prog E [.code (QW (XM Try.prog))] (Wx l ride n s x) :=
 Ql (n:=400) (ds:=[]) (cs:=[]) (live:=[]) (m:=4) (evs:=[.v (.bool (isKd 4 n x)),.b false,.b true,.b false]) (obs:=_) hE.kind (by rw [hE.gA]; kernel_rfl) Qh (by kernel_rfl) ho hg
theorem f147tBr0_3 (l:Lgb) (ride:Int) (n:Int) (s:Int) (x:Ent) {E:Env} (hE:RoundE (XG l ride n s).tmps E) (ho:AllP [Qe Try.prog (.clos 148 [] [.rptr [.int .i64 n] 0]) [.agg [.int .i64 x.day,.int .i64 x.kind,.int .i64 x.a,.int .i64 x.b,.int .i64 x.c]] (.bool (isKd 4 n x)),(isKd 4 n x)=false,(x.kind == 6)=false,false=false])
 (hg:G Try.prog E [] ⟨(Js 27),[⟨true,0,1,true,[.rsl (Qg l.k.rules) 0 l.k.rules.length,.rsl (rowI l.k.ranks) 0 l.k.ranks.length,.rsl (rowI l.k.insured) 0 l.k.insured.length,.rsl (Qc l.es) 0 l.es.length],false⟩,⟨true,0,1,true,[.int .i64 ride],false⟩,⟨true,0,1,true,[.clos 148 [] [.rptr [.int .i64 n] 0]],false⟩,⟨true,0,1,true,[.int .i64 s],false⟩]⟩):G Try.prog E [.code (QW (XM Try.prog))] (Wx l ride n s x) :=
 Ql (n:=400) (ds:=[]) (cs:=[]) (live:=[]) (m:=4) (evs:=[.v (.bool (isKd 4 n x)),.b false,.b false,.b false]) (obs:=_) hE.kind (by rw [hE.gA]; kernel_rfl) Qh (by kernel_rfl) ho hg
theorem f147tBr0 (l:Lgb) (ride:Int) (n:Int) (s:Int) (x:Ent) {rq:(Int) × Bool} {E:Env} (hE:RoundE (XG l ride n s).tmps E) (hQ:qY (fun s=>(XG l ride n s).blks) (.ret) rq E)
 (h:(((isKd 4 n x)=true→rq=(x.day,false))∧((isKd 4 n x)=false→((x.kind=6→((x.a=ride→rq=((-1),false))∧(¬ (x.a=ride)→rq=(s,true))))∧(¬ (x.kind=6)→rq=(s,true)))))):G Try.prog E [.code (QW (XM Try.prog))] (Wx l ride n s x):=by
 rcases bft (isKd 4 n x) with hc0 | hc0
 · have h:=h.1 hc0
   exact f147tBr0_0 l ride n s x hE ⟨(u148 (kd4_ok x n)),hc0,(by decide),trivial⟩ (VW hQ h (by kernel_rfl) rfl)
 · have h:=h.2 hc0
   rcases bft (x.kind == 6) with hc1 | hc1
   · have h:=h.1 (eq_of_beq hc1)
     rcases bft (x.a == ride) with hc2 | hc2
     · have h:=h.1 (eq_of_beq hc2)
       exact f147tBr0_1 l ride n s x hE ⟨(u148 (kd4_ok x n)),hc0,hc1,hc2,(by decide),trivial⟩ (VW hQ h (by kernel_rfl) rfl)
     · have h:=h.2 (ne_of_beq_false hc2)
       exact f147tBr0_2 l ride n s x hE ⟨(u148 (kd4_ok x n)),hc0,hc1,hc2,trivial⟩ (VF hQ h rfl)
   · have h:=h.2 (ne_of_beq_false hc1)
     exact f147tBr0_3 l ride n s x hE ⟨(u148 (kd4_ok x n)),hc0,hc1,rfl,trivial⟩ (VF hQ h rfl)
theorem f147tRr0 (l:Lgb) (ride:Int) (n:Int) (s0:Int) {E:Env} {rv:Int} (hE:Qf Try.prog 147 (.int .i64 rv) E) (step:(Int)→(Ent)→(Int) × Bool)
 (h:l.es.length≤1000∧(∀ (i:Nat) (x:Ent) (s:Int),l.es.reverse[i]?=some x→QG step s0 (l.es.reverse.take i)=(s,true)→(((isKd 4 n x)=true→step s x=(x.day,false))∧((isKd 4 n x)=false→((x.kind=6→((x.a=ride→step s x=((-1),false))∧(¬ (x.a=ride)→step s x=(s,true))))∧(¬ (x.kind=6)→step s x=(s,true))))))∧(∀ s:Int,QG step s0 l.es.reverse=(s,true)→rv=(-1))∧(∀ s:Int,QG step s0 l.es.reverse=(s,false)→rv=s)):f147tGr0 E l ride n s0:=by
 have hgA:E.gA=[]:=hE.2.2.2.2.1
 have hT:(XG l ride n s0).tmps++E.gA=(XG l ride n s0).tmps:=by rw [hgA,List.append_nil]
 refine yi (σ:=Int) (X:=Ent) (arg:=Qdl) (L:=l.es.reverse) (jump:=.ret) (g:=.tmp 9) (ps:=#[10]) (fun s=>(XG l ride n s).blks) (fun s x=>(Wx l ride n s x)) step s0 hE.1 hE.2.1 (by kernel_rfl) rfl rfl (back_it l h.1) rfl (fun x=>rfl) (fun s x E' hR hg=>?_) (fun i x s hx hs E' hR hQ=>?_) (fun s hs=>?_) (fun s hs=>?_)
 · rw [hT] at hR; exact f147tAr0 l ride n s x hR hg
 · rw [hT] at hR; exact f147tBr0 l ride n s x hR hQ (h.2.1 i x s hx hs)
 · exact f147tWr0e l ride n s hE (h.2.2.1 s hs)
 · exact f147tWr0j l ride n s hE (h.2.2.2 s hs)
theorem lastu_ok (l:Lgb) (ride n:Int) (h:l.es.length≤1000):Pure Try.prog 147 [.agg [.rsl (Qg l.k.rules) 0 l.k.rules.length,.rsl (rowI l.k.ranks) 0 l.k.ranks.length,.rsl (rowI l.k.insured) 0 l.k.insured.length,.rsl (Qc l.es) 0 l.es.length],.int .i64 ride,.clos 252 [] [.rptr [.int .i64 n] 0]] (.int .i64 (QL (isKd 1 n) ride l.es)):=Qv Try.func147 f147ub fun E hE=>by
 refine f147uW l ride n (rv:=QL (isKd 1 n) ride l.es) hE (f147uRr0 l ride n 0 (rv:=QL (isKd 1 n) ride l.es) hE (Kc (isKd 1 n) ride) ⟨h,fun i x s _ _=>⟨fun q=>?_,fun q=>⟨fun q2=>⟨fun q3=>?_,fun q3=>?_⟩,fun q2=>?_⟩⟩,fun s hs=>?_,fun s hs=>?_⟩)
 · unfold Kc; rw [if_pos q]
 · unfold Kc; rw [if_neg (by rw [q]; exact Bool.false_ne_true),if_pos ⟨q2,q3⟩]
 · unfold Kc; rw [if_neg (by rw [q]; exact Bool.false_ne_true),if_neg (fun hh=>q3 hh.2)]
 · unfold Kc; rw [if_neg (by rw [q]; exact Bool.false_ne_true),if_neg (fun hh=>q2 hh.1)]
 · exact Wa _ _ _ _ hs
 · exact Wa _ _ _ _ hs
theorem XK (l:Lgb) (ride n:Int) (h:l.es.length≤1000):Pure Try.prog 147 [.agg [.rsl (Qg l.k.rules) 0 l.k.rules.length,.rsl (rowI l.k.ranks) 0 l.k.ranks.length,.rsl (rowI l.k.insured) 0 l.k.insured.length,.rsl (Qc l.es) 0 l.es.length],.int .i64 ride,.clos 148 [] [.rptr [.int .i64 n] 0]] (.int .i64 (QL (isKd 4 n) ride l.es)):=Qv Try.func147 Vh fun E hE=>by
 refine f147tW l ride n (rv:=QL (isKd 4 n) ride l.es) hE (f147tRr0 l ride n 0 (rv:=QL (isKd 4 n) ride l.es) hE (Kc (isKd 4 n) ride) ⟨h,fun i x s _ _=>⟨fun q=>?_,fun q=>⟨fun q2=>⟨fun q3=>?_,fun q3=>?_⟩,fun q2=>?_⟩⟩,fun s hs=>?_,fun s hs=>?_⟩)
 · unfold Kc; rw [if_pos q]
 · unfold Kc; rw [if_neg (by rw [q]; exact Bool.false_ne_true),if_pos ⟨q2,q3⟩]
 · unfold Kc; rw [if_neg (by rw [q]; exact Bool.false_ne_true),if_neg (fun hh=>q3 hh.2)]
 · unfold Kc; rw [if_neg (by rw [q]; exact Bool.false_ne_true),if_neg (fun hh=>q2 hh.1)]
 · exact Wa _ _ _ _ hs
 · exact Wa _ _ _ _ hs
theorem f209b:Try.f209.body=some (Qd Try.prog 209):=by kernel_rfl
theorem u209 {a c k:List AV} {r:AV} (h:Pure Try.prog 209 (a++c++k) r):Qe Try.prog (.clos 209 a k) c r:=Qj Try.func209 (by kernel_rfl) f209b h
abbrev z209_1 (l:Lgb):List AV:=[.rsl (Qg l.k.rules) 0 l.k.rules.length,.rsl (rowI l.k.ranks) 0 l.k.ranks.length,.rsl (rowI l.k.insured) 0 l.k.insured.length,.rsl (Qc l.es) 0 l.es.length]
theorem p209_start_0 (l:Lgb) (r:Int) (re:Rul) {E:Env} {res:AV} (hE:Qf Try.prog 209 res E) (ho:AllP [0≤r∧r<(l.k.rules.length:Int),((Qg l.k.rules).drop ((0+(Int.toNat r)*4)+0)).take 1=[.int .i64 re.ride],Qe Try.prog (.clos 147 [] []) [.agg (z209_1 l),.int .i64 re.ride,.clos 252 [] [.rptr [.int .i64 r] 0]] (.int .i64 (QL (isKd 1 r) re.ride l.es)),(decide ((QL (isKd 1 r) re.ride l.es)<0))=true])
 (hr:AvLe (.int .i64 (-1)) res):G Try.prog E [.code (Qd Try.prog 209)] ⟨[.agg (z209_1 l),.int .i64 r]++unds (Try.f209.ntmps - 2),[]⟩ :=
 Qb (n:=400) (evs:=[.auto,.auto,.auto,.ld (.int .i64 re.ride),.v (.int .i64 (QL (isKd 1 r) re.ride l.es)),.b true]) (obs:=_) hE Try.func209 Qh (by kernel_rfl) ho hr
theorem p209_start_1 (l:Lgb) (r:Int) (re:Rul) {E:Env} {res:AV} (hE:Qf Try.prog 209 res E) (ho:AllP [0≤r∧r<(l.k.rules.length:Int),((Qg l.k.rules).drop ((0+(Int.toNat r)*4)+0)).take 1=[.int .i64 re.ride],Qe Try.prog (.clos 147 [] []) [.agg (z209_1 l),.int .i64 re.ride,.clos 252 [] [.rptr [.int .i64 r] 0]] (.int .i64 (QL (isKd 1 r) re.ride l.es)),(decide ((QL (isKd 1 r) re.ride l.es)<0))=false,0≤r∧r<(l.k.rules.length:Int),((Qg l.k.rules).drop ((0+(Int.toNat r)*4)+1)).take 1=[.int .i64 re.every],InR .i64 ((QL (isKd 1 r) re.ride l.es)+re.every),InR .i64 (((QL (isKd 1 r) re.ride l.es)+re.every) - 1)])
 (hr:AvLe (.int .i64 (((QL (isKd 1 r) re.ride l.es)+re.every) - 1)) res):G Try.prog E [.code (Qd Try.prog 209)] ⟨[.agg (z209_1 l),.int .i64 r]++unds (Try.f209.ntmps - 2),[]⟩ :=
 Qb (n:=400) (evs:=[.auto,.auto,.auto,.ld (.int .i64 re.ride),.v (.int .i64 (QL (isKd 1 r) re.ride l.es)),.b false,.auto,.auto,.ld (.int .i64 re.every)]) (obs:=_) hE Try.func209 Qh (by kernel_rfl) ho hr
theorem f209W (l:Lgb) (r:Int) {E:Env} {rv:Int} (hE:Qf Try.prog 209 (.int .i64 rv) E)
 (h:(0≤r∧(∃ re:Rul,l.k.rules[Int.toNat r]?=some re∧((l.es.length≤1000)∧(((QL (isKd 1 r) re.ride l.es)<0→rv=(-1))∧(¬ ((QL (isKd 1 r) re.ride l.es)<0)→((I6 ((QL (isKd 1 r) re.ride l.es)+re.every))∧((I6 (((QL (isKd 1 r) re.ride l.es)+re.every) - 1))∧rv=(((QL (isKd 1 r) re.ride l.es)+re.every) - 1))))))))):G Try.prog E [.code (Qd Try.prog 209)] ⟨[.agg [.rsl (Qg l.k.rules) 0 l.k.rules.length,.rsl (rowI l.k.ranks) 0 l.k.ranks.length,.rsl (rowI l.k.insured) 0 l.k.insured.length,.rsl (Qc l.es) 0 l.es.length],.int .i64 r]++unds (Try.f209.ntmps - 2),[]⟩:=by
 obtain ⟨h2,h⟩:=h
 obtain ⟨re,h1,h⟩:=h
 obtain ⟨h3,h⟩:=h
 rcases bft (decide ((QL (isKd 1 r) re.ride l.es)<0)) with hc0 | hc0
 · have h:=h.1 (odt hc0)
   exact p209_start_0 l r re hE ⟨(Qx h2 h1),(rp cRul 4 0 1 h1),(Qj Try.func147 (by kernel_rfl) f147ub (lastu_ok l re.ride r h3)),hc0,trivial⟩ (AvLe.of_eq (by rw [h]; try rfl))
 · have h:=h.2 (odf hc0)
   obtain ⟨q7_1,h⟩:=h
   obtain ⟨q8_1,h⟩:=h
   exact p209_start_1 l r re hE ⟨(Qx h2 h1),(rp cRul 4 0 1 h1),(Qj Try.func147 (by kernel_rfl) f147ub (lastu_ok l re.ride r h3)),hc0,(Qx h2 h1),(rp cRul 4 1 1 h1),q7_1,q8_1,trivial⟩ (AvLe.of_eq (by rw [h]; try rfl))
theorem f210b:Try.f210.body=some (Qd Try.prog 210):=by kernel_rfl
theorem u210 {a c k:List AV} {r:AV} (h:Pure Try.prog 210 (a++c++k) r):Qe Try.prog (.clos 210 a k) c r:=Qj Try.func210 (by kernel_rfl) f210b h
def qT (P:Program):List Item:=kAt 400 [.code (Qd P 210)] [.stop]
def f210S0 (l:Lgb) (v1:List Int) (i:Nat) (g1:Nat):St:=⟨([J,.ptr 0 0 0,.sl 1 g1 0 v1.length 1,J,J,J,.rsl (Qc l.es) 0 l.es.length,.int .i64 (l.es.length:Int),.int .i64 (i:Int)]++Js 19),[⟨true,0,1,true,[.rsl (Qg l.k.rules) 0 l.k.rules.length,.rsl (rowI l.k.ranks) 0 l.k.ranks.length,.rsl (rowI l.k.insured) 0 l.k.insured.length,.rsl (Qc l.es) 0 l.es.length],false⟩,⟨true,g1,1,true,(rowI v1),true⟩]⟩
def Qbu (E:Env) (l:Lgb) (v1:List Int) (i:Nat):Prop:=∀ g1:Nat,G Try.prog E (qT Try.prog) (f210S0 l v1 i g1)
abbrev z210_1 (l:Lgb):List AV:=[.rsl (Qg l.k.rules) 0 l.k.rules.length,.rsl (rowI l.k.ranks) 0 l.k.ranks.length,.rsl (rowI l.k.insured) 0 l.k.insured.length,.rsl (Qc l.es) 0 l.es.length]
abbrev z210_2 (ee:Ent):List AV:=[.int .i64 ee.day,.int .i64 ee.kind,.int .i64 ee.a,.int .i64 ee.b,.int .i64 ee.c]
theorem p210_start_0 (l:Lgb) {E:Env} {rv:AV} (hE:Qf Try.prog 210 rv E) (ho:AllP [])
 (hg:G Try.prog E (qT Try.prog) ⟨([J,.ptr 0 0 0,.sl 1 0 0 0 1,J,J,J,.rsl (Qc l.es) 0 l.es.length,.int .i64 (l.es.length:Int),.int .i64 0]++Js 19),[⟨true,0,1,true,(z210_1 l),false⟩,⟨true,0,1,true,[],true⟩]⟩):G Try.prog E [.code (Qd Try.prog 210)] ⟨[.agg (z210_1 l)]++unds (Try.f210.ntmps - 1),[]⟩ :=
 Ql (n:=400) (ds:=[(2,1)]) (cs:=[]) (live:=[1,2,6,7,8]) (m:=2) (evs:=[.stop]) (obs:=_) hE.2.1 (hE.nogh _) Qh (by kernel_rfl) ho hg
theorem f210W (l:Lgb) {E:Env} {rv:(List Int)} (hE:Qf Try.prog 210 (.rsl (rowI rv) 0 rv.length) E)
 (h:Qbu E l ([]) 0):G Try.prog E [.code (Qd Try.prog 210)] ⟨[.agg [.rsl (Qg l.k.rules) 0 l.k.rules.length,.rsl (rowI l.k.ranks) 0 l.k.ranks.length,.rsl (rowI l.k.insured) 0 l.k.insured.length,.rsl (Qc l.es) 0 l.es.length]]++unds (Try.f210.ntmps - 1),[]⟩:=by
 exact p210_start_0 l hE trivial (h 0)
theorem p210_0_0 (l:Lgb) (v1:List Int) (i:Nat) (g1:Nat) (ee:Ent) {E:Env} {rv:AV} (hE:Qf Try.prog 210 rv E) (ho:AllP [(decide ((i:Int)<(l.es.length:Int)))=true,0≤(i:Int)∧(i:Int)<(l.es.length:Int),((Qc l.es).drop (0+(Int.toNat (i:Int))*5)).take 5=[.int .i64 ee.day,.int .i64 ee.kind,.int .i64 ee.a,.int .i64 ee.b,.int .i64 ee.c],5≤5,(ee.kind == 2)=true,Qe Try.prog (.clos 250 [] []) [.agg [.rsl (Qg l.k.rules) 0 l.k.rules.length,.rsl (rowI l.k.ranks) 0 l.k.ranks.length,.rsl (rowI l.k.insured) 0 l.k.insured.length,.rsl (Qc l.es) 0 l.es.length],.int .i64 (i:Int)] (.bool (Xt l.es (i:Int))),(!(Xt l.es (i:Int)))=true,g1=g1,(0+(v1.length*1))=(rowI v1).length,(v1.length+1)≤2147483648,0=0,InR .i64 ((i:Int)+1)])
 (hg:G Try.prog E (qT Try.prog) ⟨([J,.ptr 0 0 0,.sl 1 (g1+1) 0 (v1.length+1) 1,J,J,J,.rsl (Qc l.es) 0 l.es.length,.int .i64 (l.es.length:Int),.int .i64 ((i:Int)+1)]++Js 19),[⟨true,0,1,true,[.rsl (Qg l.k.rules) 0 l.k.rules.length,.rsl (rowI l.k.ranks) 0 l.k.ranks.length,.rsl (rowI l.k.insured) 0 l.k.insured.length,.rsl (Qc l.es) 0 l.es.length],false⟩,⟨true,(g1+1),1,true,((rowI v1)++[.int .i64 (i:Int)]),true⟩]⟩):G Try.prog E (qT Try.prog) (f210S0 l v1 i g1) :=
 Ql (n:=400) (ds:=[]) (cs:=[]) (live:=[1,2,6,7,8]) (m:=2) (evs:=[.b true,.ld (.agg [.int .i64 ee.day,.int .i64 ee.kind,.int .i64 ee.a,.int .i64 ee.b,.int .i64 ee.c]),.b true,.v (.bool (Xt l.es (i:Int))),.b true,.stop]) (obs:=_) hE.2.1 (hE.nogh _) Qh (by kernel_rfl) ho hg
theorem p210_0_1 (l:Lgb) (v1:List Int) (i:Nat) (g1:Nat) (ee:Ent) {E:Env} {rv:AV} (hE:Qf Try.prog 210 rv E) (ho:AllP [(decide ((i:Int)<(l.es.length:Int)))=true,0≤(i:Int)∧(i:Int)<(l.es.length:Int),((Qc l.es).drop (0+(Int.toNat (i:Int))*5)).take 5=(z210_2 ee),5≤5,(ee.kind == 2)=true,Qe Try.prog (.clos 250 [] []) [.agg (z210_1 l),.int .i64 (i:Int)] (.bool (Xt l.es (i:Int))),(!(Xt l.es (i:Int)))=false,InR .i64 ((i:Int)+1)])
 (hg:G Try.prog E (qT Try.prog) ⟨([J,.ptr 0 0 0,.sl 1 g1 0 v1.length 1,J,J,J,.rsl (Qc l.es) 0 l.es.length,.int .i64 (l.es.length:Int),.int .i64 ((i:Int)+1)]++Js 19),[⟨true,0,1,true,(z210_1 l),false⟩,⟨true,g1,1,true,(rowI v1),true⟩]⟩):G Try.prog E (qT Try.prog) (f210S0 l v1 i g1) :=
 Ql (n:=400) (ds:=[]) (cs:=[]) (live:=[1,2,6,7,8]) (m:=2) (evs:=[.b true,.ld (.agg (z210_2 ee)),.b true,.v (.bool (Xt l.es (i:Int))),.b false,.stop]) (obs:=_) hE.2.1 (hE.nogh _) Qh (by kernel_rfl) ho hg
theorem p210_0_2 (l:Lgb) (v1:List Int) (i:Nat) (g1:Nat) (ee:Ent) {E:Env} {rv:AV} (hE:Qf Try.prog 210 rv E) (ho:AllP [(decide ((i:Int)<(l.es.length:Int)))=true,0≤(i:Int)∧(i:Int)<(l.es.length:Int),((Qc l.es).drop (0+(Int.toNat (i:Int))*5)).take 5=(z210_2 ee),5≤5,(ee.kind == 2)=false,false=false,InR .i64 ((i:Int)+1)])
 (hg:G Try.prog E (qT Try.prog) ⟨([J,.ptr 0 0 0,.sl 1 g1 0 v1.length 1,J,J,J,.rsl (Qc l.es) 0 l.es.length,.int .i64 (l.es.length:Int),.int .i64 ((i:Int)+1)]++Js 19),[⟨true,0,1,true,(z210_1 l),false⟩,⟨true,g1,1,true,(rowI v1),true⟩]⟩):G Try.prog E (qT Try.prog) (f210S0 l v1 i g1) :=
 Ql (n:=400) (ds:=[]) (cs:=[]) (live:=[1,2,6,7,8]) (m:=2) (evs:=[.b true,.ld (.agg (z210_2 ee)),.b false,.b false,.stop]) (obs:=_) hE.2.1 (hE.nogh _) Qh (by kernel_rfl) ho hg
theorem p210_0_3 (l:Lgb) (v1:List Int) (i:Nat) (g1:Nat) {E:Env} {res:AV} (hE:Qf Try.prog 210 res E) (ho:AllP [(decide ((i:Int)<(l.es.length:Int)))=false,g1=g1])
 (hr:AvLe (.rsl (rowI v1) 0 v1.length) res):G Try.prog E (qT Try.prog) (f210S0 l v1 i g1) :=
 Qb (n:=400) (evs:=[.b false]) (obs:=_) hE Try.func210 Qh (by kernel_rfl) ho hr
theorem f210W0 (l:Lgb) (v1:List Int) (i:Nat) {E:Env} {rv:(List Int)} (hE:Qf Try.prog 210 (.rsl (rowI rv) 0 rv.length) E)
 (h:(((i:Int)<(l.es.length:Int)→(∃ ee:Ent,l.es[i]?=some ee∧((ee.kind=2→((l.es.length≤1000)∧(((Xt l.es (i:Int))=false→((v1.length+1)≤2147483648∧((I6 ((i:Int)+1))∧Qbu E l (v1++[(i:Int)]) (i+1))))∧((Xt l.es (i:Int))=true→((I6 ((i:Int)+1))∧Qbu E l v1 (i+1))))))∧(¬ (ee.kind=2)→((I6 ((i:Int)+1))∧Qbu E l v1 (i+1))))))∧(¬ ((i:Int)<(l.es.length:Int))→rv=v1))):Qbu E l v1 i:=by
 intro g1
 rcases bft (decide ((i:Int)<(l.es.length:Int))) with hc0 | hc0
 · have h:=h.1 (odt hc0)
   obtain ⟨ee,h1,h⟩:=h
   rcases bft (ee.kind == 2) with hc1 | hc1
   · have h:=h.1 (eq_of_beq hc1)
     obtain ⟨h2,h⟩:=h
     rcases bft (!(Xt l.es (i:Int))) with hc2 | hc2
     · have h:=h.1 (bnT hc2)
       obtain ⟨h3,h⟩:=h
       obtain ⟨q12_3,h⟩:=h
       refine p210_0_0 l v1 i g1 ee hE ⟨hc0,(QE h1),(rp cEnt 5 0 5 h1),(by decide),hc1,(u250 (Vd l (i:Int) h2)),hc2,rfl,(by have hx:=QQ cI (s:=1) (fun _=>rfl) v1; simp only [rowI] at hx ⊢; rw [hx]; simp),h3,rfl,q12_3,trivial⟩ ?_
       rw [(show rowI v1++[.int .i64 (i:Int)]=rowI (v1++[(i:Int)]) from (QK cI v1 [(i:Int)]).symm)]; rw [(show (v1.length+1)=(v1++[(i:Int)]).length from by simp)]; exact (h (g1+1))
     · have h:=h.2 (bnF hc2)
       obtain ⟨q8_3,h⟩:=h
       exact p210_0_1 l v1 i g1 ee hE ⟨hc0,(QE h1),(rp cEnt 5 0 5 h1),(by decide),hc1,(u250 (Vd l (i:Int) h2)),hc2,q8_3,trivial⟩ (h g1)
   · have h:=h.2 (ne_of_beq_false hc1)
     obtain ⟨q7_2,h⟩:=h
     exact p210_0_2 l v1 i g1 ee hE ⟨hc0,(QE h1),(rp cEnt 5 0 5 h1),(by decide),hc1,rfl,q7_2,trivial⟩ (h g1)
 · have h:=h.2 (odf hc0)
   exact p210_0_3 l v1 i g1 hE ⟨hc0,rfl,trivial⟩ (AvLe.of_eq (by rw [h]; try rfl))
structure LogFine (l:Lgb):Prop where
 small:LogSmall l
 days:∀ x ∈ l.es,0≤x.day∧x.day≤10000
 every:∀ r ∈ l.k.rules,1≤r.every∧r.every≤10000
 sev:∀ x ∈ l.es,x.kind=2→1≤x.b∧x.b≤3
theorem lastK_bd {P:Ent→Bool} {ride:Int}:∀ {L:List Ent},(∀ x ∈ L,0≤x.day∧x.day≤10000)→-1≤qD P ride L∧qD P ride L≤10000
 | [],_=>by simp [qD]
 | x :: L,h=>by
  have h1:=h x List.mem_cons_self
  have h2:=lastK_bd (P:=P) (ride:=ride) (L:=L) fun y hy=>h y (List.mem_cons_of_mem _ hy)
  unfold qD
  split
  · omega
  · split
    · omega
    · exact h2
theorem lastE_bd {P:Ent→Bool} {ride:Int} {l:Lgb} (h:LogFine l):-1≤QL P ride l.es∧QL P ride l.es≤10000 :=
 lastK_bd fun x hx=>h.days x (List.mem_reverse.1 hx)
theorem until_ok (l:Lgb) (r:Int) (h:LogFine l∧0≤r∧r<(l.k.rules.length:Int)):Pure Try.prog 209 [.agg [.rsl (Qg l.k.rules) 0 l.k.rules.length,.rsl (rowI l.k.ranks) 0 l.k.ranks.length,.rsl (rowI l.k.insured) 0 l.k.insured.length,.rsl (Qc l.es) 0 l.es.length],.int .i64 r] (.int .i64 (VE l r)):=Qv Try.func209 f209b fun E hE=>by
 obtain ⟨hf,h1,h2⟩:=h
 have g2:l.k.rules[Int.toNat r]?=some (Ke l.k r):=Xx r0 ⟨h1,h2⟩
 have hb:=lastE_bd (P:=isKd 1 r) (ride:=(Ke l.k r).ride) hf
 have he:=hf.every _ (List.mem_of_getElem? g2)
 refine f209W l r (rv:=VE l r) hE ⟨h1,_,g2,hf.small.es,fun q=>?_,fun q=>⟨⟨by omega,by omega⟩,⟨by omega,by omega⟩,?_⟩⟩
 · unfold VE; rw [if_pos q]
 · unfold VE; rw [if_neg q]
theorem open_ok (l:Lgb) (h:l.es.length≤1000):Pure Try.prog 210 [.agg [.rsl (Qg l.k.rules) 0 l.k.rules.length,.rsl (rowI l.k.ranks) 0 l.k.ranks.length,.rsl (rowI l.k.insured) 0 l.k.insured.length,.rsl (Qc l.es) 0 l.es.length]] (.rsl (rowI (XD l.es)) 0 (XD l.es).length):=Qv Try.func210 f210b fun E hE=>by
 have key:∀ (d i:Nat) (v:List Int),i+d=l.es.length→v.length≤i→v++Yf l.es d i=XD l.es→Qbu E l v i:=by
  intro d
  induction d with
  | zero =>
   intro i v hi hv hr
   simp only [Yf,List.append_nil] at hr
   exact f210W0 l v i (rv:=XD l.es) hE ⟨fun h=>by omega,fun _=>hr.symm⟩
  | succ d ih =>
   intro i v hi hv hr
   have hx:l.es[i]?=some (Xh l.es (i:Int)):=by
    have:=Xx (l:=l.es) e0 (i:=(i:Int)) (by omega)
    rw [Int.toNat_natCast] at this
    rw [Xh,Int.toNat_natCast]; exact this
   simp only [Yf] at hr
   refine f210W0 l v i (rv:=XD l.es) hE ⟨fun _=>⟨_,hx,fun q1=>⟨h,fun q2=>⟨by omega,⟨by omega,by omega⟩,?_⟩,fun q2=>⟨⟨by omega,by omega⟩,?_⟩⟩,fun q1=>⟨⟨by omega,by omega⟩,?_⟩⟩,fun h=>by omega⟩
   · rw [if_pos ⟨q1,q2⟩] at hr
     exact ih (i+1) _ (by omega) (by simp; omega) (by rw [List.append_assoc]; exact hr)
   · rw [if_neg (fun hh=>by rw [q2] at hh; cases hh.2)] at hr
     exact ih (i+1) v (by omega) (by omega) hr
   · rw [if_neg (fun hh=>q1 hh.1)] at hr
     exact ih (i+1) v (by omega) (by omega) hr
 exact f210W l (rv:=XD l.es) hE (key l.es.length 0 [] (by omega) (by simp) rfl)
theorem ym {es:List Ent}:∀ (d i:Nat),i+d=es.length→∀ x ∈ Yf es d i,0≤x∧x<(es.length:Int)∧(Xh es x).kind=2
 | 0,i,_,x,hx=>by simp [Yf] at hx
 | d+1,i,h,x,hx=>by
  unfold Yf at hx
  split at hx
  · rename_i c
    rcases List.mem_cons.1 hx with rfl | hx
    · exact ⟨by omega,by omega,c.1⟩
    · exact ym d (i+1) (by omega) x hx
  · exact ym d (i+1) (by omega) x hx
theorem Qbd {es:List Ent}:∀ (d i:Nat),(Yf es d i).length≤d
 | 0,i=>by simp [Yf]
 | d+1,i=>by
  unfold Yf
  have:=Qbd (es:=es) d (i+1)
  split
  · simp; omega
  · omega
theorem f145b:Try.f145.body=some (Qd Try.prog 145):=by kernel_rfl
theorem u145 {a c k:List AV} {r:AV} (h:Pure Try.prog 145 (a++c++k) r):Qe Try.prog (.clos 145 a k) c r:=Qj Try.func145 (by kernel_rfl) f145b h
def Qaj (P:Program):List Item:=kAt 400 [.code (Qd P 145)] [.stop]
def f145S0 (l:Lgb) (ride:Int) (day:Int) (i:Nat):St:=⟨([J,.int .i64 ride,.ptr 0 0 0,J,J,.int .i64 day,J,J,J,J,.rsl (Qg l.k.rules) 0 l.k.rules.length,.int .i64 (l.k.rules.length:Int),.int .i64 (i:Int)]++Js 15),[⟨true,0,1,true,[.rsl (Qg l.k.rules) 0 l.k.rules.length,.rsl (rowI l.k.ranks) 0 l.k.ranks.length,.rsl (rowI l.k.insured) 0 l.k.insured.length,.rsl (Qc l.es) 0 l.es.length],false⟩]⟩
def f145G0 (E:Env) (l:Lgb) (ride:Int) (day:Int) (i:Nat):Prop:=G Try.prog E (Qaj Try.prog) (f145S0 l ride day i )
abbrev z145_1 (l:Lgb):List AV:=[.rsl (Qg l.k.rules) 0 l.k.rules.length,.rsl (rowI l.k.ranks) 0 l.k.ranks.length,.rsl (rowI l.k.insured) 0 l.k.insured.length,.rsl (Qc l.es) 0 l.es.length]
abbrev z145_2 (re:Rul):List AV:=[.int .i64 re.ride,.int .i64 re.every,.int .i64 re.rank,.bool re.two]
theorem p145_start_0 (l:Lgb) (ride:Int) {E:Env} {rv:AV} (hE:Qf Try.prog 145 rv E) (ho:AllP [])
 (hg:G Try.prog E (Qaj Try.prog) ⟨([J,.int .i64 ride,.ptr 0 0 0,J,J,.int .i64 10000,J,J,J,J,.rsl (Qg l.k.rules) 0 l.k.rules.length,.int .i64 (l.k.rules.length:Int),.int .i64 0]++Js 15),[⟨true,0,1,true,(z145_1 l),false⟩]⟩):G Try.prog E [.code (Qd Try.prog 145)] ⟨[.agg (z145_1 l),.int .i64 ride]++unds (Try.f145.ntmps - 2),[]⟩ :=
 Ql (n:=400) (ds:=[]) (cs:=[]) (live:=[1,2,5,10,11,12]) (m:=1) (evs:=[.stop]) (obs:=_) hE.2.1 (hE.nogh _) Qh (by kernel_rfl) ho hg
theorem f145W (l:Lgb) (ride:Int) {E:Env} {rv:Int} (hE:Qf Try.prog 145 (.int .i64 rv) E)
 (h:f145G0 E l ride 10000 0):G Try.prog E [.code (Qd Try.prog 145)] ⟨[.agg [.rsl (Qg l.k.rules) 0 l.k.rules.length,.rsl (rowI l.k.ranks) 0 l.k.ranks.length,.rsl (rowI l.k.insured) 0 l.k.insured.length,.rsl (Qc l.es) 0 l.es.length],.int .i64 ride]++unds (Try.f145.ntmps - 2),[]⟩:=by
 exact p145_start_0 l ride hE trivial h
theorem p145_0_0 (l:Lgb) (ride:Int) (day:Int) (i:Nat) (re:Rul) {E:Env} {rv:AV} (hE:Qf Try.prog 145 rv E) (ho:AllP [(decide ((i:Int)<(l.k.rules.length:Int)))=true,0≤(i:Int)∧(i:Int)<(l.k.rules.length:Int),((Qg l.k.rules).drop (0+(Int.toNat (i:Int))*4)).take 4=(z145_2 re),4≤4,(re.ride == ride)=true,Qe Try.prog (.clos 209 [] []) [.agg (z145_1 l),.int .i64 (i:Int)] (.int .i64 (VE l (i:Int))),InR .i64 ((i:Int)+1)])
 (hg:G Try.prog E (Qaj Try.prog) ⟨([J,.int .i64 ride,.ptr 0 0 0,J,J,.int .i64 (iMin day (VE l (i:Int))),J,J,J,J,.rsl (Qg l.k.rules) 0 l.k.rules.length,.int .i64 (l.k.rules.length:Int),.int .i64 ((i:Int)+1)]++Js 15),[⟨true,0,1,true,(z145_1 l),false⟩]⟩):G Try.prog E (Qaj Try.prog) (f145S0 l ride day i ) :=
 Ql (n:=400) (ds:=[]) (cs:=[]) (live:=[1,2,5,10,11,12]) (m:=1) (evs:=[.b true,.ld (.agg (z145_2 re)),.b true,.v (.int .i64 (VE l (i:Int))),.stop]) (obs:=_) hE.2.1 (hE.nogh _) Qh (by kernel_rfl) ho hg
theorem p145_0_1 (l:Lgb) (ride:Int) (day:Int) (i:Nat) (re:Rul) {E:Env} {rv:AV} (hE:Qf Try.prog 145 rv E) (ho:AllP [(decide ((i:Int)<(l.k.rules.length:Int)))=true,0≤(i:Int)∧(i:Int)<(l.k.rules.length:Int),((Qg l.k.rules).drop (0+(Int.toNat (i:Int))*4)).take 4=(z145_2 re),4≤4,(re.ride == ride)=false,InR .i64 ((i:Int)+1)])
 (hg:G Try.prog E (Qaj Try.prog) ⟨([J,.int .i64 ride,.ptr 0 0 0,J,J,.int .i64 day,J,J,J,J,.rsl (Qg l.k.rules) 0 l.k.rules.length,.int .i64 (l.k.rules.length:Int),.int .i64 ((i:Int)+1)]++Js 15),[⟨true,0,1,true,(z145_1 l),false⟩]⟩):G Try.prog E (Qaj Try.prog) (f145S0 l ride day i ) :=
 Ql (n:=400) (ds:=[]) (cs:=[]) (live:=[1,2,5,10,11,12]) (m:=1) (evs:=[.b true,.ld (.agg (z145_2 re)),.b false,.stop]) (obs:=_) hE.2.1 (hE.nogh _) Qh (by kernel_rfl) ho hg
theorem p145_0_2 (l:Lgb) (ride:Int) (day:Int) (i:Nat) {E:Env} {res:AV} (hE:Qf Try.prog 145 res E) (ho:AllP [(decide ((i:Int)<(l.k.rules.length:Int)))=false])
 (hr:AvLe (.int .i64 day) res):G Try.prog E (Qaj Try.prog) (f145S0 l ride day i ) :=
 Qb (n:=400) (evs:=[.b false]) (obs:=_) hE Try.func145 Qh (by kernel_rfl) ho hr
theorem f145W0 (l:Lgb) (ride:Int) (day:Int) (i:Nat) {E:Env} {rv:Int} (hE:Qf Try.prog 145 (.int .i64 rv) E)
 (h:(((i:Int)<(l.k.rules.length:Int)→(∃ re:Rul,l.k.rules[i]?=some re∧((re.ride=ride→((LogFine l∧0≤(i:Int)∧(i:Int)<(l.k.rules.length:Int))∧((I6 ((i:Int)+1))∧f145G0 E l ride (iMin day (VE l (i:Int))) (i+1))))∧(¬ (re.ride=ride)→((I6 ((i:Int)+1))∧f145G0 E l ride day (i+1))))))∧(¬ ((i:Int)<(l.k.rules.length:Int))→rv=day))):f145G0 E l ride day i:=by
 rcases bft (decide ((i:Int)<(l.k.rules.length:Int))) with hc0 | hc0
 · have h:=h.1 (odt hc0)
   obtain ⟨re,h1,h⟩:=h
   rcases bft (re.ride == ride) with hc1 | hc1
   · have h:=h.1 (eq_of_beq hc1)
     obtain ⟨h2,h⟩:=h
     obtain ⟨q7_2,h⟩:=h
     exact p145_0_0 l ride day i re hE ⟨hc0,(QE h1),(rp cRul 4 0 4 h1),(by decide),hc1,(u209 (until_ok l (i:Int) h2)),q7_2,trivial⟩ h
   · have h:=h.2 (ne_of_beq_false hc1)
     obtain ⟨q6_2,h⟩:=h
     exact p145_0_1 l ride day i re hE ⟨hc0,(QE h1),(rp cRul 4 0 4 h1),(by decide),hc1,q6_2,trivial⟩ h
 · have h:=h.2 (odf hc0)
   exact p145_0_2 l ride day i hE ⟨hc0,trivial⟩ (AvLe.of_eq (by rw [h]; try rfl))
theorem f146b:Try.f146.body=some (Qd Try.prog 146):=by kernel_rfl
theorem u146 {a c k:List AV} {r:AV} (h:Pure Try.prog 146 (a++c++k) r):Qe Try.prog (.clos 146 a k) c r:=Qj Try.func146 (by kernel_rfl) f146b h
def yV (P:Program):List Item:=kAt 400 [.code (Qd P 146)] [.stop]
def Qbw (l:Lgb) (ride:Int) (i:Nat) (v1:List Int):St:=⟨([J,.int .i64 ride,.ptr 0 0 0,J,J,.ptr 1 0 0,J,J,J,J,.rsl (rowI (XD l.es)) 0 ((XD l.es).length),.int .i64 (((XD l.es).length:Nat):Int),.int .i64 (i:Int)]++Js 27),[⟨true,0,1,true,[.rsl (Qg l.k.rules) 0 l.k.rules.length,.rsl (rowI l.k.ranks) 0 l.k.ranks.length,.rsl (rowI l.k.insured) 0 l.k.insured.length,.rsl (Qc l.es) 0 l.es.length],false⟩,⟨true,0,1,true,(rowI v1),false⟩]⟩
def Qbx (E:Env) (l:Lgb) (ride:Int) (i:Nat) (v1:List Int):Prop:=G Try.prog E (yV Try.prog) (Qbw l ride i v1 )
abbrev z146_1 (l:Lgb):List AV:=[.rsl (Qg l.k.rules) 0 l.k.rules.length,.rsl (rowI l.k.ranks) 0 l.k.ranks.length,.rsl (rowI l.k.insured) 0 l.k.insured.length,.rsl (Qc l.es) 0 l.es.length]
abbrev z146_2 (ee:Ent):List AV:=[.int .i64 ee.day,.int .i64 ee.kind,.int .i64 ee.a,.int .i64 ee.b,.int .i64 ee.c]
abbrev z146_3 (ride:Int) (l:Lgb) (i:Nat):List AV:=[J,.int .i64 ride,.ptr 0 0 0,J,J,.ptr 1 0 0,J,J,J,J,.rsl (rowI (XD l.es)) 0 ((XD l.es).length),.int .i64 (((XD l.es).length:Nat):Int),.int .i64 ((i:Int)+1)]++Js 27
theorem p146_start_0 (l:Lgb) (ride:Int) {E:Env} {rv:AV} (hE:Qf Try.prog 146 rv E) (ho:AllP [Qe Try.prog (.clos 210 [] []) [.agg (z146_1 l)] (.rsl (rowI (XD l.es)) 0 ((XD l.es).length))])
 (hg:G Try.prog E (yV Try.prog) ⟨([J,.int .i64 ride,.ptr 0 0 0,J,J,.ptr 1 0 0,J,J,J,J,.rsl (rowI (XD l.es)) 0 ((XD l.es).length),.int .i64 (((XD l.es).length:Nat):Int),.int .i64 0]++Js 27),[⟨true,0,1,true,(z146_1 l),false⟩,⟨true,0,1,true,[.int .i64 0,.int .i64 0,.int .i64 0,.int .i64 0],false⟩]⟩):G Try.prog E [.code (Qd Try.prog 146)] ⟨[.agg (z146_1 l),.int .i64 ride]++unds (Try.f146.ntmps - 2),[]⟩ :=
 Ql (n:=400) (ds:=[]) (cs:=[]) (live:=[1,2,5,10,11,12]) (m:=2) (evs:=[.v (.rsl (rowI (XD l.es)) 0 ((XD l.es).length)),.stop]) (obs:=_) hE.2.1 (hE.nogh _) Qh (by kernel_rfl) ho hg
theorem f146W (l:Lgb) (ride:Int) {E:Env} {rv:Bool} (hE:Qf Try.prog 146 (.bool rv) E)
 (h:((l.es.length≤1000)∧Qbx E l ride 0 ([0,0,0,0]))):G Try.prog E [.code (Qd Try.prog 146)] ⟨[.agg [.rsl (Qg l.k.rules) 0 l.k.rules.length,.rsl (rowI l.k.ranks) 0 l.k.ranks.length,.rsl (rowI l.k.insured) 0 l.k.insured.length,.rsl (Qc l.es) 0 l.es.length],.int .i64 ride]++unds (Try.f146.ntmps - 2),[]⟩:=by
 obtain ⟨h1,h⟩:=h
 exact p146_start_0 l ride hE ⟨(u210 (open_ok l h1)),trivial⟩ h
theorem p146_0_0 (l:Lgb) (ride:Int) (i:Nat) (v1:List Int) (e:Int) (ee:Ent) (e1:Int) {E:Env} {rv:AV} (hE:Qf Try.prog 146 rv E) (ho:AllP [(decide ((i:Int)<(((XD l.es).length:Nat):Int)))=true,0≤(i:Int)∧(i:Int)<(((XD l.es).length:Nat):Int),((rowI (XD l.es)).drop (0+(Int.toNat (i:Int))*1)).take 1=[.int .i64 e],0≤e∧e<(l.es.length:Int),((Qc l.es).drop (0+(Int.toNat e)*5)).take 5=(z146_2 ee),5≤5,(ee.a == ride)=true,0≤ee.b∧ee.b<((4:Nat):Int),((rowI v1).drop (0+(Int.toNat ee.b)*1)).take 1=[.int .i64 e1],InR .i64 (e1+1),0≤ee.b∧ee.b<((4:Nat):Int),((0+(Int.toNat ee.b)*1)+1)≤(rowI v1).length,InR .i64 ((i:Int)+1)])
 (hg:G Try.prog E (yV Try.prog) ⟨(z146_3 ride l i),[⟨true,0,1,true,(z146_1 l),false⟩,⟨true,0,1,true,(QT (rowI v1) (0+(Int.toNat ee.b)*1) [.int .i64 (e1+1)]),false⟩]⟩):G Try.prog E (yV Try.prog) (Qbw l ride i v1 ) :=
 Ql (n:=400) (ds:=[]) (cs:=[]) (live:=[1,2,5,10,11,12]) (m:=2) (evs:=[.b true,.ld (.int .i64 e),.auto,.ld (.agg (z146_2 ee)),.b true,.auto,.ld (.int .i64 e1),.stop]) (obs:=_) hE.2.1 (hE.nogh _) Qh (by kernel_rfl) ho hg
theorem p146_0_1 (l:Lgb) (ride:Int) (i:Nat) (v1:List Int) (e:Int) (ee:Ent) {E:Env} {rv:AV} (hE:Qf Try.prog 146 rv E) (ho:AllP [(decide ((i:Int)<(((XD l.es).length:Nat):Int)))=true,0≤(i:Int)∧(i:Int)<(((XD l.es).length:Nat):Int),((rowI (XD l.es)).drop (0+(Int.toNat (i:Int))*1)).take 1=[.int .i64 e],0≤e∧e<(l.es.length:Int),((Qc l.es).drop (0+(Int.toNat e)*5)).take 5=(z146_2 ee),5≤5,(ee.a == ride)=false,InR .i64 ((i:Int)+1)])
 (hg:G Try.prog E (yV Try.prog) ⟨(z146_3 ride l i),[⟨true,0,1,true,(z146_1 l),false⟩,⟨true,0,1,true,(rowI v1),false⟩]⟩):G Try.prog E (yV Try.prog) (Qbw l ride i v1 ) :=
 Ql (n:=400) (ds:=[]) (cs:=[]) (live:=[1,2,5,10,11,12]) (m:=2) (evs:=[.b true,.ld (.int .i64 e),.auto,.ld (.agg (z146_2 ee)),.b false,.stop]) (obs:=_) hE.2.1 (hE.nogh _) Qh (by kernel_rfl) ho hg
theorem p146_0_2 (l:Lgb) (ride:Int) (i:Nat) (v1:List Int) (e:Int) (e1:Int) {E:Env} {res:AV} (hE:Qf Try.prog 146 res E) (ho:AllP [(decide ((i:Int)<(((XD l.es).length:Nat):Int)))=false,(0:Int)≤3∧(3:Int)<((4:Nat):Int),((rowI v1).drop (0+3*1)).take 1=[.int .i64 e],(e == 0)=true,(0:Int)≤2∧(2:Int)<((4:Nat):Int),((rowI v1).drop (0+2*1)).take 1=[.int .i64 e1]])
 (hr:AvLe (.bool (decide (e1≤1))) res):G Try.prog E (yV Try.prog) (Qbw l ride i v1 ) :=
 Qb (n:=400) (evs:=[.b false,.ld (.int .i64 e),.b true,.ld (.int .i64 e1)]) (obs:=_) hE Try.func146 Qh (by kernel_rfl) ho hr
theorem p146_0_3 (l:Lgb) (ride:Int) (i:Nat) (v1:List Int) (e:Int) {E:Env} {res:AV} (hE:Qf Try.prog 146 res E) (ho:AllP [(decide ((i:Int)<(((XD l.es).length:Nat):Int)))=false,(0:Int)≤3∧(3:Int)<((4:Nat):Int),((rowI v1).drop (0+3*1)).take 1=[.int .i64 e],(e == 0)=false])
 (hr:AvLe (.bool false) res):G Try.prog E (yV Try.prog) (Qbw l ride i v1 ) :=
 Qb (n:=400) (evs:=[.b false,.ld (.int .i64 e),.b false]) (obs:=_) hE Try.func146 Qh (by kernel_rfl) ho hr
theorem f146W0 (l:Lgb) (ride:Int) (i:Nat) (v1:List Int) {E:Env} {rv:Bool} (hE:Qf Try.prog 146 (.bool rv) E)
 (h:(((i:Int)<(((XD l.es).length:Nat):Int)→(∃ e:Int,(XD l.es)[i]?=some e∧(0≤e∧(∃ ee:Ent,l.es[Int.toNat e]?=some ee∧((ee.a=ride→(0≤ee.b∧(∃ e1:Int,v1[Int.toNat ee.b]?=some e1∧((0≤ee.b∧ee.b<((4:Nat):Int))∧((I6 (e1+1))∧((0≤ee.b∧ee.b<((4:Nat):Int))∧((I6 ((i:Int)+1))∧Qbx E l ride (i+1) (v1.set (Int.toNat ee.b) (e1+1)))))))))∧(¬ (ee.a=ride)→((I6 ((i:Int)+1))∧Qbx E l ride (i+1) v1)))))))∧(¬ ((i:Int)<(((XD l.es).length:Nat):Int))→(∃ e:Int,v1[3]?=some e∧((e=0→(∃ e1:Int,v1[2]?=some e1∧rv=(decide (e1≤1))))∧(¬ (e=0)→rv=false)))))):Qbx E l ride i v1:=by
 rcases bft (decide ((i:Int)<(((XD l.es).length:Nat):Int))) with hc0 | hc0
 · have h:=h.1 (odt hc0)
   obtain ⟨e,h1,h⟩:=h
   obtain ⟨h3,h⟩:=h
   obtain ⟨ee,h2,h⟩:=h
   rcases bft (ee.a == ride) with hc1 | hc1
   · have h:=h.1 (eq_of_beq hc1)
     obtain ⟨h5,h⟩:=h
     obtain ⟨e1,h4,h⟩:=h
     obtain ⟨q10_2,h⟩:=h
     obtain ⟨q12_2,h⟩:=h
     obtain ⟨q13_2,h⟩:=h
     obtain ⟨q15_2,h⟩:=h
     refine p146_0_0 l ride i v1 e ee e1 hE ⟨hc0,(QE h1),(rp cI 1 0 1 h1),(Qx h3 h2),(rp cEnt 5 0 5 h2),(by decide),hc1,q10_2,(rp cI 1 0 1 h4),q12_2,q13_2,(rf cI 1 0 1 h4),q15_2,trivial⟩ ?_
     have h:=h
     simp only [Qbx,Qbw,List.length_set] at h
     rw [(show QT (rowI v1) (0+(Int.toNat ee.b)*1) [.int .i64 (e1+1)]=rowI (v1.set (Int.toNat ee.b) (e1+1)) from Xs cI (s:=1) (k:=0) (fun _=>rfl) h4 rfl (by first | decide | simp))]
     exact h
   · have h:=h.2 (ne_of_beq_false hc1)
     obtain ⟨q9_2,h⟩:=h
     exact p146_0_1 l ride i v1 e ee hE ⟨hc0,(QE h1),(rp cI 1 0 1 h1),(Qx h3 h2),(rp cEnt 5 0 5 h2),(by decide),hc1,q9_2,trivial⟩ h
 · have h:=h.2 (odf hc0)
   obtain ⟨e,h1,h⟩:=h
   rcases bft (e == 0) with hc1 | hc1
   · have h:=h.1 (eq_of_beq hc1)
     obtain ⟨e1,h2,h⟩:=h
     exact p146_0_2 l ride i v1 e e1 hE ⟨hc0,(⟨by decide,by decide⟩),(rp cI 1 0 1 h1),hc1,(⟨by decide,by decide⟩),(rp cI 1 0 1 h2),trivial⟩ (AvLe.of_eq (by rw [h]; try rfl))
   · have h:=h.2 (ne_of_beq_false hc1)
     exact p146_0_3 l ride i v1 e hE ⟨hc0,(⟨by decide,by decide⟩),(rp cI 1 0 1 h1),hc1,trivial⟩ (AvLe.of_eq (by rw [h]; try rfl))
theorem f149b:Try.f149.body=some (Qd Try.prog 149):=by kernel_rfl
theorem u149 {a c k:List AV} {r:AV} (h:Pure Try.prog 149 (a++c++k) r):Qe Try.prog (.clos 149 a k) c r:=Qj Try.func149 (by kernel_rfl) f149b h
def YC (P:Program):List Item:=kAt 400 [.code (Qd P 149)] []
def Yn (l:Lgb) (ride:Int) (s:Int):St:=⟨([J,J,.ptr 0 0 0,.ptr 1 0 0,.ptr 2 0 0,J,J,.clos 253 [] [.rptr [.rsl (Qg l.k.rules) 0 l.k.rules.length,.rsl (rowI l.k.ranks) 0 l.k.ranks.length,.rsl (rowI l.k.insured) 0 l.k.insured.length,.rsl (Qc l.es) 0 l.es.length] 0]]++Js 18),[⟨true,0,1,true,[.rsl (Qg l.k.rules) 0 l.k.rules.length,.rsl (rowI l.k.ranks) 0 l.k.ranks.length,.rsl (rowI l.k.insured) 0 l.k.insured.length,.rsl (Qc l.es) 0 l.es.length],false⟩,⟨true,0,1,true,[.int .i64 ride],false⟩,⟨true,0,1,true,[.int .i64 s],false⟩]⟩
def f149Gr0 (E:Env) (l:Lgb) (ride:Int) (s:Int):Prop:=G Try.prog E (YC Try.prog) (Yn l ride s)
def yx (l:Lgb) (ride:Int) (s:Int) (x:Ent):St:=⟨([J,J,.ptr 0 0 0,.ptr 1 0 0,.ptr 2 0 0,.ptr 3 0 0,J,.clos 253 [] [.rptr [.rsl (Qg l.k.rules) 0 l.k.rules.length,.rsl (rowI l.k.ranks) 0 l.k.ranks.length,.rsl (rowI l.k.insured) 0 l.k.insured.length,.rsl (Qc l.es) 0 l.es.length] 0],.agg [.int .i64 x.day,.int .i64 x.kind,.int .i64 x.a,.int .i64 x.b,.int .i64 x.c]]++Js 17),[⟨true,0,1,true,[.rsl (Qg l.k.rules) 0 l.k.rules.length,.rsl (rowI l.k.ranks) 0 l.k.ranks.length,.rsl (rowI l.k.insured) 0 l.k.insured.length,.rsl (Qc l.es) 0 l.es.length],false⟩,⟨true,0,1,true,[.int .i64 ride],false⟩,⟨true,0,1,true,[.int .i64 s],false⟩,⟨true,0,1,true,[.int .i64 x.day,.int .i64 x.kind,.int .i64 x.a,.int .i64 x.b,.int .i64 x.c],false⟩]⟩
abbrev QaX (l:Lgb):List AV:=[.rsl (Qg l.k.rules) 0 l.k.rules.length,.rsl (rowI l.k.ranks) 0 l.k.ranks.length,.rsl (rowI l.k.insured) 0 l.k.insured.length,.rsl (Qc l.es) 0 l.es.length]
theorem p149_start_0 (l:Lgb) (ride:Int) {E:Env} {rv:AV} (hE:Qf Try.prog 149 rv E) (ho:AllP [Qe Try.prog (.clos 211 [] []) [.agg (QaX l)] (.clos 253 [] [.rptr (QaX l) 0])])
 (hg:G Try.prog E (YC Try.prog) ⟨([J,J,.ptr 0 0 0,.ptr 1 0 0,.ptr 2 0 0,J,J,.clos 253 [] [.rptr (QaX l) 0]]++Js 18),[⟨true,0,1,true,(QaX l),false⟩,⟨true,0,1,true,[.int .i64 ride],false⟩,⟨true,0,1,true,[.int .i64 0],false⟩]⟩):G Try.prog E [.code (Qd Try.prog 149)] ⟨[.agg (QaX l),.int .i64 ride]++unds (Try.f149.ntmps - 2),[]⟩ :=
 Ql (n:=400) (ds:=[]) (cs:=[]) (live:=[2,3,4,7]) (m:=3) (evs:=[.v (.clos 253 [] [.rptr (QaX l) 0])]) (obs:=_) hE.2.1 (hE.nogh _) Qh (by kernel_rfl) ho hg
theorem f149W (l:Lgb) (ride:Int) {E:Env} {rv:Int} (hE:Qf Try.prog 149 (.int .i64 rv) E)
 (h:f149Gr0 E l ride 0):G Try.prog E [.code (Qd Try.prog 149)] ⟨[.agg [.rsl (Qg l.k.rules) 0 l.k.rules.length,.rsl (rowI l.k.ranks) 0 l.k.ranks.length,.rsl (rowI l.k.insured) 0 l.k.insured.length,.rsl (Qc l.es) 0 l.es.length],.int .i64 ride]++unds (Try.f149.ntmps - 2),[]⟩:=by
 exact p149_start_0 l ride hE ⟨(u211 (back_ok l)),trivial⟩ h
theorem p149_r0e_0 (l:Lgb) (ride:Int) (s:Int) (e:Int) {E:Env} {res:AV} (hE:Qf Try.prog 149 res E) (ho:AllP [0≤ride∧ride<(l.k.insured.length:Int),((rowI l.k.insured).drop (0+(Int.toNat ride)*1)).take 1=[.int .i64 e],1≤1])
 (hr:AvLe (.int .i64 e) res):G Try.prog E (XY (YC Try.prog)) (Yn l ride s) :=
 Qb (n:=400) (evs:=[.auto,.auto,.ld (.int .i64 e)]) (obs:=_) hE Try.func149 Qh (by kernel_rfl) ho hr
theorem f149Wr0e (l:Lgb) (ride:Int) (s:Int) {E:Env} {rv:Int} (hE:Qf Try.prog 149 (.int .i64 rv) E)
 (h:(0≤ride∧(∃ e:Int,l.k.insured[Int.toNat ride]?=some e∧rv=e))):G Try.prog E (XY (YC Try.prog)) (Yn l ride s):=by
 obtain ⟨h2,h⟩:=h
 obtain ⟨e,h1,h⟩:=h
 exact p149_r0e_0 l ride s e hE ⟨(Qx h2 h1),(rp cI 1 0 1 h1),(by decide),trivial⟩ (AvLe.of_eq (by rw [h]; try rfl))
theorem p149_r0j_0 (l:Lgb) (ride:Int) (s:Int) {E:Env} {res:AV} (hE:Qf Try.prog 149 res E) (ho:AllP [])
 (hr:AvLe (.int .i64 s) res):G Try.prog E (.code (.ret) :: XY (YC Try.prog)) (Yn l ride s) :=
 Qb (n:=400) (evs:=[]) (obs:=_) hE Try.func149 Qh (by kernel_rfl) ho hr
theorem f149Wr0j (l:Lgb) (ride:Int) (s:Int) {E:Env} {rv:Int} (hE:Qf Try.prog 149 (.int .i64 rv) E)
 (h:rv=s):G Try.prog E (.code (.ret) :: XY (YC Try.prog)) (Yn l ride s):=by
 exact p149_r0j_0 l ride s hE trivial (AvLe.of_eq (by rw [h]; try rfl))
theorem f149Ar0 (l:Lgb) (ride:Int) (s:Int) (x:Ent) {E:Env} (hE:RoundE (Yn l ride s).tmps E) (hg:G Try.prog E [.beginRound,.code (QW (YC Try.prog))] (yx l ride s x)):G Try.prog E [.code (YT (YC Try.prog)),.beginRound,.code (QW (YC Try.prog))] ⟨Wn (Yn l ride s).tmps [8] (Qdl x),(Yn l ride s).blks⟩ :=
 Ql (n:=400) (ds:=[]) (cs:=[]) (live:=[0,1,2,3,4,5,6,7,8,9,10,11,12,13,14,15,16,17,18,19,20,21,22,23,24,25]) (m:=4) (evs:=[]) (obs:=[5≤5]) hE.kind (by rw [hE.gA]; kernel_rfl) Qh (by kernel_rfl) ⟨(by decide),trivial⟩ hg
theorem f149Br0_0 (l:Lgb) (ride:Int) (s:Int) (x:Ent) {E:Env} (hE:RoundE (Yn l ride s).tmps E) (ho:AllP [(x.kind == 5)=true,(x.a == ride)=true,1≤1])
 (hg:G Try.prog E (kAt 400 [.code (QW (YC Try.prog))] [.b true]) ⟨(Js 26),[⟨true,0,1,true,[.rsl (Qg l.k.rules) 0 l.k.rules.length,.rsl (rowI l.k.ranks) 0 l.k.ranks.length,.rsl (rowI l.k.insured) 0 l.k.insured.length,.rsl (Qc l.es) 0 l.es.length],false⟩,⟨true,0,1,true,[.int .i64 ride],false⟩,⟨true,0,1,true,[.int .i64 x.b],false⟩]⟩):G Try.prog E [.code (QW (YC Try.prog))] (yx l ride s x) :=
 Ql (n:=400) (ds:=[]) (cs:=[]) (live:=[]) (m:=3) (evs:=[.b true,.b true]) (obs:=_) hE.kind (by rw [hE.gA]; kernel_rfl) Qh (by kernel_rfl) ho hg
theorem f149Br0_1 (l:Lgb) (ride:Int) (s:Int) (x:Ent) {E:Env} (hE:RoundE (Yn l ride s).tmps E) (ho:AllP [(x.kind == 5)=true,(x.a == ride)=false])
 (hg:G Try.prog E [] ⟨(Js 26),[⟨true,0,1,true,[.rsl (Qg l.k.rules) 0 l.k.rules.length,.rsl (rowI l.k.ranks) 0 l.k.ranks.length,.rsl (rowI l.k.insured) 0 l.k.insured.length,.rsl (Qc l.es) 0 l.es.length],false⟩,⟨true,0,1,true,[.int .i64 ride],false⟩,⟨true,0,1,true,[.int .i64 s],false⟩]⟩):G Try.prog E [.code (QW (YC Try.prog))] (yx l ride s x) :=
 Ql (n:=400) (ds:=[]) (cs:=[]) (live:=[]) (m:=3) (evs:=[.b true,.b false]) (obs:=_) hE.kind (by rw [hE.gA]; kernel_rfl) Qh (by kernel_rfl) ho hg
theorem f149Br0_2 (l:Lgb) (ride:Int) (s:Int) (x:Ent) {E:Env} (hE:RoundE (Yn l ride s).tmps E) (ho:AllP [(x.kind == 5)=false,false=false])
 (hg:G Try.prog E [] ⟨(Js 26),[⟨true,0,1,true,[.rsl (Qg l.k.rules) 0 l.k.rules.length,.rsl (rowI l.k.ranks) 0 l.k.ranks.length,.rsl (rowI l.k.insured) 0 l.k.insured.length,.rsl (Qc l.es) 0 l.es.length],false⟩,⟨true,0,1,true,[.int .i64 ride],false⟩,⟨true,0,1,true,[.int .i64 s],false⟩]⟩):G Try.prog E [.code (QW (YC Try.prog))] (yx l ride s x) :=
 Ql (n:=400) (ds:=[]) (cs:=[]) (live:=[]) (m:=3) (evs:=[.b false,.b false]) (obs:=_) hE.kind (by rw [hE.gA]; kernel_rfl) Qh (by kernel_rfl) ho hg
theorem f149Br0 (l:Lgb) (ride:Int) (s:Int) (x:Ent) {rq:(Int) × Bool} {E:Env} (hE:RoundE (Yn l ride s).tmps E) (hQ:qY (fun s=>(Yn l ride s).blks) (.ret) rq E)
 (h:((x.kind=5→((x.a=ride→rq=(x.b,false))∧(¬ (x.a=ride)→rq=(s,true))))∧(¬ (x.kind=5)→rq=(s,true)))):G Try.prog E [.code (QW (YC Try.prog))] (yx l ride s x):=by
 rcases bft (x.kind == 5) with hc0 | hc0
 · have h:=h.1 (eq_of_beq hc0)
   rcases bft (x.a == ride) with hc1 | hc1
   · have h:=h.1 (eq_of_beq hc1)
     exact f149Br0_0 l ride s x hE ⟨hc0,hc1,(by decide),trivial⟩ (VW hQ h (by kernel_rfl) rfl)
   · have h:=h.2 (ne_of_beq_false hc1)
     exact f149Br0_1 l ride s x hE ⟨hc0,hc1,trivial⟩ (VF hQ h rfl)
 · have h:=h.2 (ne_of_beq_false hc0)
   exact f149Br0_2 l ride s x hE ⟨hc0,rfl,trivial⟩ (VF hQ h rfl)
theorem f149Rr0 (l:Lgb) (ride:Int) (s0:Int) {E:Env} {rv:Int} (hE:Qf Try.prog 149 (.int .i64 rv) E) (step:(Int)→(Ent)→(Int) × Bool)
 (h:l.es.length≤1000∧(∀ (i:Nat) (x:Ent) (s:Int),l.es.reverse[i]?=some x→QG step s0 (l.es.reverse.take i)=(s,true)→((x.kind=5→((x.a=ride→step s x=(x.b,false))∧(¬ (x.a=ride)→step s x=(s,true))))∧(¬ (x.kind=5)→step s x=(s,true))))∧(∀ s:Int,QG step s0 l.es.reverse=(s,true)→(0≤ride∧(∃ e:Int,l.k.insured[Int.toNat ride]?=some e∧rv=e)))∧(∀ s:Int,QG step s0 l.es.reverse=(s,false)→rv=s)):f149Gr0 E l ride s0:=by
 have hgA:E.gA=[]:=hE.2.2.2.2.1
 have hT:(Yn l ride s0).tmps++E.gA=(Yn l ride s0).tmps:=by rw [hgA,List.append_nil]
 refine yi (σ:=Int) (X:=Ent) (arg:=Qdl) (L:=l.es.reverse) (jump:=.ret) (g:=.tmp 7) (ps:=#[8]) (fun s=>(Yn l ride s).blks) (fun s x=>(yx l ride s x)) step s0 hE.1 hE.2.1 (by kernel_rfl) rfl rfl (back_it l h.1) rfl (fun x=>rfl) (fun s x E' hR hg=>?_) (fun i x s hx hs E' hR hQ=>?_) (fun s hs=>?_) (fun s hs=>?_)
 · rw [hT] at hR; exact f149Ar0 l ride s x hR hg
 · rw [hT] at hR; exact f149Br0 l ride s x hR hQ (h.2.1 i x s hx hs)
 · exact f149Wr0e l ride s hE (h.2.2.1 s hs)
 · exact f149Wr0j l ride s hE (h.2.2.2 s hs)
theorem Xg (l:Lgb) (ride:Int) (h:LogFine l):Pure Try.prog 145 [.agg [.rsl (Qg l.k.rules) 0 l.k.rules.length,.rsl (rowI l.k.ranks) 0 l.k.ranks.length,.rsl (rowI l.k.insured) 0 l.k.insured.length,.rsl (Qc l.es) 0 l.es.length],.int .i64 ride] (.int .i64 (Qs l ride)):=Qv Try.func145 f145b fun E hE=>by
 have h3:=h.small.k.rules
 have key:∀ (d i:Nat) (day:Int),i+d=l.k.rules.length→chkGo l ride (l.k.rules.drop i) i day=Qs l ride→f145G0 E l ride day i:=by
  intro d
  induction d with
  | zero =>
   intro i day hi hr
   rw [List.drop_eq_nil_of_le (by omega)] at hr
   exact f145W0 l ride day i (rv:=Qs l ride) hE ⟨fun h=>by omega,fun _=>hr.symm⟩
  | succ d ih =>
   intro i day hi hr
   have hx:l.k.rules[i]?=some (l.k.rules[i]'(by omega)):=List.getElem?_eq_getElem (by omega)
   rw [List.drop_eq_getElem_cons (by omega)] at hr
   generalize l.k.rules[i]'(by omega)=r at hx hr
   simp only [chkGo,chkStep] at hr
   refine f145W0 l ride day i (rv:=Qs l ride) hE ⟨fun _=>⟨r,hx,fun q=>⟨⟨h,by omega,by omega⟩,⟨by omega,by omega⟩,?_⟩,fun q=>⟨⟨by omega,by omega⟩,?_⟩⟩,fun h=>by omega⟩
   · rw [if_pos q] at hr; exact ih (i+1) _ (by omega) hr
   · rw [if_neg q] at hr; exact ih (i+1) _ (by omega) hr
 exact f145W l ride (rv:=Qs l ride) hE (key l.k.rules.length 0 10000 (by omega) rfl)
theorem XJ (l:Lgb) (ride:Int) (h:LogFine l):Pure Try.prog 146 [.agg [.rsl (Qg l.k.rules) 0 l.k.rules.length,.rsl (rowI l.k.ranks) 0 l.k.ranks.length,.rsl (rowI l.k.insured) 0 l.k.insured.length,.rsl (Qc l.es) 0 l.es.length],.int .i64 ride] (.bool (QF l ride)):=Qv Try.func146 f146b fun E hE=>by
 have h4:=h.small.es
 have ol:(XD l.es).length≤1000:=Nat.le_trans (Qbd _ _) h4
 have key:∀ (d i:Nat) (m:List Int),i+d=(XD l.es).length→m.length=4→(∀ x ∈ m,0≤x∧x≤(i:Int))→((XD l.es).drop i).foldl (Yx l.es ride) m=qs l.es ride→Qbx E l ride i m:=by
  intro d
  induction d with
  | zero =>
   intro i m hi hm hb hr
   rw [List.drop_eq_nil_of_le (by omega)] at hr
   have hr':m=qs l.es ride:=hr
   have g3:=Xx (l:=m) 0 (i:=3) (by omega)
   have g2:=Xx (l:=m) 0 (i:=2) (by omega)
   refine f146W0 l ride i m (rv:=QF l ride) hE ⟨fun h=>by omega,fun _=>⟨_,g3,fun q=>⟨_,g2,?_⟩,fun q=>?_⟩⟩
   · unfold QF
     rw [← hr']
     have q':m.getD 3 0=0:=q
     rw [q']; rfl
   · unfold QF
     rw [← hr',beq_eq_false_iff_ne.2 (show m.getD 3 0 ≠ 0 from q)]; rfl
  | succ d ih =>
   intro i m hi hm hb hr
   have hx:(XD l.es)[i]?=some ((XD l.es)[i]'(by omega)):=List.getElem?_eq_getElem (by omega)
   rw [List.drop_eq_getElem_cons (by omega)] at hr
   generalize (XD l.es)[i]'(by omega)=n at hx hr
   obtain ⟨n1,n2,n3⟩:=ym l.es.length 0 (by omega) n (List.mem_of_getElem? hx)
   have hg:l.es[Int.toNat n]?=some (Xh l.es n):=Xx e0 ⟨n1,n2⟩
   have hs:=h.sev _ (List.mem_of_getElem? hg) n3
   simp only [List.foldl_cons,Yx] at hr
   refine f146W0 l ride i m (rv:=QF l ride) hE ⟨fun _=>⟨n,hx,n1,_,hg,fun q=>?_,fun q=>⟨⟨by omega,by omega⟩,?_⟩⟩,fun h=>by omega⟩
   · rw [if_pos q] at hr
     have gm:=Xx (l:=m) 0 (i:=(Xh l.es n).b) (by omega)
     have hbm:=hb _ (List.mem_of_getElem? gm)
     refine ⟨by omega,_,gm,⟨by omega,by omega⟩,⟨by omega,by omega⟩,⟨by omega,by omega⟩,⟨by omega,by omega⟩,?_⟩
     refine ih (i+1) _ (by omega) (by simpa using hm) (fun x hx=>?_) hr
     rcases List.mem_or_eq_of_mem_set hx with hx | rfl
     · have:=hb x hx; omega
     · omega
   · rw [if_neg q] at hr
     exact ih (i+1) m (by omega) hm (fun x hx=>by have:=hb x hx; omega) hr
 exact f146W l ride (rv:=QF l ride) hE ⟨h4,key (XD l.es).length 0 [0,0,0,0] (by omega) rfl (fun x hx=>by simp at hx; omega) rfl⟩
theorem Xf (l:Lgb) (ride:Int) (h:l.es.length≤1000∧(0≤ride∧ride<(l.k.insured.length:Int))):Pure Try.prog 149 [.agg [.rsl (Qg l.k.rules) 0 l.k.rules.length,.rsl (rowI l.k.ranks) 0 l.k.ranks.length,.rsl (rowI l.k.insured) 0 l.k.insured.length,.rsl (Qc l.es) 0 l.es.length],.int .i64 ride] (.int .i64 (Qn l ride)):=Qv Try.func149 f149b fun E hE=>by
 have g1:=Xx (l:=l.k.insured) 0 h.2
 refine f149W l ride (rv:=Qn l ride) hE (f149Rr0 l ride 0 (rv:=Qn l ride) hE (stepI ride) ⟨h.1,fun i x s _ _=>⟨fun q=>⟨fun q2=>?_,fun q2=>?_⟩,fun q=>?_⟩,fun s hs=>⟨h.2.1,_,g1,?_⟩,fun s hs=>?_⟩)
 · unfold stepI; rw [if_pos ⟨q,q2⟩]
 · unfold stepI; rw [if_neg (fun hh=>q2 hh.2)]
 · unfold stepI; rw [if_neg (fun hh=>q hh.1)]
 · exact KX _ _ _ _ hs
 · exact KX (d:=l.k.insured.getD ride.toNat 0) _ _ _ _ hs
end Go.Proofs.Ytemklbioijmjiaa