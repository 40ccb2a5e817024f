/- A part of the proof: several texts, one behind the other. -/
import Derived.Test.YtgdfkjjgdkejfaaLRideCrashesE
set_option linter.unusedVariables false
set_option linter.unusedSimpArgs false
set_option maxRecDepth 100000
namespace Go.Proofs.Ytgdfkjjgdkejfaa
open Go Ax
open Go.Proofs
def spotOk (c:Cir) (x:Spt):Bool:=within x.block 0 (c.blocks.length - 1) && within x.ran 0 (bkAt c x.block).time
def rowBad (c:Cir) (r:List Spt):Bool:=!decide (r.length=c.cars.length) || r.any fun x=>!spotOk c x
def crashT (c:Cir) (rows:List (List Spt)):Option Nat:=firstN (fun t=>decide ((crashI c (rows.getD t [])).2≥0)) rows.length
def crashK (c:Cir) (rows:List (List Spt)):Int × Int × Int :=
 if checkC c=0 then (if rows.length > 500 then (0,0,2) else if (rows.any (rowBad c))=true then (0,0,1) else
  match crashT c rows with
  | some t=>((t:Int),(crashI c (rows.getD t [])).2,0)
  | none=>(-1,-1,0)) else (0,0,checkC c)
theorem spotOk_in {c:Cir} {x:Spt} (h:spotOk c x=true):InC c x.block∧0≤x.ran∧x.ran≤(bkAt c x.block).time:=by
 simp only [spotOk,Bool.and_eq_true] at h
 have h1:=within_iff.1 h.1
 have h2:=within_iff.1 h.2
 exact ⟨⟨h1.1,by omega⟩,h2⟩
theorem rowBad_no {c:Cir} {r:List Spt} (h:rowBad c r=false):r.length=c.cars.length∧∀ x ∈ r,spotOk c x=true:=by
 rw [rowBad,Bool.or_eq_false_iff] at h
 refine ⟨by simpa using h.1,fun x hx=>?_⟩
 have:=List.any_eq_false.1 h.2 x hx
 simpa using this
theorem f58b:Try.f58.body=some (bodyAt Try.prog 58):=by kernel_rfl
abbrev z58_1 (c:Cir):List AV:=[.rsl (rowBk c.blocks) 0 c.blocks.length,.rsl (rowI c.cars) 0 c.cars.length]
theorem p58_start_0 (x:Spt) (c:Cir) {E:Env} {res:AV} (hE:PureE Try.prog 58 res E) (ho:AllP [PureF Try.prog (.clos 53 [] []) [.agg (z58_1 c),.int .i64 x.block] (.bool (within x.block 0 (c.blocks.length - 1))),(!(within x.block 0 (c.blocks.length - 1)))=true])
 (hr:AvLe (.bool true) res):G Try.prog E [.code (bodyAt Try.prog 58)] ⟨[.agg [.int .i64 x.block,.int .i64 x.ran,.bool x.opn],.rptr (z58_1 c) 0]++unds (Try.f58.ntmps - 2),[]⟩ :=
 end_stepL (n:=400) (evs:=[.v (.bool (within x.block 0 (c.blocks.length - 1))),.b true]) (obs:=_) hE Try.func58 mixed (by kernel_rfl) ho hr
theorem p58_start_1 (x:Spt) (c:Cir) (be:Bk) {E:Env} {res:AV} (hE:PureE Try.prog 58 res E) (ho:AllP [PureF Try.prog (.clos 53 [] []) [.agg (z58_1 c),.int .i64 x.block] (.bool (within x.block 0 (c.blocks.length - 1))),(!(within x.block 0 (c.blocks.length - 1)))=false,0≤x.block∧x.block<(c.blocks.length:Int),((rowBk c.blocks).drop ((0+(Int.toNat x.block)*4)+0)).take 1=[.int .i64 be.time],PureF Try.prog (.clos 52 [] []) [.int .i64 x.ran,.int .i64 0,.int .i64 be.time] (.bool (within x.ran 0 be.time))])
 (hr:AvLe (.bool (!(within x.ran 0 be.time))) res):G Try.prog E [.code (bodyAt Try.prog 58)] ⟨[.agg [.int .i64 x.block,.int .i64 x.ran,.bool x.opn],.rptr (z58_1 c) 0]++unds (Try.f58.ntmps - 2),[]⟩ :=
 end_stepL (n:=400) (evs:=[.v (.bool (within x.block 0 (c.blocks.length - 1))),.b false,.auto,.auto,.auto,.ld (.int .i64 be.time),.v (.bool (within x.ran 0 be.time))]) (obs:=_) hE Try.func58 mixed (by kernel_rfl) ho hr
theorem f58W (x:Spt) (c:Cir) {E:Env} {rv:Bool} (hE:PureE Try.prog 58 (.bool rv) E)
 (h:((c.blocks.length≤9223372036854775807)∧(((within x.block 0 (c.blocks.length - 1))=false→rv=true)∧((within x.block 0 (c.blocks.length - 1))=true→(0≤x.block∧(∃ be:Bk,c.blocks[Int.toNat x.block]?=some be∧rv=(!(within x.ran 0 be.time)))))))):G Try.prog E [.code (bodyAt Try.prog 58)] ⟨[.agg [.int .i64 x.block,.int .i64 x.ran,.bool x.opn],.rptr [.rsl (rowBk c.blocks) 0 c.blocks.length,.rsl (rowI c.cars) 0 c.cars.length] 0]++unds (Try.f58.ntmps - 2),[]⟩:=by
 obtain ⟨h1,h⟩:=h
 rcases Bool.eq_false_or_eq_true (!(within x.block 0 (c.blocks.length - 1))) with hc0 | hc0
 · have h:=h.1 (bnT hc0)
   exact p58_start_0 x c hE ⟨(pureF_of Try.func53 (by kernel_rfl) f53b (block_ok c x.block h1)),hc0,trivial⟩ (AvLe.of_eq (by rw [h]; try rfl))
 · have h:=h.2 (bnF hc0)
   obtain ⟨h3,h⟩:=h
   obtain ⟨be,h2,h⟩:=h
   exact p58_start_1 x c be hE ⟨(pureF_of Try.func53 (by kernel_rfl) f53b (block_ok c x.block h1)),hc0,(idx_ok' h3 h2),(row_part cBk (s:=4) (k:=0) (m:=1) (fun _=>rfl) (by decide) h2),(pureF_of Try.func52 (by kernel_rfl) f52b (within_ok x.ran 0 be.time)),trivial⟩ (AvLe.of_eq (by rw [h]; try rfl))
theorem badS_ok (x:Spt) (c:Cir) (h:c.blocks.length≤9223372036854775807):Pure Try.prog 58 [.agg [.int .i64 x.block,.int .i64 x.ran,.bool x.opn],.rptr [.rsl (rowBk c.blocks) 0 c.blocks.length,.rsl (rowI c.cars) 0 c.cars.length] 0] (.bool (!spotOk c x)):=pure_of Try.func58 f58b fun E hE=>by
 refine f58W x c (rv:=!spotOk c x) hE ⟨h,fun h1=>?_,fun h1=>?_⟩
 · rw [spotOk,h1]; rfl
 · have h2:=within_iff.1 h1
   exact ⟨h2.1,_,bk_at ⟨h2.1,by omega⟩,by rw [spotOk,h1]; rfl⟩
theorem f85b:Try.f85.body=some (bodyAt Try.prog 85):=by kernel_rfl
def f85K0 (P:Program):List Item:=kAt 400 [.code (bodyAt P 85)] [.stop]
def f85S0 (l:(List Spt)) (c:Cir) (i:Nat):St:=⟨([.rsl (rowSpt l) 0 l.length,.clos 58 [] [.rptr [.rsl (rowBk c.blocks) 0 c.blocks.length,.rsl (rowI c.cars) 0 c.cars.length] 0]]++jj 5 ([.int .i64 (l.length:Int),.int .i64 (i:Int)]++Js 10)),[]⟩
def f85G0 (E:Env) (l:(List Spt)) (c:Cir) (i:Nat):Prop:=G Try.prog E (f85K0 Try.prog) (f85S0 l c i )
abbrev z85_1 (c:Cir):List AV:=[.rptr [.rsl (rowBk c.blocks) 0 c.blocks.length,.rsl (rowI c.cars) 0 c.cars.length] 0]
abbrev z85_2 (se:Spt):List AV:=[.int .i64 se.block,.int .i64 se.ran,.bool se.opn]
theorem p85_start_0 (l:(List Spt)) (c:Cir) {E:Env} {rv:AV} (hE:PureE Try.prog 85 rv E) (ho:AllP [])
 (hg:G Try.prog E (f85K0 Try.prog) ⟨([.rsl (rowSpt l) 0 l.length,.clos 58 [] (z85_1 c)]++jj 5 ([.int .i64 (l.length:Int),.int .i64 0]++Js 10)),[]⟩):G Try.prog E [.code (bodyAt Try.prog 85)] ⟨[.rsl (rowSpt l) 0 l.length,.clos 58 [] (z85_1 c)]++unds (Try.f85.ntmps - 2),[]⟩ :=
 segC_step (n:=400) (ds:=[]) (cs:=[]) (live:=[0,1,7,8]) (m:=0) (evs:=[.stop]) (obs:=_) hE.2.1 (hE.nogh _) mixed (by kernel_rfl) ho hg
theorem f85W (l:(List Spt)) (c:Cir) {E:Env} {rv:Int} (hE:PureE Try.prog 85 (.int .i64 rv) E)
 (h:f85G0 E l c 0):G Try.prog E [.code (bodyAt Try.prog 85)] ⟨[.rsl (rowSpt l) 0 l.length,.clos 58 [] [.rptr [.rsl (rowBk c.blocks) 0 c.blocks.length,.rsl (rowI c.cars) 0 c.cars.length] 0]]++unds (Try.f85.ntmps - 2),[]⟩:=by
 exact p85_start_0 l c hE trivial h
theorem p85_0_0 (l:(List Spt)) (c:Cir) (i:Nat) (se:Spt) {E:Env} {res:AV} (hE:PureE Try.prog 85 res E) (ho:AllP [(decide ((i:Int)<(l.length:Int)))=true,0≤(i:Int)∧(i:Int)<(l.length:Int),((rowSpt l).drop (0+(Int.toNat (i:Int))*3)).take 3=(z85_2 se),PureF Try.prog (.clos 58 [] (z85_1 c)) [.agg (z85_2 se)] (.bool (!spotOk c se)),(!spotOk c se)=true])
 (hr:AvLe (.int .i64 (i:Int)) res):G Try.prog E (f85K0 Try.prog) (f85S0 l c i ) :=
 end_stepL (n:=400) (evs:=[.b true,.ld (.agg [.int .i64 se.block,.int .i64 se.ran,.bool se.opn]),.v (.bool (!spotOk c se)),.b true]) (obs:=_) hE Try.func85 mixed (by kernel_rfl) ho hr
theorem p85_0_1 (l:(List Spt)) (c:Cir) (i:Nat) (se:Spt) {E:Env} {rv:AV} (hE:PureE Try.prog 85 rv E) (ho:AllP [(decide ((i:Int)<(l.length:Int)))=true,0≤(i:Int)∧(i:Int)<(l.length:Int),((rowSpt l).drop (0+(Int.toNat (i:Int))*3)).take 3=(z85_2 se),PureF Try.prog (.clos 58 [] (z85_1 c)) [.agg (z85_2 se)] (.bool (!spotOk c se)),(!spotOk c se)=false,InR .i64 ((i:Int)+1)])
 (hg:G Try.prog E (f85K0 Try.prog) ⟨([.rsl (rowSpt l) 0 l.length,.clos 58 [] (z85_1 c)]++jj 5 ([.int .i64 (l.length:Int),.int .i64 ((i:Int)+1)]++Js 10)),[]⟩):G Try.prog E (f85K0 Try.prog) (f85S0 l c i ) :=
 segC_step (n:=400) (ds:=[]) (cs:=[]) (live:=[0,1,7,8]) (m:=0) (evs:=[.b true,.ld (.agg [.int .i64 se.block,.int .i64 se.ran,.bool se.opn]),.v (.bool (!spotOk c se)),.b false,.stop]) (obs:=_) hE.2.1 (hE.nogh _) mixed (by kernel_rfl) ho hg
theorem p85_0_2 (l:(List Spt)) (c:Cir) (i:Nat) {E:Env} {res:AV} (hE:PureE Try.prog 85 res E) (ho:AllP [(decide ((i:Int)<(l.length:Int)))=false])
 (hr:AvLe (.int .i64 (-1)) res):G Try.prog E (f85K0 Try.prog) (f85S0 l c i ) :=
 end_stepL (n:=400) (evs:=[.b false]) (obs:=_) hE Try.func85 mixed (by kernel_rfl) ho hr
theorem f85W0 (l:(List Spt)) (c:Cir) (i:Nat) {E:Env} {rv:Int} (hE:PureE Try.prog 85 (.int .i64 rv) E)
 (h:(((i:Int)<(l.length:Int)→(∃ se:Spt,l[i]?=some se∧((c.blocks.length≤9223372036854775807)∧(((!spotOk c se)=true→rv=(i:Int))∧((!spotOk c se)=false→((-9223372036854775808≤(i:Int)+1∧(i:Int)+1≤9223372036854775807)∧f85G0 E l c (i+1)))))))∧(¬ ((i:Int)<(l.length:Int))→rv=(-1)))):f85G0 E l c i:=by
 rcases Bool.eq_false_or_eq_true (decide ((i:Int)<(l.length:Int))) with hc0 | hc0
 · have h:=h.1 (of_decide_eq_true hc0)
   obtain ⟨se,h1,h⟩:=h
   obtain ⟨h2,h⟩:=h
   rcases Bool.eq_false_or_eq_true (!spotOk c se) with hc1 | hc1
   · have h:=h.1 hc1
     exact p85_0_0 l c i se hE ⟨hc0,(idx_ok h1),(row_part cSpt (s:=3) (k:=0) (m:=3) (fun _=>rfl) (by decide) h1),(pureF_of Try.func58 (by kernel_rfl) f58b (badS_ok se c h2)),hc1,trivial⟩ (AvLe.of_eq (by rw [h]; try rfl))
   · have h:=h.2 hc1
     obtain ⟨q6_2,h⟩:=h
     exact p85_0_1 l c i se hE ⟨hc0,(idx_ok h1),(row_part cSpt (s:=3) (k:=0) (m:=3) (fun _=>rfl) (by decide) h1),(pureF_of Try.func58 (by kernel_rfl) f58b (badS_ok se c h2)),hc1,q6_2,trivial⟩ h
 · have h:=h.2 (of_decide_eq_false hc0)
   exact p85_0_2 l c i hE ⟨hc0,trivial⟩ (AvLe.of_eq (by rw [h]; try rfl))
theorem idxSp_ok (l:List Spt) (c:Cir) (h:(c.blocks.length≤9223372036854775807)∧l.length≤9223372036854775807):Pure Try.prog 85 [.rsl (rowSpt l) 0 l.length,.clos 58 [] [.rptr [.rsl (rowBk c.blocks) 0 c.blocks.length,.rsl (rowI c.cars) 0 c.cars.length] 0]] (.int .i64 (idxG (fun x=>!spotOk c x) l)):=pure_of Try.func85 f85b fun E hE=>by
 refine f85W l c hE (idxG_from (fun x=>!spotOk c x) l l.length 0 (by omega) (fun j x hj=>by omega) (fun i=>f85G0 E l c i) (fun i hi' h1 h2=>?_) (fun _ h2=>?_))
 · have hx:l[i]?=some l[i]:=List.getElem?_eq_getElem hi'
   exact f85W0 l c i hE ⟨fun _=>⟨_,hx,h.1,fun hp=>h1 _ hx hp,fun hp=>⟨by omega,h2 _ hx hp⟩⟩,fun h=>by omega⟩
 · exact f85W0 l c _ hE ⟨fun h=>by omega,fun _=>h2⟩
theorem f59b:Try.f59.body=some (bodyAt Try.prog 59):=by kernel_rfl
theorem p59_start_0 (l:(List Spt)) (c:Cir) {E:Env} {res:AV} (hE:PureE Try.prog 59 res E) (ho:AllP [PureF Try.prog (.clos 85 [] []) [.rsl (rowSpt l) 0 l.length,.clos 58 [] [.rptr [.rsl (rowBk c.blocks) 0 c.blocks.length,.rsl (rowI c.cars) 0 c.cars.length] 0]] (.int .i64 (idxG (fun x=>!spotOk c x) l))])
 (hr:AvLe (.bool (decide ((idxG (fun x=>!spotOk c x) l)≥0))) res):G Try.prog E [.code (bodyAt Try.prog 59)] ⟨[.rsl (rowSpt l) 0 l.length,.clos 58 [] [.rptr [.rsl (rowBk c.blocks) 0 c.blocks.length,.rsl (rowI c.cars) 0 c.cars.length] 0]]++unds (Try.f59.ntmps - 2),[]⟩ :=
 end_stepL (n:=400) (evs:=[.v (.int .i64 (idxG (fun x=>!spotOk c x) l))]) (obs:=_) hE Try.func59 mixed (by kernel_rfl) ho hr
theorem f59W (l:(List Spt)) (c:Cir) {E:Env} {rv:Bool} (hE:PureE Try.prog 59 (.bool rv) E)
 (h:(((c.blocks.length≤9223372036854775807)∧l.length≤9223372036854775807)∧rv=(decide ((idxG (fun x=>!spotOk c x) l)≥0)))):G Try.prog E [.code (bodyAt Try.prog 59)] ⟨[.rsl (rowSpt l) 0 l.length,.clos 58 [] [.rptr [.rsl (rowBk c.blocks) 0 c.blocks.length,.rsl (rowI c.cars) 0 c.cars.length] 0]]++unds (Try.f59.ntmps - 2),[]⟩:=by
 obtain ⟨h1,h⟩:=h
 exact p59_start_0 l c hE ⟨(pureF_of Try.func85 (by kernel_rfl) f85b (idxSp_ok l c h1)),trivial⟩ (AvLe.of_eq (by rw [h]; try rfl))
theorem anySp_ok (l:List Spt) (c:Cir) (h:(c.blocks.length≤9223372036854775807)∧l.length≤9223372036854775807):Pure Try.prog 59 [.rsl (rowSpt l) 0 l.length,.clos 58 [] [.rptr [.rsl (rowBk c.blocks) 0 c.blocks.length,.rsl (rowI c.cars) 0 c.cars.length] 0]] (.bool (l.any fun x=>!spotOk c x)):=pure_of Try.func59 f59b fun E hE =>
 f59W l c hE ⟨h,(idxG_any _ l).symm⟩
theorem f33b:Try.f33.body=some (bodyAt Try.prog 33):=by kernel_rfl
def f33K0 (P:Program):List Item:=kAt 400 [.code (bodyAt P 33)] [.b false,.b false,.stop]
def f33S0 (c:Cir) (rows:(List (List Spt))) (i:Nat):St:=⟨([J,.rsl ((rowLs rowSpt) rows) 0 rows.length,.ptr 0 0 0]++jj 20 ([.rsl ((rowLs rowSpt) rows) 0 rows.length,.int .i64 (rows.length:Int),.int .i64 (i:Int)]++Js 34)),[⟨true,0,1,true,[.rsl (rowBk c.blocks) 0 c.blocks.length,.rsl (rowI c.cars) 0 c.cars.length],false⟩]⟩
def f33G0 (E:Env) (c:Cir) (rows:(List (List Spt))) (i:Nat):Prop:=G Try.prog E (f33K0 Try.prog) (f33S0 c rows i )
def f33K1 (P:Program):List Item:=kAt 400 [.code (bodyAt P 33)] [.b false,.b false,.b false,.stop]
def f33S1 (c:Cir) (rows:(List (List Spt))) (k:Nat):St:=⟨([J,J,.ptr 0 0 0]++jj 39 ([.rsl ((rowLs rowSpt) rows) 0 rows.length,.int .i64 (rows.length:Int),.int .i64 (k:Int)]++Js 15)),[⟨true,0,1,true,[.rsl (rowBk c.blocks) 0 c.blocks.length,.rsl (rowI c.cars) 0 c.cars.length],false⟩]⟩
def f33G1 (E:Env) (c:Cir) (rows:(List (List Spt))) (k:Nat):Prop:=G Try.prog E (f33K1 Try.prog) (f33S1 c rows k )
abbrev z33_1 (c:Cir):List AV:=[.rsl (rowBk c.blocks) 0 c.blocks.length,.rsl (rowI c.cars) 0 c.cars.length]
abbrev z33_2 (c:Cir) (le:(List Spt)):AV:=.tup [.agg [.int .i64 (((crashI c le).1).block),.int .i64 (((crashI c le).1).ran),.bool (((crashI c le).1).opn)],.int .i64 ((crashI c le).2)]
theorem p33_start_0 (c:Cir) (rows:(List (List Spt))) {E:Env} {res:AV} (hE:PureE Try.prog 33 res E) (ho:AllP [PureF Try.prog (.clos 30 [] []) [.agg (z33_1 c)] (.int .i64 (checkC c)),((checkC c) != 0)=true])
 (hr:AvLe (.tup [.int .i64 0,.int .i64 0,.int .i64 (checkC c)]) res):G Try.prog E [.code (bodyAt Try.prog 33)] ⟨[.agg (z33_1 c),.rsl ((rowLs rowSpt) rows) 0 rows.length]++unds (Try.f33.ntmps - 2),[]⟩ :=
 end_stepL (n:=400) (evs:=[.v (.int .i64 (checkC c)),.b true]) (obs:=_) hE Try.func33 mixed (by kernel_rfl) ho hr
theorem p33_start_1 (c:Cir) (rows:(List (List Spt))) {E:Env} {res:AV} (hE:PureE Try.prog 33 res E) (ho:AllP [PureF Try.prog (.clos 30 [] []) [.agg (z33_1 c)] (.int .i64 (checkC c)),((checkC c) != 0)=false,(decide ((rows.length:Int) > 500))=true])
 (hr:AvLe (.tup [.int .i64 0,.int .i64 0,.int .i64 2]) res):G Try.prog E [.code (bodyAt Try.prog 33)] ⟨[.agg (z33_1 c),.rsl ((rowLs rowSpt) rows) 0 rows.length]++unds (Try.f33.ntmps - 2),[]⟩ :=
 end_stepL (n:=400) (evs:=[.v (.int .i64 (checkC c)),.b false,.b true]) (obs:=_) hE Try.func33 mixed (by kernel_rfl) ho hr
theorem p33_start_2 (c:Cir) (rows:(List (List Spt))) {E:Env} {rv:AV} (hE:PureE Try.prog 33 rv E) (ho:AllP [PureF Try.prog (.clos 30 [] []) [.agg (z33_1 c)] (.int .i64 (checkC c)),((checkC c) != 0)=false,(decide ((rows.length:Int) > 500))=false])
 (hg:G Try.prog E (f33K0 Try.prog) ⟨([J,.rsl ((rowLs rowSpt) rows) 0 rows.length,.ptr 0 0 0]++jj 20 ([.rsl ((rowLs rowSpt) rows) 0 rows.length,.int .i64 (rows.length:Int),.int .i64 0]++Js 34)),[⟨true,0,1,true,(z33_1 c),false⟩]⟩):G Try.prog E [.code (bodyAt Try.prog 33)] ⟨[.agg (z33_1 c),.rsl ((rowLs rowSpt) rows) 0 rows.length]++unds (Try.f33.ntmps - 2),[]⟩ :=
 segC_step (n:=400) (ds:=[]) (cs:=[]) (live:=[1,2,23,24,25]) (m:=1) (evs:=[.v (.int .i64 (checkC c)),.b false,.b false,.stop]) (obs:=_) hE.2.1 (hE.nogh _) mixed (by kernel_rfl) ho hg
theorem f33W (c:Cir) (rows:(List (List Spt))) {E:Env} {rv:(Int × Int × Int)} (hE:PureE Try.prog 33 (.tup [.int .i64 rv.1,.int .i64 rv.2.1,.int .i64 rv.2.2]) E)
 (h:((c.blocks.length≤9223372036854775807∧c.cars.length≤9223372036854775807)∧((¬ ((checkC c)=0)→rv=(0,0,(checkC c)))∧((checkC c)=0→(((rows.length:Int) > 500→rv=(0,0,2))∧(¬ ((rows.length:Int) > 500)→f33G0 E c rows 0)))))):G Try.prog E [.code (bodyAt Try.prog 33)] ⟨[.agg [.rsl (rowBk c.blocks) 0 c.blocks.length,.rsl (rowI c.cars) 0 c.cars.length],.rsl ((rowLs rowSpt) rows) 0 rows.length]++unds (Try.f33.ntmps - 2),[]⟩:=by
 obtain ⟨h1,h⟩:=h
 rcases Bool.eq_false_or_eq_true ((checkC c) != 0) with hc0 | hc0
 · have h:=h.1 (bneT hc0)
   exact p33_start_0 c rows hE ⟨(pureF_of Try.func30 (by kernel_rfl) f30b (check_ok c h1)),hc0,trivial⟩ (AvLe.of_eq (by rw [h]; try rfl))
 · have h:=h.2 (bneF hc0)
   rcases Bool.eq_false_or_eq_true (decide ((rows.length:Int) > 500)) with hc1 | hc1
   · have h:=h.1 (of_decide_eq_true hc1)
     exact p33_start_1 c rows hE ⟨(pureF_of Try.func30 (by kernel_rfl) f30b (check_ok c h1)),hc0,hc1,trivial⟩ (AvLe.of_eq (by rw [h]; try rfl))
   · have h:=h.2 (of_decide_eq_false hc1)
     exact p33_start_2 c rows hE ⟨(pureF_of Try.func30 (by kernel_rfl) f30b (check_ok c h1)),hc0,hc1,trivial⟩ h
theorem p33_0_0 (c:Cir) (rows:(List (List Spt))) (i:Nat) (le:(List Spt)) {E:Env} {res:AV} (hE:PureE Try.prog 33 res E) (ho:AllP [(decide ((i:Int)<(rows.length:Int)))=true,0≤(i:Int)∧(i:Int)<(rows.length:Int),(((rowLs rowSpt) rows).drop (0+(Int.toNat (i:Int))*1)).take 1=[.rsl (rowSpt le) 0 le.length],((le.length:Int) != (c.cars.length:Int))=true,true=true])
 (hr:AvLe (.tup [.int .i64 0,.int .i64 0,.int .i64 1]) res):G Try.prog E (f33K0 Try.prog) (f33S0 c rows i ) :=
 end_stepL (n:=400) (evs:=[.b true,.ld (.rsl (rowSpt le) 0 le.length),.b true,.b true]) (obs:=_) hE Try.func33 mixed (by kernel_rfl) ho hr
theorem p33_0_1 (c:Cir) (rows:(List (List Spt))) (i:Nat) (le:(List Spt)) {E:Env} {res:AV} (hE:PureE Try.prog 33 res E) (ho:AllP [(decide ((i:Int)<(rows.length:Int)))=true,0≤(i:Int)∧(i:Int)<(rows.length:Int),(((rowLs rowSpt) rows).drop (0+(Int.toNat (i:Int))*1)).take 1=[.rsl (rowSpt le) 0 le.length],((le.length:Int) != (c.cars.length:Int))=false,PureF Try.prog (.clos 59 [] []) [.rsl (rowSpt le) 0 le.length,.clos 58 [] [.rptr (z33_1 c) 0]] (.bool (le.any (fun x=>!spotOk c x))),(le.any (fun x=>!spotOk c x))=true])
 (hr:AvLe (.tup [.int .i64 0,.int .i64 0,.int .i64 1]) res):G Try.prog E (f33K0 Try.prog) (f33S0 c rows i ) :=
 end_stepL (n:=400) (evs:=[.b true,.ld (.rsl (rowSpt le) 0 le.length),.b false,.v (.bool (le.any (fun x=>!spotOk c x))),.b true]) (obs:=_) hE Try.func33 mixed (by kernel_rfl) ho hr
theorem p33_0_2 (c:Cir) (rows:(List (List Spt))) (i:Nat) (le:(List Spt)) {E:Env} {rv:AV} (hE:PureE Try.prog 33 rv E) (ho:AllP [(decide ((i:Int)<(rows.length:Int)))=true,0≤(i:Int)∧(i:Int)<(rows.length:Int),(((rowLs rowSpt) rows).drop (0+(Int.toNat (i:Int))*1)).take 1=[.rsl (rowSpt le) 0 le.length],((le.length:Int) != (c.cars.length:Int))=false,PureF Try.prog (.clos 59 [] []) [.rsl (rowSpt le) 0 le.length,.clos 58 [] [.rptr (z33_1 c) 0]] (.bool (le.any (fun x=>!spotOk c x))),(le.any (fun x=>!spotOk c x))=false,InR .i64 ((i:Int)+1)])
 (hg:G Try.prog E (f33K0 Try.prog) ⟨([J,.rsl ((rowLs rowSpt) rows) 0 rows.length,.ptr 0 0 0]++jj 20 ([.rsl ((rowLs rowSpt) rows) 0 rows.length,.int .i64 (rows.length:Int),.int .i64 ((i:Int)+1)]++Js 34)),[⟨true,0,1,true,(z33_1 c),false⟩]⟩):G Try.prog E (f33K0 Try.prog) (f33S0 c rows i ) :=
 segC_step (n:=400) (ds:=[]) (cs:=[]) (live:=[1,2,23,24,25]) (m:=1) (evs:=[.b true,.ld (.rsl (rowSpt le) 0 le.length),.b false,.v (.bool (le.any (fun x=>!spotOk c x))),.b false,.stop]) (obs:=_) hE.2.1 (hE.nogh _) mixed (by kernel_rfl) ho hg
theorem p33_0_3 (c:Cir) (rows:(List (List Spt))) (i:Nat) {E:Env} {rv:AV} (hE:PureE Try.prog 33 rv E) (ho:AllP [(decide ((i:Int)<(rows.length:Int)))=false])
 (hg:G Try.prog E (f33K1 Try.prog) ⟨([J,J,.ptr 0 0 0]++jj 39 ([.rsl ((rowLs rowSpt) rows) 0 rows.length,.int .i64 (rows.length:Int),.int .i64 0]++Js 15)),[⟨true,0,1,true,(z33_1 c),false⟩]⟩):G Try.prog E (f33K0 Try.prog) (f33S0 c rows i ) :=
 segC_step (n:=400) (ds:=[]) (cs:=[]) (live:=[2,42,43,44]) (m:=1) (evs:=[.b false,.stop]) (obs:=_) hE.2.1 (hE.nogh _) mixed (by kernel_rfl) ho hg
theorem f33W0 (c:Cir) (rows:(List (List Spt))) (i:Nat) {E:Env} {rv:(Int × Int × Int)} (hE:PureE Try.prog 33 (.tup [.int .i64 rv.1,.int .i64 rv.2.1,.int .i64 rv.2.2]) E)
 (h:(((i:Int)<(rows.length:Int)→(∃ le:(List Spt),rows[i]?=some le∧((¬ ((le.length:Int)=(c.cars.length:Int))→rv=(0,0,1))∧((le.length:Int)=(c.cars.length:Int)→(((c.blocks.length≤9223372036854775807)∧le.length≤9223372036854775807)∧(((le.any (fun x=>!spotOk c x))=true→rv=(0,0,1))∧((le.any (fun x=>!spotOk c x))=false→((-9223372036854775808≤(i:Int)+1∧(i:Int)+1≤9223372036854775807)∧f33G0 E c rows (i+1)))))))))∧(¬ ((i:Int)<(rows.length:Int))→f33G1 E c rows 0))):f33G0 E c rows i:=by
 rcases Bool.eq_false_or_eq_true (decide ((i:Int)<(rows.length:Int))) with hc0 | hc0
 · have h:=h.1 (of_decide_eq_true hc0)
   obtain ⟨le,h1,h⟩:=h
   rcases Bool.eq_false_or_eq_true ((le.length:Int) != (c.cars.length:Int)) with hc1 | hc1
   · have h:=h.1 (bneT hc1)
     exact p33_0_0 c rows i le hE ⟨hc0,(idx_ok h1),(row_part (cLs rowSpt) (s:=1) (k:=0) (m:=1) (fun _=>rfl) (by decide) h1),hc1,rfl,trivial⟩ (AvLe.of_eq (by rw [h]; try rfl))
   · have h:=h.2 (bneF hc1)
     obtain ⟨h2,h⟩:=h
     rcases Bool.eq_false_or_eq_true (le.any (fun x=>!spotOk c x)) with hc2 | hc2
     · have h:=h.1 hc2
       exact p33_0_1 c rows i le hE ⟨hc0,(idx_ok h1),(row_part (cLs rowSpt) (s:=1) (k:=0) (m:=1) (fun _=>rfl) (by decide) h1),hc1,(pureF_of Try.func59 (by kernel_rfl) f59b (anySp_ok le c h2)),hc2,trivial⟩ (AvLe.of_eq (by rw [h]; try rfl))
     · have h:=h.2 hc2
       obtain ⟨q7_3,h⟩:=h
       exact p33_0_2 c rows i le hE ⟨hc0,(idx_ok h1),(row_part (cLs rowSpt) (s:=1) (k:=0) (m:=1) (fun _=>rfl) (by decide) h1),hc1,(pureF_of Try.func59 (by kernel_rfl) f59b (anySp_ok le c h2)),hc2,q7_3,trivial⟩ h
 · have h:=h.2 (of_decide_eq_false hc0)
   exact p33_0_3 c rows i hE ⟨hc0,trivial⟩ h
theorem p33_1_0 (c:Cir) (rows:(List (List Spt))) (k:Nat) (le:(List Spt)) {E:Env} {res:AV} (hE:PureE Try.prog 33 res E) (ho:AllP [(decide ((k:Int)<(rows.length:Int)))=true,0≤(k:Int)∧(k:Int)<(rows.length:Int),(((rowLs rowSpt) rows).drop (0+(Int.toNat (k:Int))*1)).take 1=[.rsl (rowSpt le) 0 le.length],PureF Try.prog (.clos 60 [] []) [.agg (z33_1 c),.rsl (rowSpt le) 0 le.length] (z33_2 c le),3≤3,(decide ((crashI c le).2≥0))=true])
 (hr:AvLe (.tup [.int .i64 (k:Int),.int .i64 ((crashI c le).2),.int .i64 0]) res):G Try.prog E (f33K1 Try.prog) (f33S1 c rows k ) :=
 end_stepL (n:=400) (evs:=[.b true,.ld (.rsl (rowSpt le) 0 le.length),.v (.tup [.agg [.int .i64 (((crashI c le).1).block),.int .i64 (((crashI c le).1).ran),.bool (((crashI c le).1).opn)],.int .i64 ((crashI c le).2)]),.b true]) (obs:=_) hE Try.func33 mixed (by kernel_rfl) ho hr
theorem p33_1_1 (c:Cir) (rows:(List (List Spt))) (k:Nat) (le:(List Spt)) {E:Env} {rv:AV} (hE:PureE Try.prog 33 rv E) (ho:AllP [(decide ((k:Int)<(rows.length:Int)))=true,0≤(k:Int)∧(k:Int)<(rows.length:Int),(((rowLs rowSpt) rows).drop (0+(Int.toNat (k:Int))*1)).take 1=[.rsl (rowSpt le) 0 le.length],PureF Try.prog (.clos 60 [] []) [.agg (z33_1 c),.rsl (rowSpt le) 0 le.length] (z33_2 c le),3≤3,(decide ((crashI c le).2≥0))=false,InR .i64 ((k:Int)+1)])
 (hg:G Try.prog E (f33K1 Try.prog) ⟨([J,J,.ptr 0 0 0]++jj 39 ([.rsl ((rowLs rowSpt) rows) 0 rows.length,.int .i64 (rows.length:Int),.int .i64 ((k:Int)+1)]++Js 15)),[⟨true,0,1,true,(z33_1 c),false⟩]⟩):G Try.prog E (f33K1 Try.prog) (f33S1 c rows k ) :=
 segC_step (n:=400) (ds:=[]) (cs:=[]) (live:=[2,42,43,44]) (m:=1) (evs:=[.b true,.ld (.rsl (rowSpt le) 0 le.length),.v (.tup [.agg [.int .i64 (((crashI c le).1).block),.int .i64 (((crashI c le).1).ran),.bool (((crashI c le).1).opn)],.int .i64 ((crashI c le).2)]),.b false,.stop]) (obs:=_) hE.2.1 (hE.nogh _) mixed (by kernel_rfl) ho hg
theorem p33_1_2 (c:Cir) (rows:(List (List Spt))) (k:Nat) {E:Env} {res:AV} (hE:PureE Try.prog 33 res E) (ho:AllP [(decide ((k:Int)<(rows.length:Int)))=false])
 (hr:AvLe (.tup [.int .i64 (-1),.int .i64 (-1),.int .i64 0]) res):G Try.prog E (f33K1 Try.prog) (f33S1 c rows k ) :=
 end_stepL (n:=400) (evs:=[.b false]) (obs:=_) hE Try.func33 mixed (by kernel_rfl) ho hr
theorem f33W1 (c:Cir) (rows:(List (List Spt))) (k:Nat) {E:Env} {rv:(Int × Int × Int)} (hE:PureE Try.prog 33 (.tup [.int .i64 rv.1,.int .i64 rv.2.1,.int .i64 rv.2.2]) E)
 (h:(((k:Int)<(rows.length:Int)→(∃ le:(List Spt),rows[k]?=some le∧(((∀ x ∈ le,InC c x.block)∧le.length≤2147483648)∧(((crashI c le).2≥0→rv=((k:Int),(crashI c le).2,0))∧(¬ ((crashI c le).2≥0)→((-9223372036854775808≤(k:Int)+1∧(k:Int)+1≤9223372036854775807)∧f33G1 E c rows (k+1)))))))∧(¬ ((k:Int)<(rows.length:Int))→rv=((-1),(-1),0)))):f33G1 E c rows k:=by
 rcases Bool.eq_false_or_eq_true (decide ((k:Int)<(rows.length:Int))) with hc0 | hc0
 · have h:=h.1 (of_decide_eq_true hc0)
   obtain ⟨le,h1,h⟩:=h
   obtain ⟨h2,h⟩:=h
   rcases Bool.eq_false_or_eq_true (decide ((crashI c le).2≥0)) with hc1 | hc1
   · have h:=h.1 (of_decide_eq_true hc1)
     exact p33_1_0 c rows k le hE ⟨hc0,(idx_ok h1),(row_part (cLs rowSpt) (s:=1) (k:=0) (m:=1) (fun _=>rfl) (by decide) h1),(pureF_of Try.func60 (by kernel_rfl) f60b (crash_ok c le h2)),(by decide),hc1,trivial⟩ (AvLe.of_eq (by rw [h]; try rfl))
   · have h:=h.2 (of_decide_eq_false hc1)
     obtain ⟨q7_2,h⟩:=h
     exact p33_1_1 c rows k le hE ⟨hc0,(idx_ok h1),(row_part (cLs rowSpt) (s:=1) (k:=0) (m:=1) (fun _=>rfl) (by decide) h1),(pureF_of Try.func60 (by kernel_rfl) f60b (crash_ok c le h2)),(by decide),hc1,q7_2,trivial⟩ h
 · have h:=h.2 (of_decide_eq_false hc0)
   exact p33_1_2 c rows k hE ⟨hc0,trivial⟩ (AvLe.of_eq (by rw [h]; try rfl))
theorem f34b:Try.f34.body=some (bodyAt Try.prog 34):=by kernel_rfl
def f34K0 (P:Program):List Item:=kAt 400 [.code (bodyAt P 34)] [.b false,.b false,.stop]
def f34S0 (c:Cir) (rows:(List (List Spt))) (t:Nat):St:=⟨([J,.rsl ((rowLs rowSpt) rows) 0 rows.length,.ptr 0 0 0]++jj 5 ([.int .i64 (t:Int)]++Js 134)),[⟨true,0,1,true,[.rsl (rowBk c.blocks) 0 c.blocks.length,.rsl (rowI c.cars) 0 c.cars.length],false⟩]⟩
def f34G0 (E:Env) (c:Cir) (rows:(List (List Spt))) (t:Nat):Prop:=G Try.prog E (f34K0 Try.prog) (f34S0 c rows t )
def f34K1 (P:Program):List Item:=kAt 400 [.code (bodyAt P 34)] [.b false,.b false,.b true,.b false,.stop]
def f34S1 (c:Cir) (rows:(List (List Spt))) (i:Nat) (t:Nat):St:=⟨([J,.rsl ((rowLs rowSpt) rows) 0 rows.length,.ptr 0 0 0]++jj 5 ([.int .i64 (t:Int),.int .i64 (i:Int)]++Js 133)),[⟨true,0,1,true,[.rsl (rowBk c.blocks) 0 c.blocks.length,.rsl (rowI c.cars) 0 c.cars.length],false⟩]⟩
def f34G1 (E:Env) (c:Cir) (rows:(List (List Spt))) (i:Nat) (t:Nat):Prop:=G Try.prog E (f34K1 Try.prog) (f34S1 c rows i t )
def f34K2 (P:Program):List Item:=kAt 400 [.code (bodyAt P 34)] [.b false,.b false,.b false,.stop]
def f34S2 (c:Cir) (rows:(List (List Spt))) (t:Nat):St:=⟨([J,.rsl ((rowLs rowSpt) rows) 0 rows.length,.ptr 0 0 0]++jj 8 ([.int .i64 (t:Int)]++Js 131)),[⟨true,0,1,true,[.rsl (rowBk c.blocks) 0 c.blocks.length,.rsl (rowI c.cars) 0 c.cars.length],false⟩]⟩
def f34G2 (E:Env) (c:Cir) (rows:(List (List Spt))) (t:Nat):Prop:=G Try.prog E (f34K2 Try.prog) (f34S2 c rows t )
def f34K3 (P:Program):List Item:=kAt 400 [.code (bodyAt P 34)] [.b false,.b false,.b false,.b true,.stop]
def f34S3 (c:Cir) (rows:(List (List Spt))) (t:Nat) (i:Nat):St:=⟨([J,.rsl ((rowLs rowSpt) rows) 0 rows.length,.ptr 0 0 0]++jj 8 ([.int .i64 (t:Int),.int .i64 (i:Int)]++Js 130)),[⟨true,0,1,true,[.rsl (rowBk c.blocks) 0 c.blocks.length,.rsl (rowI c.cars) 0 c.cars.length],false⟩]⟩
def f34G3 (E:Env) (c:Cir) (rows:(List (List Spt))) (t:Nat) (i:Nat):Prop:=G Try.prog E (f34K3 Try.prog) (f34S3 c rows t i )
def f34K4 (P:Program):List Item:=kAt 400 [.code (bodyAt P 34)] [.b false,.b false,.b false,.b true,.b true,.stop]
def f34S4 (c:Cir) (rows:(List (List Spt))) (bad:Bool) (v1_0:Int) (v1_1:Int) (v1_2:Bool) (t:Nat) (k:Nat) (i:Nat):St:=⟨([J,.rsl ((rowLs rowSpt) rows) 0 rows.length,.ptr 0 0 0]++jj 8 ([.int .i64 (t:Int),.int .i64 (i:Int),.ptr 1 0 0,.bool bad,.int .i64 (k:Int)]++Js 127)),[⟨true,0,1,true,[.rsl (rowBk c.blocks) 0 c.blocks.length,.rsl (rowI c.cars) 0 c.cars.length],false⟩,⟨true,0,1,true,[.int .i64 v1_0,.int .i64 v1_1,.bool v1_2],false⟩]⟩
def f34G4 (E:Env) (c:Cir) (rows:(List (List Spt))) (bad:Bool) (v1_0:Int) (v1_1:Int) (v1_2:Bool) (t:Nat) (k:Nat) (i:Nat):Prop:=G Try.prog E (f34K4 Try.prog) (f34S4 c rows bad v1_0 v1_1 v1_2 t k i )
abbrev z34_1 (c:Cir):List AV:=[.rsl (rowBk c.blocks) 0 c.blocks.length,.rsl (rowI c.cars) 0 c.cars.length]
abbrev z34_2 (rows:(List (List Spt))):List AV:=[J,.rsl ((rowLs rowSpt) rows) 0 rows.length,.ptr 0 0 0]
abbrev z34_3 (se:Spt):List AV:=[.int .i64 se.block,.int .i64 se.ran,.bool se.opn]
abbrev z34_4 (c:Cir) (v1_0:Int) (v1_1:Int) (v1_2:Bool):List Blk:=[⟨true,0,1,true,(z34_1 c),false⟩,⟨true,0,1,true,[.int .i64 v1_0,.int .i64 v1_1,.bool v1_2],false⟩]
theorem p34_start_0 (c:Cir) (rows:(List (List Spt))) {E:Env} {res:AV} (hE:PureE Try.prog 34 res E) (ho:AllP [PureF Try.prog (.clos 26 [] []) [.agg (z34_1 c)] (.int .i64 (checkC c)),((checkC c) != 0)=true])
 (hr:AvLe (.tup [.int .i64 0,.int .i64 0,.int .i64 (checkC c)]) res):G Try.prog E [.code (bodyAt Try.prog 34)] ⟨[.agg (z34_1 c),.rsl ((rowLs rowSpt) rows) 0 rows.length]++unds (Try.f34.ntmps - 2),[]⟩ :=
 end_stepL (n:=400) (evs:=[.v (.int .i64 (checkC c)),.b true]) (obs:=_) hE Try.func34 mixed (by kernel_rfl) ho hr
theorem p34_start_1 (c:Cir) (rows:(List (List Spt))) {E:Env} {res:AV} (hE:PureE Try.prog 34 res E) (ho:AllP [PureF Try.prog (.clos 26 [] []) [.agg (z34_1 c)] (.int .i64 (checkC c)),((checkC c) != 0)=false,(decide ((rows.length:Int) > 500))=true])
 (hr:AvLe (.tup [.int .i64 0,.int .i64 0,.int .i64 2]) res):G Try.prog E [.code (bodyAt Try.prog 34)] ⟨[.agg (z34_1 c),.rsl ((rowLs rowSpt) rows) 0 rows.length]++unds (Try.f34.ntmps - 2),[]⟩ :=
 end_stepL (n:=400) (evs:=[.v (.int .i64 (checkC c)),.b false,.b true]) (obs:=_) hE Try.func34 mixed (by kernel_rfl) ho hr
theorem p34_start_2 (c:Cir) (rows:(List (List Spt))) {E:Env} {rv:AV} (hE:PureE Try.prog 34 rv E) (ho:AllP [PureF Try.prog (.clos 26 [] []) [.agg (z34_1 c)] (.int .i64 (checkC c)),((checkC c) != 0)=false,(decide ((rows.length:Int) > 500))=false])
 (hg:G Try.prog E (f34K0 Try.prog) ⟨((z34_2 rows)++jj 5 ([.int .i64 0]++Js 134)),[⟨true,0,1,true,(z34_1 c),false⟩]⟩):G Try.prog E [.code (bodyAt Try.prog 34)] ⟨[.agg (z34_1 c),.rsl ((rowLs rowSpt) rows) 0 rows.length]++unds (Try.f34.ntmps - 2),[]⟩ :=
 segC_step (n:=400) (ds:=[]) (cs:=[]) (live:=[1,2,8]) (m:=1) (evs:=[.v (.int .i64 (checkC c)),.b false,.b false,.stop]) (obs:=_) hE.2.1 (hE.nogh _) mixed (by kernel_rfl) ho hg
theorem f34W (c:Cir) (rows:(List (List Spt))) {E:Env} {rv:(Int × Int × Int)} (hE:PureE Try.prog 34 (.tup [.int .i64 rv.1,.int .i64 rv.2.1,.int .i64 rv.2.2]) E)
 (h:((c.blocks.length≤9223372036854775807∧c.cars.length≤9223372036854775807)∧((¬ ((checkC c)=0)→rv=(0,0,(checkC c)))∧((checkC c)=0→(((rows.length:Int) > 500→rv=(0,0,2))∧(¬ ((rows.length:Int) > 500)→f34G0 E c rows 0)))))):G Try.prog E [.code (bodyAt Try.prog 34)] ⟨[.agg [.rsl (rowBk c.blocks) 0 c.blocks.length,.rsl (rowI c.cars) 0 c.cars.length],.rsl ((rowLs rowSpt) rows) 0 rows.length]++unds (Try.f34.ntmps - 2),[]⟩:=by
 obtain ⟨h1,h⟩:=h
 rcases Bool.eq_false_or_eq_true ((checkC c) != 0) with hc0 | hc0
 · have h:=h.1 (bneT hc0)
   exact p34_start_0 c rows hE ⟨(pureF_of Try.func26 (by kernel_rfl) f26b (checkR_ok c h1)),hc0,trivial⟩ (AvLe.of_eq (by rw [h]; try rfl))
 · have h:=h.2 (bneF hc0)
   rcases Bool.eq_false_or_eq_true (decide ((rows.length:Int) > 500)) with hc1 | hc1
   · have h:=h.1 (of_decide_eq_true hc1)
     exact p34_start_1 c rows hE ⟨(pureF_of Try.func26 (by kernel_rfl) f26b (checkR_ok c h1)),hc0,hc1,trivial⟩ (AvLe.of_eq (by rw [h]; try rfl))
   · have h:=h.2 (of_decide_eq_false hc1)
     exact p34_start_2 c rows hE ⟨(pureF_of Try.func26 (by kernel_rfl) f26b (checkR_ok c h1)),hc0,hc1,trivial⟩ h
theorem p34_0_0 (c:Cir) (rows:(List (List Spt))) (t:Nat) (le:(List Spt)) {E:Env} {res:AV} (hE:PureE Try.prog 34 res E) (ho:AllP [(decide ((t:Int)<(rows.length:Int)))=true,0≤(t:Int)∧(t:Int)<(rows.length:Int),(((rowLs rowSpt) rows).drop (0+(Int.toNat (t:Int))*1)).take 1=[.rsl (rowSpt le) 0 le.length],((le.length:Int) != (c.cars.length:Int))=true])
 (hr:AvLe (.tup [.int .i64 0,.int .i64 0,.int .i64 1]) res):G Try.prog E (f34K0 Try.prog) (f34S0 c rows t ) :=
 end_stepL (n:=400) (evs:=[.b true,.ld (.rsl (rowSpt le) 0 le.length),.b true]) (obs:=_) hE Try.func34 mixed (by kernel_rfl) ho hr
theorem p34_0_1 (c:Cir) (rows:(List (List Spt))) (t:Nat) (le:(List Spt)) {E:Env} {rv:AV} (hE:PureE Try.prog 34 rv E) (ho:AllP [(decide ((t:Int)<(rows.length:Int)))=true,0≤(t:Int)∧(t:Int)<(rows.length:Int),(((rowLs rowSpt) rows).drop (0+(Int.toNat (t:Int))*1)).take 1=[.rsl (rowSpt le) 0 le.length],((le.length:Int) != (c.cars.length:Int))=false])
 (hg:G Try.prog E (f34K1 Try.prog) ⟨((z34_2 rows)++jj 5 ([.int .i64 (t:Int),.int .i64 0]++Js 133)),[⟨true,0,1,true,(z34_1 c),false⟩]⟩):G Try.prog E (f34K0 Try.prog) (f34S0 c rows t ) :=
 segC_step (n:=400) (ds:=[]) (cs:=[]) (live:=[1,2,8,9]) (m:=1) (evs:=[.b true,.ld (.rsl (rowSpt le) 0 le.length),.b false,.stop]) (obs:=_) hE.2.1 (hE.nogh _) mixed (by kernel_rfl) ho hg
theorem p34_0_2 (c:Cir) (rows:(List (List Spt))) (t:Nat) {E:Env} {rv:AV} (hE:PureE Try.prog 34 rv E) (ho:AllP [(decide ((t:Int)<(rows.length:Int)))=false])
 (hg:G Try.prog E (f34K2 Try.prog) ⟨((z34_2 rows)++jj 8 ([.int .i64 0]++Js 131)),[⟨true,0,1,true,(z34_1 c),false⟩]⟩):G Try.prog E (f34K0 Try.prog) (f34S0 c rows t ) :=
 segC_step (n:=400) (ds:=[]) (cs:=[]) (live:=[1,2,11]) (m:=1) (evs:=[.b false,.stop]) (obs:=_) hE.2.1 (hE.nogh _) mixed (by kernel_rfl) ho hg
theorem f34W0 (c:Cir) (rows:(List (List Spt))) (t:Nat) {E:Env} {rv:(Int × Int × Int)} (hE:PureE Try.prog 34 (.tup [.int .i64 rv.1,.int .i64 rv.2.1,.int .i64 rv.2.2]) E)
 (h:(((t:Int)<(rows.length:Int)→(∃ le:(List Spt),rows[t]?=some le∧((¬ ((le.length:Int)=(c.cars.length:Int))→rv=(0,0,1))∧((le.length:Int)=(c.cars.length:Int)→f34G1 E c rows 0 t))))∧(¬ ((t:Int)<(rows.length:Int))→f34G2 E c rows 0))):f34G0 E c rows t:=by
 rcases Bool.eq_false_or_eq_true (decide ((t:Int)<(rows.length:Int))) with hc0 | hc0
 · have h:=h.1 (of_decide_eq_true hc0)
   obtain ⟨le,h1,h⟩:=h
   rcases Bool.eq_false_or_eq_true ((le.length:Int) != (c.cars.length:Int)) with hc1 | hc1
   · have h:=h.1 (bneT hc1)
     exact p34_0_0 c rows t le hE ⟨hc0,(idx_ok h1),(row_part (cLs rowSpt) (s:=1) (k:=0) (m:=1) (fun _=>rfl) (by decide) h1),hc1,trivial⟩ (AvLe.of_eq (by rw [h]; try rfl))
   · have h:=h.2 (bneF hc1)
     exact p34_0_1 c rows t le hE ⟨hc0,(idx_ok h1),(row_part (cLs rowSpt) (s:=1) (k:=0) (m:=1) (fun _=>rfl) (by decide) h1),hc1,trivial⟩ h
 · have h:=h.2 (of_decide_eq_false hc0)
   exact p34_0_2 c rows t hE ⟨hc0,trivial⟩ h
theorem p34_1_0 (c:Cir) (rows:(List (List Spt))) (i:Nat) (t:Nat) (le:(List Spt)) (se:Spt) {E:Env} {res:AV} (hE:PureE Try.prog 34 res E) (ho:AllP [0≤(t:Int)∧(t:Int)<(rows.length:Int),(((rowLs rowSpt) rows).drop (0+(Int.toNat (t:Int))*1)).take 1=[.rsl (rowSpt le) 0 le.length],(decide ((i:Int)<(le.length:Int)))=true,0≤(t:Int)∧(t:Int)<(rows.length:Int),(((rowLs rowSpt) rows).drop (0+(Int.toNat (t:Int))*1)).take 1=[.rsl (rowSpt le) 0 le.length],0≤(i:Int)∧(i:Int)<(le.length:Int),((rowSpt le).drop (0+(Int.toNat (i:Int))*3)).take 3=(z34_3 se),3≤3,InR .i64 ((c.blocks.length:Int) - 1),PureF Try.prog (.clos 50 [] []) [.int .i64 se.block,.int .i64 0,.int .i64 ((c.blocks.length:Int) - 1)] (.bool (within se.block 0 ((c.blocks.length:Int) - 1))),(!(within se.block 0 ((c.blocks.length:Int) - 1)))=true,true=true])
 (hr:AvLe (.tup [.int .i64 0,.int .i64 0,.int .i64 1]) res):G Try.prog E (f34K1 Try.prog) (f34S1 c rows i t ) :=
 end_stepL (n:=400) (evs:=[.ld (.rsl (rowSpt le) 0 le.length),.b true,.ld (.rsl (rowSpt le) 0 le.length),.ld (.agg [.int .i64 se.block,.int .i64 se.ran,.bool se.opn]),.v (.bool (within se.block 0 ((c.blocks.length:Int) - 1))),.b true,.b true]) (obs:=_) hE Try.func34 mixed (by kernel_rfl) ho hr
theorem p34_1_1 (c:Cir) (rows:(List (List Spt))) (i:Nat) (t:Nat) (le:(List Spt)) (se:Spt) (be:Bk) {E:Env} {res:AV} (hE:PureE Try.prog 34 res E) (ho:AllP [0≤(t:Int)∧(t:Int)<(rows.length:Int),(((rowLs rowSpt) rows).drop (0+(Int.toNat (t:Int))*1)).take 1=[.rsl (rowSpt le) 0 le.length],(decide ((i:Int)<(le.length:Int)))=true,0≤(t:Int)∧(t:Int)<(rows.length:Int),(((rowLs rowSpt) rows).drop (0+(Int.toNat (t:Int))*1)).take 1=[.rsl (rowSpt le) 0 le.length],0≤(i:Int)∧(i:Int)<(le.length:Int),((rowSpt le).drop (0+(Int.toNat (i:Int))*3)).take 3=(z34_3 se),3≤3,InR .i64 ((c.blocks.length:Int) - 1),PureF Try.prog (.clos 50 [] []) [.int .i64 se.block,.int .i64 0,.int .i64 ((c.blocks.length:Int) - 1)] (.bool (within se.block 0 ((c.blocks.length:Int) - 1))),(!(within se.block 0 ((c.blocks.length:Int) - 1)))=false,0≤se.block∧se.block<(c.blocks.length:Int),((rowBk c.blocks).drop ((0+(Int.toNat se.block)*4)+0)).take 1=[.int .i64 be.time],PureF Try.prog (.clos 50 [] []) [.int .i64 se.ran,.int .i64 0,.int .i64 be.time] (.bool (within se.ran 0 be.time)),(!(within se.ran 0 be.time))=true])
 (hr:AvLe (.tup [.int .i64 0,.int .i64 0,.int .i64 1]) res):G Try.prog E (f34K1 Try.prog) (f34S1 c rows i t ) :=
 end_stepL (n:=400) (evs:=[.ld (.rsl (rowSpt le) 0 le.length),.b true,.ld (.rsl (rowSpt le) 0 le.length),.ld (.agg [.int .i64 se.block,.int .i64 se.ran,.bool se.opn]),.v (.bool (within se.block 0 ((c.blocks.length:Int) - 1))),.b false,.auto,.auto,.auto,.ld (.int .i64 be.time),.v (.bool (within se.ran 0 be.time)),.b true]) (obs:=_) hE Try.func34 mixed (by kernel_rfl) ho hr
theorem p34_1_2 (c:Cir) (rows:(List (List Spt))) (i:Nat) (t:Nat) (le:(List Spt)) (se:Spt) (be:Bk) {E:Env} {rv:AV} (hE:PureE Try.prog 34 rv E) (ho:AllP [0≤(t:Int)∧(t:Int)<(rows.length:Int),(((rowLs rowSpt) rows).drop (0+(Int.toNat (t:Int))*1)).take 1=[.rsl (rowSpt le) 0 le.length],(decide ((i:Int)<(le.length:Int)))=true,0≤(t:Int)∧(t:Int)<(rows.length:Int),(((rowLs rowSpt) rows).drop (0+(Int.toNat (t:Int))*1)).take 1=[.rsl (rowSpt le) 0 le.length],0≤(i:Int)∧(i:Int)<(le.length:Int),((rowSpt le).drop (0+(Int.toNat (i:Int))*3)).take 3=(z34_3 se),3≤3,InR .i64 ((c.blocks.length:Int) - 1),PureF Try.prog (.clos 50 [] []) [.int .i64 se.block,.int .i64 0,.int .i64 ((c.blocks.length:Int) - 1)] (.bool (within se.block 0 ((c.blocks.length:Int) - 1))),(!(within se.block 0 ((c.blocks.length:Int) - 1)))=false,0≤se.block∧se.block<(c.blocks.length:Int),((rowBk c.blocks).drop ((0+(Int.toNat se.block)*4)+0)).take 1=[.int .i64 be.time],PureF Try.prog (.clos 50 [] []) [.int .i64 se.ran,.int .i64 0,.int .i64 be.time] (.bool (within se.ran 0 be.time)),(!(within se.ran 0 be.time))=false,InR .i64 ((i:Int)+1)])
 (hg:G Try.prog E (f34K1 Try.prog) ⟨((z34_2 rows)++jj 5 ([.int .i64 (t:Int),.int .i64 ((i:Int)+1)]++Js 133)),[⟨true,0,1,true,(z34_1 c),false⟩]⟩):G Try.prog E (f34K1 Try.prog) (f34S1 c rows i t ) :=
 segC_step (n:=400) (ds:=[]) (cs:=[]) (live:=[1,2,8,9]) (m:=1) (evs:=[.ld (.rsl (rowSpt le) 0 le.length),.b true,.ld (.rsl (rowSpt le) 0 le.length),.ld (.agg [.int .i64 se.block,.int .i64 se.ran,.bool se.opn]),.v (.bool (within se.block 0 ((c.blocks.length:Int) - 1))),.b false,.auto,.auto,.auto,.ld (.int .i64 be.time),.v (.bool (within se.ran 0 be.time)),.b false,.stop]) (obs:=_) hE.2.1 (hE.nogh _) mixed (by kernel_rfl) ho hg
theorem p34_1_3 (c:Cir) (rows:(List (List Spt))) (i:Nat) (t:Nat) (le:(List Spt)) {E:Env} {rv:AV} (hE:PureE Try.prog 34 rv E) (ho:AllP [0≤(t:Int)∧(t:Int)<(rows.length:Int),(((rowLs rowSpt) rows).drop (0+(Int.toNat (t:Int))*1)).take 1=[.rsl (rowSpt le) 0 le.length],(decide ((i:Int)<(le.length:Int)))=false,InR .i64 ((t:Int)+1)])
 (hg:G Try.prog E (f34K0 Try.prog) ⟨((z34_2 rows)++jj 5 ([.int .i64 ((t:Int)+1)]++Js 134)),[⟨true,0,1,true,(z34_1 c),false⟩]⟩):G Try.prog E (f34K1 Try.prog) (f34S1 c rows i t ) :=
 segC_step (n:=400) (ds:=[]) (cs:=[]) (live:=[1,2,8]) (m:=1) (evs:=[.ld (.rsl (rowSpt le) 0 le.length),.b false,.stop]) (obs:=_) hE.2.1 (hE.nogh _) mixed (by kernel_rfl) ho hg
theorem f34W1 (c:Cir) (rows:(List (List Spt))) (i:Nat) (t:Nat) {E:Env} {rv:(Int × Int × Int)} (hE:PureE Try.prog 34 (.tup [.int .i64 rv.1,.int .i64 rv.2.1,.int .i64 rv.2.2]) E)
 (h:(∃ le:(List Spt),rows[t]?=some le∧(((i:Int)<(le.length:Int)→(∃ se:Spt,le[i]?=some se∧((-9223372036854775808≤(c.blocks.length:Int) - 1∧(c.blocks.length:Int) - 1≤9223372036854775807)∧(((within se.block 0 ((c.blocks.length:Int) - 1))=false→rv=(0,0,1))∧((within se.block 0 ((c.blocks.length:Int) - 1))=true→(0≤se.block∧(∃ be:Bk,c.blocks[Int.toNat se.block]?=some be∧(((within se.ran 0 be.time)=false→rv=(0,0,1))∧((within se.ran 0 be.time)=true→((-9223372036854775808≤(i:Int)+1∧(i:Int)+1≤9223372036854775807)∧f34G1 E c rows (i+1) t))))))))))∧(¬ ((i:Int)<(le.length:Int))→((-9223372036854775808≤(t:Int)+1∧(t:Int)+1≤9223372036854775807)∧f34G0 E c rows (t+1)))))):f34G1 E c rows i t:=by
 obtain ⟨le,h1,h⟩:=h
 rcases Bool.eq_false_or_eq_true (decide ((i:Int)<(le.length:Int))) with hc0 | hc0
 · have h:=h.1 (of_decide_eq_true hc0)
   obtain ⟨se,h2,h⟩:=h
   obtain ⟨q10_1,h⟩:=h
   rcases Bool.eq_false_or_eq_true (!(within se.block 0 ((c.blocks.length:Int) - 1))) with hc1 | hc1
   · have h:=h.1 (bnT hc1)
     exact p34_1_0 c rows i t le se hE ⟨(idx_ok h1),(row_part (cLs rowSpt) (s:=1) (k:=0) (m:=1) (fun _=>rfl) (by decide) h1),hc0,(idx_ok h1),(row_part (cLs rowSpt) (s:=1) (k:=0) (m:=1) (fun _=>rfl) (by decide) h1),(idx_ok h2),(row_part cSpt (s:=3) (k:=0) (m:=3) (fun _=>rfl) (by decide) h2),(by decide),q10_1,(pureF_of Try.func50 (by kernel_rfl) f50b (withinR_ok se.block 0 ((c.blocks.length:Int) - 1))),hc1,rfl,trivial⟩ (AvLe.of_eq (by rw [h]; try rfl))
   · have h:=h.2 (bnF hc1)
     obtain ⟨h4,h⟩:=h
     obtain ⟨be,h3,h⟩:=h
     rcases Bool.eq_false_or_eq_true (!(within se.ran 0 be.time)) with hc2 | hc2
     · have h:=h.1 (bnT hc2)
       exact p34_1_1 c rows i t le se be hE ⟨(idx_ok h1),(row_part (cLs rowSpt) (s:=1) (k:=0) (m:=1) (fun _=>rfl) (by decide) h1),hc0,(idx_ok h1),(row_part (cLs rowSpt) (s:=1) (k:=0) (m:=1) (fun _=>rfl) (by decide) h1),(idx_ok h2),(row_part cSpt (s:=3) (k:=0) (m:=3) (fun _=>rfl) (by decide) h2),(by decide),q10_1,(pureF_of Try.func50 (by kernel_rfl) f50b (withinR_ok se.block 0 ((c.blocks.length:Int) - 1))),hc1,(idx_ok' h4 h3),(row_part cBk (s:=4) (k:=0) (m:=1) (fun _=>rfl) (by decide) h3),(pureF_of Try.func50 (by kernel_rfl) f50b (withinR_ok se.ran 0 be.time)),hc2,trivial⟩ (AvLe.of_eq (by rw [h]; try rfl))
     · have h:=h.2 (bnF hc2)
       obtain ⟨q18_3,h⟩:=h
       exact p34_1_2 c rows i t le se be hE ⟨(idx_ok h1),(row_part (cLs rowSpt) (s:=1) (k:=0) (m:=1) (fun _=>rfl) (by decide) h1),hc0,(idx_ok h1),(row_part (cLs rowSpt) (s:=1) (k:=0) (m:=1) (fun _=>rfl) (by decide) h1),(idx_ok h2),(row_part cSpt (s:=3) (k:=0) (m:=3) (fun _=>rfl) (by decide) h2),(by decide),q10_1,(pureF_of Try.func50 (by kernel_rfl) f50b (withinR_ok se.block 0 ((c.blocks.length:Int) - 1))),hc1,(idx_ok' h4 h3),(row_part cBk (s:=4) (k:=0) (m:=1) (fun _=>rfl) (by decide) h3),(pureF_of Try.func50 (by kernel_rfl) f50b (withinR_ok se.ran 0 be.time)),hc2,q18_3,trivial⟩ h
 · have h:=h.2 (of_decide_eq_false hc0)
   obtain ⟨q4_1,h⟩:=h
   exact p34_1_3 c rows i t le hE ⟨(idx_ok h1),(row_part (cLs rowSpt) (s:=1) (k:=0) (m:=1) (fun _=>rfl) (by decide) h1),hc0,q4_1,trivial⟩ h
theorem p34_2_0 (c:Cir) (rows:(List (List Spt))) (t:Nat) {E:Env} {rv:AV} (hE:PureE Try.prog 34 rv E) (ho:AllP [(decide ((t:Int)<(rows.length:Int)))=true])
 (hg:G Try.prog E (f34K3 Try.prog) ⟨((z34_2 rows)++jj 8 ([.int .i64 (t:Int),.int .i64 0]++Js 130)),[⟨true,0,1,true,(z34_1 c),false⟩]⟩):G Try.prog E (f34K2 Try.prog) (f34S2 c rows t ) :=
 segC_step (n:=400) (ds:=[]) (cs:=[]) (live:=[1,2,11,12]) (m:=1) (evs:=[.b true,.stop]) (obs:=_) hE.2.1 (hE.nogh _) mixed (by kernel_rfl) ho hg
theorem p34_2_1 (c:Cir) (rows:(List (List Spt))) (t:Nat) {E:Env} {res:AV} (hE:PureE Try.prog 34 res E) (ho:AllP [(decide ((t:Int)<(rows.length:Int)))=false])
 (hr:AvLe (.tup [.int .i64 (-1),.int .i64 (-1),.int .i64 0]) res):G Try.prog E (f34K2 Try.prog) (f34S2 c rows t ) :=
 end_stepL (n:=400) (evs:=[.b false]) (obs:=_) hE Try.func34 mixed (by kernel_rfl) ho hr
theorem f34W2 (c:Cir) (rows:(List (List Spt))) (t:Nat) {E:Env} {rv:(Int × Int × Int)} (hE:PureE Try.prog 34 (.tup [.int .i64 rv.1,.int .i64 rv.2.1,.int .i64 rv.2.2]) E)
 (h:(((t:Int)<(rows.length:Int)→f34G3 E c rows t 0)∧(¬ ((t:Int)<(rows.length:Int))→rv=((-1),(-1),0)))):f34G2 E c rows t:=by
 rcases Bool.eq_false_or_eq_true (decide ((t:Int)<(rows.length:Int))) with hc0 | hc0
 · have h:=h.1 (of_decide_eq_true hc0)
   exact p34_2_0 c rows t hE ⟨hc0,trivial⟩ h
 · have h:=h.2 (of_decide_eq_false hc0)
   exact p34_2_1 c rows t hE ⟨hc0,trivial⟩ (AvLe.of_eq (by rw [h]; try rfl))
theorem p34_3_0 (c:Cir) (rows:(List (List Spt))) (t:Nat) (i:Nat) (le:(List Spt)) (se:Spt) (be:Bk) {E:Env} {rv:AV} (hE:PureE Try.prog 34 rv E) (ho:AllP [0≤(t:Int)∧(t:Int)<(rows.length:Int),(((rowLs rowSpt) rows).drop (0+(Int.toNat (t:Int))*1)).take 1=[.rsl (rowSpt le) 0 le.length],(decide ((i:Int)<(le.length:Int)))=true,0≤(t:Int)∧(t:Int)<(rows.length:Int),(((rowLs rowSpt) rows).drop (0+(Int.toNat (t:Int))*1)).take 1=[.rsl (rowSpt le) 0 le.length],0≤(i:Int)∧(i:Int)<(le.length:Int),((rowSpt le).drop (0+(Int.toNat (i:Int))*3)).take 3=(z34_3 se),3≤3,se.opn=true,0≤se.block∧se.block<(c.blocks.length:Int),((rowBk c.blocks).drop ((0+(Int.toNat se.block)*4)+0)).take 1=[.int .i64 be.time]])
 (hg:G Try.prog E (f34K4 Try.prog) ⟨((z34_2 rows)++jj 8 ([.int .i64 (t:Int),.int .i64 (i:Int),.ptr 1 0 0,.bool (decide (se.ran<be.time)),.int .i64 0]++Js 127)),[⟨true,0,1,true,(z34_1 c),false⟩,⟨true,0,1,true,(z34_3 se),false⟩]⟩):G Try.prog E (f34K3 Try.prog) (f34S3 c rows t i ) :=
 segC_step (n:=400) (ds:=[]) (cs:=[]) (live:=[1,2,11,12,13,14,15]) (m:=2) (evs:=[.ld (.rsl (rowSpt le) 0 le.length),.b true,.ld (.rsl (rowSpt le) 0 le.length),.ld (.agg [.int .i64 se.block,.int .i64 se.ran,.bool se.opn]),.b true,.auto,.auto,.auto,.ld (.int .i64 be.time),.stop]) (obs:=_) hE.2.1 (hE.nogh _) mixed (by kernel_rfl) ho hg
theorem p34_3_1 (c:Cir) (rows:(List (List Spt))) (t:Nat) (i:Nat) (le:(List Spt)) (se:Spt) {E:Env} {rv:AV} (hE:PureE Try.prog 34 rv E) (ho:AllP [0≤(t:Int)∧(t:Int)<(rows.length:Int),(((rowLs rowSpt) rows).drop (0+(Int.toNat (t:Int))*1)).take 1=[.rsl (rowSpt le) 0 le.length],(decide ((i:Int)<(le.length:Int)))=true,0≤(t:Int)∧(t:Int)<(rows.length:Int),(((rowLs rowSpt) rows).drop (0+(Int.toNat (t:Int))*1)).take 1=[.rsl (rowSpt le) 0 le.length],0≤(i:Int)∧(i:Int)<(le.length:Int),((rowSpt le).drop (0+(Int.toNat (i:Int))*3)).take 3=(z34_3 se),3≤3,se.opn=false])
 (hg:G Try.prog E (f34K4 Try.prog) ⟨((z34_2 rows)++jj 8 ([.int .i64 (t:Int),.int .i64 (i:Int),.ptr 1 0 0,.bool false,.int .i64 0]++Js 127)),[⟨true,0,1,true,(z34_1 c),false⟩,⟨true,0,1,true,(z34_3 se),false⟩]⟩):G Try.prog E (f34K3 Try.prog) (f34S3 c rows t i ) :=
 segC_step (n:=400) (ds:=[]) (cs:=[]) (live:=[1,2,11,12,13,14,15]) (m:=2) (evs:=[.ld (.rsl (rowSpt le) 0 le.length),.b true,.ld (.rsl (rowSpt le) 0 le.length),.ld (.agg [.int .i64 se.block,.int .i64 se.ran,.bool se.opn]),.b false,.stop]) (obs:=_) hE.2.1 (hE.nogh _) mixed (by kernel_rfl) ho hg
theorem p34_3_2 (c:Cir) (rows:(List (List Spt))) (t:Nat) (i:Nat) (le:(List Spt)) {E:Env} {rv:AV} (hE:PureE Try.prog 34 rv E) (ho:AllP [0≤(t:Int)∧(t:Int)<(rows.length:Int),(((rowLs rowSpt) rows).drop (0+(Int.toNat (t:Int))*1)).take 1=[.rsl (rowSpt le) 0 le.length],(decide ((i:Int)<(le.length:Int)))=false,InR .i64 ((t:Int)+1)])
 (hg:G Try.prog E (f34K2 Try.prog) ⟨((z34_2 rows)++jj 8 ([.int .i64 ((t:Int)+1)]++Js 131)),[⟨true,0,1,true,(z34_1 c),false⟩]⟩):G Try.prog E (f34K3 Try.prog) (f34S3 c rows t i ) :=
 segC_step (n:=400) (ds:=[]) (cs:=[]) (live:=[1,2,11]) (m:=1) (evs:=[.ld (.rsl (rowSpt le) 0 le.length),.b false,.stop]) (obs:=_) hE.2.1 (hE.nogh _) mixed (by kernel_rfl) ho hg
theorem f34W3 (c:Cir) (rows:(List (List Spt))) (t:Nat) (i:Nat) {E:Env} {rv:(Int × Int × Int)} (hE:PureE Try.prog 34 (.tup [.int .i64 rv.1,.int .i64 rv.2.1,.int .i64 rv.2.2]) E)
 (h:(∃ le:(List Spt),rows[t]?=some le∧(((i:Int)<(le.length:Int)→(∃ se:Spt,le[i]?=some se∧((se.opn=true→(0≤se.block∧(∃ be:Bk,c.blocks[Int.toNat se.block]?=some be∧f34G4 E c rows (decide (se.ran<be.time)) se.block se.ran se.opn t 0 i)))∧(se.opn=false→f34G4 E c rows false se.block se.ran se.opn t 0 i))))∧(¬ ((i:Int)<(le.length:Int))→((-9223372036854775808≤(t:Int)+1∧(t:Int)+1≤9223372036854775807)∧f34G2 E c rows (t+1)))))):f34G3 E c rows t i:=by
 obtain ⟨le,h1,h⟩:=h
 rcases Bool.eq_false_or_eq_true (decide ((i:Int)<(le.length:Int))) with hc0 | hc0
 · have h:=h.1 (of_decide_eq_true hc0)
   obtain ⟨se,h2,h⟩:=h
   rcases Bool.eq_false_or_eq_true se.opn with hc1 | hc1
   · have h:=h.1 hc1
     obtain ⟨h4,h⟩:=h
     obtain ⟨be,h3,h⟩:=h
     exact p34_3_0 c rows t i le se be hE ⟨(idx_ok h1),(row_part (cLs rowSpt) (s:=1) (k:=0) (m:=1) (fun _=>rfl) (by decide) h1),hc0,(idx_ok h1),(row_part (cLs rowSpt) (s:=1) (k:=0) (m:=1) (fun _=>rfl) (by decide) h1),(idx_ok h2),(row_part cSpt (s:=3) (k:=0) (m:=3) (fun _=>rfl) (by decide) h2),(by decide),hc1,(idx_ok' h4 h3),(row_part cBk (s:=4) (k:=0) (m:=1) (fun _=>rfl) (by decide) h3),trivial⟩ h
   · have h:=h.2 hc1
     exact p34_3_1 c rows t i le se hE ⟨(idx_ok h1),(row_part (cLs rowSpt) (s:=1) (k:=0) (m:=1) (fun _=>rfl) (by decide) h1),hc0,(idx_ok h1),(row_part (cLs rowSpt) (s:=1) (k:=0) (m:=1) (fun _=>rfl) (by decide) h1),(idx_ok h2),(row_part cSpt (s:=3) (k:=0) (m:=3) (fun _=>rfl) (by decide) h2),(by decide),hc1,trivial⟩ h
 · have h:=h.2 (of_decide_eq_false hc0)
   obtain ⟨q4_1,h⟩:=h
   exact p34_3_2 c rows t i le hE ⟨(idx_ok h1),(row_part (cLs rowSpt) (s:=1) (k:=0) (m:=1) (fun _=>rfl) (by decide) h1),hc0,q4_1,trivial⟩ h
theorem p34_4_0 (c:Cir) (rows:(List (List Spt))) (bad:Bool) (v1_0:Int) (v1_1:Int) (v1_2:Bool) (t:Nat) (k:Nat) (i:Nat) (le:(List Spt)) {E:Env} {rv:AV} (hE:PureE Try.prog 34 rv E) (ho:AllP [0≤(t:Int)∧(t:Int)<(rows.length:Int),(((rowLs rowSpt) rows).drop (0+(Int.toNat (t:Int))*1)).take 1=[.rsl (rowSpt le) 0 le.length],(decide ((k:Int)<(le.length:Int)))=true,bad=true,InR .i64 ((k:Int)+1)])
 (hg:G Try.prog E (f34K4 Try.prog) ⟨((z34_2 rows)++jj 8 ([.int .i64 (t:Int),.int .i64 (i:Int),.ptr 1 0 0,.bool true,.int .i64 ((k:Int)+1)]++Js 127)),(z34_4 c v1_0 v1_1 v1_2)⟩):G Try.prog E (f34K4 Try.prog) (f34S4 c rows bad v1_0 v1_1 v1_2 t k i ) :=
 segC_step (n:=400) (ds:=[]) (cs:=[]) (live:=[1,2,11,12,13,14,15]) (m:=2) (evs:=[.ld (.rsl (rowSpt le) 0 le.length),.b true,.b true,.stop]) (obs:=_) hE.2.1 (hE.nogh _) mixed (by kernel_rfl) ho hg
theorem p34_4_1 (c:Cir) (rows:(List (List Spt))) (bad:Bool) (v1_0:Int) (v1_1:Int) (v1_2:Bool) (t:Nat) (k:Nat) (i:Nat) (le:(List Spt)) (se:Spt) {E:Env} {rv:AV} (hE:PureE Try.prog 34 rv E) (ho:AllP [0≤(t:Int)∧(t:Int)<(rows.length:Int),(((rowLs rowSpt) rows).drop (0+(Int.toNat (t:Int))*1)).take 1=[.rsl (rowSpt le) 0 le.length],(decide ((k:Int)<(le.length:Int)))=true,bad=false,((k:Int) != (i:Int))=true,0≤(t:Int)∧(t:Int)<(rows.length:Int),(((rowLs rowSpt) rows).drop (0+(Int.toNat (t:Int))*1)).take 1=[.rsl (rowSpt le) 0 le.length],0≤(k:Int)∧(k:Int)<(le.length:Int),((rowSpt le).drop ((0+(Int.toNat (k:Int))*3)+0)).take 1=[.int .i64 se.block],InR .i64 ((k:Int)+1)])
 (hg:G Try.prog E (f34K4 Try.prog) ⟨((z34_2 rows)++jj 8 ([.int .i64 (t:Int),.int .i64 (i:Int),.ptr 1 0 0,.bool (se.block == v1_0),.int .i64 ((k:Int)+1)]++Js 127)),(z34_4 c v1_0 v1_1 v1_2)⟩):G Try.prog E (f34K4 Try.prog) (f34S4 c rows bad v1_0 v1_1 v1_2 t k i ) :=
 segC_step (n:=400) (ds:=[]) (cs:=[]) (live:=[1,2,11,12,13,14,15]) (m:=2) (evs:=[.ld (.rsl (rowSpt le) 0 le.length),.b true,.b false,.b true,.ld (.rsl (rowSpt le) 0 le.length),.ld (.int .i64 se.block),.stop]) (obs:=_) hE.2.1 (hE.nogh _) mixed (by kernel_rfl) ho hg
theorem p34_4_2 (c:Cir) (rows:(List (List Spt))) (bad:Bool) (v1_0:Int) (v1_1:Int) (v1_2:Bool) (t:Nat) (k:Nat) (i:Nat) (le:(List Spt)) {E:Env} {rv:AV} (hE:PureE Try.prog 34 rv E) (ho:AllP [0≤(t:Int)∧(t:Int)<(rows.length:Int),(((rowLs rowSpt) rows).drop (0+(Int.toNat (t:Int))*1)).take 1=[.rsl (rowSpt le) 0 le.length],(decide ((k:Int)<(le.length:Int)))=true,bad=false,((k:Int) != (i:Int))=false,InR .i64 ((k:Int)+1)])
 (hg:G Try.prog E (f34K4 Try.prog) ⟨((z34_2 rows)++jj 8 ([.int .i64 (t:Int),.int .i64 (i:Int),.ptr 1 0 0,.bool false,.int .i64 ((k:Int)+1)]++Js 127)),(z34_4 c v1_0 v1_1 v1_2)⟩):G Try.prog E (f34K4 Try.prog) (f34S4 c rows bad v1_0 v1_1 v1_2 t k i ) :=
 segC_step (n:=400) (ds:=[]) (cs:=[]) (live:=[1,2,11,12,13,14,15]) (m:=2) (evs:=[.ld (.rsl (rowSpt le) 0 le.length),.b true,.b false,.b false,.stop]) (obs:=_) hE.2.1 (hE.nogh _) mixed (by kernel_rfl) ho hg
theorem p34_4_3 (c:Cir) (rows:(List (List Spt))) (bad:Bool) (v1_0:Int) (v1_1:Int) (v1_2:Bool) (t:Nat) (k:Nat) (i:Nat) (le:(List Spt)) {E:Env} {res:AV} (hE:PureE Try.prog 34 res E) (ho:AllP [0≤(t:Int)∧(t:Int)<(rows.length:Int),(((rowLs rowSpt) rows).drop (0+(Int.toNat (t:Int))*1)).take 1=[.rsl (rowSpt le) 0 le.length],(decide ((k:Int)<(le.length:Int)))=false,bad=true])
 (hr:AvLe (.tup [.int .i64 (t:Int),.int .i64 (i:Int),.int .i64 0]) res):G Try.prog E (f34K4 Try.prog) (f34S4 c rows bad v1_0 v1_1 v1_2 t k i ) :=
 end_stepL (n:=400) (evs:=[.ld (.rsl (rowSpt le) 0 le.length),.b false,.b true]) (obs:=_) hE Try.func34 mixed (by kernel_rfl) ho hr
theorem p34_4_4 (c:Cir) (rows:(List (List Spt))) (bad:Bool) (v1_0:Int) (v1_1:Int) (v1_2:Bool) (t:Nat) (k:Nat) (i:Nat) (le:(List Spt)) {E:Env} {rv:AV} (hE:PureE Try.prog 34 rv E) (ho:AllP [0≤(t:Int)∧(t:Int)<(rows.length:Int),(((rowLs rowSpt) rows).drop (0+(Int.toNat (t:Int))*1)).take 1=[.rsl (rowSpt le) 0 le.length],(decide ((k:Int)<(le.length:Int)))=false,bad=false,InR .i64 ((i:Int)+1)])
 (hg:G Try.prog E (f34K3 Try.prog) ⟨((z34_2 rows)++jj 8 ([.int .i64 (t:Int),.int .i64 ((i:Int)+1)]++Js 130)),[⟨true,0,1,true,(z34_1 c),false⟩]⟩):G Try.prog E (f34K4 Try.prog) (f34S4 c rows bad v1_0 v1_1 v1_2 t k i ) :=
 segC_step (n:=400) (ds:=[]) (cs:=[]) (live:=[1,2,11,12]) (m:=1) (evs:=[.ld (.rsl (rowSpt le) 0 le.length),.b false,.b false,.stop]) (obs:=_) hE.2.1 (hE.nogh _) mixed (by kernel_rfl) ho hg
theorem f34W4 (c:Cir) (rows:(List (List Spt))) (bad:Bool) (v1_0:Int) (v1_1:Int) (v1_2:Bool) (t:Nat) (k:Nat) (i:Nat) {E:Env} {rv:(Int × Int × Int)} (hE:PureE Try.prog 34 (.tup [.int .i64 rv.1,.int .i64 rv.2.1,.int .i64 rv.2.2]) E)
 (h:(∃ le:(List Spt),rows[t]?=some le∧(((k:Int)<(le.length:Int)→((bad=true→((-9223372036854775808≤(k:Int)+1∧(k:Int)+1≤9223372036854775807)∧f34G4 E c rows true v1_0 v1_1 v1_2 t (k+1) i))∧(bad=false→((¬ ((k:Int)=(i:Int))→(∃ se:Spt,le[k]?=some se∧((-9223372036854775808≤(k:Int)+1∧(k:Int)+1≤9223372036854775807)∧f34G4 E c rows (se.block == v1_0) v1_0 v1_1 v1_2 t (k+1) i)))∧((k:Int)=(i:Int)→((-9223372036854775808≤(k:Int)+1∧(k:Int)+1≤9223372036854775807)∧f34G4 E c rows false v1_0 v1_1 v1_2 t (k+1) i))))))∧(¬ ((k:Int)<(le.length:Int))→((bad=true→rv=((t:Int),(i:Int),0))∧(bad=false→((-9223372036854775808≤(i:Int)+1∧(i:Int)+1≤9223372036854775807)∧f34G3 E c rows t (i+1)))))))):f34G4 E c rows bad v1_0 v1_1 v1_2 t k i:=by
 obtain ⟨le,h1,h⟩:=h
 rcases Bool.eq_false_or_eq_true (decide ((k:Int)<(le.length:Int))) with hc0 | hc0
 · have h:=h.1 (of_decide_eq_true hc0)
   rcases Bool.eq_false_or_eq_true bad with hc1 | hc1
   · have h:=h.1 hc1
     obtain ⟨q5_2,h⟩:=h
     exact p34_4_0 c rows bad v1_0 v1_1 v1_2 t k i le hE ⟨(idx_ok h1),(row_part (cLs rowSpt) (s:=1) (k:=0) (m:=1) (fun _=>rfl) (by decide) h1),hc0,hc1,q5_2,trivial⟩ h
   · have h:=h.2 hc1
     rcases Bool.eq_false_or_eq_true ((k:Int) != (i:Int)) with hc2 | hc2
     · have h:=h.1 (bneT hc2)
       obtain ⟨se,h2,h⟩:=h
       obtain ⟨q11_3,h⟩:=h
       exact p34_4_1 c rows bad v1_0 v1_1 v1_2 t k i le se hE ⟨(idx_ok h1),(row_part (cLs rowSpt) (s:=1) (k:=0) (m:=1) (fun _=>rfl) (by decide) h1),hc0,hc1,hc2,(idx_ok h1),(row_part (cLs rowSpt) (s:=1) (k:=0) (m:=1) (fun _=>rfl) (by decide) h1),(idx_ok h2),(row_part cSpt (s:=3) (k:=0) (m:=1) (fun _=>rfl) (by decide) h2),q11_3,trivial⟩ h
     · have h:=h.2 (bneF hc2)
       obtain ⟨q6_3,h⟩:=h
       exact p34_4_2 c rows bad v1_0 v1_1 v1_2 t k i le hE ⟨(idx_ok h1),(row_part (cLs rowSpt) (s:=1) (k:=0) (m:=1) (fun _=>rfl) (by decide) h1),hc0,hc1,hc2,q6_3,trivial⟩ h
 · have h:=h.2 (of_decide_eq_false hc0)
   rcases Bool.eq_false_or_eq_true bad with hc1 | hc1
   · have h:=h.1 hc1
     exact p34_4_3 c rows bad v1_0 v1_1 v1_2 t k i le hE ⟨(idx_ok h1),(row_part (cLs rowSpt) (s:=1) (k:=0) (m:=1) (fun _=>rfl) (by decide) h1),hc0,hc1,trivial⟩ (AvLe.of_eq (by rw [h]; try rfl))
   · have h:=h.2 hc1
     obtain ⟨q5_2,h⟩:=h
     exact p34_4_4 c rows bad v1_0 v1_1 v1_2 t k i le hE ⟨(idx_ok h1),(row_part (cLs rowSpt) (s:=1) (k:=0) (m:=1) (fun _=>rfl) (by decide) h1),hc0,hc1,q5_2,trivial⟩ h
theorem crashK_bad {c:Cir} {rows:List (List Spt)} (h0:checkC c=0) (h1:¬ rows.length > 500) (h2:rows.any (rowBad c)=true):crashK c rows=(0,0,1):=by rw [crashK,if_pos h0,if_neg h1,if_pos h2]
theorem crashK_some {c:Cir} {rows:List (List Spt)} {t:Nat} (h0:checkC c=0) (h1:¬ rows.length > 500) (h2:rows.any (rowBad c)=false) (ht:t<rows.length) (hc:(crashI c (rows.getD t [])).2≥0) (hp:∀ j,j<t→¬ (crashI c (rows.getD j [])).2≥0):crashK c rows=((t:Int),(crashI c (rows.getD t [])).2,0):=by
 rw [crashK,if_pos h0,if_neg h1,if_neg (by rw [h2]; simp),crashT,firstN_some ht (decide_eq_true hc) fun j hj=>decide_eq_false (hp j hj)]
theorem crashK_none {c:Cir} {rows:List (List Spt)} (h0:checkC c=0) (h1:¬ rows.length > 500) (h2:rows.any (rowBad c)=false) (hp:∀ j,j<rows.length→¬ (crashI c (rows.getD j [])).2≥0):crashK c rows=(-1,-1,0):=by
 rw [crashK,if_pos h0,if_neg h1,if_neg (by rw [h2]; simp),crashT,firstN_none fun j hj=>decide_eq_false (hp j hj)]
theorem crashK_ok (c:Cir) (rows:List (List Spt)) (h:c.blocks.length≤9223372036854775807∧c.cars.length≤9223372036854775807):Pure Try.prog 33 [.agg [.rsl (rowBk c.blocks) 0 c.blocks.length,.rsl (rowI c.cars) 0 c.cars.length],.rsl (rowLs rowSpt rows) 0 rows.length] (.tup [.int .i64 (crashK c rows).1,.int .i64 (crashK c rows).2.1,.int .i64 (crashK c rows).2.2]):=pure_of Try.func33 f33b fun E hE=>by
 refine f33W c rows (rv:=crashK c rows) hE ⟨h,fun h0=>by rw [crashK,if_neg h0],fun h0=>⟨fun h1=>by rw [crashK,if_pos h0,if_pos (by omega)],fun h1=>?_⟩⟩
 have hk:=chk_in h0
 have hnb:=hk.nb
 have hnc:=hk.nc
 have h1:¬ rows.length > 500:=by omega
 refine any_from (rowBad c) rows (f33G0 E c rows) (crashK c rows=(0,0,1)) (fun i r hi hr y n=>?_) (fun ha=>crashK_bad h0 h1 ha) (fun ha=>?_)
 · refine f33W0 c rows i (rv:=crashK c rows) hE ⟨fun _=>⟨r,hr,fun e1=>y ?_,fun e1=>⟨⟨h.1,by omega⟩,fun e2=>y ?_,fun e2=>⟨by omega,n ?_⟩⟩⟩,fun h=>by omega⟩
   · rw [rowBad,decide_eq_false (by omega)]; rfl
   · rw [rowBad,e2,Bool.or_true]
   · rw [rowBad,e2,decide_eq_true (by omega)]; rfl
 · refine f33W0 c rows _ (rv:=crashK c rows) hE ⟨fun h=>by omega,fun _=>?_⟩
   have key:∀ (d k:Nat),k+d=rows.length→(∀ j,j<k→¬ (crashI c (rows.getD j [])).2≥0)→f33G1 E c rows k:=by
    intro d
    induction d with
    | zero=>intro k hk hp; exact f33W1 c rows k (rv:=crashK c rows) hE ⟨fun h=>by omega,fun _=>crashK_none h0 h1 ha fun j hj=>hp j (by omega)⟩
    | succ d ih =>
     intro k hkd hp
     have hx:rows[k]?=some (rows.getD k []):=getD_some (by omega)
     have hb:=List.any_eq_false.1 ha _ (List.mem_of_getElem? hx)
     have hbf:rowBad c (rows.getD k [])=false:=Bool.eq_false_iff.2 hb
     obtain ⟨r1,r2⟩:=rowBad_no hbf
     exact f33W1 c rows k (rv:=crashK c rows) hE ⟨fun _=>⟨_,hx,⟨fun x hx=>(spotOk_in (r2 x hx)).1,by omega⟩,fun hc=>crashK_some h0 h1 ha (by omega) hc hp,fun hc=>⟨by omega,ih (k+1) (by omega) fun j hj=>by
      rcases Nat.lt_or_ge j k with h2 | h2
      · exact hp j h2
      · rw [show j=k by omega]; exact hc⟩⟩,fun h=>by omega⟩
   exact key rows.length 0 (by omega) (fun j hj=>by omega)
theorem crashR_ok (c:Cir) (rows:List (List Spt)) (h:c.blocks.length≤9223372036854775807∧c.cars.length≤9223372036854775807):Pure Try.prog 34 [.agg [.rsl (rowBk c.blocks) 0 c.blocks.length,.rsl (rowI c.cars) 0 c.cars.length],.rsl (rowLs rowSpt rows) 0 rows.length] (.tup [.int .i64 (crashK c rows).1,.int .i64 (crashK c rows).2.1,.int .i64 (crashK c rows).2.2]):=pure_of Try.func34 f34b fun E hE=>by
 refine f34W c rows (rv:=crashK c rows) hE ⟨h,fun h0=>by rw [crashK,if_neg h0],fun h0=>⟨fun h1=>by rw [crashK,if_pos h0,if_pos (by omega)],fun h1=>?_⟩⟩
 have hk:=chk_in h0
 have hnb:=hk.nb
 have hnc:=hk.nc
 have h1:¬ rows.length > 500:=by omega
 refine any_from (rowBad c) rows (f34G0 E c rows) (crashK c rows=(0,0,1)) (fun t r hi hr y n=>?_) (fun ha=>crashK_bad h0 h1 ha) (fun ha=>?_)
 · refine f34W0 c rows t (rv:=crashK c rows) hE ⟨fun _=>⟨r,hr,fun e1=>y ?_,fun e1=>?_⟩,fun h=>by omega⟩
   · rw [rowBad,decide_eq_false (by omega)]; rfl
   · have e1:r.length=c.cars.length:=by omega
     refine any_from (fun x=>!spotOk c x) r (fun i=>f34G1 E c rows i t) (crashK c rows=(0,0,1)) (fun i x hi hx y2 n2=>?_) (fun ha=>y ?_) (fun ha=>?_)
     · refine f34W1 c rows i t (rv:=crashK c rows) hE ⟨r,hr,fun _=>⟨x,hx,by omega,fun q=>y2 ?_,fun q=>?_⟩,fun h=>by omega⟩
       · simp only [spotOk,q]; rfl
       · have q1:=within_iff.1 q
         have hin:InC c x.block:=⟨q1.1,by omega⟩
         refine ⟨q1.1,_,bk_at hin,fun q2=>y2 ?_,fun q2=>⟨by omega,n2 ?_⟩⟩
         · simp only [spotOk,q,q2]; rfl
         · simp only [spotOk,q,q2]; rfl
     · rw [rowBad,ha,Bool.or_true]
     · exact f34W1 c rows _ t (rv:=crashK c rows) hE ⟨r,hr,fun h=>by omega,fun _=>⟨by omega,n (by rw [rowBad,ha,decide_eq_true e1]; rfl)⟩⟩
 · refine f34W0 c rows _ (rv:=crashK c rows) hE ⟨fun h=>by omega,fun _=>?_⟩
   have key:∀ (d t:Nat),t+d=rows.length→(∀ j,j<t→¬ (crashI c (rows.getD j [])).2≥0)→f34G2 E c rows t:=by
    intro d
    induction d with
    | zero=>intro t hk hp; exact f34W2 c rows t (rv:=crashK c rows) hE ⟨fun h=>by omega,fun _=>crashK_none h0 h1 ha fun j hj=>hp j (by omega)⟩
    | succ d ih =>
     intro t htd hp
     have hr:rows[t]?=some (rows.getD t []):=getD_some (by omega)
     have hb:=List.any_eq_false.1 ha _ (List.mem_of_getElem? hr)
     have nx:=fun (hc:¬ (crashI c (rows.getD t [])).2≥0)=>ih (t+1) (by omega) fun j hj=>by
      rcases Nat.lt_or_ge j t with h2 | h2
      · exact hp j h2
      · rw [show j=t by omega]; exact hc
     have yes:=fun hc=>crashK_some (t:=t) h0 h1 ha (by omega) hc hp
     generalize rows.getD t []=r at hr hb nx yes
     obtain ⟨r1,r2⟩:=rowBad_no (by simpa using hb)
     have outer:∀ (e i:Nat),i+e=r.length→(∀ j,j<i→badB c r j=false)→f34G3 E c rows t i:=by
      intro e
      induction e with
      | zero=>intro i hi hpi; exact f34W3 c rows t i (rv:=crashK c rows) hE ⟨r,hr,fun h=>by omega,fun _=>⟨by omega,nx (by rw [crash_none (by rw [show r.length=i by omega]; exact hpi)]; simp)⟩⟩
      | succ e ihe =>
       intro i hi hpi
       have hx:r[i]?=some (r.getD i dS):=getD_some (by omega)
       have hin:=(spotOk_in (r2 _ (List.mem_of_getElem? hx))).1
       have inner:∀ (f k:Nat) (bad:Bool),k+f=r.length→bad=(((r.getD i dS).opn && decide ((r.getD i dS).ran<(bkAt c (r.getD i dS).block).time)) || (List.range k).any (sharesB r i (r.getD i dS)))→f34G4 E c rows bad (r.getD i dS).block (r.getD i dS).ran (r.getD i dS).opn t k i:=by
        intro f
        induction f with
        | zero =>
         intro k bad hk hbad
         have hbb:badB c r i=bad:=by rw [hbad,badB,show r.length=k by omega,Bool.or_comm]
         refine f34W4 c rows bad _ _ _ t k i (rv:=crashK c rows) hE ⟨r,hr,fun h=>by omega,fun _=>⟨fun hb=>?_,fun hb=>⟨by omega,ihe (i+1) (by omega) fun j hj=>?_⟩⟩⟩
         · have:=crash_some (c:=c) (by omega) (hbb.trans hb) hpi
           rw [yes (by rw [this]; simp),this]
         · rcases Nat.lt_or_ge j i with h2 | h2
           · exact hpi j h2
           · rw [show j=i by omega,hbb]; exact hb
        | succ f ihf =>
         intro k bad hk hbad
         have hy:r[k]?=some (r.getD k dS):=getD_some (by omega)
         have nk:=fun b (h:b=(bad || sharesB r i (r.getD i dS) k))=>ihf (k+1) b (by omega) (by rw [range_any,← Bool.or_assoc,← hbad]; exact h)
         refine f34W4 c rows bad _ _ _ t k i (rv:=crashK c rows) hE ⟨r,hr,fun _=>⟨fun hb=>⟨by omega,nk true (by rw [hb]; rfl)⟩,fun hb=>⟨fun hki=>⟨_,hy,by omega,nk _ ?_⟩,fun hki=>⟨by omega,nk false ?_⟩⟩⟩,fun h=>by omega⟩
         · rw [hb,sharesB,decide_eq_false (by omega),Bool.false_or,Bool.not_false,Bool.true_and,Bool.beq_comm]
         · rw [hb,sharesB,decide_eq_true (by omega)]; rfl
       refine f34W3 c rows t i (rv:=crashK c rows) hE ⟨r,hr,fun _=>⟨_,hx,fun ho=>⟨hin.1,_,bk_at hin,inner r.length 0 _ (by omega) ?_⟩,fun ho=>inner r.length 0 _ (by omega) ?_⟩,fun h=>by omega⟩
       · rw [ho]; simp
       · rw [ho]; rfl
     exact f34W2 c rows t (rv:=crashK c rows) hE ⟨fun _=>outer r.length 0 (by omega) (fun j hj=>by omega),fun h=>by omega⟩
   exact key rows.length 0 (by omega) (fun j hj=>by omega)
theorem f10b:Try.f10.body=some (bodyAt Try.prog 10):=by kernel_rfl
def f10K0 (P:Program):List Item:=kAt 400 [.code (bodyAt P 10)] [.b false,.stop]
def f10S0 (c:Cir) (rows:(List (List Spt))) (v1:List (List Spt)) (i:Nat) (g1:Nat):St:=⟨([J,.rsl ((rowLs rowSpt) rows) 0 rows.length,.ptr 0 0 0,J,J,.sl 1 g1 0 v1.length 1,.int .i64 (i:Int)]++Js 67),[⟨true,0,1,true,[.rsl (rowBk c.blocks) 0 c.blocks.length,.rsl (rowI c.cars) 0 c.cars.length],false⟩,⟨true,g1,1,true,((rowLs rowSpt) v1),true⟩]⟩
def f10G0 (E:Env) (c:Cir) (rows:(List (List Spt))) (v1:List (List Spt)) (i:Nat):Prop:=∀ g1:Nat,G Try.prog E (f10K0 Try.prog) (f10S0 c rows v1 i g1)
abbrev z10_1 (c:Cir):List AV:=[.rsl (rowBk c.blocks) 0 c.blocks.length,.rsl (rowI c.cars) 0 c.cars.length]
abbrev z10_2 (c:Cir) (rows:(List (List Spt))):AV:=.tup [.int .i64 ((crashK c rows).1),.int .i64 ((crashK c rows).2.1),.int .i64 ((crashK c rows).2.2)]
abbrev z10_3 (c:Cir) (v1:List (List Spt)):AV:=.tup [.int .i64 ((crashK c v1).1),.int .i64 ((crashK c v1).2.1),.int .i64 ((crashK c v1).2.2)]
abbrev z10_4 (c:Cir) (rows:(List (List Spt))):List AV:=[.agg (z10_1 c),.rsl ((rowLs rowSpt) rows) 0 rows.length]
theorem p10_start_0 (c:Cir) (rows:(List (List Spt))) {E:Env} {res:AV} (hE:PureE Try.prog 10 res E) (ho:AllP [PureF Try.prog (.clos 15 [] []) [.agg (z10_1 c)] (.bool (farB c)),(farB c)=true,true=true,PureF Try.prog (.clos 17 [] []) [] (.bool true)])
 (hr:AvLe (.bool true) res):G Try.prog E [.code (bodyAt Try.prog 10)] ⟨(z10_4 c rows)++unds (Try.f10.ntmps - 2),[]⟩ :=
 end_stepL (n:=400) (evs:=[.v (.bool (farB c)),.b true,.b true,.v (.bool true)]) (obs:=_) hE Try.func10 mixed (by kernel_rfl) ho hr
theorem p10_start_1 (c:Cir) (rows:(List (List Spt))) {E:Env} {res:AV} (hE:PureE Try.prog 10 res E) (ho:AllP [PureF Try.prog (.clos 15 [] []) [.agg (z10_1 c)] (.bool (farB c)),(farB c)=false,(decide ((rows.length:Int) > 60))=true,PureF Try.prog (.clos 17 [] []) [] (.bool true)])
 (hr:AvLe (.bool true) res):G Try.prog E [.code (bodyAt Try.prog 10)] ⟨(z10_4 c rows)++unds (Try.f10.ntmps - 2),[]⟩ :=
 end_stepL (n:=400) (evs:=[.v (.bool (farB c)),.b false,.b true,.v (.bool true)]) (obs:=_) hE Try.func10 mixed (by kernel_rfl) ho hr
theorem p10_start_2 (c:Cir) (rows:(List (List Spt))) {E:Env} {rv:AV} (hE:PureE Try.prog 10 rv E) (ho:AllP [PureF Try.prog (.clos 15 [] []) [.agg (z10_1 c)] (.bool (farB c)),(farB c)=false,(decide ((rows.length:Int) > 60))=false])
 (hg:G Try.prog E (f10K0 Try.prog) ⟨([J,.rsl ((rowLs rowSpt) rows) 0 rows.length,.ptr 0 0 0,J,J,.sl 1 0 0 0 1,.int .i64 0]++Js 67),[⟨true,0,1,true,(z10_1 c),false⟩,⟨true,0,1,true,[],true⟩]⟩):G Try.prog E [.code (bodyAt Try.prog 10)] ⟨(z10_4 c rows)++unds (Try.f10.ntmps - 2),[]⟩ :=
 segC_step (n:=400) (ds:=[(5,1)]) (cs:=[]) (live:=[1,2,5,6]) (m:=2) (evs:=[.v (.bool (farB c)),.b false,.b false,.stop]) (obs:=_) hE.2.1 (hE.nogh _) mixed (by kernel_rfl) ho hg
theorem f10W (c:Cir) (rows:(List (List Spt))) {E:Env} {rv:Bool} (hE:PureE Try.prog 10 (.bool rv) E)
 (h:(((farB c)=true→rv=true)∧((farB c)=false→(((rows.length:Int) > 60→rv=true)∧(¬ ((rows.length:Int) > 60)→f10G0 E c rows ([]) 0))))):G Try.prog E [.code (bodyAt Try.prog 10)] ⟨[.agg [.rsl (rowBk c.blocks) 0 c.blocks.length,.rsl (rowI c.cars) 0 c.cars.length],.rsl ((rowLs rowSpt) rows) 0 rows.length]++unds (Try.f10.ntmps - 2),[]⟩:=by
 rcases Bool.eq_false_or_eq_true (farB c) with hc0 | hc0
 · have h:=h.1 hc0
   exact p10_start_0 c rows hE ⟨(pureF_of Try.func15 (by kernel_rfl) f15b (far_ok c)),hc0,rfl,(pureF_of Try.func17 (by kernel_rfl) f17b works_ok),trivial⟩ (AvLe.of_eq (by rw [h]; try rfl))
 · have h:=h.2 hc0
   rcases Bool.eq_false_or_eq_true (decide ((rows.length:Int) > 60)) with hc1 | hc1
   · have h:=h.1 (of_decide_eq_true hc1)
     exact p10_start_1 c rows hE ⟨(pureF_of Try.func15 (by kernel_rfl) f15b (far_ok c)),hc0,hc1,(pureF_of Try.func17 (by kernel_rfl) f17b works_ok),trivial⟩ (AvLe.of_eq (by rw [h]; try rfl))
   · have h:=h.2 (of_decide_eq_false hc1)
     exact p10_start_2 c rows hE ⟨(pureF_of Try.func15 (by kernel_rfl) f15b (far_ok c)),hc0,hc1,trivial⟩ (h 0)
theorem p10_0_0 (c:Cir) (rows:(List (List Spt))) (v1:List (List Spt)) (i:Nat) (g1:Nat) (le:(List Spt)) {E:Env} {res:AV} (hE:PureE Try.prog 10 res E) (ho:AllP [(decide ((i:Int)<(rows.length:Int)))=true,0≤(i:Int)∧(i:Int)<(rows.length:Int),(((rowLs rowSpt) rows).drop (0+(Int.toNat (i:Int))*1)).take 1=[.rsl (rowSpt le) 0 le.length],(decide ((le.length:Int) > 20))=true,PureF Try.prog (.clos 17 [] []) [] (.bool true)])
 (hr:AvLe (.bool true) res):G Try.prog E (f10K0 Try.prog) (f10S0 c rows v1 i g1) :=
 end_stepL (n:=400) (evs:=[.b true,.ld (.rsl (rowSpt le) 0 le.length),.b true,.v (.bool true)]) (obs:=_) hE Try.func10 mixed (by kernel_rfl) ho hr
theorem p10_0_1 (c:Cir) (rows:(List (List Spt))) (v1:List (List Spt)) (i:Nat) (g1:Nat) (le:(List Spt)) {E:Env} {rv:AV} (hE:PureE Try.prog 10 rv E) (ho:AllP [(decide ((i:Int)<(rows.length:Int)))=true,0≤(i:Int)∧(i:Int)<(rows.length:Int),(((rowLs rowSpt) rows).drop (0+(Int.toNat (i:Int))*1)).take 1=[.rsl (rowSpt le) 0 le.length],(decide ((le.length:Int) > 20))=false,0≤(i:Int)∧(i:Int)<(rows.length:Int),(((rowLs rowSpt) rows).drop (0+(Int.toNat (i:Int))*1)).take 1=[.rsl (rowSpt le) 0 le.length],1=1,0=0,0=0,(0+le.length)≤2147483648,((rowSpt le).drop 0).take (le.length*3)=(rowSpt le),(rowSpt le).length=(le.length*3),noRefs (rowSpt le)=true,g1=g1,(0+(v1.length*1))=((rowLs rowSpt) v1).length,(v1.length+1)≤2147483648,0=0,InR .i64 ((i:Int)+1)])
 (hg:G Try.prog E (f10K0 Try.prog) ⟨([J,.rsl ((rowLs rowSpt) rows) 0 rows.length,.ptr 0 0 0,J,J,.sl 1 (g1+1) 0 (v1.length+1) 1,.int .i64 ((i:Int)+1)]++Js 67),[⟨true,0,1,true,(z10_1 c),false⟩,⟨true,(g1+1),1,true,(((rowLs rowSpt) v1)++[.rsl (rowSpt le) 0 (0+le.length)]),true⟩]⟩):G Try.prog E (f10K0 Try.prog) (f10S0 c rows v1 i g1) :=
 segC_step (n:=400) (ds:=[]) (cs:=[]) (live:=[1,2,5,6]) (m:=2) (evs:=[.b true,.ld (.rsl (rowSpt le) 0 le.length),.b false,.ld (.rsl (rowSpt le) 0 le.length),.fz,.cs (rowSpt le),.stop]) (obs:=_) hE.2.1 (hE.nogh _) mixed (by kernel_rfl) ho hg
theorem p10_0_2 (c:Cir) (rows:(List (List Spt))) (v1:List (List Spt)) (i:Nat) (g1:Nat) {E:Env} {res:AV} (hE:PureE Try.prog 10 res E) (ho:AllP [(decide ((i:Int)<(rows.length:Int)))=false,PureF Try.prog (.clos 18 [] []) [.agg (z10_1 c)] (.agg (z10_1 c)),PureF Try.prog (.clos 33 [] []) [.agg (z10_1 c),.rsl ((rowLs rowSpt) v1) 0 v1.length] (z10_3 c v1),g1=g1,PureF Try.prog (.clos 34 [] []) (z10_4 c rows) (z10_2 c rows),((crashK c v1).1 == (crashK c rows).1)=true,((crashK c v1).2.1 == (crashK c rows).2.1)=true,((crashK c v1).2.2 == (crashK c rows).2.2)=true,PureF Try.prog (.clos 17 [] []) [] (.bool true)])
 (hr:AvLe (.bool true) res):G Try.prog E (f10K0 Try.prog) (f10S0 c rows v1 i g1) :=
 end_stepL (n:=400) (evs:=[.b false,.v (.agg [.rsl (rowBk c.blocks) 0 c.blocks.length,.rsl (rowI c.cars) 0 c.cars.length]),.v (.tup [.int .i64 ((crashK c v1).1),.int .i64 ((crashK c v1).2.1),.int .i64 ((crashK c v1).2.2)]),.v (.tup [.int .i64 ((crashK c rows).1),.int .i64 ((crashK c rows).2.1),.int .i64 ((crashK c rows).2.2)]),.b true,.b true,.b true,.v (.bool true)]) (obs:=_) hE Try.func10 mixed (by kernel_rfl) ho hr
theorem p10_0_3 (c:Cir) (rows:(List (List Spt))) (v1:List (List Spt)) (i:Nat) (g1:Nat) {E:Env} {res:AV} (hE:PureE Try.prog 10 res E) (ho:AllP [(decide ((i:Int)<(rows.length:Int)))=false,PureF Try.prog (.clos 18 [] []) [.agg (z10_1 c)] (.agg (z10_1 c)),PureF Try.prog (.clos 33 [] []) [.agg (z10_1 c),.rsl ((rowLs rowSpt) v1) 0 v1.length] (z10_3 c v1),g1=g1,PureF Try.prog (.clos 34 [] []) (z10_4 c rows) (z10_2 c rows),((crashK c v1).1 == (crashK c rows).1)=true,((crashK c v1).2.1 == (crashK c rows).2.1)=true,((crashK c v1).2.2 == (crashK c rows).2.2)=false])
 (hr:AvLe (.bool false) res):G Try.prog E (f10K0 Try.prog) (f10S0 c rows v1 i g1) :=
 end_stepL (n:=400) (evs:=[.b false,.v (.agg [.rsl (rowBk c.blocks) 0 c.blocks.length,.rsl (rowI c.cars) 0 c.cars.length]),.v (.tup [.int .i64 ((crashK c v1).1),.int .i64 ((crashK c v1).2.1),.int .i64 ((crashK c v1).2.2)]),.v (.tup [.int .i64 ((crashK c rows).1),.int .i64 ((crashK c rows).2.1),.int .i64 ((crashK c rows).2.2)]),.b true,.b true,.b false]) (obs:=_) hE Try.func10 mixed (by kernel_rfl) ho hr
theorem p10_0_4 (c:Cir) (rows:(List (List Spt))) (v1:List (List Spt)) (i:Nat) (g1:Nat) {E:Env} {res:AV} (hE:PureE Try.prog 10 res E) (ho:AllP [(decide ((i:Int)<(rows.length:Int)))=false,PureF Try.prog (.clos 18 [] []) [.agg (z10_1 c)] (.agg (z10_1 c)),PureF Try.prog (.clos 33 [] []) [.agg (z10_1 c),.rsl ((rowLs rowSpt) v1) 0 v1.length] (z10_3 c v1),g1=g1,PureF Try.prog (.clos 34 [] []) (z10_4 c rows) (z10_2 c rows),((crashK c v1).1 == (crashK c rows).1)=true,((crashK c v1).2.1 == (crashK c rows).2.1)=false,false=false])
 (hr:AvLe (.bool false) res):G Try.prog E (f10K0 Try.prog) (f10S0 c rows v1 i g1) :=
 end_stepL (n:=400) (evs:=[.b false,.v (.agg [.rsl (rowBk c.blocks) 0 c.blocks.length,.rsl (rowI c.cars) 0 c.cars.length]),.v (.tup [.int .i64 ((crashK c v1).1),.int .i64 ((crashK c v1).2.1),.int .i64 ((crashK c v1).2.2)]),.v (.tup [.int .i64 ((crashK c rows).1),.int .i64 ((crashK c rows).2.1),.int .i64 ((crashK c rows).2.2)]),.b true,.b false,.b false]) (obs:=_) hE Try.func10 mixed (by kernel_rfl) ho hr
theorem p10_0_5 (c:Cir) (rows:(List (List Spt))) (v1:List (List Spt)) (i:Nat) (g1:Nat) {E:Env} {res:AV} (hE:PureE Try.prog 10 res E) (ho:AllP [(decide ((i:Int)<(rows.length:Int)))=false,PureF Try.prog (.clos 18 [] []) [.agg (z10_1 c)] (.agg (z10_1 c)),PureF Try.prog (.clos 33 [] []) [.agg (z10_1 c),.rsl ((rowLs rowSpt) v1) 0 v1.length] (z10_3 c v1),g1=g1,PureF Try.prog (.clos 34 [] []) (z10_4 c rows) (z10_2 c rows),((crashK c v1).1 == (crashK c rows).1)=false,false=false,false=false])
 (hr:AvLe (.bool false) res):G Try.prog E (f10K0 Try.prog) (f10S0 c rows v1 i g1) :=
 end_stepL (n:=400) (evs:=[.b false,.v (.agg [.rsl (rowBk c.blocks) 0 c.blocks.length,.rsl (rowI c.cars) 0 c.cars.length]),.v (.tup [.int .i64 ((crashK c v1).1),.int .i64 ((crashK c v1).2.1),.int .i64 ((crashK c v1).2.2)]),.v (.tup [.int .i64 ((crashK c rows).1),.int .i64 ((crashK c rows).2.1),.int .i64 ((crashK c rows).2.2)]),.b false,.b false,.b false]) (obs:=_) hE Try.func10 mixed (by kernel_rfl) ho hr
theorem f10W0 (c:Cir) (rows:(List (List Spt))) (v1:List (List Spt)) (i:Nat) {E:Env} {rv:Bool} (hE:PureE Try.prog 10 (.bool rv) E)
 (h:(((i:Int)<(rows.length:Int)→(∃ le:(List Spt),rows[i]?=some le∧(((le.length:Int) > 20→rv=true)∧(¬ ((le.length:Int) > 20)→((0+le.length)≤2147483648∧((v1.length+1)≤2147483648∧((-9223372036854775808≤(i:Int)+1∧(i:Int)+1≤9223372036854775807)∧f10G0 E c rows (v1++[le]) (i+1))))))))∧(¬ ((i:Int)<(rows.length:Int))→((c.blocks.length≤2147483648∧c.cars.length≤2147483648)∧((c.blocks.length≤9223372036854775807∧c.cars.length≤9223372036854775807)∧((c.blocks.length≤9223372036854775807∧c.cars.length≤9223372036854775807)∧(((crashK c v1).1=(crashK c rows).1→(((crashK c v1).2.1=(crashK c rows).2.1→(((crashK c v1).2.2=(crashK c rows).2.2→rv=true)∧(¬ ((crashK c v1).2.2=(crashK c rows).2.2)→rv=false)))∧(¬ ((crashK c v1).2.1=(crashK c rows).2.1)→rv=false)))∧(¬ ((crashK c v1).1=(crashK c rows).1)→rv=false)))))))):f10G0 E c rows v1 i:=by
 intro g1
 rcases Bool.eq_false_or_eq_true (decide ((i:Int)<(rows.length:Int))) with hc0 | hc0
 · have h:=h.1 (of_decide_eq_true hc0)
   obtain ⟨le,h1,h⟩:=h
   rcases Bool.eq_false_or_eq_true (decide ((le.length:Int) > 20)) with hc1 | hc1
   · have h:=h.1 (of_decide_eq_true hc1)
     exact p10_0_0 c rows v1 i g1 le hE ⟨hc0,(idx_ok h1),(row_part (cLs rowSpt) (s:=1) (k:=0) (m:=1) (fun _=>rfl) (by decide) h1),hc1,(pureF_of Try.func17 (by kernel_rfl) f17b works_ok),trivial⟩ (AvLe.of_eq (by rw [h]; try rfl))
   · have h:=h.2 (of_decide_eq_false hc1)
     obtain ⟨h2,h⟩:=h
     obtain ⟨h3,h⟩:=h
     obtain ⟨q18_2,h⟩:=h
     refine p10_0_1 c rows v1 i g1 le hE ⟨hc0,(idx_ok h1),(row_part (cLs rowSpt) (s:=1) (k:=0) (m:=1) (fun _=>rfl) (by decide) h1),hc1,(idx_ok h1),(row_part (cLs rowSpt) (s:=1) (k:=0) (m:=1) (fun _=>rfl) (by decide) h1),rfl,rfl,rfl,h2,(by exact row_all cSpt (fun _=>rfl) le),(by exact row_len cSpt (fun _=>rfl) le),(by exact row_nr cSpt (fun _=>rfl) le),rfl,(by have hx:=row_len (cLs rowSpt) (s:=1) (fun _=>rfl) v1; simp only [rowLs] at hx ⊢; rw [hx]; simp),h3,rfl,q18_2,trivial⟩ ?_
     rw [(show (rowLs rowSpt) v1++[.rsl (rowSpt le) 0 (0+le.length)]=(rowLs rowSpt) (v1++[le]) from (by rw [(show AV.rsl (rowSpt le) 0 (0+le.length)=AV.rsl (rowSpt le) 0 le.length from by rw [show (0+le.length)=le.length from by simp])]; exact (row_app (cLs rowSpt) v1 [le]).symm))]; rw [(show (v1.length+1)=(v1++[le]).length from by simp)]; exact (h (g1+1))
 · have h:=h.2 (of_decide_eq_false hc0)
   obtain ⟨h1,h⟩:=h
   obtain ⟨h2,h⟩:=h
   obtain ⟨h3,h⟩:=h
   rcases Bool.eq_false_or_eq_true ((crashK c v1).1 == (crashK c rows).1) with hc1 | hc1
   · have h:=h.1 (eq_of_beq hc1)
     rcases Bool.eq_false_or_eq_true ((crashK c v1).2.1 == (crashK c rows).2.1) with hc2 | hc2
     · have h:=h.1 (eq_of_beq hc2)
       rcases Bool.eq_false_or_eq_true ((crashK c v1).2.2 == (crashK c rows).2.2) with hc3 | hc3
       · have h:=h.1 (eq_of_beq hc3)
         exact p10_0_2 c rows v1 i g1 hE ⟨hc0,(pureF_of Try.func18 (by kernel_rfl) f18b (copied_ok c h1)),(pureF_of Try.func33 (by kernel_rfl) f33b (crashK_ok c v1 h2)),rfl,(pureF_of Try.func34 (by kernel_rfl) f34b (crashR_ok c rows h3)),hc1,hc2,hc3,(pureF_of Try.func17 (by kernel_rfl) f17b works_ok),trivial⟩ (AvLe.of_eq (by rw [h]; try rfl))
       · have h:=h.2 (ne_of_beq_false hc3)
         exact p10_0_3 c rows v1 i g1 hE ⟨hc0,(pureF_of Try.func18 (by kernel_rfl) f18b (copied_ok c h1)),(pureF_of Try.func33 (by kernel_rfl) f33b (crashK_ok c v1 h2)),rfl,(pureF_of Try.func34 (by kernel_rfl) f34b (crashR_ok c rows h3)),hc1,hc2,hc3,trivial⟩ (AvLe.of_eq (by rw [h]; try rfl))
     · have h:=h.2 (ne_of_beq_false hc2)
       exact p10_0_4 c rows v1 i g1 hE ⟨hc0,(pureF_of Try.func18 (by kernel_rfl) f18b (copied_ok c h1)),(pureF_of Try.func33 (by kernel_rfl) f33b (crashK_ok c v1 h2)),rfl,(pureF_of Try.func34 (by kernel_rfl) f34b (crashR_ok c rows h3)),hc1,hc2,rfl,trivial⟩ (AvLe.of_eq (by rw [h]; try rfl))
   · have h:=h.2 (ne_of_beq_false hc1)
     exact p10_0_5 c rows v1 i g1 hE ⟨hc0,(pureF_of Try.func18 (by kernel_rfl) f18b (copied_ok c h1)),(pureF_of Try.func33 (by kernel_rfl) f33b (crashK_ok c v1 h2)),rfl,(pureF_of Try.func34 (by kernel_rfl) f34b (crashR_ok c rows h3)),hc1,rfl,rfl,trivial⟩ (AvLe.of_eq (by rw [h]; try rfl))
theorem law10_ok (c:Cir) (rows:List (List Spt)) (h:CirQ c):Pure Try.prog 10 [.agg [.rsl (rowBk c.blocks) 0 c.blocks.length,.rsl (rowI c.cars) 0 c.cars.length],.rsl (rowLs rowSpt rows) 0 rows.length] (.bool true):=pure_of Try.func10 f10b fun E hE=>by
 refine f10W c rows (rv:=true) hE ⟨fun _=>rfl,fun hf=>⟨fun _=>rfl,fun hl=>?_⟩⟩
 have hb:=far_in hf
 have key:∀ (d i:Nat),i+d=rows.length→f10G0 E c rows (rows.take i) i:=by
  intro d
  induction d with
  | zero =>
   intro i hi
   rw [List.take_of_length_le (by omega)]
   exact f10W0 c rows _ i (rv:=true) hE ⟨fun h=>by omega,fun _=>⟨⟨by omega,by omega⟩,h,h,fun _=>⟨fun _=>⟨fun _=>rfl,fun h=>absurd rfl h⟩,fun h=>absurd rfl h⟩,fun h=>absurd rfl h⟩⟩
  | succ d ih =>
   intro i hi
   have hx:rows[i]?=some (rows.getD i []):=getD_some (by omega)
   have nx:=ih (i+1) (by omega)
   rw [List.take_add_one,hx] at nx
   exact f10W0 c rows _ i (rv:=true) hE ⟨fun _=>⟨_,hx,fun _=>rfl,fun hr=>⟨by omega,by rw [List.length_take]; omega,by omega,nx⟩⟩,fun h=>by omega⟩
 exact key rows.length 0 (by omega)
end Go.Proofs.Ytgdfkjjgdkejfaa