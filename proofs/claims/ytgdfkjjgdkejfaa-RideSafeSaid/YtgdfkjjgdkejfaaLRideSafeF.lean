/- A part of the proof: several texts, one behind the other. -/
import Derived.Test.YtgdfkjjgdkejfaaLRideSafeE
set_option linter.unusedVariables false
set_option linter.unusedSimpArgs false
set_option maxRecDepth 100000
namespace Go.Proofs.Ytgdfkjjgdkejfaa
open Go Ax
open Go.Proofs
def spotOk (c:Cir) (x:Spt):Bool:=within x.block 0 (c.blocks.length - 1) && within x.ran 0 (bkAt c x.block).time
def rowBad (c:Cir) (r:List Spt):Bool:=!decide (r.length=c.cars.length) || r.any fun x=>!spotOk c x
def crashT (c:Cir) (rows:List (List Spt)):Option Nat:=firstN (fun t=>decide ((crashI c (rows.getD t [])).2≥0)) rows.length
def crashK (c:Cir) (rows:List (List Spt)):Int × Int × Int :=
 if checkC c=0 then (if rows.length > 500 then (0,0,2) else if (rows.any (rowBad c))=true then (0,0,1) else
  match crashT c rows with
  | some t=>((t:Int),(crashI c (rows.getD t [])).2,0)
  | none=>(-1,-1,0)) else (0,0,checkC c)
theorem spotOk_in {c:Cir} {x:Spt} (h:spotOk c x=true):InC c x.block∧0≤x.ran∧x.ran≤(bkAt c x.block).time:=by
 simp only [spotOk,Bool.and_eq_true] at h
 have h1:=within_iff.1 h.1
 have h2:=within_iff.1 h.2
 exact ⟨⟨h1.1,by omega⟩,h2⟩
theorem rowBad_no {c:Cir} {r:List Spt} (h:rowBad c r=false):r.length=c.cars.length∧∀ x ∈ r,spotOk c x=true:=by
 rw [rowBad,Bool.or_eq_false_iff] at h
 refine ⟨by simpa using h.1,fun x hx=>?_⟩
 have:=List.any_eq_false.1 h.2 x hx
 simpa using this
theorem f58b:Try.f58.body=some (bodyAt Try.prog 58):=by kernel_rfl
abbrev z58_1 (c:Cir):List AV:=[.rsl (rowBk c.blocks) 0 c.blocks.length,.rsl (rowI c.cars) 0 c.cars.length]
theorem p58_start_0 (x:Spt) (c:Cir) {E:Env} {res:AV} (hE:PureE Try.prog 58 res E) (ho:AllP [PureF Try.prog (.clos 53 [] []) [.agg (z58_1 c),.int .i64 x.block] (.bool (within x.block 0 (c.blocks.length - 1))),(!(within x.block 0 (c.blocks.length - 1)))=true])
 (hr:AvLe (.bool true) res):G Try.prog E [.code (bodyAt Try.prog 58)] ⟨[.agg [.int .i64 x.block,.int .i64 x.ran,.bool x.opn],.rptr (z58_1 c) 0]++unds (Try.f58.ntmps - 2),[]⟩ :=
 end_stepL (n:=400) (evs:=[.v (.bool (within x.block 0 (c.blocks.length - 1))),.b true]) (obs:=_) hE Try.func58 mixed (by kernel_rfl) ho hr
theorem p58_start_1 (x:Spt) (c:Cir) (be:Bk) {E:Env} {res:AV} (hE:PureE Try.prog 58 res E) (ho:AllP [PureF Try.prog (.clos 53 [] []) [.agg (z58_1 c),.int .i64 x.block] (.bool (within x.block 0 (c.blocks.length - 1))),(!(within x.block 0 (c.blocks.length - 1)))=false,0≤x.block∧x.block<(c.blocks.length:Int),((rowBk c.blocks).drop ((0+(Int.toNat x.block)*4)+0)).take 1=[.int .i64 be.time],PureF Try.prog (.clos 52 [] []) [.int .i64 x.ran,.int .i64 0,.int .i64 be.time] (.bool (within x.ran 0 be.time))])
 (hr:AvLe (.bool (!(within x.ran 0 be.time))) res):G Try.prog E [.code (bodyAt Try.prog 58)] ⟨[.agg [.int .i64 x.block,.int .i64 x.ran,.bool x.opn],.rptr (z58_1 c) 0]++unds (Try.f58.ntmps - 2),[]⟩ :=
 end_stepL (n:=400) (evs:=[.v (.bool (within x.block 0 (c.blocks.length - 1))),.b false,.auto,.auto,.auto,.ld (.int .i64 be.time),.v (.bool (within x.ran 0 be.time))]) (obs:=_) hE Try.func58 mixed (by kernel_rfl) ho hr
theorem f58W (x:Spt) (c:Cir) {E:Env} {rv:Bool} (hE:PureE Try.prog 58 (.bool rv) E)
 (h:((c.blocks.length≤9223372036854775807)∧(((within x.block 0 (c.blocks.length - 1))=false→rv=true)∧((within x.block 0 (c.blocks.length - 1))=true→(0≤x.block∧(∃ be:Bk,c.blocks[Int.toNat x.block]?=some be∧rv=(!(within x.ran 0 be.time)))))))):G Try.prog E [.code (bodyAt Try.prog 58)] ⟨[.agg [.int .i64 x.block,.int .i64 x.ran,.bool x.opn],.rptr [.rsl (rowBk c.blocks) 0 c.blocks.length,.rsl (rowI c.cars) 0 c.cars.length] 0]++unds (Try.f58.ntmps - 2),[]⟩:=by
 obtain ⟨h1,h⟩:=h
 rcases Bool.eq_false_or_eq_true (!(within x.block 0 (c.blocks.length - 1))) with hc0 | hc0
 · have h:=h.1 (bnT hc0)
   exact p58_start_0 x c hE ⟨(pureF_of Try.func53 (by kernel_rfl) f53b (block_ok c x.block h1)),hc0,trivial⟩ (AvLe.of_eq (by rw [h]; try rfl))
 · have h:=h.2 (bnF hc0)
   obtain ⟨h3,h⟩:=h
   obtain ⟨be,h2,h⟩:=h
   exact p58_start_1 x c be hE ⟨(pureF_of Try.func53 (by kernel_rfl) f53b (block_ok c x.block h1)),hc0,(idx_ok' h3 h2),(row_part cBk (s:=4) (k:=0) (m:=1) (fun _=>rfl) (by decide) h2),(pureF_of Try.func52 (by kernel_rfl) f52b (within_ok x.ran 0 be.time)),trivial⟩ (AvLe.of_eq (by rw [h]; try rfl))
theorem badS_ok (x:Spt) (c:Cir) (h:c.blocks.length≤9223372036854775807):Pure Try.prog 58 [.agg [.int .i64 x.block,.int .i64 x.ran,.bool x.opn],.rptr [.rsl (rowBk c.blocks) 0 c.blocks.length,.rsl (rowI c.cars) 0 c.cars.length] 0] (.bool (!spotOk c x)):=pure_of Try.func58 f58b fun E hE=>by
 refine f58W x c (rv:=!spotOk c x) hE ⟨h,fun h1=>?_,fun h1=>?_⟩
 · rw [spotOk,h1]; rfl
 · have h2:=within_iff.1 h1
   exact ⟨h2.1,_,bk_at ⟨h2.1,by omega⟩,by rw [spotOk,h1]; rfl⟩
theorem f85b:Try.f85.body=some (bodyAt Try.prog 85):=by kernel_rfl
def f85K0 (P:Program):List Item:=kAt 400 [.code (bodyAt P 85)] [.stop]
def f85S0 (l:(List Spt)) (c:Cir) (i:Nat):St:=⟨([.rsl (rowSpt l) 0 l.length,.clos 58 [] [.rptr [.rsl (rowBk c.blocks) 0 c.blocks.length,.rsl (rowI c.cars) 0 c.cars.length] 0]]++jj 5 ([.int .i64 (l.length:Int),.int .i64 (i:Int)]++Js 10)),[]⟩
def f85G0 (E:Env) (l:(List Spt)) (c:Cir) (i:Nat):Prop:=G Try.prog E (f85K0 Try.prog) (f85S0 l c i )
abbrev z85_1 (c:Cir):List AV:=[.rptr [.rsl (rowBk c.blocks) 0 c.blocks.length,.rsl (rowI c.cars) 0 c.cars.length] 0]
abbrev z85_2 (se:Spt):List AV:=[.int .i64 se.block,.int .i64 se.ran,.bool se.opn]
theorem p85_start_0 (l:(List Spt)) (c:Cir) {E:Env} {rv:AV} (hE:PureE Try.prog 85 rv E) (ho:AllP [])
 (hg:G Try.prog E (f85K0 Try.prog) ⟨([.rsl (rowSpt l) 0 l.length,.clos 58 [] (z85_1 c)]++jj 5 ([.int .i64 (l.length:Int),.int .i64 0]++Js 10)),[]⟩):G Try.prog E [.code (bodyAt Try.prog 85)] ⟨[.rsl (rowSpt l) 0 l.length,.clos 58 [] (z85_1 c)]++unds (Try.f85.ntmps - 2),[]⟩ :=
 segC_step (n:=400) (ds:=[]) (cs:=[]) (live:=[0,1,7,8]) (m:=0) (evs:=[.stop]) (obs:=_) hE.2.1 (hE.nogh _) mixed (by kernel_rfl) ho hg
theorem f85W (l:(List Spt)) (c:Cir) {E:Env} {rv:Int} (hE:PureE Try.prog 85 (.int .i64 rv) E)
 (h:f85G0 E l c 0):G Try.prog E [.code (bodyAt Try.prog 85)] ⟨[.rsl (rowSpt l) 0 l.length,.clos 58 [] [.rptr [.rsl (rowBk c.blocks) 0 c.blocks.length,.rsl (rowI c.cars) 0 c.cars.length] 0]]++unds (Try.f85.ntmps - 2),[]⟩:=by
 exact p85_start_0 l c hE trivial h
theorem p85_0_0 (l:(List Spt)) (c:Cir) (i:Nat) (se:Spt) {E:Env} {res:AV} (hE:PureE Try.prog 85 res E) (ho:AllP [(decide ((i:Int)<(l.length:Int)))=true,0≤(i:Int)∧(i:Int)<(l.length:Int),((rowSpt l).drop (0+(Int.toNat (i:Int))*3)).take 3=(z85_2 se),PureF Try.prog (.clos 58 [] (z85_1 c)) [.agg (z85_2 se)] (.bool (!spotOk c se)),(!spotOk c se)=true])
 (hr:AvLe (.int .i64 (i:Int)) res):G Try.prog E (f85K0 Try.prog) (f85S0 l c i ) :=
 end_stepL (n:=400) (evs:=[.b true,.ld (.agg [.int .i64 se.block,.int .i64 se.ran,.bool se.opn]),.v (.bool (!spotOk c se)),.b true]) (obs:=_) hE Try.func85 mixed (by kernel_rfl) ho hr
theorem p85_0_1 (l:(List Spt)) (c:Cir) (i:Nat) (se:Spt) {E:Env} {rv:AV} (hE:PureE Try.prog 85 rv E) (ho:AllP [(decide ((i:Int)<(l.length:Int)))=true,0≤(i:Int)∧(i:Int)<(l.length:Int),((rowSpt l).drop (0+(Int.toNat (i:Int))*3)).take 3=(z85_2 se),PureF Try.prog (.clos 58 [] (z85_1 c)) [.agg (z85_2 se)] (.bool (!spotOk c se)),(!spotOk c se)=false,InR .i64 ((i:Int)+1)])
 (hg:G Try.prog E (f85K0 Try.prog) ⟨([.rsl (rowSpt l) 0 l.length,.clos 58 [] (z85_1 c)]++jj 5 ([.int .i64 (l.length:Int),.int .i64 ((i:Int)+1)]++Js 10)),[]⟩):G Try.prog E (f85K0 Try.prog) (f85S0 l c i ) :=
 segC_step (n:=400) (ds:=[]) (cs:=[]) (live:=[0,1,7,8]) (m:=0) (evs:=[.b true,.ld (.agg [.int .i64 se.block,.int .i64 se.ran,.bool se.opn]),.v (.bool (!spotOk c se)),.b false,.stop]) (obs:=_) hE.2.1 (hE.nogh _) mixed (by kernel_rfl) ho hg
theorem p85_0_2 (l:(List Spt)) (c:Cir) (i:Nat) {E:Env} {res:AV} (hE:PureE Try.prog 85 res E) (ho:AllP [(decide ((i:Int)<(l.length:Int)))=false])
 (hr:AvLe (.int .i64 (-1)) res):G Try.prog E (f85K0 Try.prog) (f85S0 l c i ) :=
 end_stepL (n:=400) (evs:=[.b false]) (obs:=_) hE Try.func85 mixed (by kernel_rfl) ho hr
theorem f85W0 (l:(List Spt)) (c:Cir) (i:Nat) {E:Env} {rv:Int} (hE:PureE Try.prog 85 (.int .i64 rv) E)
 (h:(((i:Int)<(l.length:Int)→(∃ se:Spt,l[i]?=some se∧((c.blocks.length≤9223372036854775807)∧(((!spotOk c se)=true→rv=(i:Int))∧((!spotOk c se)=false→((-9223372036854775808≤(i:Int)+1∧(i:Int)+1≤9223372036854775807)∧f85G0 E l c (i+1)))))))∧(¬ ((i:Int)<(l.length:Int))→rv=(-1)))):f85G0 E l c i:=by
 rcases Bool.eq_false_or_eq_true (decide ((i:Int)<(l.length:Int))) with hc0 | hc0
 · have h:=h.1 (of_decide_eq_true hc0)
   obtain ⟨se,h1,h⟩:=h
   obtain ⟨h2,h⟩:=h
   rcases Bool.eq_false_or_eq_true (!spotOk c se) with hc1 | hc1
   · have h:=h.1 hc1
     exact p85_0_0 l c i se hE ⟨hc0,(idx_ok h1),(row_part cSpt (s:=3) (k:=0) (m:=3) (fun _=>rfl) (by decide) h1),(pureF_of Try.func58 (by kernel_rfl) f58b (badS_ok se c h2)),hc1,trivial⟩ (AvLe.of_eq (by rw [h]; try rfl))
   · have h:=h.2 hc1
     obtain ⟨q6_2,h⟩:=h
     exact p85_0_1 l c i se hE ⟨hc0,(idx_ok h1),(row_part cSpt (s:=3) (k:=0) (m:=3) (fun _=>rfl) (by decide) h1),(pureF_of Try.func58 (by kernel_rfl) f58b (badS_ok se c h2)),hc1,q6_2,trivial⟩ h
 · have h:=h.2 (of_decide_eq_false hc0)
   exact p85_0_2 l c i hE ⟨hc0,trivial⟩ (AvLe.of_eq (by rw [h]; try rfl))
theorem idxSp_ok (l:List Spt) (c:Cir) (h:(c.blocks.length≤9223372036854775807)∧l.length≤9223372036854775807):Pure Try.prog 85 [.rsl (rowSpt l) 0 l.length,.clos 58 [] [.rptr [.rsl (rowBk c.blocks) 0 c.blocks.length,.rsl (rowI c.cars) 0 c.cars.length] 0]] (.int .i64 (idxG (fun x=>!spotOk c x) l)):=pure_of Try.func85 f85b fun E hE=>by
 refine f85W l c hE (idxG_from (fun x=>!spotOk c x) l l.length 0 (by omega) (fun j x hj=>by omega) (fun i=>f85G0 E l c i) (fun i hi' h1 h2=>?_) (fun _ h2=>?_))
 · have hx:l[i]?=some l[i]:=List.getElem?_eq_getElem hi'
   exact f85W0 l c i hE ⟨fun _=>⟨_,hx,h.1,fun hp=>h1 _ hx hp,fun hp=>⟨by omega,h2 _ hx hp⟩⟩,fun h=>by omega⟩
 · exact f85W0 l c _ hE ⟨fun h=>by omega,fun _=>h2⟩
theorem f59b:Try.f59.body=some (bodyAt Try.prog 59):=by kernel_rfl
theorem p59_start_0 (l:(List Spt)) (c:Cir) {E:Env} {res:AV} (hE:PureE Try.prog 59 res E) (ho:AllP [PureF Try.prog (.clos 85 [] []) [.rsl (rowSpt l) 0 l.length,.clos 58 [] [.rptr [.rsl (rowBk c.blocks) 0 c.blocks.length,.rsl (rowI c.cars) 0 c.cars.length] 0]] (.int .i64 (idxG (fun x=>!spotOk c x) l))])
 (hr:AvLe (.bool (decide ((idxG (fun x=>!spotOk c x) l)≥0))) res):G Try.prog E [.code (bodyAt Try.prog 59)] ⟨[.rsl (rowSpt l) 0 l.length,.clos 58 [] [.rptr [.rsl (rowBk c.blocks) 0 c.blocks.length,.rsl (rowI c.cars) 0 c.cars.length] 0]]++unds (Try.f59.ntmps - 2),[]⟩ :=
 end_stepL (n:=400) (evs:=[.v (.int .i64 (idxG (fun x=>!spotOk c x) l))]) (obs:=_) hE Try.func59 mixed (by kernel_rfl) ho hr
theorem f59W (l:(List Spt)) (c:Cir) {E:Env} {rv:Bool} (hE:PureE Try.prog 59 (.bool rv) E)
 (h:(((c.blocks.length≤9223372036854775807)∧l.length≤9223372036854775807)∧rv=(decide ((idxG (fun x=>!spotOk c x) l)≥0)))):G Try.prog E [.code (bodyAt Try.prog 59)] ⟨[.rsl (rowSpt l) 0 l.length,.clos 58 [] [.rptr [.rsl (rowBk c.blocks) 0 c.blocks.length,.rsl (rowI c.cars) 0 c.cars.length] 0]]++unds (Try.f59.ntmps - 2),[]⟩:=by
 obtain ⟨h1,h⟩:=h
 exact p59_start_0 l c hE ⟨(pureF_of Try.func85 (by kernel_rfl) f85b (idxSp_ok l c h1)),trivial⟩ (AvLe.of_eq (by rw [h]; try rfl))
theorem anySp_ok (l:List Spt) (c:Cir) (h:(c.blocks.length≤9223372036854775807)∧l.length≤9223372036854775807):Pure Try.prog 59 [.rsl (rowSpt l) 0 l.length,.clos 58 [] [.rptr [.rsl (rowBk c.blocks) 0 c.blocks.length,.rsl (rowI c.cars) 0 c.cars.length] 0]] (.bool (l.any fun x=>!spotOk c x)):=pure_of Try.func59 f59b fun E hE =>
 f59W l c hE ⟨h,(idxG_any _ l).symm⟩
theorem f33b:Try.f33.body=some (bodyAt Try.prog 33):=by kernel_rfl
def f33K0 (P:Program):List Item:=kAt 400 [.code (bodyAt P 33)] [.b false,.b false,.stop]
def f33S0 (c:Cir) (rows:(List (List Spt))) (i:Nat):St:=⟨([J,.rsl ((rowLs rowSpt) rows) 0 rows.length,.ptr 0 0 0]++jj 20 ([.rsl ((rowLs rowSpt) rows) 0 rows.length,.int .i64 (rows.length:Int),.int .i64 (i:Int)]++Js 34)),[⟨true,0,1,true,[.rsl (rowBk c.blocks) 0 c.blocks.length,.rsl (rowI c.cars) 0 c.cars.length],false⟩]⟩
def f33G0 (E:Env) (c:Cir) (rows:(List (List Spt))) (i:Nat):Prop:=G Try.prog E (f33K0 Try.prog) (f33S0 c rows i )
def f33K1 (P:Program):List Item:=kAt 400 [.code (bodyAt P 33)] [.b false,.b false,.b false,.stop]
def f33S1 (c:Cir) (rows:(List (List Spt))) (k:Nat):St:=⟨([J,J,.ptr 0 0 0]++jj 39 ([.rsl ((rowLs rowSpt) rows) 0 rows.length,.int .i64 (rows.length:Int),.int .i64 (k:Int)]++Js 15)),[⟨true,0,1,true,[.rsl (rowBk c.blocks) 0 c.blocks.length,.rsl (rowI c.cars) 0 c.cars.length],false⟩]⟩
def f33G1 (E:Env) (c:Cir) (rows:(List (List Spt))) (k:Nat):Prop:=G Try.prog E (f33K1 Try.prog) (f33S1 c rows k )
abbrev z33_1 (c:Cir):List AV:=[.rsl (rowBk c.blocks) 0 c.blocks.length,.rsl (rowI c.cars) 0 c.cars.length]
abbrev z33_2 (c:Cir) (le:(List Spt)):AV:=.tup [.agg [.int .i64 (((crashI c le).1).block),.int .i64 (((crashI c le).1).ran),.bool (((crashI c le).1).opn)],.int .i64 ((crashI c le).2)]
theorem p33_start_0 (c:Cir) (rows:(List (List Spt))) {E:Env} {res:AV} (hE:PureE Try.prog 33 res E) (ho:AllP [PureF Try.prog (.clos 30 [] []) [.agg (z33_1 c)] (.int .i64 (checkC c)),((checkC c) != 0)=true])
 (hr:AvLe (.tup [.int .i64 0,.int .i64 0,.int .i64 (checkC c)]) res):G Try.prog E [.code (bodyAt Try.prog 33)] ⟨[.agg (z33_1 c),.rsl ((rowLs rowSpt) rows) 0 rows.length]++unds (Try.f33.ntmps - 2),[]⟩ :=
 end_stepL (n:=400) (evs:=[.v (.int .i64 (checkC c)),.b true]) (obs:=_) hE Try.func33 mixed (by kernel_rfl) ho hr
theorem p33_start_1 (c:Cir) (rows:(List (List Spt))) {E:Env} {res:AV} (hE:PureE Try.prog 33 res E) (ho:AllP [PureF Try.prog (.clos 30 [] []) [.agg (z33_1 c)] (.int .i64 (checkC c)),((checkC c) != 0)=false,(decide ((rows.length:Int) > 500))=true])
 (hr:AvLe (.tup [.int .i64 0,.int .i64 0,.int .i64 2]) res):G Try.prog E [.code (bodyAt Try.prog 33)] ⟨[.agg (z33_1 c),.rsl ((rowLs rowSpt) rows) 0 rows.length]++unds (Try.f33.ntmps - 2),[]⟩ :=
 end_stepL (n:=400) (evs:=[.v (.int .i64 (checkC c)),.b false,.b true]) (obs:=_) hE Try.func33 mixed (by kernel_rfl) ho hr
theorem p33_start_2 (c:Cir) (rows:(List (List Spt))) {E:Env} {rv:AV} (hE:PureE Try.prog 33 rv E) (ho:AllP [PureF Try.prog (.clos 30 [] []) [.agg (z33_1 c)] (.int .i64 (checkC c)),((checkC c) != 0)=false,(decide ((rows.length:Int) > 500))=false])
 (hg:G Try.prog E (f33K0 Try.prog) ⟨([J,.rsl ((rowLs rowSpt) rows) 0 rows.length,.ptr 0 0 0]++jj 20 ([.rsl ((rowLs rowSpt) rows) 0 rows.length,.int .i64 (rows.length:Int),.int .i64 0]++Js 34)),[⟨true,0,1,true,(z33_1 c),false⟩]⟩):G Try.prog E [.code (bodyAt Try.prog 33)] ⟨[.agg (z33_1 c),.rsl ((rowLs rowSpt) rows) 0 rows.length]++unds (Try.f33.ntmps - 2),[]⟩ :=
 segC_step (n:=400) (ds:=[]) (cs:=[]) (live:=[1,2,23,24,25]) (m:=1) (evs:=[.v (.int .i64 (checkC c)),.b false,.b false,.stop]) (obs:=_) hE.2.1 (hE.nogh _) mixed (by kernel_rfl) ho hg
theorem f33W (c:Cir) (rows:(List (List Spt))) {E:Env} {rv:(Int × Int × Int)} (hE:PureE Try.prog 33 (.tup [.int .i64 rv.1,.int .i64 rv.2.1,.int .i64 rv.2.2]) E)
 (h:((c.blocks.length≤9223372036854775807∧c.cars.length≤9223372036854775807)∧((¬ ((checkC c)=0)→rv=(0,0,(checkC c)))∧((checkC c)=0→(((rows.length:Int) > 500→rv=(0,0,2))∧(¬ ((rows.length:Int) > 500)→f33G0 E c rows 0)))))):G Try.prog E [.code (bodyAt Try.prog 33)] ⟨[.agg [.rsl (rowBk c.blocks) 0 c.blocks.length,.rsl (rowI c.cars) 0 c.cars.length],.rsl ((rowLs rowSpt) rows) 0 rows.length]++unds (Try.f33.ntmps - 2),[]⟩:=by
 obtain ⟨h1,h⟩:=h
 rcases Bool.eq_false_or_eq_true ((checkC c) != 0) with hc0 | hc0
 · have h:=h.1 (bneT hc0)
   exact p33_start_0 c rows hE ⟨(pureF_of Try.func30 (by kernel_rfl) f30b (check_ok c h1)),hc0,trivial⟩ (AvLe.of_eq (by rw [h]; try rfl))
 · have h:=h.2 (bneF hc0)
   rcases Bool.eq_false_or_eq_true (decide ((rows.length:Int) > 500)) with hc1 | hc1
   · have h:=h.1 (of_decide_eq_true hc1)
     exact p33_start_1 c rows hE ⟨(pureF_of Try.func30 (by kernel_rfl) f30b (check_ok c h1)),hc0,hc1,trivial⟩ (AvLe.of_eq (by rw [h]; try rfl))
   · have h:=h.2 (of_decide_eq_false hc1)
     exact p33_start_2 c rows hE ⟨(pureF_of Try.func30 (by kernel_rfl) f30b (check_ok c h1)),hc0,hc1,trivial⟩ h
theorem p33_0_0 (c:Cir) (rows:(List (List Spt))) (i:Nat) (le:(List Spt)) {E:Env} {res:AV} (hE:PureE Try.prog 33 res E) (ho:AllP [(decide ((i:Int)<(rows.length:Int)))=true,0≤(i:Int)∧(i:Int)<(rows.length:Int),(((rowLs rowSpt) rows).drop (0+(Int.toNat (i:Int))*1)).take 1=[.rsl (rowSpt le) 0 le.length],((le.length:Int) != (c.cars.length:Int))=true,true=true])
 (hr:AvLe (.tup [.int .i64 0,.int .i64 0,.int .i64 1]) res):G Try.prog E (f33K0 Try.prog) (f33S0 c rows i ) :=
 end_stepL (n:=400) (evs:=[.b true,.ld (.rsl (rowSpt le) 0 le.length),.b true,.b true]) (obs:=_) hE Try.func33 mixed (by kernel_rfl) ho hr
theorem p33_0_1 (c:Cir) (rows:(List (List Spt))) (i:Nat) (le:(List Spt)) {E:Env} {res:AV} (hE:PureE Try.prog 33 res E) (ho:AllP [(decide ((i:Int)<(rows.length:Int)))=true,0≤(i:Int)∧(i:Int)<(rows.length:Int),(((rowLs rowSpt) rows).drop (0+(Int.toNat (i:Int))*1)).take 1=[.rsl (rowSpt le) 0 le.length],((le.length:Int) != (c.cars.length:Int))=false,PureF Try.prog (.clos 59 [] []) [.rsl (rowSpt le) 0 le.length,.clos 58 [] [.rptr (z33_1 c) 0]] (.bool (le.any (fun x=>!spotOk c x))),(le.any (fun x=>!spotOk c x))=true])
 (hr:AvLe (.tup [.int .i64 0,.int .i64 0,.int .i64 1]) res):G Try.prog E (f33K0 Try.prog) (f33S0 c rows i ) :=
 end_stepL (n:=400) (evs:=[.b true,.ld (.rsl (rowSpt le) 0 le.length),.b false,.v (.bool (le.any (fun x=>!spotOk c x))),.b true]) (obs:=_) hE Try.func33 mixed (by kernel_rfl) ho hr
theorem p33_0_2 (c:Cir) (rows:(List (List Spt))) (i:Nat) (le:(List Spt)) {E:Env} {rv:AV} (hE:PureE Try.prog 33 rv E) (ho:AllP [(decide ((i:Int)<(rows.length:Int)))=true,0≤(i:Int)∧(i:Int)<(rows.length:Int),(((rowLs rowSpt) rows).drop (0+(Int.toNat (i:Int))*1)).take 1=[.rsl (rowSpt le) 0 le.length],((le.length:Int) != (c.cars.length:Int))=false,PureF Try.prog (.clos 59 [] []) [.rsl (rowSpt le) 0 le.length,.clos 58 [] [.rptr (z33_1 c) 0]] (.bool (le.any (fun x=>!spotOk c x))),(le.any (fun x=>!spotOk c x))=false,InR .i64 ((i:Int)+1)])
 (hg:G Try.prog E (f33K0 Try.prog) ⟨([J,.rsl ((rowLs rowSpt) rows) 0 rows.length,.ptr 0 0 0]++jj 20 ([.rsl ((rowLs rowSpt) rows) 0 rows.length,.int .i64 (rows.length:Int),.int .i64 ((i:Int)+1)]++Js 34)),[⟨true,0,1,true,(z33_1 c),false⟩]⟩):G Try.prog E (f33K0 Try.prog) (f33S0 c rows i ) :=
 segC_step (n:=400) (ds:=[]) (cs:=[]) (live:=[1,2,23,24,25]) (m:=1) (evs:=[.b true,.ld (.rsl (rowSpt le) 0 le.length),.b false,.v (.bool (le.any (fun x=>!spotOk c x))),.b false,.stop]) (obs:=_) hE.2.1 (hE.nogh _) mixed (by kernel_rfl) ho hg
theorem p33_0_3 (c:Cir) (rows:(List (List Spt))) (i:Nat) {E:Env} {rv:AV} (hE:PureE Try.prog 33 rv E) (ho:AllP [(decide ((i:Int)<(rows.length:Int)))=false])
 (hg:G Try.prog E (f33K1 Try.prog) ⟨([J,J,.ptr 0 0 0]++jj 39 ([.rsl ((rowLs rowSpt) rows) 0 rows.length,.int .i64 (rows.length:Int),.int .i64 0]++Js 15)),[⟨true,0,1,true,(z33_1 c),false⟩]⟩):G Try.prog E (f33K0 Try.prog) (f33S0 c rows i ) :=
 segC_step (n:=400) (ds:=[]) (cs:=[]) (live:=[2,42,43,44]) (m:=1) (evs:=[.b false,.stop]) (obs:=_) hE.2.1 (hE.nogh _) mixed (by kernel_rfl) ho hg
theorem f33W0 (c:Cir) (rows:(List (List Spt))) (i:Nat) {E:Env} {rv:(Int × Int × Int)} (hE:PureE Try.prog 33 (.tup [.int .i64 rv.1,.int .i64 rv.2.1,.int .i64 rv.2.2]) E)
 (h:(((i:Int)<(rows.length:Int)→(∃ le:(List Spt),rows[i]?=some le∧((¬ ((le.length:Int)=(c.cars.length:Int))→rv=(0,0,1))∧((le.length:Int)=(c.cars.length:Int)→(((c.blocks.length≤9223372036854775807)∧le.length≤9223372036854775807)∧(((le.any (fun x=>!spotOk c x))=true→rv=(0,0,1))∧((le.any (fun x=>!spotOk c x))=false→((-9223372036854775808≤(i:Int)+1∧(i:Int)+1≤9223372036854775807)∧f33G0 E c rows (i+1)))))))))∧(¬ ((i:Int)<(rows.length:Int))→f33G1 E c rows 0))):f33G0 E c rows i:=by
 rcases Bool.eq_false_or_eq_true (decide ((i:Int)<(rows.length:Int))) with hc0 | hc0
 · have h:=h.1 (of_decide_eq_true hc0)
   obtain ⟨le,h1,h⟩:=h
   rcases Bool.eq_false_or_eq_true ((le.length:Int) != (c.cars.length:Int)) with hc1 | hc1
   · have h:=h.1 (bneT hc1)
     exact p33_0_0 c rows i le hE ⟨hc0,(idx_ok h1),(row_part (cLs rowSpt) (s:=1) (k:=0) (m:=1) (fun _=>rfl) (by decide) h1),hc1,rfl,trivial⟩ (AvLe.of_eq (by rw [h]; try rfl))
   · have h:=h.2 (bneF hc1)
     obtain ⟨h2,h⟩:=h
     rcases Bool.eq_false_or_eq_true (le.any (fun x=>!spotOk c x)) with hc2 | hc2
     · have h:=h.1 hc2
       exact p33_0_1 c rows i le hE ⟨hc0,(idx_ok h1),(row_part (cLs rowSpt) (s:=1) (k:=0) (m:=1) (fun _=>rfl) (by decide) h1),hc1,(pureF_of Try.func59 (by kernel_rfl) f59b (anySp_ok le c h2)),hc2,trivial⟩ (AvLe.of_eq (by rw [h]; try rfl))
     · have h:=h.2 hc2
       obtain ⟨q7_3,h⟩:=h
       exact p33_0_2 c rows i le hE ⟨hc0,(idx_ok h1),(row_part (cLs rowSpt) (s:=1) (k:=0) (m:=1) (fun _=>rfl) (by decide) h1),hc1,(pureF_of Try.func59 (by kernel_rfl) f59b (anySp_ok le c h2)),hc2,q7_3,trivial⟩ h
 · have h:=h.2 (of_decide_eq_false hc0)
   exact p33_0_3 c rows i hE ⟨hc0,trivial⟩ h
theorem p33_1_0 (c:Cir) (rows:(List (List Spt))) (k:Nat) (le:(List Spt)) {E:Env} {res:AV} (hE:PureE Try.prog 33 res E) (ho:AllP [(decide ((k:Int)<(rows.length:Int)))=true,0≤(k:Int)∧(k:Int)<(rows.length:Int),(((rowLs rowSpt) rows).drop (0+(Int.toNat (k:Int))*1)).take 1=[.rsl (rowSpt le) 0 le.length],PureF Try.prog (.clos 60 [] []) [.agg (z33_1 c),.rsl (rowSpt le) 0 le.length] (z33_2 c le),3≤3,(decide ((crashI c le).2≥0))=true])
 (hr:AvLe (.tup [.int .i64 (k:Int),.int .i64 ((crashI c le).2),.int .i64 0]) res):G Try.prog E (f33K1 Try.prog) (f33S1 c rows k ) :=
 end_stepL (n:=400) (evs:=[.b true,.ld (.rsl (rowSpt le) 0 le.length),.v (.tup [.agg [.int .i64 (((crashI c le).1).block),.int .i64 (((crashI c le).1).ran),.bool (((crashI c le).1).opn)],.int .i64 ((crashI c le).2)]),.b true]) (obs:=_) hE Try.func33 mixed (by kernel_rfl) ho hr
theorem p33_1_1 (c:Cir) (rows:(List (List Spt))) (k:Nat) (le:(List Spt)) {E:Env} {rv:AV} (hE:PureE Try.prog 33 rv E) (ho:AllP [(decide ((k:Int)<(rows.length:Int)))=true,0≤(k:Int)∧(k:Int)<(rows.length:Int),(((rowLs rowSpt) rows).drop (0+(Int.toNat (k:Int))*1)).take 1=[.rsl (rowSpt le) 0 le.length],PureF Try.prog (.clos 60 [] []) [.agg (z33_1 c),.rsl (rowSpt le) 0 le.length] (z33_2 c le),3≤3,(decide ((crashI c le).2≥0))=false,InR .i64 ((k:Int)+1)])
 (hg:G Try.prog E (f33K1 Try.prog) ⟨([J,J,.ptr 0 0 0]++jj 39 ([.rsl ((rowLs rowSpt) rows) 0 rows.length,.int .i64 (rows.length:Int),.int .i64 ((k:Int)+1)]++Js 15)),[⟨true,0,1,true,(z33_1 c),false⟩]⟩):G Try.prog E (f33K1 Try.prog) (f33S1 c rows k ) :=
 segC_step (n:=400) (ds:=[]) (cs:=[]) (live:=[2,42,43,44]) (m:=1) (evs:=[.b true,.ld (.rsl (rowSpt le) 0 le.length),.v (.tup [.agg [.int .i64 (((crashI c le).1).block),.int .i64 (((crashI c le).1).ran),.bool (((crashI c le).1).opn)],.int .i64 ((crashI c le).2)]),.b false,.stop]) (obs:=_) hE.2.1 (hE.nogh _) mixed (by kernel_rfl) ho hg
theorem p33_1_2 (c:Cir) (rows:(List (List Spt))) (k:Nat) {E:Env} {res:AV} (hE:PureE Try.prog 33 res E) (ho:AllP [(decide ((k:Int)<(rows.length:Int)))=false])
 (hr:AvLe (.tup [.int .i64 (-1),.int .i64 (-1),.int .i64 0]) res):G Try.prog E (f33K1 Try.prog) (f33S1 c rows k ) :=
 end_stepL (n:=400) (evs:=[.b false]) (obs:=_) hE Try.func33 mixed (by kernel_rfl) ho hr
theorem f33W1 (c:Cir) (rows:(List (List Spt))) (k:Nat) {E:Env} {rv:(Int × Int × Int)} (hE:PureE Try.prog 33 (.tup [.int .i64 rv.1,.int .i64 rv.2.1,.int .i64 rv.2.2]) E)
 (h:(((k:Int)<(rows.length:Int)→(∃ le:(List Spt),rows[k]?=some le∧(((∀ x ∈ le,InC c x.block)∧le.length≤2147483648)∧(((crashI c le).2≥0→rv=((k:Int),(crashI c le).2,0))∧(¬ ((crashI c le).2≥0)→((-9223372036854775808≤(k:Int)+1∧(k:Int)+1≤9223372036854775807)∧f33G1 E c rows (k+1)))))))∧(¬ ((k:Int)<(rows.length:Int))→rv=((-1),(-1),0)))):f33G1 E c rows k:=by
 rcases Bool.eq_false_or_eq_true (decide ((k:Int)<(rows.length:Int))) with hc0 | hc0
 · have h:=h.1 (of_decide_eq_true hc0)
   obtain ⟨le,h1,h⟩:=h
   obtain ⟨h2,h⟩:=h
   rcases Bool.eq_false_or_eq_true (decide ((crashI c le).2≥0)) with hc1 | hc1
   · have h:=h.1 (of_decide_eq_true hc1)
     exact p33_1_0 c rows k le hE ⟨hc0,(idx_ok h1),(row_part (cLs rowSpt) (s:=1) (k:=0) (m:=1) (fun _=>rfl) (by decide) h1),(pureF_of Try.func60 (by kernel_rfl) f60b (crash_ok c le h2)),(by decide),hc1,trivial⟩ (AvLe.of_eq (by rw [h]; try rfl))
   · have h:=h.2 (of_decide_eq_false hc1)
     obtain ⟨q7_2,h⟩:=h
     exact p33_1_1 c rows k le hE ⟨hc0,(idx_ok h1),(row_part (cLs rowSpt) (s:=1) (k:=0) (m:=1) (fun _=>rfl) (by decide) h1),(pureF_of Try.func60 (by kernel_rfl) f60b (crash_ok c le h2)),(by decide),hc1,q7_2,trivial⟩ h
 · have h:=h.2 (of_decide_eq_false hc0)
   exact p33_1_2 c rows k hE ⟨hc0,trivial⟩ (AvLe.of_eq (by rw [h]; try rfl))
theorem crashK_bad {c:Cir} {rows:List (List Spt)} (h0:checkC c=0) (h1:¬ rows.length > 500) (h2:rows.any (rowBad c)=true):crashK c rows=(0,0,1):=by rw [crashK,if_pos h0,if_neg h1,if_pos h2]
theorem crashK_some {c:Cir} {rows:List (List Spt)} {t:Nat} (h0:checkC c=0) (h1:¬ rows.length > 500) (h2:rows.any (rowBad c)=false) (ht:t<rows.length) (hc:(crashI c (rows.getD t [])).2≥0) (hp:∀ j,j<t→¬ (crashI c (rows.getD j [])).2≥0):crashK c rows=((t:Int),(crashI c (rows.getD t [])).2,0):=by
 rw [crashK,if_pos h0,if_neg h1,if_neg (by rw [h2]; simp),crashT,firstN_some ht (decide_eq_true hc) fun j hj=>decide_eq_false (hp j hj)]
theorem crashK_none {c:Cir} {rows:List (List Spt)} (h0:checkC c=0) (h1:¬ rows.length > 500) (h2:rows.any (rowBad c)=false) (hp:∀ j,j<rows.length→¬ (crashI c (rows.getD j [])).2≥0):crashK c rows=(-1,-1,0):=by
 rw [crashK,if_pos h0,if_neg h1,if_neg (by rw [h2]; simp),crashT,firstN_none fun j hj=>decide_eq_false (hp j hj)]
theorem crashK_ok (c:Cir) (rows:List (List Spt)) (h:c.blocks.length≤9223372036854775807∧c.cars.length≤9223372036854775807):Pure Try.prog 33 [.agg [.rsl (rowBk c.blocks) 0 c.blocks.length,.rsl (rowI c.cars) 0 c.cars.length],.rsl (rowLs rowSpt rows) 0 rows.length] (.tup [.int .i64 (crashK c rows).1,.int .i64 (crashK c rows).2.1,.int .i64 (crashK c rows).2.2]):=pure_of Try.func33 f33b fun E hE=>by
 refine f33W c rows (rv:=crashK c rows) hE ⟨h,fun h0=>by rw [crashK,if_neg h0],fun h0=>⟨fun h1=>by rw [crashK,if_pos h0,if_pos (by omega)],fun h1=>?_⟩⟩
 have hk:=chk_in h0
 have hnb:=hk.nb
 have hnc:=hk.nc
 have h1:¬ rows.length > 500:=by omega
 refine any_from (rowBad c) rows (f33G0 E c rows) (crashK c rows=(0,0,1)) (fun i r hi hr y n=>?_) (fun ha=>crashK_bad h0 h1 ha) (fun ha=>?_)
 · refine f33W0 c rows i (rv:=crashK c rows) hE ⟨fun _=>⟨r,hr,fun e1=>y ?_,fun e1=>⟨⟨h.1,by omega⟩,fun e2=>y ?_,fun e2=>⟨by omega,n ?_⟩⟩⟩,fun h=>by omega⟩
   · rw [rowBad,decide_eq_false (by omega)]; rfl
   · rw [rowBad,e2,Bool.or_true]
   · rw [rowBad,e2,decide_eq_true (by omega)]; rfl
 · refine f33W0 c rows _ (rv:=crashK c rows) hE ⟨fun h=>by omega,fun _=>?_⟩
   have key:∀ (d k:Nat),k+d=rows.length→(∀ j,j<k→¬ (crashI c (rows.getD j [])).2≥0)→f33G1 E c rows k:=by
    intro d
    induction d with
    | zero=>intro k hk hp; exact f33W1 c rows k (rv:=crashK c rows) hE ⟨fun h=>by omega,fun _=>crashK_none h0 h1 ha fun j hj=>hp j (by omega)⟩
    | succ d ih =>
     intro k hkd hp
     have hx:rows[k]?=some (rows.getD k []):=getD_some (by omega)
     have hb:=List.any_eq_false.1 ha _ (List.mem_of_getElem? hx)
     have hbf:rowBad c (rows.getD k [])=false:=Bool.eq_false_iff.2 hb
     obtain ⟨r1,r2⟩:=rowBad_no hbf
     exact f33W1 c rows k (rv:=crashK c rows) hE ⟨fun _=>⟨_,hx,⟨fun x hx=>(spotOk_in (r2 x hx)).1,by omega⟩,fun hc=>crashK_some h0 h1 ha (by omega) hc hp,fun hc=>⟨by omega,ih (k+1) (by omega) fun j hj=>by
      rcases Nat.lt_or_ge j k with h2 | h2
      · exact hp j h2
      · rw [show j=k by omega]; exact hc⟩⟩,fun h=>by omega⟩
   exact key rows.length 0 (by omega) (fun j hj=>by omega)
end Go.Proofs.Ytgdfkjjgdkejfaa
namespace Go.Proofs.Ytgdfkjjgdkejfaa
open Go Ax
open Go.Proofs
theorem f11b:Try.f11.body=some (bodyAt Try.prog 11):=by kernel_rfl
def f11K0 (P:Program):List Item:=kAt 400 [.code (bodyAt P 11)] [.b false,.b false,.b false,.b false,.stop]
def f11S0 (c:Cir) (s:Scr) (t:Nat):St:=⟨([J,J,.ptr 0 0 0,J,J,.rsl ((rowLs rowSpt) ((playK c s.ticks s.presses s.faults).1)) 0 (((playK c s.ticks s.presses s.faults).1).length),J,J,J,J,.int .i64 (t:Int)]++Js 123),[⟨true,0,1,true,[.rsl (rowBk c.blocks) 0 c.blocks.length,.rsl (rowI c.cars) 0 c.cars.length],false⟩,⟨true,0,1,true,[.int .i64 s.ticks,.rsl (rowPrs s.presses) 0 s.presses.length,.rsl (rowFlt s.faults) 0 s.faults.length],false⟩]⟩
def f11G0 (E:Env) (c:Cir) (s:Scr) (t:Nat):Prop:=G Try.prog E (f11K0 Try.prog) (f11S0 c s t )
def f11K1 (P:Program):List Item:=kAt 400 [.code (bodyAt P 11)] [.b false,.b false,.b false,.b false,.b true,.b false,.stop]
def f11S1 (c:Cir) (s:Scr) (t:Nat) (i:Nat):St:=⟨([J,J,.ptr 0 0 0,J,J,.rsl ((rowLs rowSpt) ((playK c s.ticks s.presses s.faults).1)) 0 (((playK c s.ticks s.presses s.faults).1).length),J,J,J,J,.int .i64 (t:Int),.int .i64 (i:Int)]++Js 122),[⟨true,0,1,true,[.rsl (rowBk c.blocks) 0 c.blocks.length,.rsl (rowI c.cars) 0 c.cars.length],false⟩,⟨true,0,1,true,[.int .i64 s.ticks,.rsl (rowPrs s.presses) 0 s.presses.length,.rsl (rowFlt s.faults) 0 s.faults.length],false⟩]⟩
def f11G1 (E:Env) (c:Cir) (s:Scr) (t:Nat) (i:Nat):Prop:=G Try.prog E (f11K1 Try.prog) (f11S1 c s t i )
def f11K2 (P:Program):List Item:=kAt 400 [.code (bodyAt P 11)] [.b false,.b false,.b false,.b false,.b true,.b false,.b true,.b false,.stop]
def f11S2 (c:Cir) (s:Scr) (v2_0:Int) (v2_1:Int) (v2_2:Bool) (t:Nat) (i:Nat) (k:Nat):St:=⟨([J,J,.ptr 0 0 0,J,J,.rsl ((rowLs rowSpt) ((playK c s.ticks s.presses s.faults).1)) 0 (((playK c s.ticks s.presses s.faults).1).length),J,J,J,J,.int .i64 (t:Int),.int .i64 (i:Int),.ptr 2 0 0,.int .i64 (k:Int)]++Js 120),[⟨true,0,1,true,[.rsl (rowBk c.blocks) 0 c.blocks.length,.rsl (rowI c.cars) 0 c.cars.length],false⟩,⟨true,0,1,true,[.int .i64 s.ticks,.rsl (rowPrs s.presses) 0 s.presses.length,.rsl (rowFlt s.faults) 0 s.faults.length],false⟩,⟨true,0,1,true,[.int .i64 v2_0,.int .i64 v2_1,.bool v2_2],false⟩]⟩
def f11G2 (E:Env) (c:Cir) (s:Scr) (v2_0:Int) (v2_1:Int) (v2_2:Bool) (t:Nat) (i:Nat) (k:Nat):Prop:=G Try.prog E (f11K2 Try.prog) (f11S2 c s v2_0 v2_1 v2_2 t i k )
abbrev z11_1 (c:Cir):List AV:=[.rsl (rowBk c.blocks) 0 c.blocks.length,.rsl (rowI c.cars) 0 c.cars.length]
abbrev z11_2 (s:Scr):List AV:=[.int .i64 s.ticks,.rsl (rowPrs s.presses) 0 s.presses.length,.rsl (rowFlt s.faults) 0 s.faults.length]
abbrev z11_3 (c:Cir) (s:Scr):AV:=.tup [.rsl ((rowLs rowSpt) ((playK c s.ticks s.presses s.faults).1)) 0 (((playK c s.ticks s.presses s.faults).1).length),.int .i64 ((playK c s.ticks s.presses s.faults).2)]
abbrev z11_4 (c:Cir) (s:Scr):=crashK c ((playK c s.ticks s.presses s.faults).1)
abbrev z11_5 (c:Cir) (s:Scr):List AV:=[.agg (z11_1 c),.rsl ((rowLs rowSpt) ((playK c s.ticks s.presses s.faults).1)) 0 (((playK c s.ticks s.presses s.faults).1).length)]
abbrev z11_6 (se:Spt):List AV:=[.int .i64 se.block,.int .i64 se.ran,.bool se.opn]
abbrev z11_7 (c:Cir) (s:Scr):AV:=.tup [.int .i64 ((z11_4 c s).1),.int .i64 ((z11_4 c s).2.1),.int .i64 ((z11_4 c s).2.2)]
abbrev z11_8 (c:Cir) (s:Scr) (t:Nat) (i:Nat):List AV:=[J,J,.ptr 0 0 0,J,J,.rsl ((rowLs rowSpt) ((playK c s.ticks s.presses s.faults).1)) 0 (((playK c s.ticks s.presses s.faults).1).length),J,J,J,J,.int .i64 (t:Int),.int .i64 (i:Int),.ptr 2 0 0,.int .i64 0]++Js 120
abbrev z11_9 (c:Cir) (s:Scr):List Blk:=[⟨true,0,1,true,(z11_1 c),false⟩,⟨true,0,1,true,(z11_2 s),false⟩]
theorem p11_start_0 (c:Cir) (s:Scr) {E:Env} {res:AV} (hE:PureE Try.prog 11 res E) (ho:AllP [PureF Try.prog (.clos 15 [] []) [.agg (z11_1 c)] (.bool (farB c)),(farB c)=true,true=true,true=true,PureF Try.prog (.clos 17 [] []) [] (.bool true)])
 (hr:AvLe (.bool true) res):G Try.prog E [.code (bodyAt Try.prog 11)] ⟨[.agg (z11_1 c),.agg (z11_2 s)]++unds (Try.f11.ntmps - 2),[]⟩ :=
 end_stepL (n:=400) (evs:=[.v (.bool (farB c)),.b true,.b true,.b true,.v (.bool true)]) (obs:=_) hE Try.func11 mixed (by kernel_rfl) ho hr
theorem p11_start_1 (c:Cir) (s:Scr) {E:Env} {res:AV} (hE:PureE Try.prog 11 res E) (ho:AllP [PureF Try.prog (.clos 15 [] []) [.agg (z11_1 c)] (.bool (farB c)),(farB c)=false,PureF Try.prog (.clos 16 [] []) [.agg (z11_2 s)] (.bool (longB s)),(longB s)=true,true=true,PureF Try.prog (.clos 17 [] []) [] (.bool true)])
 (hr:AvLe (.bool true) res):G Try.prog E [.code (bodyAt Try.prog 11)] ⟨[.agg (z11_1 c),.agg (z11_2 s)]++unds (Try.f11.ntmps - 2),[]⟩ :=
 end_stepL (n:=400) (evs:=[.v (.bool (farB c)),.b false,.v (.bool (longB s)),.b true,.b true,.v (.bool true)]) (obs:=_) hE Try.func11 mixed (by kernel_rfl) ho hr
theorem p11_start_2 (c:Cir) (s:Scr) {E:Env} {res:AV} (hE:PureE Try.prog 11 res E) (ho:AllP [PureF Try.prog (.clos 15 [] []) [.agg (z11_1 c)] (.bool (farB c)),(farB c)=false,PureF Try.prog (.clos 16 [] []) [.agg (z11_2 s)] (.bool (longB s)),(longB s)=false,(decide ((s.faults.length:Int) > 1))=true,PureF Try.prog (.clos 17 [] []) [] (.bool true)])
 (hr:AvLe (.bool true) res):G Try.prog E [.code (bodyAt Try.prog 11)] ⟨[.agg (z11_1 c),.agg (z11_2 s)]++unds (Try.f11.ntmps - 2),[]⟩ :=
 end_stepL (n:=400) (evs:=[.v (.bool (farB c)),.b false,.v (.bool (longB s)),.b false,.b true,.v (.bool true)]) (obs:=_) hE Try.func11 mixed (by kernel_rfl) ho hr
theorem p11_start_3 (c:Cir) (s:Scr) {E:Env} {res:AV} (hE:PureE Try.prog 11 res E) (ho:AllP [PureF Try.prog (.clos 15 [] []) [.agg (z11_1 c)] (.bool (farB c)),(farB c)=false,PureF Try.prog (.clos 16 [] []) [.agg (z11_2 s)] (.bool (longB s)),(longB s)=false,(decide ((s.faults.length:Int) > 1))=false,PureF Try.prog (.clos 25 [] []) [.agg (z11_1 c),.agg (z11_2 s)] (z11_3 c s),((playK c s.ticks s.presses s.faults).2 != 0)=true,PureF Try.prog (.clos 17 [] []) [] (.bool true)])
 (hr:AvLe (.bool true) res):G Try.prog E [.code (bodyAt Try.prog 11)] ⟨[.agg (z11_1 c),.agg (z11_2 s)]++unds (Try.f11.ntmps - 2),[]⟩ :=
 end_stepL (n:=400) (evs:=[.v (.bool (farB c)),.b false,.v (.bool (longB s)),.b false,.b false,.v (.tup [.rsl ((rowLs rowSpt) ((playK c s.ticks s.presses s.faults).1)) 0 (((playK c s.ticks s.presses s.faults).1).length),.int .i64 ((playK c s.ticks s.presses s.faults).2)]),.b true,.v (.bool true)]) (obs:=_) hE Try.func11 mixed (by kernel_rfl) ho hr
theorem p11_start_4 (c:Cir) (s:Scr) {E:Env} {res:AV} (hE:PureE Try.prog 11 res E) (ho:AllP [PureF Try.prog (.clos 15 [] []) [.agg (z11_1 c)] (.bool (farB c)),(farB c)=false,PureF Try.prog (.clos 16 [] []) [.agg (z11_2 s)] (.bool (longB s)),(longB s)=false,(decide ((s.faults.length:Int) > 1))=false,PureF Try.prog (.clos 25 [] []) [.agg (z11_1 c),.agg (z11_2 s)] (z11_3 c s),((playK c s.ticks s.presses s.faults).2 != 0)=false,(((((playK c s.ticks s.presses s.faults).1).length:Nat):Int) != s.ticks)=true])
 (hr:AvLe (.bool false) res):G Try.prog E [.code (bodyAt Try.prog 11)] ⟨[.agg (z11_1 c),.agg (z11_2 s)]++unds (Try.f11.ntmps - 2),[]⟩ :=
 end_stepL (n:=400) (evs:=[.v (.bool (farB c)),.b false,.v (.bool (longB s)),.b false,.b false,.v (.tup [.rsl ((rowLs rowSpt) ((playK c s.ticks s.presses s.faults).1)) 0 (((playK c s.ticks s.presses s.faults).1).length),.int .i64 ((playK c s.ticks s.presses s.faults).2)]),.b false,.b true]) (obs:=_) hE Try.func11 mixed (by kernel_rfl) ho hr
theorem p11_start_5 (c:Cir) (s:Scr) {E:Env} {res:AV} (hE:PureE Try.prog 11 res E) (ho:AllP [PureF Try.prog (.clos 15 [] []) [.agg (z11_1 c)] (.bool (farB c)),(farB c)=false,PureF Try.prog (.clos 16 [] []) [.agg (z11_2 s)] (.bool (longB s)),(longB s)=false,(decide ((s.faults.length:Int) > 1))=false,PureF Try.prog (.clos 25 [] []) [.agg (z11_1 c),.agg (z11_2 s)] (z11_3 c s),((playK c s.ticks s.presses s.faults).2 != 0)=false,(((((playK c s.ticks s.presses s.faults).1).length:Nat):Int) != s.ticks)=false,PureF Try.prog (.clos 18 [] []) [.agg (z11_1 c)] (.agg (z11_1 c)),PureF Try.prog (.clos 33 [] []) (z11_5 c s) (z11_7 c s),((z11_4 c s).2.2 != 0)=true,true=true,true=true])
 (hr:AvLe (.bool false) res):G Try.prog E [.code (bodyAt Try.prog 11)] ⟨[.agg (z11_1 c),.agg (z11_2 s)]++unds (Try.f11.ntmps - 2),[]⟩ :=
 end_stepL (n:=400) (evs:=[.v (.bool (farB c)),.b false,.v (.bool (longB s)),.b false,.b false,.v (.tup [.rsl ((rowLs rowSpt) ((playK c s.ticks s.presses s.faults).1)) 0 (((playK c s.ticks s.presses s.faults).1).length),.int .i64 ((playK c s.ticks s.presses s.faults).2)]),.b false,.b false,.v (.agg [.rsl (rowBk c.blocks) 0 c.blocks.length,.rsl (rowI c.cars) 0 c.cars.length]),.v (.tup [.int .i64 ((crashK c ((playK c s.ticks s.presses s.faults).1)).1),.int .i64 ((crashK c ((playK c s.ticks s.presses s.faults).1)).2.1),.int .i64 ((crashK c ((playK c s.ticks s.presses s.faults).1)).2.2)]),.b true,.b true,.b true]) (obs:=_) hE Try.func11 mixed (by kernel_rfl) ho hr
theorem p11_start_6 (c:Cir) (s:Scr) {E:Env} {res:AV} (hE:PureE Try.prog 11 res E) (ho:AllP [PureF Try.prog (.clos 15 [] []) [.agg (z11_1 c)] (.bool (farB c)),(farB c)=false,PureF Try.prog (.clos 16 [] []) [.agg (z11_2 s)] (.bool (longB s)),(longB s)=false,(decide ((s.faults.length:Int) > 1))=false,PureF Try.prog (.clos 25 [] []) [.agg (z11_1 c),.agg (z11_2 s)] (z11_3 c s),((playK c s.ticks s.presses s.faults).2 != 0)=false,(((((playK c s.ticks s.presses s.faults).1).length:Nat):Int) != s.ticks)=false,PureF Try.prog (.clos 18 [] []) [.agg (z11_1 c)] (.agg (z11_1 c)),PureF Try.prog (.clos 33 [] []) (z11_5 c s) (z11_7 c s),((z11_4 c s).2.2 != 0)=false,((z11_4 c s).1 != (-1))=true,true=true])
 (hr:AvLe (.bool false) res):G Try.prog E [.code (bodyAt Try.prog 11)] ⟨[.agg (z11_1 c),.agg (z11_2 s)]++unds (Try.f11.ntmps - 2),[]⟩ :=
 end_stepL (n:=400) (evs:=[.v (.bool (farB c)),.b false,.v (.bool (longB s)),.b false,.b false,.v (.tup [.rsl ((rowLs rowSpt) ((playK c s.ticks s.presses s.faults).1)) 0 (((playK c s.ticks s.presses s.faults).1).length),.int .i64 ((playK c s.ticks s.presses s.faults).2)]),.b false,.b false,.v (.agg [.rsl (rowBk c.blocks) 0 c.blocks.length,.rsl (rowI c.cars) 0 c.cars.length]),.v (.tup [.int .i64 ((crashK c ((playK c s.ticks s.presses s.faults).1)).1),.int .i64 ((crashK c ((playK c s.ticks s.presses s.faults).1)).2.1),.int .i64 ((crashK c ((playK c s.ticks s.presses s.faults).1)).2.2)]),.b false,.b true,.b true]) (obs:=_) hE Try.func11 mixed (by kernel_rfl) ho hr
theorem p11_start_7 (c:Cir) (s:Scr) {E:Env} {res:AV} (hE:PureE Try.prog 11 res E) (ho:AllP [PureF Try.prog (.clos 15 [] []) [.agg (z11_1 c)] (.bool (farB c)),(farB c)=false,PureF Try.prog (.clos 16 [] []) [.agg (z11_2 s)] (.bool (longB s)),(longB s)=false,(decide ((s.faults.length:Int) > 1))=false,PureF Try.prog (.clos 25 [] []) [.agg (z11_1 c),.agg (z11_2 s)] (z11_3 c s),((playK c s.ticks s.presses s.faults).2 != 0)=false,(((((playK c s.ticks s.presses s.faults).1).length:Nat):Int) != s.ticks)=false,PureF Try.prog (.clos 18 [] []) [.agg (z11_1 c)] (.agg (z11_1 c)),PureF Try.prog (.clos 33 [] []) (z11_5 c s) (z11_7 c s),((z11_4 c s).2.2 != 0)=false,((z11_4 c s).1 != (-1))=false,((z11_4 c s).2.1 != (-1))=true])
 (hr:AvLe (.bool false) res):G Try.prog E [.code (bodyAt Try.prog 11)] ⟨[.agg (z11_1 c),.agg (z11_2 s)]++unds (Try.f11.ntmps - 2),[]⟩ :=
 end_stepL (n:=400) (evs:=[.v (.bool (farB c)),.b false,.v (.bool (longB s)),.b false,.b false,.v (.tup [.rsl ((rowLs rowSpt) ((playK c s.ticks s.presses s.faults).1)) 0 (((playK c s.ticks s.presses s.faults).1).length),.int .i64 ((playK c s.ticks s.presses s.faults).2)]),.b false,.b false,.v (.agg [.rsl (rowBk c.blocks) 0 c.blocks.length,.rsl (rowI c.cars) 0 c.cars.length]),.v (.tup [.int .i64 ((crashK c ((playK c s.ticks s.presses s.faults).1)).1),.int .i64 ((crashK c ((playK c s.ticks s.presses s.faults).1)).2.1),.int .i64 ((crashK c ((playK c s.ticks s.presses s.faults).1)).2.2)]),.b false,.b false,.b true]) (obs:=_) hE Try.func11 mixed (by kernel_rfl) ho hr
theorem p11_start_8 (c:Cir) (s:Scr) {E:Env} {rv:AV} (hE:PureE Try.prog 11 rv E) (ho:AllP [PureF Try.prog (.clos 15 [] []) [.agg (z11_1 c)] (.bool (farB c)),(farB c)=false,PureF Try.prog (.clos 16 [] []) [.agg (z11_2 s)] (.bool (longB s)),(longB s)=false,(decide ((s.faults.length:Int) > 1))=false,PureF Try.prog (.clos 25 [] []) [.agg (z11_1 c),.agg (z11_2 s)] (z11_3 c s),((playK c s.ticks s.presses s.faults).2 != 0)=false,(((((playK c s.ticks s.presses s.faults).1).length:Nat):Int) != s.ticks)=false,PureF Try.prog (.clos 18 [] []) [.agg (z11_1 c)] (.agg (z11_1 c)),PureF Try.prog (.clos 33 [] []) (z11_5 c s) (z11_7 c s),((z11_4 c s).2.2 != 0)=false,((z11_4 c s).1 != (-1))=false,((z11_4 c s).2.1 != (-1))=false])
 (hg:G Try.prog E (f11K0 Try.prog) ⟨([J,J,.ptr 0 0 0,J,J,.rsl ((rowLs rowSpt) ((playK c s.ticks s.presses s.faults).1)) 0 (((playK c s.ticks s.presses s.faults).1).length),J,J,J,J,.int .i64 0]++Js 123),(z11_9 c s)⟩):G Try.prog E [.code (bodyAt Try.prog 11)] ⟨[.agg (z11_1 c),.agg (z11_2 s)]++unds (Try.f11.ntmps - 2),[]⟩ :=
 segC_step (n:=400) (ds:=[]) (cs:=[]) (live:=[2,5,10]) (m:=2) (evs:=[.v (.bool (farB c)),.b false,.v (.bool (longB s)),.b false,.b false,.v (.tup [.rsl ((rowLs rowSpt) ((playK c s.ticks s.presses s.faults).1)) 0 (((playK c s.ticks s.presses s.faults).1).length),.int .i64 ((playK c s.ticks s.presses s.faults).2)]),.b false,.b false,.v (.agg [.rsl (rowBk c.blocks) 0 c.blocks.length,.rsl (rowI c.cars) 0 c.cars.length]),.v (.tup [.int .i64 ((crashK c ((playK c s.ticks s.presses s.faults).1)).1),.int .i64 ((crashK c ((playK c s.ticks s.presses s.faults).1)).2.1),.int .i64 ((crashK c ((playK c s.ticks s.presses s.faults).1)).2.2)]),.b false,.b false,.b false,.stop]) (obs:=_) hE.2.1 (hE.nogh _) mixed (by kernel_rfl) ho hg
theorem f11W (c:Cir) (s:Scr) {E:Env} {rv:Bool} (hE:PureE Try.prog 11 (.bool rv) E)
 (h:(((farB c)=true→rv=true)∧((farB c)=false→(((longB s)=true→rv=true)∧((longB s)=false→(((s.faults.length:Int) > 1→rv=true)∧(¬ ((s.faults.length:Int) > 1)→(((c.blocks.length≤2147483648∧c.cars.length≤2147483648)∧s.presses.length≤2147483648∧s.faults.length≤2147483648)∧((¬ ((playK c s.ticks s.presses s.faults).2=0)→rv=true)∧((playK c s.ticks s.presses s.faults).2=0→((¬ (((((playK c s.ticks s.presses s.faults).1).length:Nat):Int)=s.ticks)→rv=false)∧(((((playK c s.ticks s.presses s.faults).1).length:Nat):Int)=s.ticks→((c.blocks.length≤2147483648∧c.cars.length≤2147483648)∧((c.blocks.length≤9223372036854775807∧c.cars.length≤9223372036854775807)∧((¬ ((crashK c ((playK c s.ticks s.presses s.faults).1)).2.2=0)→rv=false)∧((crashK c ((playK c s.ticks s.presses s.faults).1)).2.2=0→((¬ ((crashK c ((playK c s.ticks s.presses s.faults).1)).1=(-1))→rv=false)∧((crashK c ((playK c s.ticks s.presses s.faults).1)).1=(-1)→((¬ ((crashK c ((playK c s.ticks s.presses s.faults).1)).2.1=(-1))→rv=false)∧((crashK c ((playK c s.ticks s.presses s.faults).1)).2.1=(-1)→f11G0 E c s 0)))))))))))))))))))):G Try.prog E [.code (bodyAt Try.prog 11)] ⟨[.agg [.rsl (rowBk c.blocks) 0 c.blocks.length,.rsl (rowI c.cars) 0 c.cars.length],.agg [.int .i64 s.ticks,.rsl (rowPrs s.presses) 0 s.presses.length,.rsl (rowFlt s.faults) 0 s.faults.length]]++unds (Try.f11.ntmps - 2),[]⟩:=by
 rcases Bool.eq_false_or_eq_true (farB c) with hc0 | hc0
 · have h:=h.1 hc0
   exact p11_start_0 c s hE ⟨(pureF_of Try.func15 (by kernel_rfl) f15b (far_ok c)),hc0,rfl,rfl,(pureF_of Try.func17 (by kernel_rfl) f17b works_ok),trivial⟩ (AvLe.of_eq (by rw [h]; try rfl))
 · have h:=h.2 hc0
   rcases Bool.eq_false_or_eq_true (longB s) with hc1 | hc1
   · have h:=h.1 hc1
     exact p11_start_1 c s hE ⟨(pureF_of Try.func15 (by kernel_rfl) f15b (far_ok c)),hc0,(pureF_of Try.func16 (by kernel_rfl) f16b (long_ok s)),hc1,rfl,(pureF_of Try.func17 (by kernel_rfl) f17b works_ok),trivial⟩ (AvLe.of_eq (by rw [h]; try rfl))
   · have h:=h.2 hc1
     rcases Bool.eq_false_or_eq_true (decide ((s.faults.length:Int) > 1)) with hc2 | hc2
     · have h:=h.1 (of_decide_eq_true hc2)
       exact p11_start_2 c s hE ⟨(pureF_of Try.func15 (by kernel_rfl) f15b (far_ok c)),hc0,(pureF_of Try.func16 (by kernel_rfl) f16b (long_ok s)),hc1,hc2,(pureF_of Try.func17 (by kernel_rfl) f17b works_ok),trivial⟩ (AvLe.of_eq (by rw [h]; try rfl))
     · have h:=h.2 (of_decide_eq_false hc2)
       obtain ⟨h1,h⟩:=h
       rcases Bool.eq_false_or_eq_true ((playK c s.ticks s.presses s.faults).2 != 0) with hc3 | hc3
       · have h:=h.1 (bneT hc3)
         exact p11_start_3 c s hE ⟨(pureF_of Try.func15 (by kernel_rfl) f15b (far_ok c)),hc0,(pureF_of Try.func16 (by kernel_rfl) f16b (long_ok s)),hc1,hc2,(pureF_of Try.func25 (by kernel_rfl) f25b (play25_ok c s h1)),hc3,(pureF_of Try.func17 (by kernel_rfl) f17b works_ok),trivial⟩ (AvLe.of_eq (by rw [h]; try rfl))
       · have h:=h.2 (bneF hc3)
         rcases Bool.eq_false_or_eq_true (((((playK c s.ticks s.presses s.faults).1).length:Nat):Int) != s.ticks) with hc4 | hc4
         · have h:=h.1 (bneT hc4)
           exact p11_start_4 c s hE ⟨(pureF_of Try.func15 (by kernel_rfl) f15b (far_ok c)),hc0,(pureF_of Try.func16 (by kernel_rfl) f16b (long_ok s)),hc1,hc2,(pureF_of Try.func25 (by kernel_rfl) f25b (play25_ok c s h1)),hc3,hc4,trivial⟩ (AvLe.of_eq (by rw [h]; try rfl))
         · have h:=h.2 (bneF hc4)
           obtain ⟨h2,h⟩:=h
           obtain ⟨h3,h⟩:=h
           rcases Bool.eq_false_or_eq_true ((crashK c ((playK c s.ticks s.presses s.faults).1)).2.2 != 0) with hc5 | hc5
           · have h:=h.1 (bneT hc5)
             exact p11_start_5 c s hE ⟨(pureF_of Try.func15 (by kernel_rfl) f15b (far_ok c)),hc0,(pureF_of Try.func16 (by kernel_rfl) f16b (long_ok s)),hc1,hc2,(pureF_of Try.func25 (by kernel_rfl) f25b (play25_ok c s h1)),hc3,hc4,(pureF_of Try.func18 (by kernel_rfl) f18b (copied_ok c h2)),(pureF_of Try.func33 (by kernel_rfl) f33b (crashK_ok c ((playK c s.ticks s.presses s.faults).1) h3)),hc5,rfl,rfl,trivial⟩ (AvLe.of_eq (by rw [h]; try rfl))
           · have h:=h.2 (bneF hc5)
             rcases Bool.eq_false_or_eq_true ((crashK c ((playK c s.ticks s.presses s.faults).1)).1 != (-1)) with hc6 | hc6
             · have h:=h.1 (bneT hc6)
               exact p11_start_6 c s hE ⟨(pureF_of Try.func15 (by kernel_rfl) f15b (far_ok c)),hc0,(pureF_of Try.func16 (by kernel_rfl) f16b (long_ok s)),hc1,hc2,(pureF_of Try.func25 (by kernel_rfl) f25b (play25_ok c s h1)),hc3,hc4,(pureF_of Try.func18 (by kernel_rfl) f18b (copied_ok c h2)),(pureF_of Try.func33 (by kernel_rfl) f33b (crashK_ok c ((playK c s.ticks s.presses s.faults).1) h3)),hc5,hc6,rfl,trivial⟩ (AvLe.of_eq (by rw [h]; try rfl))
             · have h:=h.2 (bneF hc6)
               rcases Bool.eq_false_or_eq_true ((crashK c ((playK c s.ticks s.presses s.faults).1)).2.1 != (-1)) with hc7 | hc7
               · have h:=h.1 (bneT hc7)
                 exact p11_start_7 c s hE ⟨(pureF_of Try.func15 (by kernel_rfl) f15b (far_ok c)),hc0,(pureF_of Try.func16 (by kernel_rfl) f16b (long_ok s)),hc1,hc2,(pureF_of Try.func25 (by kernel_rfl) f25b (play25_ok c s h1)),hc3,hc4,(pureF_of Try.func18 (by kernel_rfl) f18b (copied_ok c h2)),(pureF_of Try.func33 (by kernel_rfl) f33b (crashK_ok c ((playK c s.ticks s.presses s.faults).1) h3)),hc5,hc6,hc7,trivial⟩ (AvLe.of_eq (by rw [h]; try rfl))
               · have h:=h.2 (bneF hc7)
                 exact p11_start_8 c s hE ⟨(pureF_of Try.func15 (by kernel_rfl) f15b (far_ok c)),hc0,(pureF_of Try.func16 (by kernel_rfl) f16b (long_ok s)),hc1,hc2,(pureF_of Try.func25 (by kernel_rfl) f25b (play25_ok c s h1)),hc3,hc4,(pureF_of Try.func18 (by kernel_rfl) f18b (copied_ok c h2)),(pureF_of Try.func33 (by kernel_rfl) f33b (crashK_ok c ((playK c s.ticks s.presses s.faults).1) h3)),hc5,hc6,hc7,trivial⟩ h
theorem p11_0_0 (c:Cir) (s:Scr) (t:Nat) (le:(List Spt)) {E:Env} {res:AV} (hE:PureE Try.prog 11 res E) (ho:AllP [(decide ((t:Int)<((((playK c s.ticks s.presses s.faults).1).length:Nat):Int)))=true,0≤(t:Int)∧(t:Int)<((((playK c s.ticks s.presses s.faults).1).length:Nat):Int),(((rowLs rowSpt) ((playK c s.ticks s.presses s.faults).1)).drop (0+(Int.toNat (t:Int))*1)).take 1=[.rsl (rowSpt le) 0 le.length],((le.length:Int) != (c.cars.length:Int))=true])
 (hr:AvLe (.bool false) res):G Try.prog E (f11K0 Try.prog) (f11S0 c s t ) :=
 end_stepL (n:=400) (evs:=[.b true,.ld (.rsl (rowSpt le) 0 le.length),.b true]) (obs:=_) hE Try.func11 mixed (by kernel_rfl) ho hr
theorem p11_0_1 (c:Cir) (s:Scr) (t:Nat) (le:(List Spt)) {E:Env} {rv:AV} (hE:PureE Try.prog 11 rv E) (ho:AllP [(decide ((t:Int)<((((playK c s.ticks s.presses s.faults).1).length:Nat):Int)))=true,0≤(t:Int)∧(t:Int)<((((playK c s.ticks s.presses s.faults).1).length:Nat):Int),(((rowLs rowSpt) ((playK c s.ticks s.presses s.faults).1)).drop (0+(Int.toNat (t:Int))*1)).take 1=[.rsl (rowSpt le) 0 le.length],((le.length:Int) != (c.cars.length:Int))=false])
 (hg:G Try.prog E (f11K1 Try.prog) ⟨([J,J,.ptr 0 0 0,J,J,.rsl ((rowLs rowSpt) ((playK c s.ticks s.presses s.faults).1)) 0 (((playK c s.ticks s.presses s.faults).1).length),J,J,J,J,.int .i64 (t:Int),.int .i64 0]++Js 122),(z11_9 c s)⟩):G Try.prog E (f11K0 Try.prog) (f11S0 c s t ) :=
 segC_step (n:=400) (ds:=[]) (cs:=[]) (live:=[2,5,10,11]) (m:=2) (evs:=[.b true,.ld (.rsl (rowSpt le) 0 le.length),.b false,.stop]) (obs:=_) hE.2.1 (hE.nogh _) mixed (by kernel_rfl) ho hg
theorem p11_0_2 (c:Cir) (s:Scr) (t:Nat) {E:Env} {res:AV} (hE:PureE Try.prog 11 res E) (ho:AllP [(decide ((t:Int)<((((playK c s.ticks s.presses s.faults).1).length:Nat):Int)))=false,PureF Try.prog (.clos 17 [] []) [] (.bool true)])
 (hr:AvLe (.bool true) res):G Try.prog E (f11K0 Try.prog) (f11S0 c s t ) :=
 end_stepL (n:=400) (evs:=[.b false,.v (.bool true)]) (obs:=_) hE Try.func11 mixed (by kernel_rfl) ho hr
theorem f11W0 (c:Cir) (s:Scr) (t:Nat) {E:Env} {rv:Bool} (hE:PureE Try.prog 11 (.bool rv) E)
 (h:(((t:Int)<((((playK c s.ticks s.presses s.faults).1).length:Nat):Int)→(∃ le:(List Spt),((playK c s.ticks s.presses s.faults).1)[t]?=some le∧((¬ ((le.length:Int)=(c.cars.length:Int))→rv=false)∧((le.length:Int)=(c.cars.length:Int)→f11G1 E c s t 0))))∧(¬ ((t:Int)<((((playK c s.ticks s.presses s.faults).1).length:Nat):Int))→rv=true))):f11G0 E c s t:=by
 rcases Bool.eq_false_or_eq_true (decide ((t:Int)<((((playK c s.ticks s.presses s.faults).1).length:Nat):Int))) with hc0 | hc0
 · have h:=h.1 (of_decide_eq_true hc0)
   obtain ⟨le,h1,h⟩:=h
   rcases Bool.eq_false_or_eq_true ((le.length:Int) != (c.cars.length:Int)) with hc1 | hc1
   · have h:=h.1 (bneT hc1)
     exact p11_0_0 c s t le hE ⟨hc0,(idx_ok h1),(row_part (cLs rowSpt) (s:=1) (k:=0) (m:=1) (fun _=>rfl) (by decide) h1),hc1,trivial⟩ (AvLe.of_eq (by rw [h]; try rfl))
   · have h:=h.2 (bneF hc1)
     exact p11_0_1 c s t le hE ⟨hc0,(idx_ok h1),(row_part (cLs rowSpt) (s:=1) (k:=0) (m:=1) (fun _=>rfl) (by decide) h1),hc1,trivial⟩ h
 · have h:=h.2 (of_decide_eq_false hc0)
   exact p11_0_2 c s t hE ⟨hc0,(pureF_of Try.func17 (by kernel_rfl) f17b works_ok),trivial⟩ (AvLe.of_eq (by rw [h]; try rfl))
theorem p11_1_0 (c:Cir) (s:Scr) (t:Nat) (i:Nat) (le:(List Spt)) (se:Spt) {E:Env} {res:AV} (hE:PureE Try.prog 11 res E) (ho:AllP [0≤(t:Int)∧(t:Int)<((((playK c s.ticks s.presses s.faults).1).length:Nat):Int),(((rowLs rowSpt) ((playK c s.ticks s.presses s.faults).1)).drop (0+(Int.toNat (t:Int))*1)).take 1=[.rsl (rowSpt le) 0 le.length],(decide ((i:Int)<(le.length:Int)))=true,0≤(t:Int)∧(t:Int)<((((playK c s.ticks s.presses s.faults).1).length:Nat):Int),(((rowLs rowSpt) ((playK c s.ticks s.presses s.faults).1)).drop (0+(Int.toNat (t:Int))*1)).take 1=[.rsl (rowSpt le) 0 le.length],0≤(i:Int)∧(i:Int)<(le.length:Int),((rowSpt le).drop (0+(Int.toNat (i:Int))*3)).take 3=(z11_6 se),3≤3,(decide (se.block<0))=true,true=true,true=true])
 (hr:AvLe (.bool false) res):G Try.prog E (f11K1 Try.prog) (f11S1 c s t i ) :=
 end_stepL (n:=400) (evs:=[.ld (.rsl (rowSpt le) 0 le.length),.b true,.ld (.rsl (rowSpt le) 0 le.length),.ld (.agg [.int .i64 se.block,.int .i64 se.ran,.bool se.opn]),.b true,.b true,.b true]) (obs:=_) hE Try.func11 mixed (by kernel_rfl) ho hr
theorem p11_1_1 (c:Cir) (s:Scr) (t:Nat) (i:Nat) (le:(List Spt)) (se:Spt) {E:Env} {res:AV} (hE:PureE Try.prog 11 res E) (ho:AllP [0≤(t:Int)∧(t:Int)<((((playK c s.ticks s.presses s.faults).1).length:Nat):Int),(((rowLs rowSpt) ((playK c s.ticks s.presses s.faults).1)).drop (0+(Int.toNat (t:Int))*1)).take 1=[.rsl (rowSpt le) 0 le.length],(decide ((i:Int)<(le.length:Int)))=true,0≤(t:Int)∧(t:Int)<((((playK c s.ticks s.presses s.faults).1).length:Nat):Int),(((rowLs rowSpt) ((playK c s.ticks s.presses s.faults).1)).drop (0+(Int.toNat (t:Int))*1)).take 1=[.rsl (rowSpt le) 0 le.length],0≤(i:Int)∧(i:Int)<(le.length:Int),((rowSpt le).drop (0+(Int.toNat (i:Int))*3)).take 3=(z11_6 se),3≤3,(decide (se.block<0))=false,(decide (se.block≥(c.blocks.length:Int)))=true,true=true])
 (hr:AvLe (.bool false) res):G Try.prog E (f11K1 Try.prog) (f11S1 c s t i ) :=
 end_stepL (n:=400) (evs:=[.ld (.rsl (rowSpt le) 0 le.length),.b true,.ld (.rsl (rowSpt le) 0 le.length),.ld (.agg [.int .i64 se.block,.int .i64 se.ran,.bool se.opn]),.b false,.b true,.b true]) (obs:=_) hE Try.func11 mixed (by kernel_rfl) ho hr
theorem p11_1_2 (c:Cir) (s:Scr) (t:Nat) (i:Nat) (le:(List Spt)) (se:Spt) (be:Bk) {E:Env} {res:AV} (hE:PureE Try.prog 11 res E) (ho:AllP [0≤(t:Int)∧(t:Int)<((((playK c s.ticks s.presses s.faults).1).length:Nat):Int),(((rowLs rowSpt) ((playK c s.ticks s.presses s.faults).1)).drop (0+(Int.toNat (t:Int))*1)).take 1=[.rsl (rowSpt le) 0 le.length],(decide ((i:Int)<(le.length:Int)))=true,0≤(t:Int)∧(t:Int)<((((playK c s.ticks s.presses s.faults).1).length:Nat):Int),(((rowLs rowSpt) ((playK c s.ticks s.presses s.faults).1)).drop (0+(Int.toNat (t:Int))*1)).take 1=[.rsl (rowSpt le) 0 le.length],0≤(i:Int)∧(i:Int)<(le.length:Int),((rowSpt le).drop (0+(Int.toNat (i:Int))*3)).take 3=(z11_6 se),3≤3,(decide (se.block<0))=false,(decide (se.block≥(c.blocks.length:Int)))=false,se.opn=true,0≤se.block∧se.block<(c.blocks.length:Int),((rowBk c.blocks).drop ((0+(Int.toNat se.block)*4)+0)).take 1=[.int .i64 be.time],(decide (se.ran<be.time))=true])
 (hr:AvLe (.bool false) res):G Try.prog E (f11K1 Try.prog) (f11S1 c s t i ) :=
 end_stepL (n:=400) (evs:=[.ld (.rsl (rowSpt le) 0 le.length),.b true,.ld (.rsl (rowSpt le) 0 le.length),.ld (.agg [.int .i64 se.block,.int .i64 se.ran,.bool se.opn]),.b false,.b false,.b true,.auto,.auto,.auto,.ld (.int .i64 be.time),.b true]) (obs:=_) hE Try.func11 mixed (by kernel_rfl) ho hr
theorem p11_1_3 (c:Cir) (s:Scr) (t:Nat) (i:Nat) (le:(List Spt)) (se:Spt) (be:Bk) {E:Env} {rv:AV} (hE:PureE Try.prog 11 rv E) (ho:AllP [0≤(t:Int)∧(t:Int)<((((playK c s.ticks s.presses s.faults).1).length:Nat):Int),(((rowLs rowSpt) ((playK c s.ticks s.presses s.faults).1)).drop (0+(Int.toNat (t:Int))*1)).take 1=[.rsl (rowSpt le) 0 le.length],(decide ((i:Int)<(le.length:Int)))=true,0≤(t:Int)∧(t:Int)<((((playK c s.ticks s.presses s.faults).1).length:Nat):Int),(((rowLs rowSpt) ((playK c s.ticks s.presses s.faults).1)).drop (0+(Int.toNat (t:Int))*1)).take 1=[.rsl (rowSpt le) 0 le.length],0≤(i:Int)∧(i:Int)<(le.length:Int),((rowSpt le).drop (0+(Int.toNat (i:Int))*3)).take 3=(z11_6 se),3≤3,(decide (se.block<0))=false,(decide (se.block≥(c.blocks.length:Int)))=false,se.opn=true,0≤se.block∧se.block<(c.blocks.length:Int),((rowBk c.blocks).drop ((0+(Int.toNat se.block)*4)+0)).take 1=[.int .i64 be.time],(decide (se.ran<be.time))=false])
 (hg:G Try.prog E (f11K2 Try.prog) ⟨(z11_8 c s t i),[⟨true,0,1,true,(z11_1 c),false⟩,⟨true,0,1,true,(z11_2 s),false⟩,⟨true,0,1,true,(z11_6 se),false⟩]⟩):G Try.prog E (f11K1 Try.prog) (f11S1 c s t i ) :=
 segC_step (n:=400) (ds:=[]) (cs:=[]) (live:=[2,5,10,11,12,13]) (m:=3) (evs:=[.ld (.rsl (rowSpt le) 0 le.length),.b true,.ld (.rsl (rowSpt le) 0 le.length),.ld (.agg [.int .i64 se.block,.int .i64 se.ran,.bool se.opn]),.b false,.b false,.b true,.auto,.auto,.auto,.ld (.int .i64 be.time),.b false,.stop]) (obs:=_) hE.2.1 (hE.nogh _) mixed (by kernel_rfl) ho hg
theorem p11_1_4 (c:Cir) (s:Scr) (t:Nat) (i:Nat) (le:(List Spt)) (se:Spt) {E:Env} {rv:AV} (hE:PureE Try.prog 11 rv E) (ho:AllP [0≤(t:Int)∧(t:Int)<((((playK c s.ticks s.presses s.faults).1).length:Nat):Int),(((rowLs rowSpt) ((playK c s.ticks s.presses s.faults).1)).drop (0+(Int.toNat (t:Int))*1)).take 1=[.rsl (rowSpt le) 0 le.length],(decide ((i:Int)<(le.length:Int)))=true,0≤(t:Int)∧(t:Int)<((((playK c s.ticks s.presses s.faults).1).length:Nat):Int),(((rowLs rowSpt) ((playK c s.ticks s.presses s.faults).1)).drop (0+(Int.toNat (t:Int))*1)).take 1=[.rsl (rowSpt le) 0 le.length],0≤(i:Int)∧(i:Int)<(le.length:Int),((rowSpt le).drop (0+(Int.toNat (i:Int))*3)).take 3=(z11_6 se),3≤3,(decide (se.block<0))=false,(decide (se.block≥(c.blocks.length:Int)))=false,se.opn=false,false=false])
 (hg:G Try.prog E (f11K2 Try.prog) ⟨(z11_8 c s t i),[⟨true,0,1,true,(z11_1 c),false⟩,⟨true,0,1,true,(z11_2 s),false⟩,⟨true,0,1,true,(z11_6 se),false⟩]⟩):G Try.prog E (f11K1 Try.prog) (f11S1 c s t i ) :=
 segC_step (n:=400) (ds:=[]) (cs:=[]) (live:=[2,5,10,11,12,13]) (m:=3) (evs:=[.ld (.rsl (rowSpt le) 0 le.length),.b true,.ld (.rsl (rowSpt le) 0 le.length),.ld (.agg [.int .i64 se.block,.int .i64 se.ran,.bool se.opn]),.b false,.b false,.b false,.b false,.stop]) (obs:=_) hE.2.1 (hE.nogh _) mixed (by kernel_rfl) ho hg
theorem p11_1_5 (c:Cir) (s:Scr) (t:Nat) (i:Nat) (le:(List Spt)) {E:Env} {rv:AV} (hE:PureE Try.prog 11 rv E) (ho:AllP [0≤(t:Int)∧(t:Int)<((((playK c s.ticks s.presses s.faults).1).length:Nat):Int),(((rowLs rowSpt) ((playK c s.ticks s.presses s.faults).1)).drop (0+(Int.toNat (t:Int))*1)).take 1=[.rsl (rowSpt le) 0 le.length],(decide ((i:Int)<(le.length:Int)))=false,InR .i64 ((t:Int)+1)])
 (hg:G Try.prog E (f11K0 Try.prog) ⟨([J,J,.ptr 0 0 0,J,J,.rsl ((rowLs rowSpt) ((playK c s.ticks s.presses s.faults).1)) 0 (((playK c s.ticks s.presses s.faults).1).length),J,J,J,J,.int .i64 ((t:Int)+1)]++Js 123),(z11_9 c s)⟩):G Try.prog E (f11K1 Try.prog) (f11S1 c s t i ) :=
 segC_step (n:=400) (ds:=[]) (cs:=[]) (live:=[2,5,10]) (m:=2) (evs:=[.ld (.rsl (rowSpt le) 0 le.length),.b false,.stop]) (obs:=_) hE.2.1 (hE.nogh _) mixed (by kernel_rfl) ho hg
theorem f11W1 (c:Cir) (s:Scr) (t:Nat) (i:Nat) {E:Env} {rv:Bool} (hE:PureE Try.prog 11 (.bool rv) E)
 (h:(∃ le:(List Spt),((playK c s.ticks s.presses s.faults).1)[t]?=some le∧(((i:Int)<(le.length:Int)→(∃ se:Spt,le[i]?=some se∧((se.block<0→rv=false)∧(¬ (se.block<0)→((se.block≥(c.blocks.length:Int)→rv=false)∧(¬ (se.block≥(c.blocks.length:Int))→((se.opn=true→(0≤se.block∧(∃ be:Bk,c.blocks[Int.toNat se.block]?=some be∧((se.ran<be.time→rv=false)∧(¬ (se.ran<be.time)→f11G2 E c s se.block se.ran se.opn t i 0)))))∧(se.opn=false→f11G2 E c s se.block se.ran se.opn t i 0))))))))∧(¬ ((i:Int)<(le.length:Int))→((-9223372036854775808≤(t:Int)+1∧(t:Int)+1≤9223372036854775807)∧f11G0 E c s (t+1)))))):f11G1 E c s t i:=by
 obtain ⟨le,h1,h⟩:=h
 rcases Bool.eq_false_or_eq_true (decide ((i:Int)<(le.length:Int))) with hc0 | hc0
 · have h:=h.1 (of_decide_eq_true hc0)
   obtain ⟨se,h2,h⟩:=h
   rcases Bool.eq_false_or_eq_true (decide (se.block<0)) with hc1 | hc1
   · have h:=h.1 (of_decide_eq_true hc1)
     exact p11_1_0 c s t i le se hE ⟨(idx_ok h1),(row_part (cLs rowSpt) (s:=1) (k:=0) (m:=1) (fun _=>rfl) (by decide) h1),hc0,(idx_ok h1),(row_part (cLs rowSpt) (s:=1) (k:=0) (m:=1) (fun _=>rfl) (by decide) h1),(idx_ok h2),(row_part cSpt (s:=3) (k:=0) (m:=3) (fun _=>rfl) (by decide) h2),(by decide),hc1,rfl,rfl,trivial⟩ (AvLe.of_eq (by rw [h]; try rfl))
   · have h:=h.2 (of_decide_eq_false hc1)
     rcases Bool.eq_false_or_eq_true (decide (se.block≥(c.blocks.length:Int))) with hc2 | hc2
     · have h:=h.1 (of_decide_eq_true hc2)
       exact p11_1_1 c s t i le se hE ⟨(idx_ok h1),(row_part (cLs rowSpt) (s:=1) (k:=0) (m:=1) (fun _=>rfl) (by decide) h1),hc0,(idx_ok h1),(row_part (cLs rowSpt) (s:=1) (k:=0) (m:=1) (fun _=>rfl) (by decide) h1),(idx_ok h2),(row_part cSpt (s:=3) (k:=0) (m:=3) (fun _=>rfl) (by decide) h2),(by decide),hc1,hc2,rfl,trivial⟩ (AvLe.of_eq (by rw [h]; try rfl))
     · have h:=h.2 (of_decide_eq_false hc2)
       rcases Bool.eq_false_or_eq_true se.opn with hc3 | hc3
       · have h:=h.1 hc3
         obtain ⟨h4,h⟩:=h
         obtain ⟨be,h3,h⟩:=h
         rcases Bool.eq_false_or_eq_true (decide (se.ran<be.time)) with hc4 | hc4
         · have h:=h.1 (of_decide_eq_true hc4)
           exact p11_1_2 c s t i le se be hE ⟨(idx_ok h1),(row_part (cLs rowSpt) (s:=1) (k:=0) (m:=1) (fun _=>rfl) (by decide) h1),hc0,(idx_ok h1),(row_part (cLs rowSpt) (s:=1) (k:=0) (m:=1) (fun _=>rfl) (by decide) h1),(idx_ok h2),(row_part cSpt (s:=3) (k:=0) (m:=3) (fun _=>rfl) (by decide) h2),(by decide),hc1,hc2,hc3,(idx_ok' h4 h3),(row_part cBk (s:=4) (k:=0) (m:=1) (fun _=>rfl) (by decide) h3),hc4,trivial⟩ (AvLe.of_eq (by rw [h]; try rfl))
         · have h:=h.2 (of_decide_eq_false hc4)
           exact p11_1_3 c s t i le se be hE ⟨(idx_ok h1),(row_part (cLs rowSpt) (s:=1) (k:=0) (m:=1) (fun _=>rfl) (by decide) h1),hc0,(idx_ok h1),(row_part (cLs rowSpt) (s:=1) (k:=0) (m:=1) (fun _=>rfl) (by decide) h1),(idx_ok h2),(row_part cSpt (s:=3) (k:=0) (m:=3) (fun _=>rfl) (by decide) h2),(by decide),hc1,hc2,hc3,(idx_ok' h4 h3),(row_part cBk (s:=4) (k:=0) (m:=1) (fun _=>rfl) (by decide) h3),hc4,trivial⟩ h
       · have h:=h.2 hc3
         exact p11_1_4 c s t i le se hE ⟨(idx_ok h1),(row_part (cLs rowSpt) (s:=1) (k:=0) (m:=1) (fun _=>rfl) (by decide) h1),hc0,(idx_ok h1),(row_part (cLs rowSpt) (s:=1) (k:=0) (m:=1) (fun _=>rfl) (by decide) h1),(idx_ok h2),(row_part cSpt (s:=3) (k:=0) (m:=3) (fun _=>rfl) (by decide) h2),(by decide),hc1,hc2,hc3,rfl,trivial⟩ h
 · have h:=h.2 (of_decide_eq_false hc0)
   obtain ⟨q4_1,h⟩:=h
   exact p11_1_5 c s t i le hE ⟨(idx_ok h1),(row_part (cLs rowSpt) (s:=1) (k:=0) (m:=1) (fun _=>rfl) (by decide) h1),hc0,q4_1,trivial⟩ h
theorem p11_2_0 (c:Cir) (s:Scr) (v2_0:Int) (v2_1:Int) (v2_2:Bool) (t:Nat) (i:Nat) (k:Nat) (le:(List Spt)) (se:Spt) {E:Env} {res:AV} (hE:PureE Try.prog 11 res E) (ho:AllP [(decide ((k:Int)<(i:Int)))=true,0≤(t:Int)∧(t:Int)<((((playK c s.ticks s.presses s.faults).1).length:Nat):Int),(((rowLs rowSpt) ((playK c s.ticks s.presses s.faults).1)).drop (0+(Int.toNat (t:Int))*1)).take 1=[.rsl (rowSpt le) 0 le.length],0≤(k:Int)∧(k:Int)<(le.length:Int),((rowSpt le).drop ((0+(Int.toNat (k:Int))*3)+0)).take 1=[.int .i64 se.block],(se.block == v2_0)=true])
 (hr:AvLe (.bool false) res):G Try.prog E (f11K2 Try.prog) (f11S2 c s v2_0 v2_1 v2_2 t i k ) :=
 end_stepL (n:=400) (evs:=[.b true,.ld (.rsl (rowSpt le) 0 le.length),.ld (.int .i64 se.block),.b true]) (obs:=_) hE Try.func11 mixed (by kernel_rfl) ho hr
theorem p11_2_1 (c:Cir) (s:Scr) (v2_0:Int) (v2_1:Int) (v2_2:Bool) (t:Nat) (i:Nat) (k:Nat) (le:(List Spt)) (se:Spt) {E:Env} {rv:AV} (hE:PureE Try.prog 11 rv E) (ho:AllP [(decide ((k:Int)<(i:Int)))=true,0≤(t:Int)∧(t:Int)<((((playK c s.ticks s.presses s.faults).1).length:Nat):Int),(((rowLs rowSpt) ((playK c s.ticks s.presses s.faults).1)).drop (0+(Int.toNat (t:Int))*1)).take 1=[.rsl (rowSpt le) 0 le.length],0≤(k:Int)∧(k:Int)<(le.length:Int),((rowSpt le).drop ((0+(Int.toNat (k:Int))*3)+0)).take 1=[.int .i64 se.block],(se.block == v2_0)=false,InR .i64 ((k:Int)+1)])
 (hg:G Try.prog E (f11K2 Try.prog) ⟨([J,J,.ptr 0 0 0,J,J,.rsl ((rowLs rowSpt) ((playK c s.ticks s.presses s.faults).1)) 0 (((playK c s.ticks s.presses s.faults).1).length),J,J,J,J,.int .i64 (t:Int),.int .i64 (i:Int),.ptr 2 0 0,.int .i64 ((k:Int)+1)]++Js 120),[⟨true,0,1,true,(z11_1 c),false⟩,⟨true,0,1,true,(z11_2 s),false⟩,⟨true,0,1,true,[.int .i64 v2_0,.int .i64 v2_1,.bool v2_2],false⟩]⟩):G Try.prog E (f11K2 Try.prog) (f11S2 c s v2_0 v2_1 v2_2 t i k ) :=
 segC_step (n:=400) (ds:=[]) (cs:=[]) (live:=[2,5,10,11,12,13]) (m:=3) (evs:=[.b true,.ld (.rsl (rowSpt le) 0 le.length),.ld (.int .i64 se.block),.b false,.stop]) (obs:=_) hE.2.1 (hE.nogh _) mixed (by kernel_rfl) ho hg
theorem p11_2_2 (c:Cir) (s:Scr) (v2_0:Int) (v2_1:Int) (v2_2:Bool) (t:Nat) (i:Nat) (k:Nat) {E:Env} {rv:AV} (hE:PureE Try.prog 11 rv E) (ho:AllP [(decide ((k:Int)<(i:Int)))=false,InR .i64 ((i:Int)+1)])
 (hg:G Try.prog E (f11K1 Try.prog) ⟨([J,J,.ptr 0 0 0,J,J,.rsl ((rowLs rowSpt) ((playK c s.ticks s.presses s.faults).1)) 0 (((playK c s.ticks s.presses s.faults).1).length),J,J,J,J,.int .i64 (t:Int),.int .i64 ((i:Int)+1)]++Js 122),(z11_9 c s)⟩):G Try.prog E (f11K2 Try.prog) (f11S2 c s v2_0 v2_1 v2_2 t i k ) :=
 segC_step (n:=400) (ds:=[]) (cs:=[]) (live:=[2,5,10,11]) (m:=2) (evs:=[.b false,.stop]) (obs:=_) hE.2.1 (hE.nogh _) mixed (by kernel_rfl) ho hg
theorem f11W2 (c:Cir) (s:Scr) (v2_0:Int) (v2_1:Int) (v2_2:Bool) (t:Nat) (i:Nat) (k:Nat) {E:Env} {rv:Bool} (hE:PureE Try.prog 11 (.bool rv) E)
 (h:(((k:Int)<(i:Int)→(∃ le:(List Spt),((playK c s.ticks s.presses s.faults).1)[t]?=some le∧(∃ se:Spt,le[k]?=some se∧((se.block=v2_0→rv=false)∧(¬ (se.block=v2_0)→((-9223372036854775808≤(k:Int)+1∧(k:Int)+1≤9223372036854775807)∧f11G2 E c s v2_0 v2_1 v2_2 t i (k+1)))))))∧(¬ ((k:Int)<(i:Int))→((-9223372036854775808≤(i:Int)+1∧(i:Int)+1≤9223372036854775807)∧f11G1 E c s t (i+1))))):f11G2 E c s v2_0 v2_1 v2_2 t i k:=by
 rcases Bool.eq_false_or_eq_true (decide ((k:Int)<(i:Int))) with hc0 | hc0
 · have h:=h.1 (of_decide_eq_true hc0)
   obtain ⟨le,h1,h⟩:=h
   obtain ⟨se,h2,h⟩:=h
   rcases Bool.eq_false_or_eq_true (se.block == v2_0) with hc1 | hc1
   · have h:=h.1 (eq_of_beq hc1)
     exact p11_2_0 c s v2_0 v2_1 v2_2 t i k le se hE ⟨hc0,(idx_ok h1),(row_part (cLs rowSpt) (s:=1) (k:=0) (m:=1) (fun _=>rfl) (by decide) h1),(idx_ok h2),(row_part cSpt (s:=3) (k:=0) (m:=1) (fun _=>rfl) (by decide) h2),hc1,trivial⟩ (AvLe.of_eq (by rw [h]; try rfl))
   · have h:=h.2 (ne_of_beq_false hc1)
     obtain ⟨q8_2,h⟩:=h
     exact p11_2_1 c s v2_0 v2_1 v2_2 t i k le se hE ⟨hc0,(idx_ok h1),(row_part (cLs rowSpt) (s:=1) (k:=0) (m:=1) (fun _=>rfl) (by decide) h1),(idx_ok h2),(row_part cSpt (s:=3) (k:=0) (m:=1) (fun _=>rfl) (by decide) h2),hc1,q8_2,trivial⟩ h
 · have h:=h.2 (of_decide_eq_false hc0)
   obtain ⟨q1_1,h⟩:=h
   exact p11_2_2 c s v2_0 v2_1 v2_2 t i k hE ⟨hc0,q1_1,trivial⟩ h
end Go.Proofs.Ytgdfkjjgdkejfaa
namespace Go.Proofs.Ytgdfkjjgdkejfaa
open Go Ax
open Go.Proofs
/-! ### What the switches say,if nothing is split -/
theorem b2i_one {b:Bool}:(b2i b == 1)=b:=by cases b <;> rfl
theorem b2i_zero {b:Bool}:(b2i b == 0)=!b:=by cases b <;> rfl
theorem said_true {T:Trk} (h1:T.faults.length≤1) {k b:Int} (hs:splitI (saidV T k b)=false):(saidV T k b).a=b2i (isI T.c T.cars k b)∧(saidV T k b).b=b2i (isI T.c T.cars k b):=by
 simp only [saidV,saysV] at hs ⊢
 cases hf:T.faults with
 | nil=>simp
 | cons f l =>
  have:l=[]:=by rw [hf] at h1; exact List.eq_nil_of_length_eq_zero (by simpa using h1)
  subst this
  rw [hf] at hs
  simp only [List.foldl_cons,List.foldl_nil,fltStep,splitI] at hs ⊢
  split at hs
  · rename_i h
    rw [if_pos h]
    split at hs
    · rename_i hc; rw [if_pos hc]; simp only at hs ⊢; exact ⟨by simpa using hs,trivial⟩
    · rename_i hc; rw [if_neg hc]; simp only at hs ⊢; exact ⟨trivial,(show b2i (isI T.c T.cars k b)=f.val by simpa using hs).symm⟩
  · rename_i h; rw [if_neg h]; exact ⟨rfl,rfl⟩
theorem split_at {T:Trk} (h:anySplit (readI T)=false) {k b:Nat} (hk:k<3) (hb:b<T.c.blocks.length):splitI (saidV T ((k+1:Nat):Int) (b:Int))=false:=by
 rw [splitI,no_split h hk hb]; simp
theorem true_at {T:Trk} (h1:T.faults.length≤1) (h:anySplit (readI T)=false) {k b:Nat} (hk:k<3) (hb:b<T.c.blocks.length):(saidV T ((k+1:Nat):Int) (b:Int)).a=b2i (isI T.c T.cars ((k+1:Nat):Int) (b:Int)) :=
 (said_true h1 (split_at h hk hb)).1
theorem free_true {T:Trk} (h1:T.faults.length≤1) (hsp:anySplit (readI T)=false) (hn:0<T.c.blocks.length) {ops:List Bool} {b:Nat} (hb:b<T.c.blocks.length) :
 freeB T.c (readI T) ops b=(isI T.c T.cars 2 b && isI T.c T.cars 3 b && !(ops.getD b false) && !(isI T.c T.cars 1 (nextB T.c b:Nat))):=by
 have e1:(saidV T 2 b).a=b2i (isI T.c T.cars 2 b):=true_at h1 hsp (k:=1) (by omega) hb
 have e2:(saidV T 3 b).a=b2i (isI T.c T.cars 3 b):=true_at h1 hsp (k:=2) (by omega) hb
 have e3:(saidV T 1 (nextB T.c b:Nat)).a=b2i (isI T.c T.cars 1 (nextB T.c b:Nat)):=true_at h1 hsp (k:=0) (by omega) (Nat.mod_lt _ hn)
 rw [free_a hsp hn hb,e1,e2,e3,b2i_one,b2i_one,b2i_zero]
theorem open_true {T:Trk} (h1:T.faults.length≤1) (hsp:anySplit (readI T)=false) {p:Prs} (hp:InC T.c p.block) (ho:openP T.c (readI T) p=true):isI T.c T.cars 2 p.block=true:=by
 have e:((Int.toNat p.block:Nat):Int)=p.block:=by have:=hp.1; omega
 have e1:=true_at h1 hsp (k:=1) (by omega) hp.2
 rw [e] at e1
 have e1:(saidV T 2 p.block).a=b2i (isI T.c T.cars 2 p.block):=e1
 rw [open_a hsp hp,e1,b2i_one] at ho
 simp only [Bool.and_eq_true] at ho
 exact ho.1.2
/-! ### The brake,car by car -/
def mvC (c:Cir) (x:Car):Car:=⟨⟨(nextB c (Int.toNat x.spot.block):Nat),0,x.spot.opn⟩,0⟩
def goS (c:Cir) (rd:Rd4) (ops:List Bool) (s0:Brk) (i:Nat):Bool:=freeB c rd ops (Int.toNat (s0.cars.getD i dC).spot.block) && !(waitB c s0 (Int.toNat (s0.cars.getD i dC).spot.block) i)
theorem carAt_some {cars:List Car} (hn:NoShare cars) {i b:Nat} (hi:i<cars.length) (hb:(cars.getD i dC).spot.block=(b:Int)):carAt cars b cars.length=some i :=
 firstN_some hi (by simpa using hb) fun j hj=>by
  have:=hn j i hj hi
  rw [hb] at this
  exact beq_eq_false_iff_ne.2 this
theorem brake_each {c:Cir} {rd:Rd4} {ops:List Bool} {s0:Brk} (hn:NoShare s0.cars) (hin:∀ x ∈ s0.cars,InC c x.spot.block) (hg:s0.gos.length=c.blocks.length):∀ {b:Nat},b≤c.blocks.length →
 ((brakeN c rd ops s0.cars b s0).cars.length=s0.cars.length∧(∀ i,i<s0.cars.length→(brakeN c rd ops s0.cars b s0).cars.getD i dC=if Int.toNat (s0.cars.getD i dC).spot.block<b∧goS c rd ops s0 i=true then mvC c (s0.cars.getD i dC) else s0.cars.getD i dC) ∧
   (∀ j,b≤j→(brakeN c rd ops s0.cars b s0).gos.getD j false=s0.gos.getD j false))
 | 0,_=>⟨rfl,fun i hi=>by rw [if_neg (by omega)]; rfl,fun j _=>rfl⟩
 | b+1,hb=>by
  obtain ⟨h1,h2,h3⟩:=brake_each hn hin hg (rd:=rd) (ops:=ops) (b:=b) (by omega)
  simp only [brakeN]
  generalize brakeN c rd ops s0.cars b s0=s at h1 h2 h3
  have same:(∀ i,i<s0.cars.length→Int.toNat (s0.cars.getD i dC).spot.block=b→goS c rd ops s0 i=false)→s.cars.length=s0.cars.length∧(∀ i,i<s0.cars.length→s.cars.getD i dC=if Int.toNat (s0.cars.getD i dC).spot.block<b+1∧goS c rd ops s0 i=true then mvC c (s0.cars.getD i dC) else s0.cars.getD i dC)∧(∀ j,b+1≤j→s.gos.getD j false=s0.gos.getD j false):=fun hh=>by
   refine ⟨h1,fun i hi=>?_,fun j hj=>h3 j (by omega)⟩
   rw [h2 i hi]
   by_cases hbi:Int.toNat (s0.cars.getD i dC).spot.block=b
   · rw [if_neg (by omega),if_neg (by rw [hh i hi hbi]; simp)]
   · by_cases hlt:Int.toNat (s0.cars.getD i dC).spot.block<b∧goS c rd ops s0 i=true
     · rw [if_pos hlt,if_pos ⟨by omega,hlt.2⟩]
     · rw [if_neg hlt,if_neg fun h=>hlt ⟨by omega,h.2⟩]
  have inI:∀ i,i<s0.cars.length→((Int.toNat (s0.cars.getD i dC).spot.block:Nat):Int)=(s0.cars.getD i dC).spot.block:=fun i hi=>by
   have:=(hin _ (List.mem_of_getElem? (getD_some (d:=dC) hi))).1
   omega
  unfold brakeB
  split
  · rename_i hfree
    cases hc:carAt s0.cars b s0.cars.length with
    | none =>
     simp only
     refine same fun i hi hbi=>?_
     have:=carAt_some hn hi (b:=b) (by rw [← inI i hi,hbi])
     rw [hc] at this; cases this
    | some i =>
     simp only
     obtain ⟨hi,hib,-⟩:=firstN_spec hc
     have hib:(s0.cars.getD i dC).spot.block=(b:Int):=by simpa using hib
     have hibn:Int.toNat (s0.cars.getD i dC).spot.block=b:=by omega
     have hsi:s.cars.getD i dC=s0.cars.getD i dC:=by rw [h2 i hi,if_neg (by omega)]
     have hw:waitB c s b i=waitB c s0 b i:=by simp only [waitB,hsi,h3 b (Nat.le_refl b)]
     have only:∀ k,k<s0.cars.length→Int.toNat (s0.cars.getD k dC).spot.block=b→k=i:=fun k hk hkb=>hn.uniq hk hi (by rw [← inI k hk,hkb,hib])
     split
     · rename_i hwt
       refine same fun k hk hkb=>?_
       have:=only k hk hkb
       subst this
       rw [goS,hkb,← hw,hwt]; simp
     · rename_i hwt
       have hgo:goS c rd ops s0 i=true:=by rw [goS,hibn,hfree,← hw,Bool.eq_false_iff.2 hwt]; rfl
       refine ⟨by simp [goB,h1],fun k hk=>?_,fun j hj=>?_⟩
       · simp only [goB]
         rw [List.getD_eq_getElem?_getD,List.getElem?_set]
         by_cases hki:i=k
         · subst hki
           rw [if_pos rfl,if_pos (by rw [h1]; exact hk),if_pos ⟨by omega,hgo⟩,hsi]
           simp only [mvC,hibn,Option.getD_some]
         · rw [if_neg hki,← List.getD_eq_getElem?_getD,h2 k hk]
           have hne:Int.toNat (s0.cars.getD k dC).spot.block ≠ b:=fun h=>hki (only k hk h).symm
           by_cases hlt:Int.toNat (s0.cars.getD k dC).spot.block<b∧goS c rd ops s0 k=true
           · rw [if_pos hlt,if_pos ⟨by omega,hlt.2⟩]
           · rw [if_neg hlt,if_neg fun h=>hlt ⟨by omega,h.2⟩]
       · simp only [goB]
         rw [List.getD_eq_getElem?_getD,List.getElem?_set,if_neg (by omega),← List.getD_eq_getElem?_getD]
         exact h3 j (by omega)
  · rename_i hfree
    refine same fun i hi hbi=>?_
    rw [goS,hbi,Bool.eq_false_iff.2 hfree]; rfl
/-! ### What is pressed,car by car -/
structure Prd (c:Cir) (r:List Car) (s:List Car × List Bool × List Bool):Prop where
 len:s.1.length=r.length
 same:∀ i,i<r.length→(s.1.getD i dC).spot.block=(r.getD i dC).spot.block∧(s.1.getD i dC).spot.ran=(r.getD i dC).spot.ran∧(s.1.getD i dC).stood=(r.getD i dC).stood
 opn:∀ i,i<r.length→(s.1.getD i dC).spot.opn=true→(r.getD i dC).spot.opn=true ∨ (s.2.2.getD (Int.toNat (r.getD i dC).spot.block) false=true∧restI c (r.getD i dC)=true)
theorem isI_car {c:Cir} {cars:List Car} (hn:NoShare cars) {i:Nat} (hi:i<cars.length):isI c cars 2 (cars.getD i dC).spot.block=restI c (cars.getD i dC):=by
 have hm:=List.mem_of_getElem? (getD_some (d:=dC) hi)
 rw [isI,if_neg (by omega),if_pos rfl,Bool.eq_iff_iff,any_iff]
 constructor
 · rintro ⟨j,hj,hp⟩
   simp only [Bool.and_eq_true,beq_iff_eq] at hp
   have:=hn.uniq hj hi hp.1
   rw [← this]; exact hp.2
 · intro h
   exact ⟨i,hi,by rw [beq_self_eq_true,h]; rfl⟩
theorem Prd.press {T:Trk} (h1:T.faults.length≤1) (hsp:anySplit (readI T)=false) (hn:NoShare T.cars) {s:List Car × List Bool × List Bool} {p:Prs} (hp:InC T.c p.block) (h:Prd T.c T.cars s) (hlo:s.2.2.length=T.c.blocks.length):Prd T.c T.cars (pressS T.c (readI T) p s):=by
 unfold pressS
 split
 · exact ⟨h.len,h.same,h.opn⟩
 · refine ⟨by simp [h.len],fun i hi=>?_,fun i hi ho=>?_⟩
   · rw [getD_map (d:=dC) (by rw [h.len]; exact hi)]
     have:=h.same i hi
     unfold pressC
     split
     · exact this
     · exact this
   · rw [getD_map (d:=dC) (by rw [h.len]; exact hi)] at ho
     have hsm:=h.same i hi
     have grow:∀ j,s.2.2.getD j false=true→(opsP (openP T.c (readI T) p) p s.1 s.2.2).getD j false=true:=fun j hj=>by
      have hjl:j<s.2.2.length:=by
       rcases Nat.lt_or_ge j s.2.2.length with q | q
       · exact q
       · rw [List.getD_eq_getElem?_getD,List.getElem?_eq_none q] at hj; cases hj
      rw [opsP,List.getD_eq_getElem?_getD,List.getElem?_set]
      split
      · rename_i e; subst e; rw [if_pos hjl,hj]; rfl
      · rw [← List.getD_eq_getElem?_getD]; exact hj
     unfold pressC at ho
     split at ho
     · rename_i hh
       simp only at ho
       have hk:p.kind=1:=by simpa using ho
       have hhit:=hh
       simp only [hitP,Bool.and_eq_true,beq_iff_eq,Bool.or_eq_true] at hh
       have hop:openP T.c (readI T) p=true:=by rcases hh.2 with h | h; omega; exact h
       have hrest:=open_true h1 hsp hp hop
       have hb:(T.cars.getD i dC).spot.block=p.block:=by rw [← hsm.1]; exact hh.1
       rw [← hb,isI_car hn hi] at hrest
       refine .inr ⟨?_,hrest⟩
       have hany:s.1.any (hitP (openP T.c (readI T) p) p)=true:=any_iff.2 ⟨i,by rw [h.len]; exact hi,hhit⟩
       rw [hb,opsP,List.getD_eq_getElem?_getD,List.getElem?_set,if_pos rfl,if_pos (by rw [hlo]; exact hp.2),hany,show (p.kind == 1)=true by simpa using hk]
       simp
     · rcases h.opn i hi ho with q | ⟨q1,q2⟩
       · exact .inl q
       · exact .inr ⟨grow _ q1,q2⟩
theorem Prd.fold {T:Trk} (h1:T.faults.length≤1) (hsp:anySplit (readI T)=false) (hn:NoShare T.cars):∀ {l:List Prs} {s:List Car × List Bool × List Bool},PrsIn T.c l→Prd T.c T.cars s→s.2.2.length=T.c.blocks.length→Prd T.c T.cars (l.foldl (pressIf T.c (readI T) T.tick) s)
 | [],s,_,h,_=>h
 | p :: l,s,hp,h,hl=>by
  simp only [List.foldl_cons]
  have hpp:=hp p (by simp)
  refine Prd.fold h1 hsp hn (fun q hq=>hp q (by simp [hq])) ?_ ?_
  · unfold pressIf
    split
    · exact Prd.press h1 hsp hn hpp.1 h hl
    · exact h
  · unfold pressIf
    split
    · rw [press_len3]; exact hl
    · exact hl
end Go.Proofs.Ytgdfkjjgdkejfaa
namespace Go.Proofs.Ytgdfkjjgdkejfaa
open Go Ax
open Go.Proofs
theorem wreck_no {c:Cir} {cars:List Car} (hn:NoShare cars) (hr:∀ x ∈ cars,x.spot.opn=true→restI c x=true):wreckS c (cars.map Car.spot)=false:=by
 rw [wreckS]
 refine range_any_false fun i hi=>?_
 rw [List.length_map] at hi
 rw [Bool.or_eq_false_iff]
 refine ⟨?_,range_any_false fun k hk=>?_⟩
 · rw [wreckA,spot_getD hi]
   have:=hr _ (List.mem_of_getElem? (getD_some (d:=dC) hi))
   cases ho:(cars.getD i dC).spot.opn with
   | false=>rfl
   | true =>
    have:=this ho
    have e:restS c (cars.getD i dC).spot=true:=this
    rw [e]; rfl
 · rw [spot_getD hi,spot_getD (by omega)]
   exact beq_eq_false_iff_ne.2 (hn k i hk hi)
theorem next_inj {n a b:Nat} (ha:a<n) (hb:b<n) (h:(a+1) % n=(b+1) % n):a=b:=by
 rcases Nat.lt_or_ge (a+1) n with h1 | h1 <;> rcases Nat.lt_or_ge (b+1) n with h2 | h2
 · rw [Nat.mod_eq_of_lt h1,Nat.mod_eq_of_lt h2] at h; omega
 · rw [Nat.mod_eq_of_lt h1,show b+1=n by omega,Nat.mod_self] at h; omega
 · rw [Nat.mod_eq_of_lt h2,show a+1=n by omega,Nat.mod_self] at h; omega
 · omega
structure Inv (T:Trk) (B:Int):Prop where
 tok:TOk T B
 tt:TT T
 w:T.wrecked=false
 rest:∀ x ∈ T.cars,x.spot.opn=true→restI T.c x=true
 f1:T.faults.length≤1
theorem Inv.ns {T:Trk} {B:Int} (h:Inv T B):NoShare T.cars:=h.tok.ns h.w
theorem roll_rest {T:Trk} (h:∀ x ∈ T.cars,x.spot.opn=true→restI T.c x=true):∀ x ∈ rollT T,x.spot.opn=true→restI T.c x=true:=by
 unfold rollT
 split
 · intro x hx
   obtain ⟨y,hy,rfl⟩:=List.mem_map.1 hx
   have:=h y hy
   unfold rollC
   split
   · rename_i hr; exact fun _=>hr
   · rename_i hr; exact fun ho=>absurd (this ho) hr
 · exact h
theorem Inv.nosplit {T:Trk} {B:Int} (h:Inv T B) (hs:stopT T<0):anySplit (readI (midT T))=false:=by
 have:=h.tok.tk
 unfold stopT at hs
 split at hs
 · split at hs
   · omega
   · rename_i hh; exact Bool.eq_false_iff.2 hh
 · rename_i h0; exact absurd hs h0
/-- Cars that move: each into a block that was free. -/
structure Moved (c:Cir) (r s r':List Car) (go:Nat→Bool):Prop where
 len:s.length=r.length
 len':r'.length=r.length
 each:∀ i,i<r.length→r'.getD i dC=if go i=true then mvC c (s.getD i dC) else s.getD i dC
 same:∀ i,i<r.length→(s.getD i dC).spot.block=(r.getD i dC).spot.block∧(s.getD i dC).spot.ran=(r.getD i dC).spot.ran
 free:∀ i,i<r.length→go i=true→(∀ j,j<r.length→(r.getD j dC).spot.block ≠ (nextB c (Int.toNat (r.getD i dC).spot.block):Nat))∧(s.getD i dC).spot.opn=false
 opn:∀ i,i<r.length→(s.getD i dC).spot.opn=true→(r.getD i dC).spot.opn=true ∨ restI c (r.getD i dC)=true
theorem act_moved {T:Trk} {B:Int} {l:List Prs} (h:Inv T B) (hpr:PrsIn T.c l) (hs:stopT T<0):∃ s go,Moved T.c (rollT T) s (actT T l).cars go:=by
 have hsp:=h.nosplit hs
 have hn:=rollT_ns h.ns
 have hcar:=rollT_car h.tok
 have hf1:(midT T).faults.length≤1:=h.f1
 have hprd:Prd T.c (rollT T) (pressT T l):=Prd.fold (T:=midT T) hf1 hsp hn hpr ⟨rfl,fun i hi=>⟨rfl,rfl,rfl⟩,fun i hi ho=>.inl ho⟩ (by simp [midT])
 have hp:=pres_ok (l:=l) h.tok h.w
 have e:actT T l=brakeT T l:=by unfold actT; rw [if_pos hs]
 have hbr:=brake_each (c:=T.c) (rd:=readI (midT T)) (ops:=(pressT T l).2.2) (s0:=⟨(pressT T l).1,(pressT T l).2.1,T.rounds,T.gone⟩) hp.ns (fun x hx=>(hp.car x hx).inC) hp.lg (b:=T.c.blocks.length) (Nat.le_refl _)
 simp only at hbr
 have hl:=hprd.len
 refine ⟨(pressT T l).1,fun i=>goS T.c (readI (midT T)) (pressT T l).2.2 ⟨(pressT T l).1,(pressT T l).2.1,T.rounds,T.gone⟩ i,hl,?_,fun i hi=>?_,fun i hi=>⟨(hprd.same i hi).1,(hprd.same i hi).2.1⟩,fun i hi hgo=>?_,fun i hi ho=>?_⟩
 · rw [e]; show (brakeN _ _ _ _ _ _).cars.length=_; rw [hbr.1]; exact hl
 · rw [e]
   show (brakeN _ _ _ _ _ _).cars.getD i dC=_
   rw [hbr.2.1 i (by rw [hl]; exact hi)]
   have hb:Int.toNat ((pressT T l).1.getD i dC).spot.block<T.c.blocks.length:=(hp.car _ (List.mem_of_getElem? (getD_some (d:=dC) (by rw [hl]; exact hi)))).inC.2
   by_cases hg:goS T.c (readI (midT T)) (pressT T l).2.2 ⟨(pressT T l).1,(pressT T l).2.1,T.rounds,T.gone⟩ i=true
   · rw [if_pos ⟨hb,hg⟩,if_pos hg]
   · rw [if_neg (fun h=>hg h.2),if_neg hg]
 · have hb:=(hcar _ (List.mem_of_getElem? (getD_some (d:=dC) hi))).inC
   rw [goS] at hgo
   simp only [(hprd.same i hi).1] at hgo
   have hfr:=free_true (T:=midT T) hf1 hsp h.tok.nb.1 (ops:=(pressT T l).2.2) hb.2
   have hfr':freeB T.c (readI (midT T)) (pressT T l).2.2 (Int.toNat ((rollT T).getD i dC).spot.block)=true:=by
    simp only [Bool.and_eq_true] at hgo; exact hgo.1
   have hfr:freeB T.c (readI (midT T)) (pressT T l).2.2 (Int.toNat ((rollT T).getD i dC).spot.block)=(isI T.c (rollT T) 2 (Int.toNat ((rollT T).getD i dC).spot.block:Nat) && isI T.c (rollT T) 3 (Int.toNat ((rollT T).getD i dC).spot.block:Nat) && !((pressT T l).2.2.getD (Int.toNat ((rollT T).getD i dC).spot.block) false) && !(isI T.c (rollT T) 1 (nextB T.c (Int.toNat ((rollT T).getD i dC).spot.block):Nat))):=hfr
   rw [hfr'] at hfr
   have hfr:=hfr.symm
   simp only [Bool.and_eq_true,Bool.not_eq_true'] at hfr
   obtain ⟨⟨⟨-,q2⟩,q3⟩,q4⟩:=hfr
   have hbi:((Int.toNat ((rollT T).getD i dC).spot.block:Nat):Int)=((rollT T).getD i dC).spot.block:=by have:=hb.1; omega
   refine ⟨fun j hj hjb=>?_,?_⟩
   · rw [isI,if_pos rfl] at q4
     have:=(any_iff (p:=fun x:Car=>x.spot.block == ((nextB T.c (Int.toNat ((rollT T).getD i dC).spot.block):Nat):Int))).2 ⟨j,hj,by simp only [beq_iff_eq]; exact hjb⟩
     rw [q4] at this; cases this
   · rw [Bool.eq_false_iff]
     intro ho
     rcases hprd.opn i hi ho with w | ⟨w,-⟩
     · rw [isI,if_neg (by omega),if_neg (by omega),hbi,Bool.not_eq_true'] at q2
       have:=(any_iff (p:=fun x:Car=>x.spot.block == ((rollT T).getD i dC).spot.block && x.spot.opn)).2 ⟨i,hi,by simp only [beq_self_eq_true,w]; rfl⟩
       rw [q2] at this; cases this
     · rw [q3] at w; cases w
 · rcases hprd.opn i hi ho with w | w
   · exact .inl w
   · exact .inr w.2
theorem Moved.ns {c:Cir} {r s r':List Car} {go:Nat→Bool} (h:Moved c r s r' go) (hn:NoShare r) (hin:∀ x ∈ r,InC c x.spot.block):NoShare r':=by
 have blk:∀ i,i<r.length→(r'.getD i dC).spot.block=if go i=true then ((nextB c (Int.toNat (r.getD i dC).spot.block):Nat):Int) else (r.getD i dC).spot.block:=fun i hi=>by
  rw [h.each i hi]
  split
  · simp only [mvC,(h.same i hi).1]
  · exact (h.same i hi).1
 intro i j hij hj
 rw [h.len'] at hj
 have hi:i<r.length:=by omega
 rw [blk i hi,blk j hj]
 have h1:=hin _ (List.mem_of_getElem? (getD_some (d:=dC) hi))
 have h2:=hin _ (List.mem_of_getElem? (getD_some (d:=dC) hj))
 split
 · rename_i gi
   split
   · intro e
     have:=next_inj h1.2 h2.2 (by simp only [nextB] at e; omega)
     exact hn i j hij hj (by have:=h1.1; have:=h2.1; omega)
   · exact fun e=>(h.free i hi gi).1 j hj e.symm
 · split
   · rename_i gj
     exact (h.free j hj gj).1 i hi
   · exact hn i j hij hj
theorem Moved.rest {c:Cir} {r s r':List Car} {go:Nat→Bool} (h:Moved c r s r' go) (hr:∀ x ∈ r,x.spot.opn=true→restI c x=true):∀ x ∈ r',x.spot.opn=true→restI c x=true:=fun x hx ho=>by
 obtain ⟨i,hi⟩:=List.getElem?_of_mem hx
 have hil:i<r.length:=by rw [← h.len']; exact (List.getElem?_eq_some_iff.1 hi).1
 have e:r'.getD i dC=x:=getD_of hi
 rw [← e,h.each i hil] at ho ⊢
 split at ho
 · rename_i hg
   have:=(h.free i hil hg).2
   simp only [mvC,this] at ho; cases ho
 · rename_i hg
   rw [if_neg hg]
   have hs:=h.same i hil
   have:restI c (s.getD i dC)=restI c (r.getD i dC):=by simp only [restI,hs.1,hs.2]
   rw [this]
   rcases h.opn i hil ho with w | w
   · exact hr _ (List.mem_of_getElem? (getD_some (d:=dC) hil)) w
   · exact w
theorem Inv.act {T:Trk} {B:Int} {l:List Prs} (h:Inv T B) (hpr:PrsIn T.c l):NoShare (actT T l).cars∧(∀ x ∈ (actT T l).cars,x.spot.opn=true→restI T.c x=true)∧(actT T l).cars.length=T.cars.length:=by
 by_cases hs:stopT T<0
 · obtain ⟨s,go,hm⟩:=act_moved h hpr hs
   exact ⟨hm.ns (rollT_ns h.ns) fun x hx=>(rollT_car h.tok x hx).inC,hm.rest (roll_rest h.rest),by rw [hm.len',rollT_len]⟩
 · have e:actT T l=⟨rollT T,T.gos,T.rounds,T.gone⟩:=by unfold actT; rw [if_neg hs]
   rw [e]
   exact ⟨rollT_ns h.ns,roll_rest h.rest,rollT_len⟩
theorem Inv.eq {T:Trk} {B:Int} {l:List Prs} (h:Inv T B):stepT T l=⟨T.c,T.faults,(actT T l).cars,(actT T l).gos,T.tick+1,stopT T,crashed T.c (actT T l).cars,(actT T l).rounds,(actT T l).gone⟩:=by
 unfold stepT; rw [if_neg (by rw [h.w]; simp)]
theorem Inv.step {T:Trk} {B:Int} {l:List Prs} (h:Inv T B) (hpr:PrsIn T.c l):Inv (stepT T l) (B+1):=by
 obtain ⟨a1,a2,a3⟩:=h.act hpr
 have htt:=step_tt (l:=l) h.tt h.tok
 refine ⟨step_tok h.tok,htt,?_,?_,by rw [step_f]; exact h.f1⟩
 · rw [htt.wr,crash_wreck htt.ct]
   refine wreck_no ?_ ?_
   · rw [h.eq]; exact a1
   · rw [h.eq]; exact a2
 · rw [h.eq]; exact a2
theorem Inv.run {T:Trk} {B:Int} {l:Nat→List Prs} (h:Inv T B) (hpr:∀ n,PrsIn T.c (l n)):∀ {n:Nat},Inv (runT T l n) (B+n)
 | 0=>by rw [show B+((0:Nat):Int)=B by omega]; exact h
 | n+1=>by
  have:=(Inv.run h hpr (n:=n)).step (l:=l n) (by rw [run_c]; exact hpr n)
  rw [show B+((n+1:Nat):Int)=B+n+1 by omega]
  exact this
theorem Inv.run_len {T:Trk} {B:Int} {l:Nat→List Prs} (h:Inv T B) (hpr:∀ n,PrsIn T.c (l n)):∀ {n:Nat},(runT T l n).cars.length=T.cars.length
 | 0=>rfl
 | n+1=>by
  have hi:=h.run hpr (n:=n)
  have:=(hi.act (l:=l n) (by rw [run_c]; exact hpr n)).2.2
  show (stepT (runT T l n) (l n)).cars.length=_
  rw [hi.eq]
  exact this.trans (Inv.run_len h hpr)
theorem new_inv {c:Cir} {f:List Flt} (hk:ChkIn c) (hf:f.length≤1) (hc:∀ x ∈ f,x.chan=0 ∨ x.chan=1):Inv (newT c f) 30:=by
 refine ⟨new_tok hk (by omega) hc,new_tt hk (new_ns hk),rfl,fun x hx ho=>?_,hf⟩
 obtain ⟨b,hb,rfl⟩:=List.mem_map.1 hx
 cases ho
theorem play_inv {c:Cir} {ticks:Int} {l:List Prs} {f:List Flt} (h:PlayIn c ticks l f) (hf:f.length≤1) {n:Nat}:Inv (playT c f l n) (30+n) :=
 (new_inv h.chk hf fun x hx=>by have:=(h.fl x hx).2.2.1; omega).run fun _=>h.prs
theorem play_len {c:Cir} {ticks:Int} {l:List Prs} {f:List Flt} (h:PlayIn c ticks l f) (hf:f.length≤1) {n:Nat}:(playT c f l n).cars.length=c.cars.length:=by
 have:=(new_inv h.chk hf fun x hx=>by have:=(h.fl x hx).2.2.1; omega).run_len (l:=fun _=>l) (fun _=>h.prs) (n:=n)
 rw [show (playT c f l n).cars.length=(newT c f).cars.length from this]
 simp [newT]
end Go.Proofs.Ytgdfkjjgdkejfaa
namespace Go.Proofs.Ytgdfkjjgdkejfaa
open Go Ax
open Go.Proofs
theorem playK_zero {c:Cir} {ticks:Int} {l:List Prs} {f:List Flt} (h:(playK c ticks l f).2=0):checkP c ticks l f=0:=by
 unfold playK at h
 split at h
 · assumption
 · exact h
theorem rows_eq {c:Cir} {ticks:Int} {l:List Prs} {f:List Flt} (h:checkP c ticks l f=0):(playK c ticks l f).1=(List.range (Int.toNat ticks)).map fun i=>(playT c f l (i+1)).cars.map Car.spot:=by rw [playK,if_pos h]
theorem rows_len {c:Cir} {ticks:Int} {l:List Prs} {f:List Flt} (h:checkP c ticks l f=0):(playK c ticks l f).1.length=Int.toNat ticks:=by rw [rows_eq h]; simp
theorem rows_at {c:Cir} {ticks:Int} {l:List Prs} {f:List Flt} (h:checkP c ticks l f=0) {t:Nat} (ht:t<Int.toNat ticks):(playK c ticks l f).1[t]?=some ((playT c f l (t+1)).cars.map Car.spot):=by
 rw [rows_eq h,List.getElem?_map,List.getElem?_range ht]; rfl
/-- A row of a safe ride. -/
structure RowOk (c:Cir) (r:List Spt):Prop where
 len:r.length=c.cars.length
 ok:∀ x ∈ r,spotOk c x=true
 rest:∀ x ∈ r,x.opn=true→x.ran=(bkAt c x.block).time
 ns:∀ i j,i<j→j<r.length→(r.getD i dS).block ≠ (r.getD j dS).block
theorem inv_row {c:Cir} {T:Trk} {B:Int} (h:Inv T B) (hc:T.c=c) (hl:T.cars.length=c.cars.length):RowOk c (T.cars.map Car.spot):=by
 subst hc
 refine ⟨by rw [List.length_map,hl],fun x hx=>?_,fun x hx ho=>?_,fun i j hij hj=>?_⟩
 · obtain ⟨y,hy,rfl⟩:=List.mem_map.1 hx
   have h1:=h.tok.car y hy
   have h2:=h.tt.ct y hy
   have hin:=h1.inC
   have a:=hin.1
   have b:=hin.2
   simp only [spotOk,Bool.and_eq_true]
   exact ⟨within_iff.2 (by omega),within_iff.2 ⟨h1.ran.1,h2⟩⟩
 · obtain ⟨y,hy,rfl⟩:=List.mem_map.1 hx
   have:=h.rest y hy ho
   simpa [restI] using this
 · rw [List.length_map] at hj
   rw [spot_getD (by omega),spot_getD hj]
   exact h.ns i j hij hj
theorem play_row {c:Cir} {ticks:Int} {l:List Prs} {f:List Flt} (h:PlayIn c ticks l f) (hf:f.length≤1) {n:Nat}:RowOk c ((playT c f l n).cars.map Car.spot):=inv_row (play_inv h hf) play_c (play_len h hf)
theorem row_nocrash {c:Cir} {T:Trk} {B:Int} (h:Inv T B) (hc:T.c=c):¬ (crashI c (T.cars.map Car.spot)).2≥0:=by
 subst hc
 have:=h.tt.wr
 rw [h.w] at this
 exact of_decide_eq_false this.symm
theorem crash_safe {c:Cir} {ticks:Int} {l:List Prs} {f:List Flt} (h0:checkP c ticks l f=0) (hf:f.length≤1):crashK c (playK c ticks l f).1=(-1,-1,0):=by
 obtain ⟨hc,hp⟩:=play_in h0
 have ht:=hp.tk
 have hl:=rows_len h0
 refine crashK_none hc (by omega) ?_ fun j hj=>?_
 · refine List.any_eq_false.2 fun r hr=>?_
   rw [rows_eq h0] at hr
   obtain ⟨i,-,rfl⟩:=List.mem_map.1 hr
   have ro:=play_row hp hf (n:=i+1)
   rw [rowBad,decide_eq_true ro.len,Bool.eq_false_iff.2 (show ¬ (((playT c f l (i+1)).cars.map Car.spot).any fun x=>!spotOk c x)=true from ?_)]
   · simp
   · intro hh
     obtain ⟨x,hx,hxx⟩:=List.any_eq_true.1 hh
     rw [ro.ok x hx] at hxx; cases hxx
 · have:=rows_at h0 (t:=j) (by omega)
   rw [List.getD_eq_getElem?_getD,this]
   exact row_nocrash (play_inv hp hf) play_c
/-! ### When the ride is stopped -/
/-! ### A fault that is never seen -/
structure Sim (T T':Trk):Prop where
 c:T.c=T'.c
 cars:T.cars=T'.cars
 gos:T.gos=T'.gos
 tick:T.tick=T'.tick
 wr:T.wrecked=T'.wrecked
 s:T.stopped<0
 s':T'.stopped<0
theorem said_val {T:Trk} (h1:T.faults.length≤1) {k b:Int} (hs:splitI (saidV T k b)=false):saidV T k b=⟨b2i (isI T.c T.cars k b),b2i (isI T.c T.cars k b)⟩:=by
 have a:=said_true h1 hs
 cases h:saidV T k b with
 | mk x y=>rw [h] at a; simp only at a; rw [a.1,a.2]
theorem said_sound {T T':Trk} (h1:T.faults.length≤1) (h1':T'.faults.length≤1) (hs:anySplit (readI T)=false) (hs':anySplit (readI T')=false) (hc:T.c=T'.c) (hx:T.cars=T'.cars):readI T=readI T':=by
 have key:∀ k,k<3→saidsI T ((k+1:Nat):Int)=saidsI T' ((k+1:Nat):Int):=fun k hk=>by
  rw [saidsI,saidsI,← hc]
  refine List.map_congr_left fun b hb=>?_
  have hb:=List.mem_range.1 hb
  rw [said_val h1 (split_at hs hk hb),said_val h1' (split_at hs' hk (b:=b) (by rw [← hc]; exact hb)),hc,hx]
 rw [readI,readI]
 have k1:=key 0 (by omega)
 have k2:=key 1 (by omega)
 have k3:=key 2 (by omega)
 have k1:saidsI T 1=saidsI T' 1:=k1
 have k2:saidsI T 2=saidsI T' 2:=k2
 have k3:saidsI T 3=saidsI T' 3:=k3
 rw [k1,k2,k3]
theorem Sim.step {T T':Trk} {l:List Prs} (h:Sim T T') (h1:T.faults.length≤1) (h1':T'.faults.length≤1) (ht:0≤T.tick) (hs:(stepT T l).stopped<0) (hs':(stepT T' l).stopped<0):Sim (stepT T l) (stepT T' l):=by
 have ht':0≤T'.tick:=by rw [← h.tick]; exact ht
 by_cases hw:T.wrecked=true
 · have e:stepT T l=⟨T.c,T.faults,T.cars,T.gos,T.tick+1,T.stopped,T.wrecked,T.rounds,T.gone⟩:=by unfold stepT; rw [if_pos hw]
   have e':stepT T' l=⟨T'.c,T'.faults,T'.cars,T'.gos,T'.tick+1,T'.stopped,T'.wrecked,T'.rounds,T'.gone⟩:=by unfold stepT; rw [if_pos (by rw [← h.wr]; exact hw)]
   rw [e,e']
   exact ⟨h.c,h.cars,h.gos,by simp only; rw [h.tick],h.wr,h.s,h.s'⟩
 · have e:stepT T l=⟨T.c,T.faults,(actT T l).cars,(actT T l).gos,T.tick+1,stopT T,crashed T.c (actT T l).cars,(actT T l).rounds,(actT T l).gone⟩:=by unfold stepT; rw [if_neg hw]
   have e':stepT T' l=⟨T'.c,T'.faults,(actT T' l).cars,(actT T' l).gos,T'.tick+1,stopT T',crashed T'.c (actT T' l).cars,(actT T' l).rounds,(actT T' l).gone⟩:=by unfold stepT; rw [if_neg (by rw [← h.wr]; exact hw)]
   have s1:stopT T<0:=by rw [e] at hs; exact hs
   have s2:stopT T'<0:=by rw [e'] at hs'; exact hs'
   have sp:∀ {T:Trk},stopT T<0→0≤T.tick→anySplit (readI (midT T))=false:=fun {T} q q'=>by
    unfold stopT at q
    split at q
    · split at q
      · omega
      · rename_i hh; exact Bool.eq_false_iff.2 hh
    · rename_i h0; exact absurd q h0
   have hr:rollT T=rollT T':=by simp only [rollT,h.c,h.cars,h.tick]
   have hrd:readI (midT T)=readI (midT T'):=said_sound (T:=midT T) (T':=midT T') h1 h1' (sp s1 ht) (sp s2 ht') h.c hr
   have hp:pressT T l=pressT T' l:=by unfold pressT; rw [hrd,hr,h.c,h.tick,h.gos]
   have hact:(actT T l).cars=(actT T' l).cars∧(actT T l).gos=(actT T' l).gos:=by
    unfold actT
    rw [if_pos s1,if_pos s2]
    unfold brakeT
    rw [hrd,hp,h.c]
    exact brake_like (s:=⟨(pressT T' l).1,(pressT T' l).2.1,T.rounds,T.gone⟩) (s':=⟨(pressT T' l).1,(pressT T' l).2.1,T'.rounds,T'.gone⟩) rfl rfl
   rw [e,e']
   exact ⟨h.c,hact.1,hact.2,by simp only; rw [h.tick],by simp only; rw [hact.1,h.c],s1,s2⟩
theorem law11_ok (c:Cir) (s:Scr) (h:CirQ c) (hs:ScrQ s):Pure Try.prog 11 [.agg [.rsl (rowBk c.blocks) 0 c.blocks.length,.rsl (rowI c.cars) 0 c.cars.length],.agg [.int .i64 s.ticks,.rsl (rowPrs s.presses) 0 s.presses.length,.rsl (rowFlt s.faults) 0 s.faults.length]] (.bool true):=pure_of Try.func11 f11b fun E hE=>by
 refine f11W c s (rv:=true) hE ⟨fun _=>rfl,fun hf=>⟨fun _=>rfl,fun hl=>⟨fun _=>rfl,fun h1=>?_⟩⟩⟩
 have hb:=far_in hf
 have hb2:=long_in hl
 refine ⟨⟨⟨by omega,by omega⟩,by omega,by omega⟩,fun _=>rfl,fun hz=>?_⟩
 have h0:=playK_zero hz
 obtain ⟨hc,hp⟩:=play_in h0
 have ht:=hp.tk
 have hlen:=rows_len h0
 have hf1:s.faults.length≤1:=by omega
 have hcr:=crash_safe h0 hf1
 refine ⟨fun e=>absurd (by omega) e,fun _=>⟨⟨by omega,by omega⟩,h,fun e=>absurd (by rw [hcr]) e,fun _=>⟨fun e=>absurd (by rw [hcr]) e,fun _=>⟨fun e=>absurd (by rw [hcr]) e,fun _=>?_⟩⟩⟩⟩
 have key:∀ (d t:Nat),t+d=Int.toNat s.ticks→f11G0 E c s t:=by
  intro d
  induction d with
  | zero=>intro t hd; exact f11W0 c s t (rv:=true) hE ⟨fun h=>by omega,fun _=>rfl⟩
  | succ d ih =>
   intro t hd
   have hr:=rows_at h0 (t:=t) (by omega)
   have ro:=play_row hp hf1 (n:=t+1)
   generalize (playT c s.faults s.presses (t+1)).cars.map Car.spot=r at hr ro
   have nx:=ih (t+1) (by omega)
   have l1:=ro.len
   have mid:∀ (e i:Nat),i+e=r.length→f11G1 E c s t i:=by
    intro e
    induction e with
    | zero=>intro i hi; exact f11W1 c s t i (rv:=true) hE ⟨r,hr,fun h=>by omega,fun _=>⟨by omega,nx⟩⟩
    | succ e ihe =>
     intro i hi
     have hx:r[i]?=some (r.getD i dS):=getD_some (by omega)
     have hm:=List.mem_of_getElem? hx
     have ok:=spotOk_in (ro.ok _ hm)
     have a:=ok.1.1
     have b:=ok.1.2
     have inner:∀ (f k:Nat),k+f=i→f11G2 E c s (r.getD i dS).block (r.getD i dS).ran (r.getD i dS).opn t i k:=by
      intro f
      induction f with
      | zero=>intro k hk; exact f11W2 c s _ _ _ t i k (rv:=true) hE ⟨fun h=>by omega,fun _=>⟨by omega,ihe (i+1) (by omega)⟩⟩
      | succ f ihf =>
       intro k hk
       have hy:r[k]?=some (r.getD k dS):=getD_some (by omega)
       exact f11W2 c s _ _ _ t i k (rv:=true) hE ⟨fun _=>⟨r,hr,_,hy,fun e=>absurd e (ro.ns k i (by omega) (by omega)),fun _=>⟨by omega,ihf (k+1) (by omega)⟩⟩,fun h=>by omega⟩
     exact f11W1 c s t i (rv:=true) hE ⟨r,hr,fun _=>⟨_,hx,fun e=>by omega,fun _=>⟨fun e=>by omega,fun _=>⟨fun ho=>⟨a,_,bk_at ok.1,fun e=>by have:=ro.rest _ hm ho; omega,fun _=>inner i 0 (by omega)⟩,fun _=>inner i 0 (by omega)⟩⟩⟩,fun h=>by omega⟩
   exact f11W0 c s t (rv:=true) hE ⟨fun _=>⟨r,hr,fun e=>by omega,fun _=>mid r.length 0 (by omega)⟩,fun h=>by omega⟩
 exact key (Int.toNat s.ticks) 0 (by omega)
end Go.Proofs.Ytgdfkjjgdkejfaa