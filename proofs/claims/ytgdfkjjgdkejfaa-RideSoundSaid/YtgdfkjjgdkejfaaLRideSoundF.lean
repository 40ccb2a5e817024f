/- A part of the proof: several texts, one behind the other. -/
import Derived.Test.YtgdfkjjgdkejfaaLRideSoundE
set_option linter.unusedVariables false
set_option linter.unusedSimpArgs false
set_option maxRecDepth 100000
namespace Go.Proofs.Ytgdfkjjgdkejfaa
open Go Ax
open Go.Proofs
theorem f6b:Try.f6.body=some (bodyAt Try.prog 6):=by kernel_rfl
abbrev z6_1 (c:Cir):List AV:=[.rsl (rowBk c.blocks) 0 c.blocks.length,.rsl (rowI c.cars) 0 c.cars.length]
abbrev z6_2 (c:Cir) (s:Scr):AV:=.tup [.rsl ((rowLs rowSpt) ((playK c (⟨s.ticks,s.presses,([]:List Flt)⟩:Scr).ticks (⟨s.ticks,s.presses,([]:List Flt)⟩:Scr).presses (⟨s.ticks,s.presses,([]:List Flt)⟩:Scr).faults).1)) 0 (((playK c (⟨s.ticks,s.presses,([]:List Flt)⟩:Scr).ticks (⟨s.ticks,s.presses,([]:List Flt)⟩:Scr).presses (⟨s.ticks,s.presses,([]:List Flt)⟩:Scr).faults).1).length),.int .i64 ((playK c (⟨s.ticks,s.presses,([]:List Flt)⟩:Scr).ticks (⟨s.ticks,s.presses,([]:List Flt)⟩:Scr).presses (⟨s.ticks,s.presses,([]:List Flt)⟩:Scr).faults).2)]
abbrev z6_3 (s:Scr):List AV:=[.int .i64 s.ticks,.rsl (rowPrs s.presses) 0 s.presses.length,.rsl (rowFlt s.faults) 0 s.faults.length]
abbrev z6_4 (c:Cir) (s:Scr):AV:=.tup [.int .i64 ((stopsK c s.ticks s.presses ([]:List Flt)).1),.int .i64 ((stopsK c s.ticks s.presses ([]:List Flt)).2)]
abbrev z6_5 (c:Cir) (s:Scr):List AV:=[.agg (z6_1 c),.agg [.int .i64 s.ticks,.rsl (rowPrs s.presses) 0 s.presses.length,.nilSl]]
abbrev z6_6 (c:Cir) (s:Scr):AV:=.tup [.rsl ((rowLs rowSpt) ((playK c s.ticks s.presses s.faults).1)) 0 (((playK c s.ticks s.presses s.faults).1).length),.int .i64 ((playK c s.ticks s.presses s.faults).2)]
abbrev z6_7 (c:Cir) (s:Scr):AV:=.tup [.int .i64 ((stopsK c s.ticks s.presses s.faults).1),.int .i64 ((stopsK c s.ticks s.presses s.faults).2)]
theorem p6_start_0 (c:Cir) (s:Scr) {E:Env} {res:AV} (hE:PureE Try.prog 6 res E) (ho:AllP [PureF Try.prog (.clos 15 [] []) [.agg (z6_1 c)] (.bool (farB c)),(farB c)=true,true=true,true=true,PureF Try.prog (.clos 17 [] []) [] (.bool true)])
 (hr:AvLe (.bool true) res):G Try.prog E [.code (bodyAt Try.prog 6)] ⟨[.agg (z6_1 c),.agg (z6_3 s)]++unds (Try.f6.ntmps - 2),[]⟩ :=
 end_stepL (n:=400) (evs:=[.v (.bool (farB c)),.b true,.b true,.b true,.v (.bool true)]) (obs:=_) hE Try.func6 mixed (by kernel_rfl) ho hr
theorem p6_start_1 (c:Cir) (s:Scr) {E:Env} {res:AV} (hE:PureE Try.prog 6 res E) (ho:AllP [PureF Try.prog (.clos 15 [] []) [.agg (z6_1 c)] (.bool (farB c)),(farB c)=false,PureF Try.prog (.clos 16 [] []) [.agg (z6_3 s)] (.bool (longB s)),(longB s)=true,true=true,PureF Try.prog (.clos 17 [] []) [] (.bool true)])
 (hr:AvLe (.bool true) res):G Try.prog E [.code (bodyAt Try.prog 6)] ⟨[.agg (z6_1 c),.agg (z6_3 s)]++unds (Try.f6.ntmps - 2),[]⟩ :=
 end_stepL (n:=400) (evs:=[.v (.bool (farB c)),.b false,.v (.bool (longB s)),.b true,.b true,.v (.bool true)]) (obs:=_) hE Try.func6 mixed (by kernel_rfl) ho hr
theorem p6_start_2 (c:Cir) (s:Scr) {E:Env} {res:AV} (hE:PureE Try.prog 6 res E) (ho:AllP [PureF Try.prog (.clos 15 [] []) [.agg (z6_1 c)] (.bool (farB c)),(farB c)=false,PureF Try.prog (.clos 16 [] []) [.agg (z6_3 s)] (.bool (longB s)),(longB s)=false,(decide ((s.faults.length:Int) > 1))=true,PureF Try.prog (.clos 17 [] []) [] (.bool true)])
 (hr:AvLe (.bool true) res):G Try.prog E [.code (bodyAt Try.prog 6)] ⟨[.agg (z6_1 c),.agg (z6_3 s)]++unds (Try.f6.ntmps - 2),[]⟩ :=
 end_stepL (n:=400) (evs:=[.v (.bool (farB c)),.b false,.v (.bool (longB s)),.b false,.b true,.v (.bool true)]) (obs:=_) hE Try.func6 mixed (by kernel_rfl) ho hr
theorem p6_start_3 (c:Cir) (s:Scr) {E:Env} {res:AV} (hE:PureE Try.prog 6 res E) (ho:AllP [PureF Try.prog (.clos 15 [] []) [.agg (z6_1 c)] (.bool (farB c)),(farB c)=false,PureF Try.prog (.clos 16 [] []) [.agg (z6_3 s)] (.bool (longB s)),(longB s)=false,(decide ((s.faults.length:Int) > 1))=false,3≤3,PureF Try.prog (.clos 25 [] []) (z6_5 c s) (z6_2 c s),PureF Try.prog (.clos 18 [] []) [.agg (z6_1 c)] (.agg (z6_1 c)),1=1,0=0,0=0,(0+s.presses.length)≤2147483648,((rowPrs s.presses).drop 0).take (s.presses.length*3)=(rowPrs s.presses),(rowPrs s.presses).length=(s.presses.length*3),noRefs (rowPrs s.presses)=true,PureF Try.prog (.clos 23 [] []) [.agg (z6_1 c),.int .i64 s.ticks,.rsl (rowPrs s.presses) 0 (0+s.presses.length),.nilSl] (z6_4 c s),((playK c (⟨s.ticks,s.presses,([]:List Flt)⟩:Scr).ticks (⟨s.ticks,s.presses,([]:List Flt)⟩:Scr).presses (⟨s.ticks,s.presses,([]:List Flt)⟩:Scr).faults).2 != 0)=true,((playK c (⟨s.ticks,s.presses,([]:List Flt)⟩:Scr).ticks (⟨s.ticks,s.presses,([]:List Flt)⟩:Scr).presses (⟨s.ticks,s.presses,([]:List Flt)⟩:Scr).faults).2 == (stopsK c s.ticks s.presses ([]:List Flt)).2)=true,PureF Try.prog (.clos 17 [] []) [] (.bool true)])
 (hr:AvLe (.bool true) res):G Try.prog E [.code (bodyAt Try.prog 6)] ⟨[.agg (z6_1 c),.agg (z6_3 s)]++unds (Try.f6.ntmps - 2),[]⟩ :=
 end_stepL (n:=400) (evs:=[.v (.bool (farB c)),.b false,.v (.bool (longB s)),.b false,.b false,.v (.tup [.rsl ((rowLs rowSpt) ((playK c (⟨s.ticks,s.presses,([]:List Flt)⟩:Scr).ticks (⟨s.ticks,s.presses,([]:List Flt)⟩:Scr).presses (⟨s.ticks,s.presses,([]:List Flt)⟩:Scr).faults).1)) 0 (((playK c (⟨s.ticks,s.presses,([]:List Flt)⟩:Scr).ticks (⟨s.ticks,s.presses,([]:List Flt)⟩:Scr).presses (⟨s.ticks,s.presses,([]:List Flt)⟩:Scr).faults).1).length),.int .i64 ((playK c (⟨s.ticks,s.presses,([]:List Flt)⟩:Scr).ticks (⟨s.ticks,s.presses,([]:List Flt)⟩:Scr).presses (⟨s.ticks,s.presses,([]:List Flt)⟩:Scr).faults).2)]),.v (.agg [.rsl (rowBk c.blocks) 0 c.blocks.length,.rsl (rowI c.cars) 0 c.cars.length]),.fz,.cs (rowPrs s.presses),.v (.tup [.int .i64 ((stopsK c s.ticks s.presses ([]:List Flt)).1),.int .i64 ((stopsK c s.ticks s.presses ([]:List Flt)).2)]),.b true,.b true,.v (.bool true)]) (obs:=_) hE Try.func6 mixed (by kernel_rfl) ho hr
theorem p6_start_4 (c:Cir) (s:Scr) {E:Env} {res:AV} (hE:PureE Try.prog 6 res E) (ho:AllP [PureF Try.prog (.clos 15 [] []) [.agg (z6_1 c)] (.bool (farB c)),(farB c)=false,PureF Try.prog (.clos 16 [] []) [.agg (z6_3 s)] (.bool (longB s)),(longB s)=false,(decide ((s.faults.length:Int) > 1))=false,3≤3,PureF Try.prog (.clos 25 [] []) (z6_5 c s) (z6_2 c s),PureF Try.prog (.clos 18 [] []) [.agg (z6_1 c)] (.agg (z6_1 c)),1=1,0=0,0=0,(0+s.presses.length)≤2147483648,((rowPrs s.presses).drop 0).take (s.presses.length*3)=(rowPrs s.presses),(rowPrs s.presses).length=(s.presses.length*3),noRefs (rowPrs s.presses)=true,PureF Try.prog (.clos 23 [] []) [.agg (z6_1 c),.int .i64 s.ticks,.rsl (rowPrs s.presses) 0 (0+s.presses.length),.nilSl] (z6_4 c s),((playK c (⟨s.ticks,s.presses,([]:List Flt)⟩:Scr).ticks (⟨s.ticks,s.presses,([]:List Flt)⟩:Scr).presses (⟨s.ticks,s.presses,([]:List Flt)⟩:Scr).faults).2 != 0)=true,((playK c (⟨s.ticks,s.presses,([]:List Flt)⟩:Scr).ticks (⟨s.ticks,s.presses,([]:List Flt)⟩:Scr).presses (⟨s.ticks,s.presses,([]:List Flt)⟩:Scr).faults).2 == (stopsK c s.ticks s.presses ([]:List Flt)).2)=false])
 (hr:AvLe (.bool false) res):G Try.prog E [.code (bodyAt Try.prog 6)] ⟨[.agg (z6_1 c),.agg (z6_3 s)]++unds (Try.f6.ntmps - 2),[]⟩ :=
 end_stepL (n:=400) (evs:=[.v (.bool (farB c)),.b false,.v (.bool (longB s)),.b false,.b false,.v (.tup [.rsl ((rowLs rowSpt) ((playK c (⟨s.ticks,s.presses,([]:List Flt)⟩:Scr).ticks (⟨s.ticks,s.presses,([]:List Flt)⟩:Scr).presses (⟨s.ticks,s.presses,([]:List Flt)⟩:Scr).faults).1)) 0 (((playK c (⟨s.ticks,s.presses,([]:List Flt)⟩:Scr).ticks (⟨s.ticks,s.presses,([]:List Flt)⟩:Scr).presses (⟨s.ticks,s.presses,([]:List Flt)⟩:Scr).faults).1).length),.int .i64 ((playK c (⟨s.ticks,s.presses,([]:List Flt)⟩:Scr).ticks (⟨s.ticks,s.presses,([]:List Flt)⟩:Scr).presses (⟨s.ticks,s.presses,([]:List Flt)⟩:Scr).faults).2)]),.v (.agg [.rsl (rowBk c.blocks) 0 c.blocks.length,.rsl (rowI c.cars) 0 c.cars.length]),.fz,.cs (rowPrs s.presses),.v (.tup [.int .i64 ((stopsK c s.ticks s.presses ([]:List Flt)).1),.int .i64 ((stopsK c s.ticks s.presses ([]:List Flt)).2)]),.b true,.b false]) (obs:=_) hE Try.func6 mixed (by kernel_rfl) ho hr
theorem p6_start_5 (c:Cir) (s:Scr) {E:Env} {res:AV} (hE:PureE Try.prog 6 res E) (ho:AllP [PureF Try.prog (.clos 15 [] []) [.agg (z6_1 c)] (.bool (farB c)),(farB c)=false,PureF Try.prog (.clos 16 [] []) [.agg (z6_3 s)] (.bool (longB s)),(longB s)=false,(decide ((s.faults.length:Int) > 1))=false,3≤3,PureF Try.prog (.clos 25 [] []) (z6_5 c s) (z6_2 c s),PureF Try.prog (.clos 18 [] []) [.agg (z6_1 c)] (.agg (z6_1 c)),1=1,0=0,0=0,(0+s.presses.length)≤2147483648,((rowPrs s.presses).drop 0).take (s.presses.length*3)=(rowPrs s.presses),(rowPrs s.presses).length=(s.presses.length*3),noRefs (rowPrs s.presses)=true,PureF Try.prog (.clos 23 [] []) [.agg (z6_1 c),.int .i64 s.ticks,.rsl (rowPrs s.presses) 0 (0+s.presses.length),.nilSl] (z6_4 c s),((playK c (⟨s.ticks,s.presses,([]:List Flt)⟩:Scr).ticks (⟨s.ticks,s.presses,([]:List Flt)⟩:Scr).presses (⟨s.ticks,s.presses,([]:List Flt)⟩:Scr).faults).2 != 0)=false,((stopsK c s.ticks s.presses ([]:List Flt)).2 != 0)=true,true=true])
 (hr:AvLe (.bool false) res):G Try.prog E [.code (bodyAt Try.prog 6)] ⟨[.agg (z6_1 c),.agg (z6_3 s)]++unds (Try.f6.ntmps - 2),[]⟩ :=
 end_stepL (n:=400) (evs:=[.v (.bool (farB c)),.b false,.v (.bool (longB s)),.b false,.b false,.v (.tup [.rsl ((rowLs rowSpt) ((playK c (⟨s.ticks,s.presses,([]:List Flt)⟩:Scr).ticks (⟨s.ticks,s.presses,([]:List Flt)⟩:Scr).presses (⟨s.ticks,s.presses,([]:List Flt)⟩:Scr).faults).1)) 0 (((playK c (⟨s.ticks,s.presses,([]:List Flt)⟩:Scr).ticks (⟨s.ticks,s.presses,([]:List Flt)⟩:Scr).presses (⟨s.ticks,s.presses,([]:List Flt)⟩:Scr).faults).1).length),.int .i64 ((playK c (⟨s.ticks,s.presses,([]:List Flt)⟩:Scr).ticks (⟨s.ticks,s.presses,([]:List Flt)⟩:Scr).presses (⟨s.ticks,s.presses,([]:List Flt)⟩:Scr).faults).2)]),.v (.agg [.rsl (rowBk c.blocks) 0 c.blocks.length,.rsl (rowI c.cars) 0 c.cars.length]),.fz,.cs (rowPrs s.presses),.v (.tup [.int .i64 ((stopsK c s.ticks s.presses ([]:List Flt)).1),.int .i64 ((stopsK c s.ticks s.presses ([]:List Flt)).2)]),.b false,.b true,.b true]) (obs:=_) hE Try.func6 mixed (by kernel_rfl) ho hr
theorem p6_start_6 (c:Cir) (s:Scr) {E:Env} {res:AV} (hE:PureE Try.prog 6 res E) (ho:AllP [PureF Try.prog (.clos 15 [] []) [.agg (z6_1 c)] (.bool (farB c)),(farB c)=false,PureF Try.prog (.clos 16 [] []) [.agg (z6_3 s)] (.bool (longB s)),(longB s)=false,(decide ((s.faults.length:Int) > 1))=false,3≤3,PureF Try.prog (.clos 25 [] []) (z6_5 c s) (z6_2 c s),PureF Try.prog (.clos 18 [] []) [.agg (z6_1 c)] (.agg (z6_1 c)),1=1,0=0,0=0,(0+s.presses.length)≤2147483648,((rowPrs s.presses).drop 0).take (s.presses.length*3)=(rowPrs s.presses),(rowPrs s.presses).length=(s.presses.length*3),noRefs (rowPrs s.presses)=true,PureF Try.prog (.clos 23 [] []) [.agg (z6_1 c),.int .i64 s.ticks,.rsl (rowPrs s.presses) 0 (0+s.presses.length),.nilSl] (z6_4 c s),((playK c (⟨s.ticks,s.presses,([]:List Flt)⟩:Scr).ticks (⟨s.ticks,s.presses,([]:List Flt)⟩:Scr).presses (⟨s.ticks,s.presses,([]:List Flt)⟩:Scr).faults).2 != 0)=false,((stopsK c s.ticks s.presses ([]:List Flt)).2 != 0)=false,((stopsK c s.ticks s.presses ([]:List Flt)).1 != (-1))=true])
 (hr:AvLe (.bool false) res):G Try.prog E [.code (bodyAt Try.prog 6)] ⟨[.agg (z6_1 c),.agg (z6_3 s)]++unds (Try.f6.ntmps - 2),[]⟩ :=
 end_stepL (n:=400) (evs:=[.v (.bool (farB c)),.b false,.v (.bool (longB s)),.b false,.b false,.v (.tup [.rsl ((rowLs rowSpt) ((playK c (⟨s.ticks,s.presses,([]:List Flt)⟩:Scr).ticks (⟨s.ticks,s.presses,([]:List Flt)⟩:Scr).presses (⟨s.ticks,s.presses,([]:List Flt)⟩:Scr).faults).1)) 0 (((playK c (⟨s.ticks,s.presses,([]:List Flt)⟩:Scr).ticks (⟨s.ticks,s.presses,([]:List Flt)⟩:Scr).presses (⟨s.ticks,s.presses,([]:List Flt)⟩:Scr).faults).1).length),.int .i64 ((playK c (⟨s.ticks,s.presses,([]:List Flt)⟩:Scr).ticks (⟨s.ticks,s.presses,([]:List Flt)⟩:Scr).presses (⟨s.ticks,s.presses,([]:List Flt)⟩:Scr).faults).2)]),.v (.agg [.rsl (rowBk c.blocks) 0 c.blocks.length,.rsl (rowI c.cars) 0 c.cars.length]),.fz,.cs (rowPrs s.presses),.v (.tup [.int .i64 ((stopsK c s.ticks s.presses ([]:List Flt)).1),.int .i64 ((stopsK c s.ticks s.presses ([]:List Flt)).2)]),.b false,.b false,.b true]) (obs:=_) hE Try.func6 mixed (by kernel_rfl) ho hr
theorem p6_start_7 (c:Cir) (s:Scr) {E:Env} {res:AV} (hE:PureE Try.prog 6 res E) (ho:AllP [PureF Try.prog (.clos 15 [] []) [.agg (z6_1 c)] (.bool (farB c)),(farB c)=false,PureF Try.prog (.clos 16 [] []) [.agg (z6_3 s)] (.bool (longB s)),(longB s)=false,(decide ((s.faults.length:Int) > 1))=false,3≤3,PureF Try.prog (.clos 25 [] []) (z6_5 c s) (z6_2 c s),PureF Try.prog (.clos 18 [] []) [.agg (z6_1 c)] (.agg (z6_1 c)),1=1,0=0,0=0,(0+s.presses.length)≤2147483648,((rowPrs s.presses).drop 0).take (s.presses.length*3)=(rowPrs s.presses),(rowPrs s.presses).length=(s.presses.length*3),noRefs (rowPrs s.presses)=true,PureF Try.prog (.clos 23 [] []) [.agg (z6_1 c),.int .i64 s.ticks,.rsl (rowPrs s.presses) 0 (0+s.presses.length),.nilSl] (z6_4 c s),((playK c (⟨s.ticks,s.presses,([]:List Flt)⟩:Scr).ticks (⟨s.ticks,s.presses,([]:List Flt)⟩:Scr).presses (⟨s.ticks,s.presses,([]:List Flt)⟩:Scr).faults).2 != 0)=false,((stopsK c s.ticks s.presses ([]:List Flt)).2 != 0)=false,((stopsK c s.ticks s.presses ([]:List Flt)).1 != (-1))=false,PureF Try.prog (.clos 25 [] []) [.agg (z6_1 c),.agg (z6_3 s)] (z6_6 c s),PureF Try.prog (.clos 18 [] []) [.agg (z6_1 c)] (.agg (z6_1 c)),1=1,0=0,0=0,(0+s.presses.length)≤2147483648,((rowPrs s.presses).drop 0).take (s.presses.length*3)=(rowPrs s.presses),(rowPrs s.presses).length=(s.presses.length*3),noRefs (rowPrs s.presses)=true,1=1,0=0,0=0,(0+s.faults.length)≤2147483648,((rowFlt s.faults).drop 0).take (s.faults.length*5)=(rowFlt s.faults),(rowFlt s.faults).length=(s.faults.length*5),noRefs (rowFlt s.faults)=true,PureF Try.prog (.clos 23 [] []) [.agg (z6_1 c),.int .i64 s.ticks,.rsl (rowPrs s.presses) 0 (0+s.presses.length),.rsl (rowFlt s.faults) 0 (0+s.faults.length)] (z6_7 c s),((playK c s.ticks s.presses s.faults).2 != 0)=true,true=true,PureF Try.prog (.clos 17 [] []) [] (.bool true)])
 (hr:AvLe (.bool true) res):G Try.prog E [.code (bodyAt Try.prog 6)] ⟨[.agg (z6_1 c),.agg (z6_3 s)]++unds (Try.f6.ntmps - 2),[]⟩ :=
 end_stepL (n:=400) (evs:=[.v (.bool (farB c)),.b false,.v (.bool (longB s)),.b false,.b false,.v (.tup [.rsl ((rowLs rowSpt) ((playK c (⟨s.ticks,s.presses,([]:List Flt)⟩:Scr).ticks (⟨s.ticks,s.presses,([]:List Flt)⟩:Scr).presses (⟨s.ticks,s.presses,([]:List Flt)⟩:Scr).faults).1)) 0 (((playK c (⟨s.ticks,s.presses,([]:List Flt)⟩:Scr).ticks (⟨s.ticks,s.presses,([]:List Flt)⟩:Scr).presses (⟨s.ticks,s.presses,([]:List Flt)⟩:Scr).faults).1).length),.int .i64 ((playK c (⟨s.ticks,s.presses,([]:List Flt)⟩:Scr).ticks (⟨s.ticks,s.presses,([]:List Flt)⟩:Scr).presses (⟨s.ticks,s.presses,([]:List Flt)⟩:Scr).faults).2)]),.v (.agg [.rsl (rowBk c.blocks) 0 c.blocks.length,.rsl (rowI c.cars) 0 c.cars.length]),.fz,.cs (rowPrs s.presses),.v (.tup [.int .i64 ((stopsK c s.ticks s.presses ([]:List Flt)).1),.int .i64 ((stopsK c s.ticks s.presses ([]:List Flt)).2)]),.b false,.b false,.b false,.v (.tup [.rsl ((rowLs rowSpt) ((playK c s.ticks s.presses s.faults).1)) 0 (((playK c s.ticks s.presses s.faults).1).length),.int .i64 ((playK c s.ticks s.presses s.faults).2)]),.v (.agg [.rsl (rowBk c.blocks) 0 c.blocks.length,.rsl (rowI c.cars) 0 c.cars.length]),.fz,.cs (rowPrs s.presses),.fz,.cs (rowFlt s.faults),.v (.tup [.int .i64 ((stopsK c s.ticks s.presses s.faults).1),.int .i64 ((stopsK c s.ticks s.presses s.faults).2)]),.b true,.b true,.v (.bool true)]) (obs:=_) hE Try.func6 mixed (by kernel_rfl) ho hr
theorem p6_start_8 (c:Cir) (s:Scr) {E:Env} {res:AV} (hE:PureE Try.prog 6 res E) (ho:AllP [PureF Try.prog (.clos 15 [] []) [.agg (z6_1 c)] (.bool (farB c)),(farB c)=false,PureF Try.prog (.clos 16 [] []) [.agg (z6_3 s)] (.bool (longB s)),(longB s)=false,(decide ((s.faults.length:Int) > 1))=false,3≤3,PureF Try.prog (.clos 25 [] []) (z6_5 c s) (z6_2 c s),PureF Try.prog (.clos 18 [] []) [.agg (z6_1 c)] (.agg (z6_1 c)),1=1,0=0,0=0,(0+s.presses.length)≤2147483648,((rowPrs s.presses).drop 0).take (s.presses.length*3)=(rowPrs s.presses),(rowPrs s.presses).length=(s.presses.length*3),noRefs (rowPrs s.presses)=true,PureF Try.prog (.clos 23 [] []) [.agg (z6_1 c),.int .i64 s.ticks,.rsl (rowPrs s.presses) 0 (0+s.presses.length),.nilSl] (z6_4 c s),((playK c (⟨s.ticks,s.presses,([]:List Flt)⟩:Scr).ticks (⟨s.ticks,s.presses,([]:List Flt)⟩:Scr).presses (⟨s.ticks,s.presses,([]:List Flt)⟩:Scr).faults).2 != 0)=false,((stopsK c s.ticks s.presses ([]:List Flt)).2 != 0)=false,((stopsK c s.ticks s.presses ([]:List Flt)).1 != (-1))=false,PureF Try.prog (.clos 25 [] []) [.agg (z6_1 c),.agg (z6_3 s)] (z6_6 c s),PureF Try.prog (.clos 18 [] []) [.agg (z6_1 c)] (.agg (z6_1 c)),1=1,0=0,0=0,(0+s.presses.length)≤2147483648,((rowPrs s.presses).drop 0).take (s.presses.length*3)=(rowPrs s.presses),(rowPrs s.presses).length=(s.presses.length*3),noRefs (rowPrs s.presses)=true,1=1,0=0,0=0,(0+s.faults.length)≤2147483648,((rowFlt s.faults).drop 0).take (s.faults.length*5)=(rowFlt s.faults),(rowFlt s.faults).length=(s.faults.length*5),noRefs (rowFlt s.faults)=true,PureF Try.prog (.clos 23 [] []) [.agg (z6_1 c),.int .i64 s.ticks,.rsl (rowPrs s.presses) 0 (0+s.presses.length),.rsl (rowFlt s.faults) 0 (0+s.faults.length)] (z6_7 c s),((playK c s.ticks s.presses s.faults).2 != 0)=false,((stopsK c s.ticks s.presses s.faults).2 != 0)=true,PureF Try.prog (.clos 17 [] []) [] (.bool true)])
 (hr:AvLe (.bool true) res):G Try.prog E [.code (bodyAt Try.prog 6)] ⟨[.agg (z6_1 c),.agg (z6_3 s)]++unds (Try.f6.ntmps - 2),[]⟩ :=
 end_stepL (n:=400) (evs:=[.v (.bool (farB c)),.b false,.v (.bool (longB s)),.b false,.b false,.v (.tup [.rsl ((rowLs rowSpt) ((playK c (⟨s.ticks,s.presses,([]:List Flt)⟩:Scr).ticks (⟨s.ticks,s.presses,([]:List Flt)⟩:Scr).presses (⟨s.ticks,s.presses,([]:List Flt)⟩:Scr).faults).1)) 0 (((playK c (⟨s.ticks,s.presses,([]:List Flt)⟩:Scr).ticks (⟨s.ticks,s.presses,([]:List Flt)⟩:Scr).presses (⟨s.ticks,s.presses,([]:List Flt)⟩:Scr).faults).1).length),.int .i64 ((playK c (⟨s.ticks,s.presses,([]:List Flt)⟩:Scr).ticks (⟨s.ticks,s.presses,([]:List Flt)⟩:Scr).presses (⟨s.ticks,s.presses,([]:List Flt)⟩:Scr).faults).2)]),.v (.agg [.rsl (rowBk c.blocks) 0 c.blocks.length,.rsl (rowI c.cars) 0 c.cars.length]),.fz,.cs (rowPrs s.presses),.v (.tup [.int .i64 ((stopsK c s.ticks s.presses ([]:List Flt)).1),.int .i64 ((stopsK c s.ticks s.presses ([]:List Flt)).2)]),.b false,.b false,.b false,.v (.tup [.rsl ((rowLs rowSpt) ((playK c s.ticks s.presses s.faults).1)) 0 (((playK c s.ticks s.presses s.faults).1).length),.int .i64 ((playK c s.ticks s.presses s.faults).2)]),.v (.agg [.rsl (rowBk c.blocks) 0 c.blocks.length,.rsl (rowI c.cars) 0 c.cars.length]),.fz,.cs (rowPrs s.presses),.fz,.cs (rowFlt s.faults),.v (.tup [.int .i64 ((stopsK c s.ticks s.presses s.faults).1),.int .i64 ((stopsK c s.ticks s.presses s.faults).2)]),.b false,.b true,.v (.bool true)]) (obs:=_) hE Try.func6 mixed (by kernel_rfl) ho hr
theorem p6_start_9 (c:Cir) (s:Scr) {E:Env} {res:AV} (hE:PureE Try.prog 6 res E) (ho:AllP [PureF Try.prog (.clos 15 [] []) [.agg (z6_1 c)] (.bool (farB c)),(farB c)=false,PureF Try.prog (.clos 16 [] []) [.agg (z6_3 s)] (.bool (longB s)),(longB s)=false,(decide ((s.faults.length:Int) > 1))=false,3≤3,PureF Try.prog (.clos 25 [] []) (z6_5 c s) (z6_2 c s),PureF Try.prog (.clos 18 [] []) [.agg (z6_1 c)] (.agg (z6_1 c)),1=1,0=0,0=0,(0+s.presses.length)≤2147483648,((rowPrs s.presses).drop 0).take (s.presses.length*3)=(rowPrs s.presses),(rowPrs s.presses).length=(s.presses.length*3),noRefs (rowPrs s.presses)=true,PureF Try.prog (.clos 23 [] []) [.agg (z6_1 c),.int .i64 s.ticks,.rsl (rowPrs s.presses) 0 (0+s.presses.length),.nilSl] (z6_4 c s),((playK c (⟨s.ticks,s.presses,([]:List Flt)⟩:Scr).ticks (⟨s.ticks,s.presses,([]:List Flt)⟩:Scr).presses (⟨s.ticks,s.presses,([]:List Flt)⟩:Scr).faults).2 != 0)=false,((stopsK c s.ticks s.presses ([]:List Flt)).2 != 0)=false,((stopsK c s.ticks s.presses ([]:List Flt)).1 != (-1))=false,PureF Try.prog (.clos 25 [] []) [.agg (z6_1 c),.agg (z6_3 s)] (z6_6 c s),PureF Try.prog (.clos 18 [] []) [.agg (z6_1 c)] (.agg (z6_1 c)),1=1,0=0,0=0,(0+s.presses.length)≤2147483648,((rowPrs s.presses).drop 0).take (s.presses.length*3)=(rowPrs s.presses),(rowPrs s.presses).length=(s.presses.length*3),noRefs (rowPrs s.presses)=true,1=1,0=0,0=0,(0+s.faults.length)≤2147483648,((rowFlt s.faults).drop 0).take (s.faults.length*5)=(rowFlt s.faults),(rowFlt s.faults).length=(s.faults.length*5),noRefs (rowFlt s.faults)=true,PureF Try.prog (.clos 23 [] []) [.agg (z6_1 c),.int .i64 s.ticks,.rsl (rowPrs s.presses) 0 (0+s.presses.length),.rsl (rowFlt s.faults) 0 (0+s.faults.length)] (z6_7 c s),((playK c s.ticks s.presses s.faults).2 != 0)=false,((stopsK c s.ticks s.presses s.faults).2 != 0)=false,(decide ((stopsK c s.ticks s.presses s.faults).1≥0))=true,true=true,PureF Try.prog (.clos 17 [] []) [] (.bool true)])
 (hr:AvLe (.bool true) res):G Try.prog E [.code (bodyAt Try.prog 6)] ⟨[.agg (z6_1 c),.agg (z6_3 s)]++unds (Try.f6.ntmps - 2),[]⟩ :=
 end_stepL (n:=400) (evs:=[.v (.bool (farB c)),.b false,.v (.bool (longB s)),.b false,.b false,.v (.tup [.rsl ((rowLs rowSpt) ((playK c (⟨s.ticks,s.presses,([]:List Flt)⟩:Scr).ticks (⟨s.ticks,s.presses,([]:List Flt)⟩:Scr).presses (⟨s.ticks,s.presses,([]:List Flt)⟩:Scr).faults).1)) 0 (((playK c (⟨s.ticks,s.presses,([]:List Flt)⟩:Scr).ticks (⟨s.ticks,s.presses,([]:List Flt)⟩:Scr).presses (⟨s.ticks,s.presses,([]:List Flt)⟩:Scr).faults).1).length),.int .i64 ((playK c (⟨s.ticks,s.presses,([]:List Flt)⟩:Scr).ticks (⟨s.ticks,s.presses,([]:List Flt)⟩:Scr).presses (⟨s.ticks,s.presses,([]:List Flt)⟩:Scr).faults).2)]),.v (.agg [.rsl (rowBk c.blocks) 0 c.blocks.length,.rsl (rowI c.cars) 0 c.cars.length]),.fz,.cs (rowPrs s.presses),.v (.tup [.int .i64 ((stopsK c s.ticks s.presses ([]:List Flt)).1),.int .i64 ((stopsK c s.ticks s.presses ([]:List Flt)).2)]),.b false,.b false,.b false,.v (.tup [.rsl ((rowLs rowSpt) ((playK c s.ticks s.presses s.faults).1)) 0 (((playK c s.ticks s.presses s.faults).1).length),.int .i64 ((playK c s.ticks s.presses s.faults).2)]),.v (.agg [.rsl (rowBk c.blocks) 0 c.blocks.length,.rsl (rowI c.cars) 0 c.cars.length]),.fz,.cs (rowPrs s.presses),.fz,.cs (rowFlt s.faults),.v (.tup [.int .i64 ((stopsK c s.ticks s.presses s.faults).1),.int .i64 ((stopsK c s.ticks s.presses s.faults).2)]),.b false,.b false,.b true,.b true,.v (.bool true)]) (obs:=_) hE Try.func6 mixed (by kernel_rfl) ho hr
theorem p6_start_10 (c:Cir) (s:Scr) {E:Env} {res:AV} (hE:PureE Try.prog 6 res E) (ho:AllP [PureF Try.prog (.clos 15 [] []) [.agg (z6_1 c)] (.bool (farB c)),(farB c)=false,PureF Try.prog (.clos 16 [] []) [.agg (z6_3 s)] (.bool (longB s)),(longB s)=false,(decide ((s.faults.length:Int) > 1))=false,3≤3,PureF Try.prog (.clos 25 [] []) (z6_5 c s) (z6_2 c s),PureF Try.prog (.clos 18 [] []) [.agg (z6_1 c)] (.agg (z6_1 c)),1=1,0=0,0=0,(0+s.presses.length)≤2147483648,((rowPrs s.presses).drop 0).take (s.presses.length*3)=(rowPrs s.presses),(rowPrs s.presses).length=(s.presses.length*3),noRefs (rowPrs s.presses)=true,PureF Try.prog (.clos 23 [] []) [.agg (z6_1 c),.int .i64 s.ticks,.rsl (rowPrs s.presses) 0 (0+s.presses.length),.nilSl] (z6_4 c s),((playK c (⟨s.ticks,s.presses,([]:List Flt)⟩:Scr).ticks (⟨s.ticks,s.presses,([]:List Flt)⟩:Scr).presses (⟨s.ticks,s.presses,([]:List Flt)⟩:Scr).faults).2 != 0)=false,((stopsK c s.ticks s.presses ([]:List Flt)).2 != 0)=false,((stopsK c s.ticks s.presses ([]:List Flt)).1 != (-1))=false,PureF Try.prog (.clos 25 [] []) [.agg (z6_1 c),.agg (z6_3 s)] (z6_6 c s),PureF Try.prog (.clos 18 [] []) [.agg (z6_1 c)] (.agg (z6_1 c)),1=1,0=0,0=0,(0+s.presses.length)≤2147483648,((rowPrs s.presses).drop 0).take (s.presses.length*3)=(rowPrs s.presses),(rowPrs s.presses).length=(s.presses.length*3),noRefs (rowPrs s.presses)=true,1=1,0=0,0=0,(0+s.faults.length)≤2147483648,((rowFlt s.faults).drop 0).take (s.faults.length*5)=(rowFlt s.faults),(rowFlt s.faults).length=(s.faults.length*5),noRefs (rowFlt s.faults)=true,PureF Try.prog (.clos 23 [] []) [.agg (z6_1 c),.int .i64 s.ticks,.rsl (rowPrs s.presses) 0 (0+s.presses.length),.rsl (rowFlt s.faults) 0 (0+s.faults.length)] (z6_7 c s),((playK c s.ticks s.presses s.faults).2 != 0)=false,((stopsK c s.ticks s.presses s.faults).2 != 0)=false,(decide ((stopsK c s.ticks s.presses s.faults).1≥0))=false,PureF Try.prog (.clos 21 [] []) [.rsl ((rowLs rowSpt) ((playK c (⟨s.ticks,s.presses,([]:List Flt)⟩:Scr).ticks (⟨s.ticks,s.presses,([]:List Flt)⟩:Scr).presses (⟨s.ticks,s.presses,([]:List Flt)⟩:Scr).faults).1)) 0 (((playK c (⟨s.ticks,s.presses,([]:List Flt)⟩:Scr).ticks (⟨s.ticks,s.presses,([]:List Flt)⟩:Scr).presses (⟨s.ticks,s.presses,([]:List Flt)⟩:Scr).faults).1).length),.rsl ((rowLs rowSpt) ((playK c s.ticks s.presses s.faults).1)) 0 (((playK c s.ticks s.presses s.faults).1).length)] (.bool true),true=true,PureF Try.prog (.clos 17 [] []) [] (.bool true)])
 (hr:AvLe (.bool true) res):G Try.prog E [.code (bodyAt Try.prog 6)] ⟨[.agg (z6_1 c),.agg (z6_3 s)]++unds (Try.f6.ntmps - 2),[]⟩ :=
 end_stepL (n:=400) (evs:=[.v (.bool (farB c)),.b false,.v (.bool (longB s)),.b false,.b false,.v (.tup [.rsl ((rowLs rowSpt) ((playK c (⟨s.ticks,s.presses,([]:List Flt)⟩:Scr).ticks (⟨s.ticks,s.presses,([]:List Flt)⟩:Scr).presses (⟨s.ticks,s.presses,([]:List Flt)⟩:Scr).faults).1)) 0 (((playK c (⟨s.ticks,s.presses,([]:List Flt)⟩:Scr).ticks (⟨s.ticks,s.presses,([]:List Flt)⟩:Scr).presses (⟨s.ticks,s.presses,([]:List Flt)⟩:Scr).faults).1).length),.int .i64 ((playK c (⟨s.ticks,s.presses,([]:List Flt)⟩:Scr).ticks (⟨s.ticks,s.presses,([]:List Flt)⟩:Scr).presses (⟨s.ticks,s.presses,([]:List Flt)⟩:Scr).faults).2)]),.v (.agg [.rsl (rowBk c.blocks) 0 c.blocks.length,.rsl (rowI c.cars) 0 c.cars.length]),.fz,.cs (rowPrs s.presses),.v (.tup [.int .i64 ((stopsK c s.ticks s.presses ([]:List Flt)).1),.int .i64 ((stopsK c s.ticks s.presses ([]:List Flt)).2)]),.b false,.b false,.b false,.v (.tup [.rsl ((rowLs rowSpt) ((playK c s.ticks s.presses s.faults).1)) 0 (((playK c s.ticks s.presses s.faults).1).length),.int .i64 ((playK c s.ticks s.presses s.faults).2)]),.v (.agg [.rsl (rowBk c.blocks) 0 c.blocks.length,.rsl (rowI c.cars) 0 c.cars.length]),.fz,.cs (rowPrs s.presses),.fz,.cs (rowFlt s.faults),.v (.tup [.int .i64 ((stopsK c s.ticks s.presses s.faults).1),.int .i64 ((stopsK c s.ticks s.presses s.faults).2)]),.b false,.b false,.b false,.v (.bool true),.b true,.v (.bool true)]) (obs:=_) hE Try.func6 mixed (by kernel_rfl) ho hr
theorem f6W (c:Cir) (s:Scr) {E:Env} {rv:Bool} (hE:PureE Try.prog 6 (.bool rv) E)
 (h:(((farB c)=true→rv=true)∧((farB c)=false→(((longB s)=true→rv=true)∧((longB s)=false→(((s.faults.length:Int) > 1→rv=true)∧(¬ ((s.faults.length:Int) > 1)→(((c.blocks.length≤2147483648∧c.cars.length≤2147483648)∧(⟨s.ticks,s.presses,([]:List Flt)⟩:Scr).presses.length≤2147483648∧(⟨s.ticks,s.presses,([]:List Flt)⟩:Scr).faults.length≤2147483648)∧((c.blocks.length≤2147483648∧c.cars.length≤2147483648)∧((0+s.presses.length)≤2147483648∧(((c.blocks.length≤9223372036854775807∧c.cars.length≤9223372036854775807)∧s.presses.length≤9223372036854775807∧([]:List Flt).length≤9223372036854775807)∧((¬ ((playK c (⟨s.ticks,s.presses,([]:List Flt)⟩:Scr).ticks (⟨s.ticks,s.presses,([]:List Flt)⟩:Scr).presses (⟨s.ticks,s.presses,([]:List Flt)⟩:Scr).faults).2=0)→(((playK c (⟨s.ticks,s.presses,([]:List Flt)⟩:Scr).ticks (⟨s.ticks,s.presses,([]:List Flt)⟩:Scr).presses (⟨s.ticks,s.presses,([]:List Flt)⟩:Scr).faults).2=(stopsK c s.ticks s.presses ([]:List Flt)).2→rv=true)∧(¬ ((playK c (⟨s.ticks,s.presses,([]:List Flt)⟩:Scr).ticks (⟨s.ticks,s.presses,([]:List Flt)⟩:Scr).presses (⟨s.ticks,s.presses,([]:List Flt)⟩:Scr).faults).2=(stopsK c s.ticks s.presses ([]:List Flt)).2)→rv=false)))∧((playK c (⟨s.ticks,s.presses,([]:List Flt)⟩:Scr).ticks (⟨s.ticks,s.presses,([]:List Flt)⟩:Scr).presses (⟨s.ticks,s.presses,([]:List Flt)⟩:Scr).faults).2=0→((¬ ((stopsK c s.ticks s.presses ([]:List Flt)).2=0)→rv=false)∧((stopsK c s.ticks s.presses ([]:List Flt)).2=0→((¬ ((stopsK c s.ticks s.presses ([]:List Flt)).1=(-1))→rv=false)∧((stopsK c s.ticks s.presses ([]:List Flt)).1=(-1)→(((c.blocks.length≤2147483648∧c.cars.length≤2147483648)∧s.presses.length≤2147483648∧s.faults.length≤2147483648)∧((c.blocks.length≤2147483648∧c.cars.length≤2147483648)∧((0+s.presses.length)≤2147483648∧((0+s.faults.length)≤2147483648∧(((c.blocks.length≤9223372036854775807∧c.cars.length≤9223372036854775807)∧s.presses.length≤9223372036854775807∧s.faults.length≤9223372036854775807)∧((¬ ((playK c s.ticks s.presses s.faults).2=0)→rv=true)∧((playK c s.ticks s.presses s.faults).2=0→((¬ ((stopsK c s.ticks s.presses s.faults).2=0)→rv=true)∧((stopsK c s.ticks s.presses s.faults).2=0→(((stopsK c s.ticks s.presses s.faults).1≥0→rv=true)∧(¬ ((stopsK c s.ticks s.presses s.faults).1≥0)→(((((playK c (⟨s.ticks,s.presses,([]:List Flt)⟩:Scr).ticks (⟨s.ticks,s.presses,([]:List Flt)⟩:Scr).presses (⟨s.ticks,s.presses,([]:List Flt)⟩:Scr).faults).1).length≤9223372036854775807∧∀ r ∈ ((playK c (⟨s.ticks,s.presses,([]:List Flt)⟩:Scr).ticks (⟨s.ticks,s.presses,([]:List Flt)⟩:Scr).presses (⟨s.ticks,s.presses,([]:List Flt)⟩:Scr).faults).1),r.length≤9223372036854775807)∧((playK c (⟨s.ticks,s.presses,([]:List Flt)⟩:Scr).ticks (⟨s.ticks,s.presses,([]:List Flt)⟩:Scr).presses (⟨s.ticks,s.presses,([]:List Flt)⟩:Scr).faults).1)=((playK c s.ticks s.presses s.faults).1))∧rv=true))))))))))))))))))))))))))))):G Try.prog E [.code (bodyAt Try.prog 6)] ⟨[.agg [.rsl (rowBk c.blocks) 0 c.blocks.length,.rsl (rowI c.cars) 0 c.cars.length],.agg [.int .i64 s.ticks,.rsl (rowPrs s.presses) 0 s.presses.length,.rsl (rowFlt s.faults) 0 s.faults.length]]++unds (Try.f6.ntmps - 2),[]⟩:=by
 rcases Bool.eq_false_or_eq_true (farB c) with hc0 | hc0
 · have h:=h.1 hc0
   exact p6_start_0 c s hE ⟨(pureF_of Try.func15 (by kernel_rfl) f15b (far_ok c)),hc0,rfl,rfl,(pureF_of Try.func17 (by kernel_rfl) f17b works_ok),trivial⟩ (AvLe.of_eq (by rw [h]; try rfl))
 · have h:=h.2 hc0
   rcases Bool.eq_false_or_eq_true (longB s) with hc1 | hc1
   · have h:=h.1 hc1
     exact p6_start_1 c s hE ⟨(pureF_of Try.func15 (by kernel_rfl) f15b (far_ok c)),hc0,(pureF_of Try.func16 (by kernel_rfl) f16b (long_ok s)),hc1,rfl,(pureF_of Try.func17 (by kernel_rfl) f17b works_ok),trivial⟩ (AvLe.of_eq (by rw [h]; try rfl))
   · have h:=h.2 hc1
     rcases Bool.eq_false_or_eq_true (decide ((s.faults.length:Int) > 1)) with hc2 | hc2
     · have h:=h.1 (of_decide_eq_true hc2)
       exact p6_start_2 c s hE ⟨(pureF_of Try.func15 (by kernel_rfl) f15b (far_ok c)),hc0,(pureF_of Try.func16 (by kernel_rfl) f16b (long_ok s)),hc1,hc2,(pureF_of Try.func17 (by kernel_rfl) f17b works_ok),trivial⟩ (AvLe.of_eq (by rw [h]; try rfl))
     · have h:=h.2 (of_decide_eq_false hc2)
       obtain ⟨h1,h⟩:=h
       obtain ⟨h2,h⟩:=h
       obtain ⟨h3,h⟩:=h
       obtain ⟨h4,h⟩:=h
       rcases Bool.eq_false_or_eq_true ((playK c (⟨s.ticks,s.presses,([]:List Flt)⟩:Scr).ticks (⟨s.ticks,s.presses,([]:List Flt)⟩:Scr).presses (⟨s.ticks,s.presses,([]:List Flt)⟩:Scr).faults).2 != 0) with hc3 | hc3
       · have h:=h.1 (bneT hc3)
         rcases Bool.eq_false_or_eq_true ((playK c (⟨s.ticks,s.presses,([]:List Flt)⟩:Scr).ticks (⟨s.ticks,s.presses,([]:List Flt)⟩:Scr).presses (⟨s.ticks,s.presses,([]:List Flt)⟩:Scr).faults).2 == (stopsK c s.ticks s.presses ([]:List Flt)).2) with hc4 | hc4
         · have h:=h.1 (eq_of_beq hc4)
           exact p6_start_3 c s hE ⟨(pureF_of Try.func15 (by kernel_rfl) f15b (far_ok c)),hc0,(pureF_of Try.func16 (by kernel_rfl) f16b (long_ok s)),hc1,hc2,(by decide),(PureF.le (args:=[.agg [.rsl (rowBk c.blocks) 0 c.blocks.length,.rsl (rowI c.cars) 0 c.cars.length],.agg [.int .i64 ((⟨s.ticks,s.presses,([]:List Flt)⟩:Scr).ticks),.rsl (rowPrs ((⟨s.ticks,s.presses,([]:List Flt)⟩:Scr).presses)) 0 (((⟨s.ticks,s.presses,([]:List Flt)⟩:Scr).presses).length),.rsl (rowFlt ((⟨s.ticks,s.presses,([]:List Flt)⟩:Scr).faults)) 0 (((⟨s.ticks,s.presses,([]:List Flt)⟩:Scr).faults).length)]]) (pureF_of Try.func25 (by kernel_rfl) f25b (play25_ok c (⟨s.ticks,s.presses,([]:List Flt)⟩:Scr) h1)) ⟨AvLe.of_eq rfl,⟨(agg_le ⟨AvLe.of_eq rfl,⟨AvLe.of_eq rfl,⟨nil_le,trivial⟩⟩⟩),trivial⟩⟩),(pureF_of Try.func18 (by kernel_rfl) f18b (copied_ok c h2)),rfl,rfl,rfl,h3,(by exact row_all cPrs (fun _=>rfl) s.presses),(by exact row_len cPrs (fun _=>rfl) s.presses),(by exact row_nr cPrs (fun _=>rfl) s.presses),(PureF.le (args:=[.agg [.rsl (rowBk c.blocks) 0 c.blocks.length,.rsl (rowI c.cars) 0 c.cars.length],.int .i64 s.ticks,.rsl (rowPrs s.presses) 0 s.presses.length,.rsl (rowFlt ([]:List Flt)) 0 (([]:List Flt).length)]) (pureF_of Try.func23 (by kernel_rfl) f23b (stops_ok c s.ticks s.presses ([]:List Flt) h4)) ⟨AvLe.of_eq rfl,⟨AvLe.of_eq rfl,⟨AvLe.of_eq (by rw [(show AV.rsl (rowPrs s.presses) 0 (0+s.presses.length)=AV.rsl (rowPrs s.presses) 0 s.presses.length from by rw [show (0+s.presses.length)=s.presses.length from by simp])]; try rfl),⟨nil_le,trivial⟩⟩⟩⟩),hc3,hc4,(pureF_of Try.func17 (by kernel_rfl) f17b works_ok),trivial⟩ (AvLe.of_eq (by rw [h]; try rfl))
         · have h:=h.2 (ne_of_beq_false hc4)
           exact p6_start_4 c s hE ⟨(pureF_of Try.func15 (by kernel_rfl) f15b (far_ok c)),hc0,(pureF_of Try.func16 (by kernel_rfl) f16b (long_ok s)),hc1,hc2,(by decide),(PureF.le (args:=[.agg [.rsl (rowBk c.blocks) 0 c.blocks.length,.rsl (rowI c.cars) 0 c.cars.length],.agg [.int .i64 ((⟨s.ticks,s.presses,([]:List Flt)⟩:Scr).ticks),.rsl (rowPrs ((⟨s.ticks,s.presses,([]:List Flt)⟩:Scr).presses)) 0 (((⟨s.ticks,s.presses,([]:List Flt)⟩:Scr).presses).length),.rsl (rowFlt ((⟨s.ticks,s.presses,([]:List Flt)⟩:Scr).faults)) 0 (((⟨s.ticks,s.presses,([]:List Flt)⟩:Scr).faults).length)]]) (pureF_of Try.func25 (by kernel_rfl) f25b (play25_ok c (⟨s.ticks,s.presses,([]:List Flt)⟩:Scr) h1)) ⟨AvLe.of_eq rfl,⟨(agg_le ⟨AvLe.of_eq rfl,⟨AvLe.of_eq rfl,⟨nil_le,trivial⟩⟩⟩),trivial⟩⟩),(pureF_of Try.func18 (by kernel_rfl) f18b (copied_ok c h2)),rfl,rfl,rfl,h3,(by exact row_all cPrs (fun _=>rfl) s.presses),(by exact row_len cPrs (fun _=>rfl) s.presses),(by exact row_nr cPrs (fun _=>rfl) s.presses),(PureF.le (args:=[.agg [.rsl (rowBk c.blocks) 0 c.blocks.length,.rsl (rowI c.cars) 0 c.cars.length],.int .i64 s.ticks,.rsl (rowPrs s.presses) 0 s.presses.length,.rsl (rowFlt ([]:List Flt)) 0 (([]:List Flt).length)]) (pureF_of Try.func23 (by kernel_rfl) f23b (stops_ok c s.ticks s.presses ([]:List Flt) h4)) ⟨AvLe.of_eq rfl,⟨AvLe.of_eq rfl,⟨AvLe.of_eq (by rw [(show AV.rsl (rowPrs s.presses) 0 (0+s.presses.length)=AV.rsl (rowPrs s.presses) 0 s.presses.length from by rw [show (0+s.presses.length)=s.presses.length from by simp])]; try rfl),⟨nil_le,trivial⟩⟩⟩⟩),hc3,hc4,trivial⟩ (AvLe.of_eq (by rw [h]; try rfl))
       · have h:=h.2 (bneF hc3)
         rcases Bool.eq_false_or_eq_true ((stopsK c s.ticks s.presses ([]:List Flt)).2 != 0) with hc4 | hc4
         · have h:=h.1 (bneT hc4)
           exact p6_start_5 c s hE ⟨(pureF_of Try.func15 (by kernel_rfl) f15b (far_ok c)),hc0,(pureF_of Try.func16 (by kernel_rfl) f16b (long_ok s)),hc1,hc2,(by decide),(PureF.le (args:=[.agg [.rsl (rowBk c.blocks) 0 c.blocks.length,.rsl (rowI c.cars) 0 c.cars.length],.agg [.int .i64 ((⟨s.ticks,s.presses,([]:List Flt)⟩:Scr).ticks),.rsl (rowPrs ((⟨s.ticks,s.presses,([]:List Flt)⟩:Scr).presses)) 0 (((⟨s.ticks,s.presses,([]:List Flt)⟩:Scr).presses).length),.rsl (rowFlt ((⟨s.ticks,s.presses,([]:List Flt)⟩:Scr).faults)) 0 (((⟨s.ticks,s.presses,([]:List Flt)⟩:Scr).faults).length)]]) (pureF_of Try.func25 (by kernel_rfl) f25b (play25_ok c (⟨s.ticks,s.presses,([]:List Flt)⟩:Scr) h1)) ⟨AvLe.of_eq rfl,⟨(agg_le ⟨AvLe.of_eq rfl,⟨AvLe.of_eq rfl,⟨nil_le,trivial⟩⟩⟩),trivial⟩⟩),(pureF_of Try.func18 (by kernel_rfl) f18b (copied_ok c h2)),rfl,rfl,rfl,h3,(by exact row_all cPrs (fun _=>rfl) s.presses),(by exact row_len cPrs (fun _=>rfl) s.presses),(by exact row_nr cPrs (fun _=>rfl) s.presses),(PureF.le (args:=[.agg [.rsl (rowBk c.blocks) 0 c.blocks.length,.rsl (rowI c.cars) 0 c.cars.length],.int .i64 s.ticks,.rsl (rowPrs s.presses) 0 s.presses.length,.rsl (rowFlt ([]:List Flt)) 0 (([]:List Flt).length)]) (pureF_of Try.func23 (by kernel_rfl) f23b (stops_ok c s.ticks s.presses ([]:List Flt) h4)) ⟨AvLe.of_eq rfl,⟨AvLe.of_eq rfl,⟨AvLe.of_eq (by rw [(show AV.rsl (rowPrs s.presses) 0 (0+s.presses.length)=AV.rsl (rowPrs s.presses) 0 s.presses.length from by rw [show (0+s.presses.length)=s.presses.length from by simp])]; try rfl),⟨nil_le,trivial⟩⟩⟩⟩),hc3,hc4,rfl,trivial⟩ (AvLe.of_eq (by rw [h]; try rfl))
         · have h:=h.2 (bneF hc4)
           rcases Bool.eq_false_or_eq_true ((stopsK c s.ticks s.presses ([]:List Flt)).1 != (-1)) with hc5 | hc5
           · have h:=h.1 (bneT hc5)
             exact p6_start_6 c s hE ⟨(pureF_of Try.func15 (by kernel_rfl) f15b (far_ok c)),hc0,(pureF_of Try.func16 (by kernel_rfl) f16b (long_ok s)),hc1,hc2,(by decide),(PureF.le (args:=[.agg [.rsl (rowBk c.blocks) 0 c.blocks.length,.rsl (rowI c.cars) 0 c.cars.length],.agg [.int .i64 ((⟨s.ticks,s.presses,([]:List Flt)⟩:Scr).ticks),.rsl (rowPrs ((⟨s.ticks,s.presses,([]:List Flt)⟩:Scr).presses)) 0 (((⟨s.ticks,s.presses,([]:List Flt)⟩:Scr).presses).length),.rsl (rowFlt ((⟨s.ticks,s.presses,([]:List Flt)⟩:Scr).faults)) 0 (((⟨s.ticks,s.presses,([]:List Flt)⟩:Scr).faults).length)]]) (pureF_of Try.func25 (by kernel_rfl) f25b (play25_ok c (⟨s.ticks,s.presses,([]:List Flt)⟩:Scr) h1)) ⟨AvLe.of_eq rfl,⟨(agg_le ⟨AvLe.of_eq rfl,⟨AvLe.of_eq rfl,⟨nil_le,trivial⟩⟩⟩),trivial⟩⟩),(pureF_of Try.func18 (by kernel_rfl) f18b (copied_ok c h2)),rfl,rfl,rfl,h3,(by exact row_all cPrs (fun _=>rfl) s.presses),(by exact row_len cPrs (fun _=>rfl) s.presses),(by exact row_nr cPrs (fun _=>rfl) s.presses),(PureF.le (args:=[.agg [.rsl (rowBk c.blocks) 0 c.blocks.length,.rsl (rowI c.cars) 0 c.cars.length],.int .i64 s.ticks,.rsl (rowPrs s.presses) 0 s.presses.length,.rsl (rowFlt ([]:List Flt)) 0 (([]:List Flt).length)]) (pureF_of Try.func23 (by kernel_rfl) f23b (stops_ok c s.ticks s.presses ([]:List Flt) h4)) ⟨AvLe.of_eq rfl,⟨AvLe.of_eq rfl,⟨AvLe.of_eq (by rw [(show AV.rsl (rowPrs s.presses) 0 (0+s.presses.length)=AV.rsl (rowPrs s.presses) 0 s.presses.length from by rw [show (0+s.presses.length)=s.presses.length from by simp])]; try rfl),⟨nil_le,trivial⟩⟩⟩⟩),hc3,hc4,hc5,trivial⟩ (AvLe.of_eq (by rw [h]; try rfl))
           · have h:=h.2 (bneF hc5)
             obtain ⟨h5,h⟩:=h
             obtain ⟨h6,h⟩:=h
             obtain ⟨h7,h⟩:=h
             obtain ⟨h8,h⟩:=h
             obtain ⟨h9,h⟩:=h
             rcases Bool.eq_false_or_eq_true ((playK c s.ticks s.presses s.faults).2 != 0) with hc6 | hc6
             · have h:=h.1 (bneT hc6)
               exact p6_start_7 c s hE ⟨(pureF_of Try.func15 (by kernel_rfl) f15b (far_ok c)),hc0,(pureF_of Try.func16 (by kernel_rfl) f16b (long_ok s)),hc1,hc2,(by decide),(PureF.le (args:=[.agg [.rsl (rowBk c.blocks) 0 c.blocks.length,.rsl (rowI c.cars) 0 c.cars.length],.agg [.int .i64 ((⟨s.ticks,s.presses,([]:List Flt)⟩:Scr).ticks),.rsl (rowPrs ((⟨s.ticks,s.presses,([]:List Flt)⟩:Scr).presses)) 0 (((⟨s.ticks,s.presses,([]:List Flt)⟩:Scr).presses).length),.rsl (rowFlt ((⟨s.ticks,s.presses,([]:List Flt)⟩:Scr).faults)) 0 (((⟨s.ticks,s.presses,([]:List Flt)⟩:Scr).faults).length)]]) (pureF_of Try.func25 (by kernel_rfl) f25b (play25_ok c (⟨s.ticks,s.presses,([]:List Flt)⟩:Scr) h1)) ⟨AvLe.of_eq rfl,⟨(agg_le ⟨AvLe.of_eq rfl,⟨AvLe.of_eq rfl,⟨nil_le,trivial⟩⟩⟩),trivial⟩⟩),(pureF_of Try.func18 (by kernel_rfl) f18b (copied_ok c h2)),rfl,rfl,rfl,h3,(by exact row_all cPrs (fun _=>rfl) s.presses),(by exact row_len cPrs (fun _=>rfl) s.presses),(by exact row_nr cPrs (fun _=>rfl) s.presses),(PureF.le (args:=[.agg [.rsl (rowBk c.blocks) 0 c.blocks.length,.rsl (rowI c.cars) 0 c.cars.length],.int .i64 s.ticks,.rsl (rowPrs s.presses) 0 s.presses.length,.rsl (rowFlt ([]:List Flt)) 0 (([]:List Flt).length)]) (pureF_of Try.func23 (by kernel_rfl) f23b (stops_ok c s.ticks s.presses ([]:List Flt) h4)) ⟨AvLe.of_eq rfl,⟨AvLe.of_eq rfl,⟨AvLe.of_eq (by rw [(show AV.rsl (rowPrs s.presses) 0 (0+s.presses.length)=AV.rsl (rowPrs s.presses) 0 s.presses.length from by rw [show (0+s.presses.length)=s.presses.length from by simp])]; try rfl),⟨nil_le,trivial⟩⟩⟩⟩),hc3,hc4,hc5,(pureF_of Try.func25 (by kernel_rfl) f25b (play25_ok c s h5)),(pureF_of Try.func18 (by kernel_rfl) f18b (copied_ok c h6)),rfl,rfl,rfl,h7,(by exact row_all cPrs (fun _=>rfl) s.presses),(by exact row_len cPrs (fun _=>rfl) s.presses),(by exact row_nr cPrs (fun _=>rfl) s.presses),rfl,rfl,rfl,h8,(by exact row_all cFlt (fun _=>rfl) s.faults),(by exact row_len cFlt (fun _=>rfl) s.faults),(by exact row_nr cFlt (fun _=>rfl) s.faults),(by rw [(show AV.rsl (rowPrs s.presses) 0 (0+s.presses.length)=AV.rsl (rowPrs s.presses) 0 s.presses.length from by rw [show (0+s.presses.length)=s.presses.length from by simp])]; rw [(show AV.rsl (rowFlt s.faults) 0 (0+s.faults.length)=AV.rsl (rowFlt s.faults) 0 s.faults.length from by rw [show (0+s.faults.length)=s.faults.length from by simp])]; exact (pureF_of Try.func23 (by kernel_rfl) f23b (stops_ok c s.ticks s.presses s.faults h9))),hc6,rfl,(pureF_of Try.func17 (by kernel_rfl) f17b works_ok),trivial⟩ (AvLe.of_eq (by rw [h]; try rfl))
             · have h:=h.2 (bneF hc6)
               rcases Bool.eq_false_or_eq_true ((stopsK c s.ticks s.presses s.faults).2 != 0) with hc7 | hc7
               · have h:=h.1 (bneT hc7)
                 exact p6_start_8 c s hE ⟨(pureF_of Try.func15 (by kernel_rfl) f15b (far_ok c)),hc0,(pureF_of Try.func16 (by kernel_rfl) f16b (long_ok s)),hc1,hc2,(by decide),(PureF.le (args:=[.agg [.rsl (rowBk c.blocks) 0 c.blocks.length,.rsl (rowI c.cars) 0 c.cars.length],.agg [.int .i64 ((⟨s.ticks,s.presses,([]:List Flt)⟩:Scr).ticks),.rsl (rowPrs ((⟨s.ticks,s.presses,([]:List Flt)⟩:Scr).presses)) 0 (((⟨s.ticks,s.presses,([]:List Flt)⟩:Scr).presses).length),.rsl (rowFlt ((⟨s.ticks,s.presses,([]:List Flt)⟩:Scr).faults)) 0 (((⟨s.ticks,s.presses,([]:List Flt)⟩:Scr).faults).length)]]) (pureF_of Try.func25 (by kernel_rfl) f25b (play25_ok c (⟨s.ticks,s.presses,([]:List Flt)⟩:Scr) h1)) ⟨AvLe.of_eq rfl,⟨(agg_le ⟨AvLe.of_eq rfl,⟨AvLe.of_eq rfl,⟨nil_le,trivial⟩⟩⟩),trivial⟩⟩),(pureF_of Try.func18 (by kernel_rfl) f18b (copied_ok c h2)),rfl,rfl,rfl,h3,(by exact row_all cPrs (fun _=>rfl) s.presses),(by exact row_len cPrs (fun _=>rfl) s.presses),(by exact row_nr cPrs (fun _=>rfl) s.presses),(PureF.le (args:=[.agg [.rsl (rowBk c.blocks) 0 c.blocks.length,.rsl (rowI c.cars) 0 c.cars.length],.int .i64 s.ticks,.rsl (rowPrs s.presses) 0 s.presses.length,.rsl (rowFlt ([]:List Flt)) 0 (([]:List Flt).length)]) (pureF_of Try.func23 (by kernel_rfl) f23b (stops_ok c s.ticks s.presses ([]:List Flt) h4)) ⟨AvLe.of_eq rfl,⟨AvLe.of_eq rfl,⟨AvLe.of_eq (by rw [(show AV.rsl (rowPrs s.presses) 0 (0+s.presses.length)=AV.rsl (rowPrs s.presses) 0 s.presses.length from by rw [show (0+s.presses.length)=s.presses.length from by simp])]; try rfl),⟨nil_le,trivial⟩⟩⟩⟩),hc3,hc4,hc5,(pureF_of Try.func25 (by kernel_rfl) f25b (play25_ok c s h5)),(pureF_of Try.func18 (by kernel_rfl) f18b (copied_ok c h6)),rfl,rfl,rfl,h7,(by exact row_all cPrs (fun _=>rfl) s.presses),(by exact row_len cPrs (fun _=>rfl) s.presses),(by exact row_nr cPrs (fun _=>rfl) s.presses),rfl,rfl,rfl,h8,(by exact row_all cFlt (fun _=>rfl) s.faults),(by exact row_len cFlt (fun _=>rfl) s.faults),(by exact row_nr cFlt (fun _=>rfl) s.faults),(by rw [(show AV.rsl (rowPrs s.presses) 0 (0+s.presses.length)=AV.rsl (rowPrs s.presses) 0 s.presses.length from by rw [show (0+s.presses.length)=s.presses.length from by simp])]; rw [(show AV.rsl (rowFlt s.faults) 0 (0+s.faults.length)=AV.rsl (rowFlt s.faults) 0 s.faults.length from by rw [show (0+s.faults.length)=s.faults.length from by simp])]; exact (pureF_of Try.func23 (by kernel_rfl) f23b (stops_ok c s.ticks s.presses s.faults h9))),hc6,hc7,(pureF_of Try.func17 (by kernel_rfl) f17b works_ok),trivial⟩ (AvLe.of_eq (by rw [h]; try rfl))
               · have h:=h.2 (bneF hc7)
                 rcases Bool.eq_false_or_eq_true (decide ((stopsK c s.ticks s.presses s.faults).1≥0)) with hc8 | hc8
                 · have h:=h.1 (of_decide_eq_true hc8)
                   exact p6_start_9 c s hE ⟨(pureF_of Try.func15 (by kernel_rfl) f15b (far_ok c)),hc0,(pureF_of Try.func16 (by kernel_rfl) f16b (long_ok s)),hc1,hc2,(by decide),(PureF.le (args:=[.agg [.rsl (rowBk c.blocks) 0 c.blocks.length,.rsl (rowI c.cars) 0 c.cars.length],.agg [.int .i64 ((⟨s.ticks,s.presses,([]:List Flt)⟩:Scr).ticks),.rsl (rowPrs ((⟨s.ticks,s.presses,([]:List Flt)⟩:Scr).presses)) 0 (((⟨s.ticks,s.presses,([]:List Flt)⟩:Scr).presses).length),.rsl (rowFlt ((⟨s.ticks,s.presses,([]:List Flt)⟩:Scr).faults)) 0 (((⟨s.ticks,s.presses,([]:List Flt)⟩:Scr).faults).length)]]) (pureF_of Try.func25 (by kernel_rfl) f25b (play25_ok c (⟨s.ticks,s.presses,([]:List Flt)⟩:Scr) h1)) ⟨AvLe.of_eq rfl,⟨(agg_le ⟨AvLe.of_eq rfl,⟨AvLe.of_eq rfl,⟨nil_le,trivial⟩⟩⟩),trivial⟩⟩),(pureF_of Try.func18 (by kernel_rfl) f18b (copied_ok c h2)),rfl,rfl,rfl,h3,(by exact row_all cPrs (fun _=>rfl) s.presses),(by exact row_len cPrs (fun _=>rfl) s.presses),(by exact row_nr cPrs (fun _=>rfl) s.presses),(PureF.le (args:=[.agg [.rsl (rowBk c.blocks) 0 c.blocks.length,.rsl (rowI c.cars) 0 c.cars.length],.int .i64 s.ticks,.rsl (rowPrs s.presses) 0 s.presses.length,.rsl (rowFlt ([]:List Flt)) 0 (([]:List Flt).length)]) (pureF_of Try.func23 (by kernel_rfl) f23b (stops_ok c s.ticks s.presses ([]:List Flt) h4)) ⟨AvLe.of_eq rfl,⟨AvLe.of_eq rfl,⟨AvLe.of_eq (by rw [(show AV.rsl (rowPrs s.presses) 0 (0+s.presses.length)=AV.rsl (rowPrs s.presses) 0 s.presses.length from by rw [show (0+s.presses.length)=s.presses.length from by simp])]; try rfl),⟨nil_le,trivial⟩⟩⟩⟩),hc3,hc4,hc5,(pureF_of Try.func25 (by kernel_rfl) f25b (play25_ok c s h5)),(pureF_of Try.func18 (by kernel_rfl) f18b (copied_ok c h6)),rfl,rfl,rfl,h7,(by exact row_all cPrs (fun _=>rfl) s.presses),(by exact row_len cPrs (fun _=>rfl) s.presses),(by exact row_nr cPrs (fun _=>rfl) s.presses),rfl,rfl,rfl,h8,(by exact row_all cFlt (fun _=>rfl) s.faults),(by exact row_len cFlt (fun _=>rfl) s.faults),(by exact row_nr cFlt (fun _=>rfl) s.faults),(by rw [(show AV.rsl (rowPrs s.presses) 0 (0+s.presses.length)=AV.rsl (rowPrs s.presses) 0 s.presses.length from by rw [show (0+s.presses.length)=s.presses.length from by simp])]; rw [(show AV.rsl (rowFlt s.faults) 0 (0+s.faults.length)=AV.rsl (rowFlt s.faults) 0 s.faults.length from by rw [show (0+s.faults.length)=s.faults.length from by simp])]; exact (pureF_of Try.func23 (by kernel_rfl) f23b (stops_ok c s.ticks s.presses s.faults h9))),hc6,hc7,hc8,rfl,(pureF_of Try.func17 (by kernel_rfl) f17b works_ok),trivial⟩ (AvLe.of_eq (by rw [h]; try rfl))
                 · have h:=h.2 (of_decide_eq_false hc8)
                   obtain ⟨h10,h⟩:=h
                   exact p6_start_10 c s hE ⟨(pureF_of Try.func15 (by kernel_rfl) f15b (far_ok c)),hc0,(pureF_of Try.func16 (by kernel_rfl) f16b (long_ok s)),hc1,hc2,(by decide),(PureF.le (args:=[.agg [.rsl (rowBk c.blocks) 0 c.blocks.length,.rsl (rowI c.cars) 0 c.cars.length],.agg [.int .i64 ((⟨s.ticks,s.presses,([]:List Flt)⟩:Scr).ticks),.rsl (rowPrs ((⟨s.ticks,s.presses,([]:List Flt)⟩:Scr).presses)) 0 (((⟨s.ticks,s.presses,([]:List Flt)⟩:Scr).presses).length),.rsl (rowFlt ((⟨s.ticks,s.presses,([]:List Flt)⟩:Scr).faults)) 0 (((⟨s.ticks,s.presses,([]:List Flt)⟩:Scr).faults).length)]]) (pureF_of Try.func25 (by kernel_rfl) f25b (play25_ok c (⟨s.ticks,s.presses,([]:List Flt)⟩:Scr) h1)) ⟨AvLe.of_eq rfl,⟨(agg_le ⟨AvLe.of_eq rfl,⟨AvLe.of_eq rfl,⟨nil_le,trivial⟩⟩⟩),trivial⟩⟩),(pureF_of Try.func18 (by kernel_rfl) f18b (copied_ok c h2)),rfl,rfl,rfl,h3,(by exact row_all cPrs (fun _=>rfl) s.presses),(by exact row_len cPrs (fun _=>rfl) s.presses),(by exact row_nr cPrs (fun _=>rfl) s.presses),(PureF.le (args:=[.agg [.rsl (rowBk c.blocks) 0 c.blocks.length,.rsl (rowI c.cars) 0 c.cars.length],.int .i64 s.ticks,.rsl (rowPrs s.presses) 0 s.presses.length,.rsl (rowFlt ([]:List Flt)) 0 (([]:List Flt).length)]) (pureF_of Try.func23 (by kernel_rfl) f23b (stops_ok c s.ticks s.presses ([]:List Flt) h4)) ⟨AvLe.of_eq rfl,⟨AvLe.of_eq rfl,⟨AvLe.of_eq (by rw [(show AV.rsl (rowPrs s.presses) 0 (0+s.presses.length)=AV.rsl (rowPrs s.presses) 0 s.presses.length from by rw [show (0+s.presses.length)=s.presses.length from by simp])]; try rfl),⟨nil_le,trivial⟩⟩⟩⟩),hc3,hc4,hc5,(pureF_of Try.func25 (by kernel_rfl) f25b (play25_ok c s h5)),(pureF_of Try.func18 (by kernel_rfl) f18b (copied_ok c h6)),rfl,rfl,rfl,h7,(by exact row_all cPrs (fun _=>rfl) s.presses),(by exact row_len cPrs (fun _=>rfl) s.presses),(by exact row_nr cPrs (fun _=>rfl) s.presses),rfl,rfl,rfl,h8,(by exact row_all cFlt (fun _=>rfl) s.faults),(by exact row_len cFlt (fun _=>rfl) s.faults),(by exact row_nr cFlt (fun _=>rfl) s.faults),(by rw [(show AV.rsl (rowPrs s.presses) 0 (0+s.presses.length)=AV.rsl (rowPrs s.presses) 0 s.presses.length from by rw [show (0+s.presses.length)=s.presses.length from by simp])]; rw [(show AV.rsl (rowFlt s.faults) 0 (0+s.faults.length)=AV.rsl (rowFlt s.faults) 0 s.faults.length from by rw [show (0+s.faults.length)=s.faults.length from by simp])]; exact (pureF_of Try.func23 (by kernel_rfl) f23b (stops_ok c s.ticks s.presses s.faults h9))),hc6,hc7,hc8,(pureF_of Try.func21 (by kernel_rfl) f21b (sameRows_ok ((playK c (⟨s.ticks,s.presses,([]:List Flt)⟩:Scr).ticks (⟨s.ticks,s.presses,([]:List Flt)⟩:Scr).presses (⟨s.ticks,s.presses,([]:List Flt)⟩:Scr).faults).1) ((playK c s.ticks s.presses s.faults).1) h10)),rfl,(pureF_of Try.func17 (by kernel_rfl) f17b works_ok),trivial⟩ (AvLe.of_eq (by rw [h]; try rfl))
end Go.Proofs.Ytgdfkjjgdkejfaa
namespace Go.Proofs.Ytgdfkjjgdkejfaa
open Go Ax
open Go.Proofs
/-! ### What the switches say,if nothing is split -/
theorem b2i_one {b:Bool}:(b2i b == 1)=b:=by cases b <;> rfl
theorem b2i_zero {b:Bool}:(b2i b == 0)=!b:=by cases b <;> rfl
theorem said_true {T:Trk} (h1:T.faults.length≤1) {k b:Int} (hs:splitI (saidV T k b)=false):(saidV T k b).a=b2i (isI T.c T.cars k b)∧(saidV T k b).b=b2i (isI T.c T.cars k b):=by
 simp only [saidV,saysV] at hs ⊢
 cases hf:T.faults with
 | nil=>simp
 | cons f l =>
  have:l=[]:=by rw [hf] at h1; exact List.eq_nil_of_length_eq_zero (by simpa using h1)
  subst this
  rw [hf] at hs
  simp only [List.foldl_cons,List.foldl_nil,fltStep,splitI] at hs ⊢
  split at hs
  · rename_i h
    rw [if_pos h]
    split at hs
    · rename_i hc; rw [if_pos hc]; simp only at hs ⊢; exact ⟨by simpa using hs,trivial⟩
    · rename_i hc; rw [if_neg hc]; simp only at hs ⊢; exact ⟨trivial,(show b2i (isI T.c T.cars k b)=f.val by simpa using hs).symm⟩
  · rename_i h; rw [if_neg h]; exact ⟨rfl,rfl⟩
theorem split_at {T:Trk} (h:anySplit (readI T)=false) {k b:Nat} (hk:k<3) (hb:b<T.c.blocks.length):splitI (saidV T ((k+1:Nat):Int) (b:Int))=false:=by
 rw [splitI,no_split h hk hb]; simp
theorem true_at {T:Trk} (h1:T.faults.length≤1) (h:anySplit (readI T)=false) {k b:Nat} (hk:k<3) (hb:b<T.c.blocks.length):(saidV T ((k+1:Nat):Int) (b:Int)).a=b2i (isI T.c T.cars ((k+1:Nat):Int) (b:Int)) :=
 (said_true h1 (split_at h hk hb)).1
theorem free_true {T:Trk} (h1:T.faults.length≤1) (hsp:anySplit (readI T)=false) (hn:0<T.c.blocks.length) {ops:List Bool} {b:Nat} (hb:b<T.c.blocks.length) :
 freeB T.c (readI T) ops b=(isI T.c T.cars 2 b && isI T.c T.cars 3 b && !(ops.getD b false) && !(isI T.c T.cars 1 (nextB T.c b:Nat))):=by
 have e1:(saidV T 2 b).a=b2i (isI T.c T.cars 2 b):=true_at h1 hsp (k:=1) (by omega) hb
 have e2:(saidV T 3 b).a=b2i (isI T.c T.cars 3 b):=true_at h1 hsp (k:=2) (by omega) hb
 have e3:(saidV T 1 (nextB T.c b:Nat)).a=b2i (isI T.c T.cars 1 (nextB T.c b:Nat)):=true_at h1 hsp (k:=0) (by omega) (Nat.mod_lt _ hn)
 rw [free_a hsp hn hb,e1,e2,e3,b2i_one,b2i_one,b2i_zero]
theorem open_true {T:Trk} (h1:T.faults.length≤1) (hsp:anySplit (readI T)=false) {p:Prs} (hp:InC T.c p.block) (ho:openP T.c (readI T) p=true):isI T.c T.cars 2 p.block=true:=by
 have e:((Int.toNat p.block:Nat):Int)=p.block:=by have:=hp.1; omega
 have e1:=true_at h1 hsp (k:=1) (by omega) hp.2
 rw [e] at e1
 have e1:(saidV T 2 p.block).a=b2i (isI T.c T.cars 2 p.block):=e1
 rw [open_a hsp hp,e1,b2i_one] at ho
 simp only [Bool.and_eq_true] at ho
 exact ho.1.2
/-! ### The brake,car by car -/
def mvC (c:Cir) (x:Car):Car:=⟨⟨(nextB c (Int.toNat x.spot.block):Nat),0,x.spot.opn⟩,0⟩
def goS (c:Cir) (rd:Rd4) (ops:List Bool) (s0:Brk) (i:Nat):Bool:=freeB c rd ops (Int.toNat (s0.cars.getD i dC).spot.block) && !(waitB c s0 (Int.toNat (s0.cars.getD i dC).spot.block) i)
theorem carAt_some {cars:List Car} (hn:NoShare cars) {i b:Nat} (hi:i<cars.length) (hb:(cars.getD i dC).spot.block=(b:Int)):carAt cars b cars.length=some i :=
 firstN_some hi (by simpa using hb) fun j hj=>by
  have:=hn j i hj hi
  rw [hb] at this
  exact beq_eq_false_iff_ne.2 this
theorem brake_each {c:Cir} {rd:Rd4} {ops:List Bool} {s0:Brk} (hn:NoShare s0.cars) (hin:∀ x ∈ s0.cars,InC c x.spot.block) (hg:s0.gos.length=c.blocks.length):∀ {b:Nat},b≤c.blocks.length →
 ((brakeN c rd ops s0.cars b s0).cars.length=s0.cars.length∧(∀ i,i<s0.cars.length→(brakeN c rd ops s0.cars b s0).cars.getD i dC=if Int.toNat (s0.cars.getD i dC).spot.block<b∧goS c rd ops s0 i=true then mvC c (s0.cars.getD i dC) else s0.cars.getD i dC) ∧
   (∀ j,b≤j→(brakeN c rd ops s0.cars b s0).gos.getD j false=s0.gos.getD j false))
 | 0,_=>⟨rfl,fun i hi=>by rw [if_neg (by omega)]; rfl,fun j _=>rfl⟩
 | b+1,hb=>by
  obtain ⟨h1,h2,h3⟩:=brake_each hn hin hg (rd:=rd) (ops:=ops) (b:=b) (by omega)
  simp only [brakeN]
  generalize brakeN c rd ops s0.cars b s0=s at h1 h2 h3
  have same:(∀ i,i<s0.cars.length→Int.toNat (s0.cars.getD i dC).spot.block=b→goS c rd ops s0 i=false)→s.cars.length=s0.cars.length∧(∀ i,i<s0.cars.length→s.cars.getD i dC=if Int.toNat (s0.cars.getD i dC).spot.block<b+1∧goS c rd ops s0 i=true then mvC c (s0.cars.getD i dC) else s0.cars.getD i dC)∧(∀ j,b+1≤j→s.gos.getD j false=s0.gos.getD j false):=fun hh=>by
   refine ⟨h1,fun i hi=>?_,fun j hj=>h3 j (by omega)⟩
   rw [h2 i hi]
   by_cases hbi:Int.toNat (s0.cars.getD i dC).spot.block=b
   · rw [if_neg (by omega),if_neg (by rw [hh i hi hbi]; simp)]
   · by_cases hlt:Int.toNat (s0.cars.getD i dC).spot.block<b∧goS c rd ops s0 i=true
     · rw [if_pos hlt,if_pos ⟨by omega,hlt.2⟩]
     · rw [if_neg hlt,if_neg fun h=>hlt ⟨by omega,h.2⟩]
  have inI:∀ i,i<s0.cars.length→((Int.toNat (s0.cars.getD i dC).spot.block:Nat):Int)=(s0.cars.getD i dC).spot.block:=fun i hi=>by
   have:=(hin _ (List.mem_of_getElem? (getD_some (d:=dC) hi))).1
   omega
  unfold brakeB
  split
  · rename_i hfree
    cases hc:carAt s0.cars b s0.cars.length with
    | none =>
     simp only
     refine same fun i hi hbi=>?_
     have:=carAt_some hn hi (b:=b) (by rw [← inI i hi,hbi])
     rw [hc] at this; cases this
    | some i =>
     simp only
     obtain ⟨hi,hib,-⟩:=firstN_spec hc
     have hib:(s0.cars.getD i dC).spot.block=(b:Int):=by simpa using hib
     have hibn:Int.toNat (s0.cars.getD i dC).spot.block=b:=by omega
     have hsi:s.cars.getD i dC=s0.cars.getD i dC:=by rw [h2 i hi,if_neg (by omega)]
     have hw:waitB c s b i=waitB c s0 b i:=by simp only [waitB,hsi,h3 b (Nat.le_refl b)]
     have only:∀ k,k<s0.cars.length→Int.toNat (s0.cars.getD k dC).spot.block=b→k=i:=fun k hk hkb=>hn.uniq hk hi (by rw [← inI k hk,hkb,hib])
     split
     · rename_i hwt
       refine same fun k hk hkb=>?_
       have:=only k hk hkb
       subst this
       rw [goS,hkb,← hw,hwt]; simp
     · rename_i hwt
       have hgo:goS c rd ops s0 i=true:=by rw [goS,hibn,hfree,← hw,Bool.eq_false_iff.2 hwt]; rfl
       refine ⟨by simp [goB,h1],fun k hk=>?_,fun j hj=>?_⟩
       · simp only [goB]
         rw [List.getD_eq_getElem?_getD,List.getElem?_set]
         by_cases hki:i=k
         · subst hki
           rw [if_pos rfl,if_pos (by rw [h1]; exact hk),if_pos ⟨by omega,hgo⟩,hsi]
           simp only [mvC,hibn,Option.getD_some]
         · rw [if_neg hki,← List.getD_eq_getElem?_getD,h2 k hk]
           have hne:Int.toNat (s0.cars.getD k dC).spot.block ≠ b:=fun h=>hki (only k hk h).symm
           by_cases hlt:Int.toNat (s0.cars.getD k dC).spot.block<b∧goS c rd ops s0 k=true
           · rw [if_pos hlt,if_pos ⟨by omega,hlt.2⟩]
           · rw [if_neg hlt,if_neg fun h=>hlt ⟨by omega,h.2⟩]
       · simp only [goB]
         rw [List.getD_eq_getElem?_getD,List.getElem?_set,if_neg (by omega),← List.getD_eq_getElem?_getD]
         exact h3 j (by omega)
  · rename_i hfree
    refine same fun i hi hbi=>?_
    rw [goS,hbi,Bool.eq_false_iff.2 hfree]; rfl
/-! ### What is pressed,car by car -/
structure Prd (c:Cir) (r:List Car) (s:List Car × List Bool × List Bool):Prop where
 len:s.1.length=r.length
 same:∀ i,i<r.length→(s.1.getD i dC).spot.block=(r.getD i dC).spot.block∧(s.1.getD i dC).spot.ran=(r.getD i dC).spot.ran∧(s.1.getD i dC).stood=(r.getD i dC).stood
 opn:∀ i,i<r.length→(s.1.getD i dC).spot.opn=true→(r.getD i dC).spot.opn=true ∨ (s.2.2.getD (Int.toNat (r.getD i dC).spot.block) false=true∧restI c (r.getD i dC)=true)
theorem isI_car {c:Cir} {cars:List Car} (hn:NoShare cars) {i:Nat} (hi:i<cars.length):isI c cars 2 (cars.getD i dC).spot.block=restI c (cars.getD i dC):=by
 have hm:=List.mem_of_getElem? (getD_some (d:=dC) hi)
 rw [isI,if_neg (by omega),if_pos rfl,Bool.eq_iff_iff,any_iff]
 constructor
 · rintro ⟨j,hj,hp⟩
   simp only [Bool.and_eq_true,beq_iff_eq] at hp
   have:=hn.uniq hj hi hp.1
   rw [← this]; exact hp.2
 · intro h
   exact ⟨i,hi,by rw [beq_self_eq_true,h]; rfl⟩
theorem Prd.press {T:Trk} (h1:T.faults.length≤1) (hsp:anySplit (readI T)=false) (hn:NoShare T.cars) {s:List Car × List Bool × List Bool} {p:Prs} (hp:InC T.c p.block) (h:Prd T.c T.cars s) (hlo:s.2.2.length=T.c.blocks.length):Prd T.c T.cars (pressS T.c (readI T) p s):=by
 unfold pressS
 split
 · exact ⟨h.len,h.same,h.opn⟩
 · refine ⟨by simp [h.len],fun i hi=>?_,fun i hi ho=>?_⟩
   · rw [getD_map (d:=dC) (by rw [h.len]; exact hi)]
     have:=h.same i hi
     unfold pressC
     split
     · exact this
     · exact this
   · rw [getD_map (d:=dC) (by rw [h.len]; exact hi)] at ho
     have hsm:=h.same i hi
     have grow:∀ j,s.2.2.getD j false=true→(opsP (openP T.c (readI T) p) p s.1 s.2.2).getD j false=true:=fun j hj=>by
      have hjl:j<s.2.2.length:=by
       rcases Nat.lt_or_ge j s.2.2.length with q | q
       · exact q
       · rw [List.getD_eq_getElem?_getD,List.getElem?_eq_none q] at hj; cases hj
      rw [opsP,List.getD_eq_getElem?_getD,List.getElem?_set]
      split
      · rename_i e; subst e; rw [if_pos hjl,hj]; rfl
      · rw [← List.getD_eq_getElem?_getD]; exact hj
     unfold pressC at ho
     split at ho
     · rename_i hh
       simp only at ho
       have hk:p.kind=1:=by simpa using ho
       have hhit:=hh
       simp only [hitP,Bool.and_eq_true,beq_iff_eq,Bool.or_eq_true] at hh
       have hop:openP T.c (readI T) p=true:=by rcases hh.2 with h | h; omega; exact h
       have hrest:=open_true h1 hsp hp hop
       have hb:(T.cars.getD i dC).spot.block=p.block:=by rw [← hsm.1]; exact hh.1
       rw [← hb,isI_car hn hi] at hrest
       refine .inr ⟨?_,hrest⟩
       have hany:s.1.any (hitP (openP T.c (readI T) p) p)=true:=any_iff.2 ⟨i,by rw [h.len]; exact hi,hhit⟩
       rw [hb,opsP,List.getD_eq_getElem?_getD,List.getElem?_set,if_pos rfl,if_pos (by rw [hlo]; exact hp.2),hany,show (p.kind == 1)=true by simpa using hk]
       simp
     · rcases h.opn i hi ho with q | ⟨q1,q2⟩
       · exact .inl q
       · exact .inr ⟨grow _ q1,q2⟩
theorem Prd.fold {T:Trk} (h1:T.faults.length≤1) (hsp:anySplit (readI T)=false) (hn:NoShare T.cars):∀ {l:List Prs} {s:List Car × List Bool × List Bool},PrsIn T.c l→Prd T.c T.cars s→s.2.2.length=T.c.blocks.length→Prd T.c T.cars (l.foldl (pressIf T.c (readI T) T.tick) s)
 | [],s,_,h,_=>h
 | p :: l,s,hp,h,hl=>by
  simp only [List.foldl_cons]
  have hpp:=hp p (by simp)
  refine Prd.fold h1 hsp hn (fun q hq=>hp q (by simp [hq])) ?_ ?_
  · unfold pressIf
    split
    · exact Prd.press h1 hsp hn hpp.1 h hl
    · exact h
  · unfold pressIf
    split
    · rw [press_len3]; exact hl
    · exact hl
end Go.Proofs.Ytgdfkjjgdkejfaa
namespace Go.Proofs.Ytgdfkjjgdkejfaa
open Go Ax
open Go.Proofs
theorem wreck_no {c:Cir} {cars:List Car} (hn:NoShare cars) (hr:∀ x ∈ cars,x.spot.opn=true→restI c x=true):wreckS c (cars.map Car.spot)=false:=by
 rw [wreckS]
 refine range_any_false fun i hi=>?_
 rw [List.length_map] at hi
 rw [Bool.or_eq_false_iff]
 refine ⟨?_,range_any_false fun k hk=>?_⟩
 · rw [wreckA,spot_getD hi]
   have:=hr _ (List.mem_of_getElem? (getD_some (d:=dC) hi))
   cases ho:(cars.getD i dC).spot.opn with
   | false=>rfl
   | true =>
    have:=this ho
    have e:restS c (cars.getD i dC).spot=true:=this
    rw [e]; rfl
 · rw [spot_getD hi,spot_getD (by omega)]
   exact beq_eq_false_iff_ne.2 (hn k i hk hi)
theorem next_inj {n a b:Nat} (ha:a<n) (hb:b<n) (h:(a+1) % n=(b+1) % n):a=b:=by
 rcases Nat.lt_or_ge (a+1) n with h1 | h1 <;> rcases Nat.lt_or_ge (b+1) n with h2 | h2
 · rw [Nat.mod_eq_of_lt h1,Nat.mod_eq_of_lt h2] at h; omega
 · rw [Nat.mod_eq_of_lt h1,show b+1=n by omega,Nat.mod_self] at h; omega
 · rw [Nat.mod_eq_of_lt h2,show a+1=n by omega,Nat.mod_self] at h; omega
 · omega
structure Inv (T:Trk) (B:Int):Prop where
 tok:TOk T B
 tt:TT T
 w:T.wrecked=false
 rest:∀ x ∈ T.cars,x.spot.opn=true→restI T.c x=true
 f1:T.faults.length≤1
theorem Inv.ns {T:Trk} {B:Int} (h:Inv T B):NoShare T.cars:=h.tok.ns h.w
theorem roll_rest {T:Trk} (h:∀ x ∈ T.cars,x.spot.opn=true→restI T.c x=true):∀ x ∈ rollT T,x.spot.opn=true→restI T.c x=true:=by
 unfold rollT
 split
 · intro x hx
   obtain ⟨y,hy,rfl⟩:=List.mem_map.1 hx
   have:=h y hy
   unfold rollC
   split
   · rename_i hr; exact fun _=>hr
   · rename_i hr; exact fun ho=>absurd (this ho) hr
 · exact h
theorem Inv.nosplit {T:Trk} {B:Int} (h:Inv T B) (hs:stopT T<0):anySplit (readI (midT T))=false:=by
 have:=h.tok.tk
 unfold stopT at hs
 split at hs
 · split at hs
   · omega
   · rename_i hh; exact Bool.eq_false_iff.2 hh
 · rename_i h0; exact absurd hs h0
/-- Cars that move: each into a block that was free. -/
structure Moved (c:Cir) (r s r':List Car) (go:Nat→Bool):Prop where
 len:s.length=r.length
 len':r'.length=r.length
 each:∀ i,i<r.length→r'.getD i dC=if go i=true then mvC c (s.getD i dC) else s.getD i dC
 same:∀ i,i<r.length→(s.getD i dC).spot.block=(r.getD i dC).spot.block∧(s.getD i dC).spot.ran=(r.getD i dC).spot.ran
 free:∀ i,i<r.length→go i=true→(∀ j,j<r.length→(r.getD j dC).spot.block ≠ (nextB c (Int.toNat (r.getD i dC).spot.block):Nat))∧(s.getD i dC).spot.opn=false
 opn:∀ i,i<r.length→(s.getD i dC).spot.opn=true→(r.getD i dC).spot.opn=true ∨ restI c (r.getD i dC)=true
theorem act_moved {T:Trk} {B:Int} {l:List Prs} (h:Inv T B) (hpr:PrsIn T.c l) (hs:stopT T<0):∃ s go,Moved T.c (rollT T) s (actT T l).cars go:=by
 have hsp:=h.nosplit hs
 have hn:=rollT_ns h.ns
 have hcar:=rollT_car h.tok
 have hf1:(midT T).faults.length≤1:=h.f1
 have hprd:Prd T.c (rollT T) (pressT T l):=Prd.fold (T:=midT T) hf1 hsp hn hpr ⟨rfl,fun i hi=>⟨rfl,rfl,rfl⟩,fun i hi ho=>.inl ho⟩ (by simp [midT])
 have hp:=pres_ok (l:=l) h.tok h.w
 have e:actT T l=brakeT T l:=by unfold actT; rw [if_pos hs]
 have hbr:=brake_each (c:=T.c) (rd:=readI (midT T)) (ops:=(pressT T l).2.2) (s0:=⟨(pressT T l).1,(pressT T l).2.1,T.rounds,T.gone⟩) hp.ns (fun x hx=>(hp.car x hx).inC) hp.lg (b:=T.c.blocks.length) (Nat.le_refl _)
 simp only at hbr
 have hl:=hprd.len
 refine ⟨(pressT T l).1,fun i=>goS T.c (readI (midT T)) (pressT T l).2.2 ⟨(pressT T l).1,(pressT T l).2.1,T.rounds,T.gone⟩ i,hl,?_,fun i hi=>?_,fun i hi=>⟨(hprd.same i hi).1,(hprd.same i hi).2.1⟩,fun i hi hgo=>?_,fun i hi ho=>?_⟩
 · rw [e]; show (brakeN _ _ _ _ _ _).cars.length=_; rw [hbr.1]; exact hl
 · rw [e]
   show (brakeN _ _ _ _ _ _).cars.getD i dC=_
   rw [hbr.2.1 i (by rw [hl]; exact hi)]
   have hb:Int.toNat ((pressT T l).1.getD i dC).spot.block<T.c.blocks.length:=(hp.car _ (List.mem_of_getElem? (getD_some (d:=dC) (by rw [hl]; exact hi)))).inC.2
   by_cases hg:goS T.c (readI (midT T)) (pressT T l).2.2 ⟨(pressT T l).1,(pressT T l).2.1,T.rounds,T.gone⟩ i=true
   · rw [if_pos ⟨hb,hg⟩,if_pos hg]
   · rw [if_neg (fun h=>hg h.2),if_neg hg]
 · have hb:=(hcar _ (List.mem_of_getElem? (getD_some (d:=dC) hi))).inC
   rw [goS] at hgo
   simp only [(hprd.same i hi).1] at hgo
   have hfr:=free_true (T:=midT T) hf1 hsp h.tok.nb.1 (ops:=(pressT T l).2.2) hb.2
   have hfr':freeB T.c (readI (midT T)) (pressT T l).2.2 (Int.toNat ((rollT T).getD i dC).spot.block)=true:=by
    simp only [Bool.and_eq_true] at hgo; exact hgo.1
   have hfr:freeB T.c (readI (midT T)) (pressT T l).2.2 (Int.toNat ((rollT T).getD i dC).spot.block)=(isI T.c (rollT T) 2 (Int.toNat ((rollT T).getD i dC).spot.block:Nat) && isI T.c (rollT T) 3 (Int.toNat ((rollT T).getD i dC).spot.block:Nat) && !((pressT T l).2.2.getD (Int.toNat ((rollT T).getD i dC).spot.block) false) && !(isI T.c (rollT T) 1 (nextB T.c (Int.toNat ((rollT T).getD i dC).spot.block):Nat))):=hfr
   rw [hfr'] at hfr
   have hfr:=hfr.symm
   simp only [Bool.and_eq_true,Bool.not_eq_true'] at hfr
   obtain ⟨⟨⟨-,q2⟩,q3⟩,q4⟩:=hfr
   have hbi:((Int.toNat ((rollT T).getD i dC).spot.block:Nat):Int)=((rollT T).getD i dC).spot.block:=by have:=hb.1; omega
   refine ⟨fun j hj hjb=>?_,?_⟩
   · rw [isI,if_pos rfl] at q4
     have:=(any_iff (p:=fun x:Car=>x.spot.block == ((nextB T.c (Int.toNat ((rollT T).getD i dC).spot.block):Nat):Int))).2 ⟨j,hj,by simp only [beq_iff_eq]; exact hjb⟩
     rw [q4] at this; cases this
   · rw [Bool.eq_false_iff]
     intro ho
     rcases hprd.opn i hi ho with w | ⟨w,-⟩
     · rw [isI,if_neg (by omega),if_neg (by omega),hbi,Bool.not_eq_true'] at q2
       have:=(any_iff (p:=fun x:Car=>x.spot.block == ((rollT T).getD i dC).spot.block && x.spot.opn)).2 ⟨i,hi,by simp only [beq_self_eq_true,w]; rfl⟩
       rw [q2] at this; cases this
     · rw [q3] at w; cases w
 · rcases hprd.opn i hi ho with w | w
   · exact .inl w
   · exact .inr w.2
theorem Moved.ns {c:Cir} {r s r':List Car} {go:Nat→Bool} (h:Moved c r s r' go) (hn:NoShare r) (hin:∀ x ∈ r,InC c x.spot.block):NoShare r':=by
 have blk:∀ i,i<r.length→(r'.getD i dC).spot.block=if go i=true then ((nextB c (Int.toNat (r.getD i dC).spot.block):Nat):Int) else (r.getD i dC).spot.block:=fun i hi=>by
  rw [h.each i hi]
  split
  · simp only [mvC,(h.same i hi).1]
  · exact (h.same i hi).1
 intro i j hij hj
 rw [h.len'] at hj
 have hi:i<r.length:=by omega
 rw [blk i hi,blk j hj]
 have h1:=hin _ (List.mem_of_getElem? (getD_some (d:=dC) hi))
 have h2:=hin _ (List.mem_of_getElem? (getD_some (d:=dC) hj))
 split
 · rename_i gi
   split
   · intro e
     have:=next_inj h1.2 h2.2 (by simp only [nextB] at e; omega)
     exact hn i j hij hj (by have:=h1.1; have:=h2.1; omega)
   · exact fun e=>(h.free i hi gi).1 j hj e.symm
 · split
   · rename_i gj
     exact (h.free j hj gj).1 i hi
   · exact hn i j hij hj
theorem Moved.rest {c:Cir} {r s r':List Car} {go:Nat→Bool} (h:Moved c r s r' go) (hr:∀ x ∈ r,x.spot.opn=true→restI c x=true):∀ x ∈ r',x.spot.opn=true→restI c x=true:=fun x hx ho=>by
 obtain ⟨i,hi⟩:=List.getElem?_of_mem hx
 have hil:i<r.length:=by rw [← h.len']; exact (List.getElem?_eq_some_iff.1 hi).1
 have e:r'.getD i dC=x:=getD_of hi
 rw [← e,h.each i hil] at ho ⊢
 split at ho
 · rename_i hg
   have:=(h.free i hil hg).2
   simp only [mvC,this] at ho; cases ho
 · rename_i hg
   rw [if_neg hg]
   have hs:=h.same i hil
   have:restI c (s.getD i dC)=restI c (r.getD i dC):=by simp only [restI,hs.1,hs.2]
   rw [this]
   rcases h.opn i hil ho with w | w
   · exact hr _ (List.mem_of_getElem? (getD_some (d:=dC) hil)) w
   · exact w
theorem Inv.act {T:Trk} {B:Int} {l:List Prs} (h:Inv T B) (hpr:PrsIn T.c l):NoShare (actT T l).cars∧(∀ x ∈ (actT T l).cars,x.spot.opn=true→restI T.c x=true)∧(actT T l).cars.length=T.cars.length:=by
 by_cases hs:stopT T<0
 · obtain ⟨s,go,hm⟩:=act_moved h hpr hs
   exact ⟨hm.ns (rollT_ns h.ns) fun x hx=>(rollT_car h.tok x hx).inC,hm.rest (roll_rest h.rest),by rw [hm.len',rollT_len]⟩
 · have e:actT T l=⟨rollT T,T.gos,T.rounds,T.gone⟩:=by unfold actT; rw [if_neg hs]
   rw [e]
   exact ⟨rollT_ns h.ns,roll_rest h.rest,rollT_len⟩
theorem Inv.eq {T:Trk} {B:Int} {l:List Prs} (h:Inv T B):stepT T l=⟨T.c,T.faults,(actT T l).cars,(actT T l).gos,T.tick+1,stopT T,crashed T.c (actT T l).cars,(actT T l).rounds,(actT T l).gone⟩:=by
 unfold stepT; rw [if_neg (by rw [h.w]; simp)]
theorem Inv.step {T:Trk} {B:Int} {l:List Prs} (h:Inv T B) (hpr:PrsIn T.c l):Inv (stepT T l) (B+1):=by
 obtain ⟨a1,a2,a3⟩:=h.act hpr
 have htt:=step_tt (l:=l) h.tt h.tok
 refine ⟨step_tok h.tok,htt,?_,?_,by rw [step_f]; exact h.f1⟩
 · rw [htt.wr,crash_wreck htt.ct]
   refine wreck_no ?_ ?_
   · rw [h.eq]; exact a1
   · rw [h.eq]; exact a2
 · rw [h.eq]; exact a2
theorem Inv.run {T:Trk} {B:Int} {l:Nat→List Prs} (h:Inv T B) (hpr:∀ n,PrsIn T.c (l n)):∀ {n:Nat},Inv (runT T l n) (B+n)
 | 0=>by rw [show B+((0:Nat):Int)=B by omega]; exact h
 | n+1=>by
  have:=(Inv.run h hpr (n:=n)).step (l:=l n) (by rw [run_c]; exact hpr n)
  rw [show B+((n+1:Nat):Int)=B+n+1 by omega]
  exact this
end Go.Proofs.Ytgdfkjjgdkejfaa
namespace Go.Proofs.Ytgdfkjjgdkejfaa
open Go Ax
open Go.Proofs
theorem playK_zero {c:Cir} {ticks:Int} {l:List Prs} {f:List Flt} (h:(playK c ticks l f).2=0):checkP c ticks l f=0:=by
 unfold playK at h
 split at h
 · assumption
 · exact h
theorem rows_eq {c:Cir} {ticks:Int} {l:List Prs} {f:List Flt} (h:checkP c ticks l f=0):(playK c ticks l f).1=(List.range (Int.toNat ticks)).map fun i=>(playT c f l (i+1)).cars.map Car.spot:=by rw [playK,if_pos h]
/-- A row of a safe ride. -/
structure RowOk (c:Cir) (r:List Spt):Prop where
 len:r.length=c.cars.length
 ok:∀ x ∈ r,spotOk c x=true
 rest:∀ x ∈ r,x.opn=true→x.ran=(bkAt c x.block).time
 ns:∀ i j,i<j→j<r.length→(r.getD i dS).block ≠ (r.getD j dS).block
/-! ### When the ride is stopped -/
/-! ### A fault that is never seen -/
theorem said_none {T:Trk} (h:T.faults=[]) {k b:Int}:splitI (saidV T k b)=false:=by simp [splitI,saidV,saysV,h]
theorem nosplit_none {T:Trk} (h:T.faults=[]):anySplit (readI T)=false:=by
 have e:=spl_all (T:=T) (stp:=false)
 rw [Bool.false_or] at e
 rw [← e,splM,Bool.false_or]
 refine List.any_eq_false.2 fun j _=>?_
 rw [saidM,said_none h]; simp
theorem play_nofault {c:Cir} {l:List Prs}:∀ {n:Nat},(playT c [] l n).stopped=-1
 | 0=>rfl
 | n+1=>by
  have ih:=play_nofault (c:=c) (l:=l) (n:=n)
  show (stepT (playT c [] l n) l).stopped=-1
  unfold stepT
  split
  · exact ih
  · show stopT (playT c [] l n)=-1
    unfold stopT
    rw [if_pos (by omega),if_neg,ih]
    rw [nosplit_none (show (midT (playT c [] l n)).faults=[] from play_f)]; simp
structure Sim (T T':Trk):Prop where
 c:T.c=T'.c
 cars:T.cars=T'.cars
 gos:T.gos=T'.gos
 tick:T.tick=T'.tick
 wr:T.wrecked=T'.wrecked
 s:T.stopped<0
 s':T'.stopped<0
theorem said_val {T:Trk} (h1:T.faults.length≤1) {k b:Int} (hs:splitI (saidV T k b)=false):saidV T k b=⟨b2i (isI T.c T.cars k b),b2i (isI T.c T.cars k b)⟩:=by
 have a:=said_true h1 hs
 cases h:saidV T k b with
 | mk x y=>rw [h] at a; simp only at a; rw [a.1,a.2]
theorem said_sound {T T':Trk} (h1:T.faults.length≤1) (h1':T'.faults.length≤1) (hs:anySplit (readI T)=false) (hs':anySplit (readI T')=false) (hc:T.c=T'.c) (hx:T.cars=T'.cars):readI T=readI T':=by
 have key:∀ k,k<3→saidsI T ((k+1:Nat):Int)=saidsI T' ((k+1:Nat):Int):=fun k hk=>by
  rw [saidsI,saidsI,← hc]
  refine List.map_congr_left fun b hb=>?_
  have hb:=List.mem_range.1 hb
  rw [said_val h1 (split_at hs hk hb),said_val h1' (split_at hs' hk (b:=b) (by rw [← hc]; exact hb)),hc,hx]
 rw [readI,readI]
 have k1:=key 0 (by omega)
 have k2:=key 1 (by omega)
 have k3:=key 2 (by omega)
 have k1:saidsI T 1=saidsI T' 1:=k1
 have k2:saidsI T 2=saidsI T' 2:=k2
 have k3:saidsI T 3=saidsI T' 3:=k3
 rw [k1,k2,k3]
theorem Sim.step {T T':Trk} {l:List Prs} (h:Sim T T') (h1:T.faults.length≤1) (h1':T'.faults.length≤1) (ht:0≤T.tick) (hs:(stepT T l).stopped<0) (hs':(stepT T' l).stopped<0):Sim (stepT T l) (stepT T' l):=by
 have ht':0≤T'.tick:=by rw [← h.tick]; exact ht
 by_cases hw:T.wrecked=true
 · have e:stepT T l=⟨T.c,T.faults,T.cars,T.gos,T.tick+1,T.stopped,T.wrecked,T.rounds,T.gone⟩:=by unfold stepT; rw [if_pos hw]
   have e':stepT T' l=⟨T'.c,T'.faults,T'.cars,T'.gos,T'.tick+1,T'.stopped,T'.wrecked,T'.rounds,T'.gone⟩:=by unfold stepT; rw [if_pos (by rw [← h.wr]; exact hw)]
   rw [e,e']
   exact ⟨h.c,h.cars,h.gos,by simp only; rw [h.tick],h.wr,h.s,h.s'⟩
 · have e:stepT T l=⟨T.c,T.faults,(actT T l).cars,(actT T l).gos,T.tick+1,stopT T,crashed T.c (actT T l).cars,(actT T l).rounds,(actT T l).gone⟩:=by unfold stepT; rw [if_neg hw]
   have e':stepT T' l=⟨T'.c,T'.faults,(actT T' l).cars,(actT T' l).gos,T'.tick+1,stopT T',crashed T'.c (actT T' l).cars,(actT T' l).rounds,(actT T' l).gone⟩:=by unfold stepT; rw [if_neg (by rw [← h.wr]; exact hw)]
   have s1:stopT T<0:=by rw [e] at hs; exact hs
   have s2:stopT T'<0:=by rw [e'] at hs'; exact hs'
   have sp:∀ {T:Trk},stopT T<0→0≤T.tick→anySplit (readI (midT T))=false:=fun {T} q q'=>by
    unfold stopT at q
    split at q
    · split at q
      · omega
      · rename_i hh; exact Bool.eq_false_iff.2 hh
    · rename_i h0; exact absurd q h0
   have hr:rollT T=rollT T':=by simp only [rollT,h.c,h.cars,h.tick]
   have hrd:readI (midT T)=readI (midT T'):=said_sound (T:=midT T) (T':=midT T') h1 h1' (sp s1 ht) (sp s2 ht') h.c hr
   have hp:pressT T l=pressT T' l:=by unfold pressT; rw [hrd,hr,h.c,h.tick,h.gos]
   have hact:(actT T l).cars=(actT T' l).cars∧(actT T l).gos=(actT T' l).gos:=by
    unfold actT
    rw [if_pos s1,if_pos s2]
    unfold brakeT
    rw [hrd,hp,h.c]
    exact brake_like (s:=⟨(pressT T' l).1,(pressT T' l).2.1,T.rounds,T.gone⟩) (s':=⟨(pressT T' l).1,(pressT T' l).2.1,T'.rounds,T'.gone⟩) rfl rfl
   rw [e,e']
   exact ⟨h.c,hact.1,hact.2,by simp only; rw [h.tick],by simp only; rw [hact.1,h.c],s1,s2⟩
theorem stop_back {c:Cir} {f:List Flt} {l:List Prs} {n:Nat} (h:(playT c f l (n+1)).stopped<0):(playT c f l n).stopped<0:=by
 rcases Int.lt_or_le (playT c f l n).stopped 0 with h1 | h1
 · exact h1
 · have:=stop_step (l:=l) h1
   rw [show playT c f l (n+1)=stepT (playT c f l n) l from rfl,this] at h
   exact h
theorem play_sim {c:Cir} {f:List Flt} {l:List Prs} (hf:f.length≤1):∀ {n:Nat},(playT c f l n).stopped<0→Sim (playT c [] l n) (playT c f l n)
 | 0,_=>⟨rfl,rfl,rfl,rfl,rfl,by simp [playT,runT,newT],by simp [playT,runT,newT]⟩
 | n+1,h=>(play_sim hf (stop_back h)).step (by rw [play_f]; simp) (by rw [play_f]; exact hf) (by rw [play_tick]; omega) (by rw [show stepT (playT c [] l n) l=playT c [] l (n+1) from rfl,play_nofault]; omega) h
theorem law6_ok (c:Cir) (s:Scr) (h:CirQ c) (hs:ScrQ s):Pure Try.prog 6 [.agg [.rsl (rowBk c.blocks) 0 c.blocks.length,.rsl (rowI c.cars) 0 c.cars.length],.agg [.int .i64 s.ticks,.rsl (rowPrs s.presses) 0 s.presses.length,.rsl (rowFlt s.faults) 0 s.faults.length]] (.bool true):=pure_of Try.func6 f6b fun E hE=>by
 refine f6W c s (rv:=true) hE ⟨fun _=>rfl,fun hf=>⟨fun _=>rfl,fun hl=>⟨fun _=>rfl,fun h1=>?_⟩⟩⟩
 have hb:=far_in hf
 have hb2:=long_in hl
 dsimp only
 refine ⟨⟨⟨by omega,by omega⟩,by omega,by simp⟩,⟨by omega,by omega⟩,by omega,⟨h,hs.1,by simp⟩,fun hz=>⟨fun _=>rfl,fun e=>?_⟩,fun hz=>?_⟩
 · have:checkP c s.ticks s.presses [] ≠ 0:=fun q=>hz (by rw [playK,if_pos q])
   exact absurd (by rw [playK,stopsK,if_neg this,if_neg this]) e
 have h0:=playK_zero hz
 have hst:stopsK c s.ticks s.presses []=(-1,0):=by rw [stopsK,if_pos h0,play_nofault]
 rw [hst]
 refine ⟨fun e=>absurd rfl e,fun _=>⟨fun e=>absurd rfl e,fun _=>⟨⟨⟨by omega,by omega⟩,by omega,by omega⟩,⟨by omega,by omega⟩,by omega,by omega,⟨h,hs⟩,fun _=>rfl,fun hg=>⟨fun _=>rfl,fun hh=>⟨fun _=>rfl,fun hstop=>⟨⟨?_,?_⟩,rfl⟩⟩⟩⟩⟩⟩
 · have hlen:=playK_len (c:=c) (ticks:=s.ticks) (l:=s.presses) (f:=[])
   exact ⟨by omega,fun r hr=>by have:=hlen.2 r hr; omega⟩
 · have h2:=playK_zero hg
   rw [stopsK,if_pos h2] at hstop
   simp only at hstop
   rw [rows_eq h0,rows_eq h2]
   refine List.map_congr_left fun i hi=>?_
   have hi:=List.mem_range.1 hi
   have back:∀ d n,n+d=Int.toNat s.ticks→(playT c s.faults s.presses n).stopped<0:=by
    intro d
    induction d with
    | zero=>intro n hn; rw [show n=Int.toNat s.ticks by omega]; omega
    | succ d ih=>intro n hn; exact stop_back (ih (n+1) (by omega))
   have:=play_sim (c:=c) (l:=s.presses) (show s.faults.length≤1 by omega) (back (Int.toNat s.ticks - (i+1)) (i+1) (by omega))
   rw [this.cars]
end Go.Proofs.Ytgdfkjjgdkejfaa