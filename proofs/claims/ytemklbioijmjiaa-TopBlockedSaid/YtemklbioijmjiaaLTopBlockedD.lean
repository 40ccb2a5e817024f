/- A part of the proof: several texts, one behind the other. -/
import Derived.Test.YtemklbioijmjiaaLTopBlockedC
set_option linter.unusedVariables false
set_option linter.unusedSimpArgs false
set_option maxRecDepth 100000
namespace Go.Proofs.Ytemklbioijmjiaa
open Go Ax
open Go.Proofs
def p0:Ptc:=⟨0,0,0,0,0⟩
def pAt (f:Fld) (i:Int):Ptc:=f.ps.getD i.toNat p0
def qw (p:Ptc) (s:Sit):Int:=if s.turned=true then p.high else p.wide
def qi (p:Ptc) (s:Sit):Int:=if s.turned=true then p.wide else p.high
def WY (g:Gd) (c:Int) (y:Nat):Nat→Nat→List Int
 | 0,_=>[]
 | d+1,x=>((c+(y:Int)*g.w)+(x:Int)) :: WY g c y d (x+1)
def XW (g:Gd) (c:Int) (w:Nat):Nat→Nat→List Int
 | 0,_=>[]
 | d+1,y=>WY g c y w 0++XW g c w d (y+1)
def onB (g:Gd) (p:Ptc) (s:Sit):Bool:=Qa s.cell 0 ((g.cells.length:Int) - 1) && (!(decide (Int.tmod s.cell g.w+qw p s > g.w)) && !(decide (Int.tdiv s.cell g.w+qi p s > g.h)))
/-- The cells of a pitch at a site. -/
def Qbl (g:Gd) (p:Ptc) (s:Sit):List Int × Bool:=if onB g p s=true then (XW g s.cell (qw p s).toNat (qi p s).toNat 0,true) else ([],false)
def Qp (f:Fld) (i:Int) (s:Sit):List Int × Bool:=Qbl f.g (pAt f i) s
structure FldOk (f:Fld):Prop where
 g:XR f.g=true
 ps:∀ p ∈ f.ps,QU f.g p=false
 sl:f.ss.length=f.ps.length
 tl:f.tk.length=f.g.cells.length
 pl:f.ps.length≤8
structure FldAt (f:Fld) (i:Int):Prop where
 ok:FldOk f
 lo:0≤i
 hi:i<(f.ps.length:Int)
theorem FldAt.get {f:Fld} {i:Int} (h:FldAt f i):f.ps[Int.toNat i]?=some (pAt f i):=by
 have:=h.lo; have:=h.hi
 rw [pAt,List.getD_eq_getElem?_getD,List.getElem?_eq_getElem (show i.toNat<f.ps.length by omega)]; rfl
theorem FldAt.ptc {f:Fld} {i:Int} (h:FldAt f i):(1≤(pAt f i).wide∧(pAt f i).wide≤8)∧(1≤(pAt f i).high∧(pAt f i).high≤8)∧(0≤(pAt f i).slope∧(pAt f i).slope≤100):=by
 have:=h.ok.ps _ (List.mem_of_getElem? h.get)
 simp only [QU,Bool.not_eq_false',Bool.and_eq_true] at this
 exact ⟨QI.1 this.1,QI.1 this.2.1,QI.1 this.2.2.1⟩
theorem mul64' {a b:Int} (h1:0≤a∧a≤8) (h2:0≤b∧b≤8):0≤a*b∧a*b≤64 :=
 ⟨Int.mul_nonneg h1.1 h2.1,by have:=Int.mul_le_mul h1.2 h2.2 h2.1 (by decide); omega⟩
theorem rowGo_mem {g:Gd} {c:Int} {y:Nat}:∀ (d x:Nat),∀ e ∈ WY g c y d x,∃ x':Nat,x≤x'∧x'<x+d∧e=(c+(y:Int)*g.w)+(x':Int)
 | 0,x,e,h=>by simp [WY] at h
 | d+1,x,e,h=>by
  unfold WY at h
  rcases List.mem_cons.1 h with rfl | h
  · exact ⟨x,by omega,by omega,rfl⟩
  · obtain ⟨x',a,b,c⟩:=rowGo_mem d (x+1) e h; exact ⟨x',by omega,by omega,c⟩
theorem QaG {g:Gd} {c:Int} {w:Nat}:∀ (d y:Nat),∀ e ∈ XW g c w d y,∃ y' x':Nat,y≤y'∧y'<y+d∧x'<w∧e=(c+(y':Int)*g.w)+(x':Int)
 | 0,y,e,h=>by simp [XW] at h
 | d+1,y,e,h=>by
  unfold XW at h
  rcases List.mem_append.1 h with h | h
  · obtain ⟨x',a,b,c⟩:=rowGo_mem _ _ e h; exact ⟨y,x',by omega,by omega,by omega,c⟩
  · obtain ⟨y',x',a,b,c,d⟩:=QaG d (y+1) e h; exact ⟨y',x',by omega,by omega,c,d⟩
theorem rowGo_len {g:Gd} {c:Int} {y:Nat}:∀ (d x:Nat),(WY g c y d x).length=d
 | 0,x=>rfl
 | d+1,x=>by simp [WY,rowGo_len d (x+1)]
theorem QaH {g:Gd} {c:Int} {w:Nat}:∀ (d y:Nat),(XW g c w d y).length=d*w
 | 0,y=>by simp [XW]
 | d+1,y=>by simp [XW,QaH d (y+1),rowGo_len,Nat.add_mul]; omega
theorem FldAt.dim {f:Fld} {i:Int} {s:Sit} (h:FldAt f i):(1≤qw (pAt f i) s∧qw (pAt f i) s≤8)∧(1≤qi (pAt f i) s∧qi (pAt f i) s≤8):=by
 have:=h.ptc
 unfold qw qi
 split <;> omega
theorem Qcb {g:Gd} {p:Ptc} {s:Sit}:onB g p s=true ↔ (0≤s.cell∧s.cell≤(g.cells.length:Int) - 1)∧Int.tmod s.cell g.w+qw p s≤g.w∧Int.tdiv s.cell g.w+qi p s≤g.h:=by
 simp only [onB,Bool.and_eq_true,Bool.not_eq_true',decide_eq_false_iff_not,Int.not_lt,gt_iff_lt]
 exact ⟨fun h=>⟨QI.1 h.1,h.2⟩,fun h=>⟨QI.2 h.1,h.2⟩⟩
theorem QcH {f:Fld} {i:Int} {s:Sit} (h:FldAt f i) (h2:(Qp f i s).2=true):∀ e ∈ (Qp f i s).1,OnG f.g e:=by
 unfold Qp Qbl at h2 ⊢
 split at h2
 · rename_i c
   rw [if_pos c]
   intro e he
   obtain ⟨c1,c2,c3⟩:=Qcb.1 c
   have hO:OnG f.g s.cell:=⟨h.ok.g,c1.1,by omega⟩
   obtain ⟨d1,d2,d3,d4,d5⟩:=hO.dims
   obtain ⟨y,x,e1,e2,e3,e4⟩:=QaG _ _ e he
   obtain ⟨⟨w1,w2⟩,⟨v1,v2⟩⟩:=h.dim (s:=s)
   have p:=Qck h.ok.g
   have p1:=p.w1; have p2:=p.len; have p3:=p.h1
   have hy:(y:Int)+1≤qi (pAt f i) s:=by omega
   have hx:(x:Int)+1≤qw (pAt f i) s:=by omega
   have m:=Int.mul_le_mul_of_nonneg_left (show Int.tdiv s.cell f.g.w+(y:Int)+1≤f.g.h by omega) (show 0≤f.g.w by omega)
   rw [Int.mul_add,Int.mul_add,Int.mul_one,Int.mul_comm f.g.w (y:Int)] at m
   have m0:0≤(y:Int)*f.g.w:=Int.mul_nonneg (by omega) (by omega)
   exact ⟨h.ok.g,by omega,by omega⟩
 · cases h2
theorem QcI {f:Fld} {i:Int} {s:Sit} (h:FldAt f i) (h2:(Qp f i s).2=true):0<(Qp f i s).1.length∧(Qp f i s).1.length≤64:=by
 unfold Qp Qbl at h2 ⊢
 split at h2
 · rename_i c
   rw [if_pos c]
   show 0<(XW _ _ _ _ _).length∧(XW _ _ _ _ _).length≤64
   rw [QaH]
   obtain ⟨⟨w1,w2⟩,⟨v1,v2⟩⟩:=h.dim (s:=s)
   refine ⟨Nat.mul_pos (by omega) (by omega),?_⟩
   have:=Nat.mul_le_mul (show (qi (pAt f i) s).toNat≤8 by omega) (show (qw (pAt f i) s).toNat≤8 by omega)
   omega
 · cases h2
def YN (f:Fld) (i:Int) (s:Sit):AV:=if (Qp f i s).2=true then .tup [.rsl (rowI (Qp f i s).1) 0 (Qp f i s).1.length,.bool true] else .tup [.nilSl,.bool false]
def fitGo (f:Fld) (sl:Int):List Int→Int→Int→Bool
 | [],lo,hi=>decide (hi - lo≤sl)
 | c :: l,lo,hi=>if Va f.g c=0∧¬ f.tk.getD c.toNat 0≥0 then fitGo f sl l (iMin lo (htAt f.g c)) (iMax hi (htAt f.g c)) else false
def YT (f:Fld) (i:Int) (s:Sit):Bool:=if (Qp f i s).2=true∧¬ (s.turned=true∧(pAt f i).wide=(pAt f i).high) then fitGo f (pAt f i).slope (Qp f i s).1 (htAt f.g ((Qp f i s).1.getD 0 0)) (htAt f.g ((Qp f i s).1.getD 0 0)) else false
def setsK (i:Int) (t:List Int) (c:Int):List Int:=t.set c.toNat i
def putF (f:Fld) (i:Int) (s:Sit):Fld:=⟨f.g,f.ps,f.ss.set i.toNat s,(Qp f i s).1.foldl (setsK i) f.tk⟩
theorem setsK_len {i:Int}:∀ (L t:List Int),(L.foldl (setsK i) t).length=t.length
 | [],t=>rfl
 | c :: L,t=>by simp only [List.foldl_cons]; rw [setsK_len L]; simp [setsK]
theorem iMin_b {a b lo hi:Int} (h1:lo≤a∧a≤hi) (h2:lo≤b∧b≤hi):lo≤iMin a b∧iMin a b≤hi:=by unfold iMin; split <;> assumption
theorem iMax_b {a b lo hi:Int} (h1:lo≤a∧a≤hi) (h2:lo≤b∧b≤hi):lo≤iMax a b∧iMax a b≤hi:=by unfold iMax; split <;> assumption
/-! ### newField -/
def isNo (s:Sit):Bool:=(s.cell == (-1) && (s.turned == false && true))
def VH:List Sit→Nat→Fld→Fld × Int × Int
 | [],_,f=>(f,0,0)
 | s :: r,i,f=>if isNo s=true then VH r (i+1) f else (if YT f (i:Int) s=true then VH r (i+1) (putF f (i:Int) s) else (f,(i:Int),41))
def newF (g:Gd) (l:List Ptc) (sites:List Sit):Fld × Int × Int :=
 if (Xk g l).2=0 then (if sites.length=l.length then VH sites 0 (VG g l) else (VG g l,(sites.length:Int),41)) else (VG g l,(Xk g l).1,(Xk g l).2)
theorem putF_ok {f:Fld} {i:Int} {s:Sit} (h:FldOk f):FldOk (putF f i s) :=
 ⟨h.g,h.ps,by simpa [putF] using h.sl,by rw [show (putF f i s).tk.length=f.tk.length from setsK_len _ _]; exact h.tl,h.pl⟩
theorem emptyE_ok {g:Gd} {l:List Ptc} (h:(Xk g l).2=0):XR g=true∧l.length≤8∧∀ p ∈ l,QU g p=false:=by
 unfold Xk at h
 split at h
 · rename_i c
   split at h
   · cases h
   · split at h
     · cases h
     · rename_i c2 c3
       refine ⟨c,by omega,fun p hp=>?_⟩
       cases e:QU g p with
       | false=>rfl
       | true =>
        exfalso
        apply c3
        cases hf:l.findIdx? (QU g) with
        | none=>rw [List.findIdx?_eq_none_iff.1 hf p hp] at e; cases e
        | some i=>simp only [idxG,hf]; omega
 · cases h
theorem emptyF_ok {g:Gd} {l:List Ptc} (h:(Xk g l).2=0):FldOk (VG g l):=by
 obtain ⟨h1,h2,h3⟩:=emptyE_ok h
 exact ⟨h1,h3,by simp [VG],by simp [VG],h2⟩
theorem fits_cells {f:Fld} {i:Int} {s:Sit} (h:YT f i s=true):(Qp f i s).2=true:=by
 unfold YT at h
 split at h
 · rename_i c; exact c.1
 · cases h
theorem Qcd:∀ (r:List Sit) (i:Nat) (f:Fld),FldOk f→FldOk (VH r i f).1∧(VH r i f).1.g=f.g∧(VH r i f).1.ps=f.ps
 | [],i,f,h=>⟨h,rfl,rfl⟩
 | s :: r,i,f,h=>by
  unfold VH
  split
  · exact Qcd r (i+1) f h
  · split
    · have:=Qcd r (i+1) (putF f (i:Int) s) (putF_ok h)
      exact ⟨this.1,this.2.1,this.2.2⟩
    · exact ⟨h,rfl,rfl⟩
theorem YH {g:Gd} {l:List Ptc} {sites:List Sit} (h:(newF g l sites).2.2=0):FldOk (newF g l sites).1∧(newF g l sites).1.g=g∧(newF g l sites).1.ps=l∧(Xk g l).2=0∧sites.length=l.length∧newF g l sites=VH sites 0 (VG g l):=by
 unfold newF at h ⊢
 split at h
 · rename_i c
   rw [if_pos c]
   split at h
   · rename_i c2
     rw [if_pos c2]
     have:=Qcd sites 0 (VG g l) (emptyF_ok c)
     exact ⟨this.1,this.2.1,this.2.2,c,c2,rfl⟩
   · cases h
 · rename_i c; exact absurd h c
theorem f226b:Try.f226.body=some (Qd Try.prog 226):=by kernel_rfl
def QaW (P:Program):List Item:=kAt 400 [.code (Qd P 226)] [.b true,.b false,.stop]
def f226S0 (i:Int) (s:Sit) (f:Fld) (wide:Int) (i1:Int) (v1:List Int) (i11:Nat) (g1:Nat):St:=⟨([.rptr [.int .i64 f.g.w,.int .i64 f.g.h,.rsl (rowI f.g.cells) 0 f.g.cells.length,.rsl (rowI f.g.hts) 0 f.g.hts.length,.rsl (Qc f.ps) 0 f.ps.length,.rsl (Qb f.ss) 0 f.ss.length,.rsl (rowI f.tk) 0 f.tk.length] 0,J,J,J,J,.ptr 0 0 0,J,J,.int .i64 wide,J,.sl 1 g1 0 v1.length 1]++jj 69 ([.int .i64 i1,.int .i64 (i11:Int)]++Js 24)),[⟨true,0,1,true,[.int .i64 s.cell,.bool s.turned],false⟩,⟨true,g1,1,true,(rowI v1),true⟩]⟩
def QaX (E:Env) (i:Int) (s:Sit) (f:Fld) (wide:Int) (i1:Int) (v1:List Int) (i11:Nat):Prop:=∀ g1:Nat,G Try.prog E (QaW Try.prog) (f226S0 i s f wide i1 v1 i11 g1)
def f226K1 (P:Program):List Item:=kAt 400 [.code (Qd P 226)] [.b true,.b false,.b true,.stop]
def f226S1 (i:Int) (s:Sit) (f:Fld) (wide:Int) (k:Int) (k1:Int) (v1:List Int) (k11:Nat) (y:Nat) (k111:Nat) (g1:Nat):St:=⟨([.rptr [.int .i64 f.g.w,.int .i64 f.g.h,.rsl (rowI f.g.cells) 0 f.g.cells.length,.rsl (rowI f.g.hts) 0 f.g.hts.length,.rsl (Qc f.ps) 0 f.ps.length,.rsl (Qb f.ss) 0 f.ss.length,.rsl (rowI f.tk) 0 f.tk.length] 0,J,J,J,J,.ptr 0 0 0,J,J,.int .i64 wide,J,.sl 1 g1 0 v1.length 1,.int .i64 (y:Int)]++jj 68 ([.int .i64 k,.int .i64 (k111:Int),J,J,.int .i64 k1,.int .i64 (k11:Int)]++Js 20)),[⟨true,0,1,true,[.int .i64 s.cell,.bool s.turned],false⟩,⟨true,g1,1,true,(rowI v1),true⟩]⟩
def f226G1 (E:Env) (i:Int) (s:Sit) (f:Fld) (wide:Int) (k:Int) (k1:Int) (v1:List Int) (k11:Nat) (y:Nat) (k111:Nat):Prop:=∀ g1:Nat,G Try.prog E (f226K1 Try.prog) (f226S1 i s f wide k k1 v1 k11 y k111 g1)
abbrev z226_1 (f:Fld):List AV:=[.int .i64 f.g.w,.int .i64 f.g.h,.rsl (rowI f.g.cells) 0 f.g.cells.length,.rsl (rowI f.g.hts) 0 f.g.hts.length,.rsl (Qc f.ps) 0 f.ps.length,.rsl (Qb f.ss) 0 f.ss.length,.rsl (rowI f.tk) 0 f.tk.length]
abbrev Yv (s:Sit) (f:Fld):AV:=.bool (Qa s.cell 0 ((f.g.cells.length:Int) - 1))
abbrev ya (s:Sit) (f:Fld):List AV:=[.int .i64 s.cell,.int .i64 0,.int .i64 ((f.g.cells.length:Int) - 1)]
abbrev qZ (f:Fld) (i:Int) (s:Sit):List AV:=[.rptr (z226_1 f) 0,.int .i64 i,.agg [.int .i64 s.cell,.bool s.turned]]
theorem p226_start_0 (i:Int) (s:Sit) (f:Fld) (pe:Ptc) {E:Env} {res:AV} (hE:PureNE Try.prog 226 res E) (ho:AllP [0≤i∧i<(f.ps.length:Int),((Qc f.ps).drop ((0+(Int.toNat i)*5)+0)).take 1=[.int .i64 pe.wide],0≤i∧i<(f.ps.length:Int),((Qc f.ps).drop ((0+(Int.toNat i)*5)+1)).take 1=[.int .i64 pe.high],s.turned=true,InR .i64 ((f.g.cells.length:Int) - 1),Qi Try.prog (.clos 129 [] []) (ya s f) (Yv s f),(!(Qa s.cell 0 ((f.g.cells.length:Int) - 1)))=true,true=true,true=true])
 (hr:(.tup [.nilSl,.bool false])=res):G Try.prog E [.code (Qd Try.prog 226)] ⟨(qZ f i s)++unds (Try.f226.ntmps - 3),[]⟩ :=
 Xg (n:=400) (evs:=[.auto,.ld (.int .i64 pe.wide),.auto,.ld (.int .i64 pe.high),.b true,.v (Yv s f),.b true,.b true,.b true]) (obs:=_) hE Try.func226 Qg (by kernel_rfl) ho hr
theorem p226_start_1 (i:Int) (s:Sit) (f:Fld) (pe:Ptc) {E:Env} {res:AV} (hE:PureNE Try.prog 226 res E) (ho:AllP [0≤i∧i<(f.ps.length:Int),((Qc f.ps).drop ((0+(Int.toNat i)*5)+0)).take 1=[.int .i64 pe.wide],0≤i∧i<(f.ps.length:Int),((Qc f.ps).drop ((0+(Int.toNat i)*5)+1)).take 1=[.int .i64 pe.high],s.turned=true,InR .i64 ((f.g.cells.length:Int) - 1),Qi Try.prog (.clos 129 [] []) (ya s f) (Yv s f),(!(Qa s.cell 0 ((f.g.cells.length:Int) - 1)))=false,f.g.w ≠ 0,InR .i64 ((Int.tmod s.cell f.g.w)+pe.high),(decide (((Int.tmod s.cell f.g.w)+pe.high) > f.g.w))=true,true=true])
 (hr:(.tup [.nilSl,.bool false])=res):G Try.prog E [.code (Qd Try.prog 226)] ⟨(qZ f i s)++unds (Try.f226.ntmps - 3),[]⟩ :=
 Xg (n:=400) (evs:=[.auto,.ld (.int .i64 pe.wide),.auto,.ld (.int .i64 pe.high),.b true,.v (Yv s f),.b false,.b true,.b true]) (obs:=_) hE Try.func226 Qg (by kernel_rfl) ho hr
theorem p226_start_2 (i:Int) (s:Sit) (f:Fld) (pe:Ptc) {E:Env} {res:AV} (hE:PureNE Try.prog 226 res E) (ho:AllP [0≤i∧i<(f.ps.length:Int),((Qc f.ps).drop ((0+(Int.toNat i)*5)+0)).take 1=[.int .i64 pe.wide],0≤i∧i<(f.ps.length:Int),((Qc f.ps).drop ((0+(Int.toNat i)*5)+1)).take 1=[.int .i64 pe.high],s.turned=true,InR .i64 ((f.g.cells.length:Int) - 1),Qi Try.prog (.clos 129 [] []) (ya s f) (Yv s f),(!(Qa s.cell 0 ((f.g.cells.length:Int) - 1)))=false,f.g.w ≠ 0,InR .i64 ((Int.tmod s.cell f.g.w)+pe.high),(decide (((Int.tmod s.cell f.g.w)+pe.high) > f.g.w))=false,InR .i64 (Int.tdiv s.cell f.g.w),f.g.w ≠ 0,InR .i64 ((Int.tdiv s.cell f.g.w)+pe.wide),(decide (((Int.tdiv s.cell f.g.w)+pe.wide) > f.g.h))=true])
 (hr:(.tup [.nilSl,.bool false])=res):G Try.prog E [.code (Qd Try.prog 226)] ⟨(qZ f i s)++unds (Try.f226.ntmps - 3),[]⟩ :=
 Xg (n:=400) (evs:=[.auto,.ld (.int .i64 pe.wide),.auto,.ld (.int .i64 pe.high),.b true,.v (Yv s f),.b false,.b false,.b true]) (obs:=_) hE Try.func226 Qg (by kernel_rfl) ho hr
theorem p226_start_3 (i:Int) (s:Sit) (f:Fld) (pe:Ptc) {E:Env} {rv:AV} (hE:PureNE Try.prog 226 rv E) (ho:AllP [0≤i∧i<(f.ps.length:Int),((Qc f.ps).drop ((0+(Int.toNat i)*5)+0)).take 1=[.int .i64 pe.wide],0≤i∧i<(f.ps.length:Int),((Qc f.ps).drop ((0+(Int.toNat i)*5)+1)).take 1=[.int .i64 pe.high],s.turned=true,InR .i64 ((f.g.cells.length:Int) - 1),Qi Try.prog (.clos 129 [] []) (ya s f) (Yv s f),(!(Qa s.cell 0 ((f.g.cells.length:Int) - 1)))=false,f.g.w ≠ 0,InR .i64 ((Int.tmod s.cell f.g.w)+pe.high),(decide (((Int.tmod s.cell f.g.w)+pe.high) > f.g.w))=false,InR .i64 (Int.tdiv s.cell f.g.w),f.g.w ≠ 0,InR .i64 ((Int.tdiv s.cell f.g.w)+pe.wide),(decide (((Int.tdiv s.cell f.g.w)+pe.wide) > f.g.h))=false])
 (hg:G Try.prog E (QaW Try.prog) ⟨([.rptr (z226_1 f) 0,J,J,J,J,.ptr 0 0 0,J,J,.int .i64 pe.high,J,.sl 1 0 0 0 1]++jj 69 ([.int .i64 pe.wide,.int .i64 0]++Js 24)),[⟨true,0,1,true,[.int .i64 s.cell,.bool s.turned],false⟩,⟨true,0,1,true,[],true⟩]⟩):G Try.prog E [.code (Qd Try.prog 226)] ⟨(qZ f i s)++unds (Try.f226.ntmps - 3),[]⟩ :=
 Qe (n:=400) (ds:=[(10,1)]) (cs:=[]) (live:=[0,5,8,10,80,81]) (m:=2) (evs:=[.auto,.ld (.int .i64 pe.wide),.auto,.ld (.int .i64 pe.high),.b true,.v (Yv s f),.b false,.b false,.b false,.stop]) (obs:=_) hE.kind (hE.nogh _) Qg (by kernel_rfl) ho hg
theorem p226_start_4 (i:Int) (s:Sit) (f:Fld) (pe:Ptc) {E:Env} {res:AV} (hE:PureNE Try.prog 226 res E) (ho:AllP [0≤i∧i<(f.ps.length:Int),((Qc f.ps).drop ((0+(Int.toNat i)*5)+0)).take 1=[.int .i64 pe.wide],0≤i∧i<(f.ps.length:Int),((Qc f.ps).drop ((0+(Int.toNat i)*5)+1)).take 1=[.int .i64 pe.high],s.turned=false,InR .i64 ((f.g.cells.length:Int) - 1),Qi Try.prog (.clos 129 [] []) (ya s f) (Yv s f),(!(Qa s.cell 0 ((f.g.cells.length:Int) - 1)))=true,true=true,true=true])
 (hr:(.tup [.nilSl,.bool false])=res):G Try.prog E [.code (Qd Try.prog 226)] ⟨(qZ f i s)++unds (Try.f226.ntmps - 3),[]⟩ :=
 Xg (n:=400) (evs:=[.auto,.ld (.int .i64 pe.wide),.auto,.ld (.int .i64 pe.high),.b false,.v (Yv s f),.b true,.b true,.b true]) (obs:=_) hE Try.func226 Qg (by kernel_rfl) ho hr
theorem p226_start_5 (i:Int) (s:Sit) (f:Fld) (pe:Ptc) {E:Env} {res:AV} (hE:PureNE Try.prog 226 res E) (ho:AllP [0≤i∧i<(f.ps.length:Int),((Qc f.ps).drop ((0+(Int.toNat i)*5)+0)).take 1=[.int .i64 pe.wide],0≤i∧i<(f.ps.length:Int),((Qc f.ps).drop ((0+(Int.toNat i)*5)+1)).take 1=[.int .i64 pe.high],s.turned=false,InR .i64 ((f.g.cells.length:Int) - 1),Qi Try.prog (.clos 129 [] []) (ya s f) (Yv s f),(!(Qa s.cell 0 ((f.g.cells.length:Int) - 1)))=false,f.g.w ≠ 0,InR .i64 ((Int.tmod s.cell f.g.w)+pe.wide),(decide (((Int.tmod s.cell f.g.w)+pe.wide) > f.g.w))=true,true=true])
 (hr:(.tup [.nilSl,.bool false])=res):G Try.prog E [.code (Qd Try.prog 226)] ⟨(qZ f i s)++unds (Try.f226.ntmps - 3),[]⟩ :=
 Xg (n:=400) (evs:=[.auto,.ld (.int .i64 pe.wide),.auto,.ld (.int .i64 pe.high),.b false,.v (Yv s f),.b false,.b true,.b true]) (obs:=_) hE Try.func226 Qg (by kernel_rfl) ho hr
theorem p226_start_6 (i:Int) (s:Sit) (f:Fld) (pe:Ptc) {E:Env} {res:AV} (hE:PureNE Try.prog 226 res E) (ho:AllP [0≤i∧i<(f.ps.length:Int),((Qc f.ps).drop ((0+(Int.toNat i)*5)+0)).take 1=[.int .i64 pe.wide],0≤i∧i<(f.ps.length:Int),((Qc f.ps).drop ((0+(Int.toNat i)*5)+1)).take 1=[.int .i64 pe.high],s.turned=false,InR .i64 ((f.g.cells.length:Int) - 1),Qi Try.prog (.clos 129 [] []) (ya s f) (Yv s f),(!(Qa s.cell 0 ((f.g.cells.length:Int) - 1)))=false,f.g.w ≠ 0,InR .i64 ((Int.tmod s.cell f.g.w)+pe.wide),(decide (((Int.tmod s.cell f.g.w)+pe.wide) > f.g.w))=false,InR .i64 (Int.tdiv s.cell f.g.w),f.g.w ≠ 0,InR .i64 ((Int.tdiv s.cell f.g.w)+pe.high),(decide (((Int.tdiv s.cell f.g.w)+pe.high) > f.g.h))=true])
 (hr:(.tup [.nilSl,.bool false])=res):G Try.prog E [.code (Qd Try.prog 226)] ⟨(qZ f i s)++unds (Try.f226.ntmps - 3),[]⟩ :=
 Xg (n:=400) (evs:=[.auto,.ld (.int .i64 pe.wide),.auto,.ld (.int .i64 pe.high),.b false,.v (Yv s f),.b false,.b false,.b true]) (obs:=_) hE Try.func226 Qg (by kernel_rfl) ho hr
theorem p226_start_7 (i:Int) (s:Sit) (f:Fld) (pe:Ptc) {E:Env} {rv:AV} (hE:PureNE Try.prog 226 rv E) (ho:AllP [0≤i∧i<(f.ps.length:Int),((Qc f.ps).drop ((0+(Int.toNat i)*5)+0)).take 1=[.int .i64 pe.wide],0≤i∧i<(f.ps.length:Int),((Qc f.ps).drop ((0+(Int.toNat i)*5)+1)).take 1=[.int .i64 pe.high],s.turned=false,InR .i64 ((f.g.cells.length:Int) - 1),Qi Try.prog (.clos 129 [] []) (ya s f) (Yv s f),(!(Qa s.cell 0 ((f.g.cells.length:Int) - 1)))=false,f.g.w ≠ 0,InR .i64 ((Int.tmod s.cell f.g.w)+pe.wide),(decide (((Int.tmod s.cell f.g.w)+pe.wide) > f.g.w))=false,InR .i64 (Int.tdiv s.cell f.g.w),f.g.w ≠ 0,InR .i64 ((Int.tdiv s.cell f.g.w)+pe.high),(decide (((Int.tdiv s.cell f.g.w)+pe.high) > f.g.h))=false])
 (hg:G Try.prog E (QaW Try.prog) ⟨([.rptr (z226_1 f) 0,J,J,J,J,.ptr 0 0 0,J,J,.int .i64 pe.wide,J,.sl 1 0 0 0 1]++jj 69 ([.int .i64 pe.high,.int .i64 0]++Js 24)),[⟨true,0,1,true,[.int .i64 s.cell,.bool s.turned],false⟩,⟨true,0,1,true,[],true⟩]⟩):G Try.prog E [.code (Qd Try.prog 226)] ⟨(qZ f i s)++unds (Try.f226.ntmps - 3),[]⟩ :=
 Qe (n:=400) (ds:=[(10,1)]) (cs:=[]) (live:=[0,5,8,10,80,81]) (m:=2) (evs:=[.auto,.ld (.int .i64 pe.wide),.auto,.ld (.int .i64 pe.high),.b false,.v (Yv s f),.b false,.b false,.b false,.stop]) (obs:=_) hE.kind (hE.nogh _) Qg (by kernel_rfl) ho hg
theorem f226W (i:Int) (s:Sit) (f:Fld) {E:Env} {rv:AV} (hE:PureNE Try.prog 226 rv E)
 (h:(0≤i∧(∃ pe:Ptc,f.ps[Int.toNat i]?=some pe∧((s.turned=true→((I6 ((f.g.cells.length:Int) - 1))∧(((Qa s.cell 0 ((f.g.cells.length:Int) - 1))=false→rv=(.tup [.nilSl,.bool false]))∧((Qa s.cell 0 ((f.g.cells.length:Int) - 1))=true→(f.g.w ≠ 0∧((I6 ((Int.tmod s.cell f.g.w)+pe.high))∧((((Int.tmod s.cell f.g.w)+pe.high) > f.g.w→rv=(.tup [.nilSl,.bool false]))∧(¬ (((Int.tmod s.cell f.g.w)+pe.high) > f.g.w)→((I6 (Int.tdiv s.cell f.g.w))∧(f.g.w ≠ 0∧((I6 ((Int.tdiv s.cell f.g.w)+pe.wide))∧((((Int.tdiv s.cell f.g.w)+pe.wide) > f.g.h→rv=(.tup [.nilSl,.bool false]))∧(¬ (((Int.tdiv s.cell f.g.w)+pe.wide) > f.g.h)→QaX E i s f pe.high pe.wide ([]) 0)))))))))))))∧(s.turned=false→((I6 ((f.g.cells.length:Int) - 1))∧(((Qa s.cell 0 ((f.g.cells.length:Int) - 1))=false→rv=(.tup [.nilSl,.bool false]))∧((Qa s.cell 0 ((f.g.cells.length:Int) - 1))=true→(f.g.w ≠ 0∧((I6 ((Int.tmod s.cell f.g.w)+pe.wide))∧((((Int.tmod s.cell f.g.w)+pe.wide) > f.g.w→rv=(.tup [.nilSl,.bool false]))∧(¬ (((Int.tmod s.cell f.g.w)+pe.wide) > f.g.w)→((I6 (Int.tdiv s.cell f.g.w))∧(f.g.w ≠ 0∧((I6 ((Int.tdiv s.cell f.g.w)+pe.high))∧((((Int.tdiv s.cell f.g.w)+pe.high) > f.g.h→rv=(.tup [.nilSl,.bool false]))∧(¬ (((Int.tdiv s.cell f.g.w)+pe.high) > f.g.h)→QaX E i s f pe.wide pe.high ([]) 0))))))))))))))))):G Try.prog E [.code (Qd Try.prog 226)] ⟨[.rptr [.int .i64 f.g.w,.int .i64 f.g.h,.rsl (rowI f.g.cells) 0 f.g.cells.length,.rsl (rowI f.g.hts) 0 f.g.hts.length,.rsl (Qc f.ps) 0 f.ps.length,.rsl (Qb f.ss) 0 f.ss.length,.rsl (rowI f.tk) 0 f.tk.length] 0,.int .i64 i,.agg [.int .i64 s.cell,.bool s.turned]]++unds (Try.f226.ntmps - 3),[]⟩:=by
 obtain ⟨h2,h⟩:=h
 obtain ⟨pe,h1,h⟩:=h
 rcases bft s.turned with hc0 | hc0
 · have h:=h.1 hc0
   obtain ⟨q6_1,h⟩:=h
   rcases bft (!(Qa s.cell 0 ((f.g.cells.length:Int) - 1))) with hc1 | hc1
   · have h:=h.1 (bnT hc1)
     exact p226_start_0 i s f pe hE ⟨(Qj h2 h1),(rp cPtc 5 0 1 h1),(Qj h2 h1),(rp cPtc 5 1 1 h1),hc0,q6_1,(u129 (Qq s.cell 0 ((f.g.cells.length:Int) - 1))),hc1,rfl,rfl,trivial⟩ (by rw [h]; try rfl)
   · have h:=h.2 (bnF hc1)
     obtain ⟨q9_2,h⟩:=h
     obtain ⟨q10_2,h⟩:=h
     rcases bft (decide (((Int.tmod s.cell f.g.w)+pe.high) > f.g.w)) with hc2 | hc2
     · have h:=h.1 (odt hc2)
       exact p226_start_1 i s f pe hE ⟨(Qj h2 h1),(rp cPtc 5 0 1 h1),(Qj h2 h1),(rp cPtc 5 1 1 h1),hc0,q6_1,(u129 (Qq s.cell 0 ((f.g.cells.length:Int) - 1))),hc1,q9_2,q10_2,hc2,rfl,trivial⟩ (by rw [h]; try rfl)
     · have h:=h.2 (odf hc2)
       obtain ⟨q12_3,h⟩:=h
       obtain ⟨q13_3,h⟩:=h
       obtain ⟨q14_3,h⟩:=h
       rcases bft (decide (((Int.tdiv s.cell f.g.w)+pe.wide) > f.g.h)) with hc3 | hc3
       · have h:=h.1 (odt hc3)
         exact p226_start_2 i s f pe hE ⟨(Qj h2 h1),(rp cPtc 5 0 1 h1),(Qj h2 h1),(rp cPtc 5 1 1 h1),hc0,q6_1,(u129 (Qq s.cell 0 ((f.g.cells.length:Int) - 1))),hc1,q9_2,q10_2,hc2,q12_3,q13_3,q14_3,hc3,trivial⟩ (by rw [h]; try rfl)
       · have h:=h.2 (odf hc3)
         exact p226_start_3 i s f pe hE ⟨(Qj h2 h1),(rp cPtc 5 0 1 h1),(Qj h2 h1),(rp cPtc 5 1 1 h1),hc0,q6_1,(u129 (Qq s.cell 0 ((f.g.cells.length:Int) - 1))),hc1,q9_2,q10_2,hc2,q12_3,q13_3,q14_3,hc3,trivial⟩ (h 0)
 · have h:=h.2 hc0
   obtain ⟨q6_1,h⟩:=h
   rcases bft (!(Qa s.cell 0 ((f.g.cells.length:Int) - 1))) with hc1 | hc1
   · have h:=h.1 (bnT hc1)
     exact p226_start_4 i s f pe hE ⟨(Qj h2 h1),(rp cPtc 5 0 1 h1),(Qj h2 h1),(rp cPtc 5 1 1 h1),hc0,q6_1,(u129 (Qq s.cell 0 ((f.g.cells.length:Int) - 1))),hc1,rfl,rfl,trivial⟩ (by rw [h]; try rfl)
   · have h:=h.2 (bnF hc1)
     obtain ⟨q9_2,h⟩:=h
     obtain ⟨q10_2,h⟩:=h
     rcases bft (decide (((Int.tmod s.cell f.g.w)+pe.wide) > f.g.w)) with hc2 | hc2
     · have h:=h.1 (odt hc2)
       exact p226_start_5 i s f pe hE ⟨(Qj h2 h1),(rp cPtc 5 0 1 h1),(Qj h2 h1),(rp cPtc 5 1 1 h1),hc0,q6_1,(u129 (Qq s.cell 0 ((f.g.cells.length:Int) - 1))),hc1,q9_2,q10_2,hc2,rfl,trivial⟩ (by rw [h]; try rfl)
     · have h:=h.2 (odf hc2)
       obtain ⟨q12_3,h⟩:=h
       obtain ⟨q13_3,h⟩:=h
       obtain ⟨q14_3,h⟩:=h
       rcases bft (decide (((Int.tdiv s.cell f.g.w)+pe.high) > f.g.h)) with hc3 | hc3
       · have h:=h.1 (odt hc3)
         exact p226_start_6 i s f pe hE ⟨(Qj h2 h1),(rp cPtc 5 0 1 h1),(Qj h2 h1),(rp cPtc 5 1 1 h1),hc0,q6_1,(u129 (Qq s.cell 0 ((f.g.cells.length:Int) - 1))),hc1,q9_2,q10_2,hc2,q12_3,q13_3,q14_3,hc3,trivial⟩ (by rw [h]; try rfl)
       · have h:=h.2 (odf hc3)
         exact p226_start_7 i s f pe hE ⟨(Qj h2 h1),(rp cPtc 5 0 1 h1),(Qj h2 h1),(rp cPtc 5 1 1 h1),hc0,q6_1,(u129 (Qq s.cell 0 ((f.g.cells.length:Int) - 1))),hc1,q9_2,q10_2,hc2,q12_3,q13_3,q14_3,hc3,trivial⟩ (h 0)
theorem p226_0_0 (i:Int) (s:Sit) (f:Fld) (wide:Int) (i1:Int) (v1:List Int) (i11:Nat) (g1:Nat) {E:Env} {rv:AV} (hE:PureNE Try.prog 226 rv E) (ho:AllP [(decide ((i11:Int)<i1))=true])
 (hg:G Try.prog E (f226K1 Try.prog) ⟨([.rptr (z226_1 f) 0,J,J,J,J,.ptr 0 0 0,J,J,.int .i64 wide,J,.sl 1 g1 0 v1.length 1,.int .i64 (i11:Int)]++jj 68 ([.int .i64 i1,.int .i64 (i11:Int),J,J,.int .i64 wide,.int .i64 0]++Js 20)),[⟨true,0,1,true,[.int .i64 s.cell,.bool s.turned],false⟩,⟨true,g1,1,true,(rowI v1),true⟩]⟩):G Try.prog E (QaW Try.prog) (f226S0 i s f wide i1 v1 i11 g1) :=
 Qe (n:=400) (ds:=[]) (cs:=[]) (live:=[0,5,8,10,11,80,81,84,85]) (m:=2) (evs:=[.b true,.stop]) (obs:=_) hE.kind (hE.nogh _) Qg (by kernel_rfl) ho hg
theorem p226_0_1 (i:Int) (s:Sit) (f:Fld) (wide:Int) (i1:Int) (v1:List Int) (i11:Nat) (g1:Nat) {E:Env} {res:AV} (hE:PureNE Try.prog 226 res E) (ho:AllP [(decide ((i11:Int)<i1))=false,g1=g1,∀ x ∈ (rowI v1),Xt x=true])
 (hr:(.tup [.rsl (rowI v1) 0 v1.length,.bool true])=res):G Try.prog E (QaW Try.prog) (f226S0 i s f wide i1 v1 i11 g1) :=
 Xg (n:=400) (evs:=[.b false]) (obs:=_) hE Try.func226 Qg (by kernel_rfl) ho hr
theorem f226W0 (i:Int) (s:Sit) (f:Fld) (wide:Int) (i1:Int) (v1:List Int) (i11:Nat) {E:Env} {rv:AV} (hE:PureNE Try.prog 226 rv E)
 (h:(((i11:Int)<i1→f226G1 E i s f wide i1 wide v1 0 i11 i11)∧(¬ ((i11:Int)<i1)→rv=(.tup [.rsl (rowI v1) 0 v1.length,.bool true])))):QaX E i s f wide i1 v1 i11:=by
 intro g1
 rcases bft (decide ((i11:Int)<i1)) with hc0 | hc0
 · have h:=h.1 (odt hc0)
   exact p226_0_0 i s f wide i1 v1 i11 g1 hE ⟨hc0,trivial⟩ (h g1)
 · have h:=h.2 (odf hc0)
   exact p226_0_1 i s f wide i1 v1 i11 g1 hE ⟨hc0,rfl,(Yw _),trivial⟩ (by rw [h]; try rfl)
theorem p226_1_0 (i:Int) (s:Sit) (f:Fld) (wide:Int) (k:Int) (k1:Int) (v1:List Int) (k11:Nat) (y:Nat) (k111:Nat) (g1:Nat) {E:Env} {rv:AV} (hE:PureNE Try.prog 226 rv E) (ho:AllP [(decide ((k11:Int)<k1))=true,InR .i64 ((y:Int)*f.g.w),InR .i64 (s.cell+((y:Int)*f.g.w)),InR .i64 ((s.cell+((y:Int)*f.g.w))+(k11:Int)),g1=g1,(0+(v1.length*1))=(rowI v1).length,(v1.length+1)≤2147483648,0=0,InR .i64 ((k11:Int)+1)])
 (hg:G Try.prog E (f226K1 Try.prog) ⟨([.rptr [.int .i64 f.g.w,.int .i64 f.g.h,.rsl (rowI f.g.cells) 0 f.g.cells.length,.rsl (rowI f.g.hts) 0 f.g.hts.length,.rsl (Qc f.ps) 0 f.ps.length,.rsl (Qb f.ss) 0 f.ss.length,.rsl (rowI f.tk) 0 f.tk.length] 0,J,J,J,J,.ptr 0 0 0,J,J,.int .i64 wide,J,.sl 1 (g1+1) 0 (v1.length+1) 1,.int .i64 (y:Int)]++jj 68 ([.int .i64 k,.int .i64 (k111:Int),J,J,.int .i64 k1,.int .i64 ((k11:Int)+1)]++Js 20)),[⟨true,0,1,true,[.int .i64 s.cell,.bool s.turned],false⟩,⟨true,(g1+1),1,true,((rowI v1)++[.int .i64 ((s.cell+((y:Int)*f.g.w))+(k11:Int))]),true⟩]⟩):G Try.prog E (f226K1 Try.prog) (f226S1 i s f wide k k1 v1 k11 y k111 g1) :=
 Qe (n:=400) (ds:=[]) (cs:=[]) (live:=[0,5,8,10,11,80,81,84,85]) (m:=2) (evs:=[.b true,.stop]) (obs:=_) hE.kind (hE.nogh _) Qg (by kernel_rfl) ho hg
theorem p226_1_1 (i:Int) (s:Sit) (f:Fld) (wide:Int) (k:Int) (k1:Int) (v1:List Int) (k11:Nat) (y:Nat) (k111:Nat) (g1:Nat) {E:Env} {rv:AV} (hE:PureNE Try.prog 226 rv E) (ho:AllP [(decide ((k11:Int)<k1))=false,InR .i64 ((k111:Int)+1)])
 (hg:G Try.prog E (QaW Try.prog) ⟨([.rptr (z226_1 f) 0,J,J,J,J,.ptr 0 0 0,J,J,.int .i64 wide,J,.sl 1 g1 0 v1.length 1]++jj 69 ([.int .i64 k,.int .i64 ((k111:Int)+1)]++Js 24)),[⟨true,0,1,true,[.int .i64 s.cell,.bool s.turned],false⟩,⟨true,g1,1,true,(rowI v1),true⟩]⟩):G Try.prog E (f226K1 Try.prog) (f226S1 i s f wide k k1 v1 k11 y k111 g1) :=
 Qe (n:=400) (ds:=[]) (cs:=[]) (live:=[0,5,8,10,80,81]) (m:=2) (evs:=[.b false,.stop]) (obs:=_) hE.kind (hE.nogh _) Qg (by kernel_rfl) ho hg
theorem f226W1 (i:Int) (s:Sit) (f:Fld) (wide:Int) (k:Int) (k1:Int) (v1:List Int) (k11:Nat) (y:Nat) (k111:Nat) {E:Env} {rv:AV} (hE:PureNE Try.prog 226 rv E)
 (h:(((k11:Int)<k1→((I6 ((y:Int)*f.g.w))∧((I6 (s.cell+((y:Int)*f.g.w)))∧((I6 ((s.cell+((y:Int)*f.g.w))+(k11:Int)))∧((v1.length+1)≤2147483648∧((I6 ((k11:Int)+1))∧f226G1 E i s f wide k k1 (v1++[((s.cell+((y:Int)*f.g.w))+(k11:Int))]) (k11+1) y k111))))))∧(¬ ((k11:Int)<k1)→((I6 ((k111:Int)+1))∧QaX E i s f wide k v1 (k111+1))))):f226G1 E i s f wide k k1 v1 k11 y k111:=by
 intro g1
 rcases bft (decide ((k11:Int)<k1)) with hc0 | hc0
 · have h:=h.1 (odt hc0)
   obtain ⟨q1_1,h⟩:=h
   obtain ⟨q2_1,h⟩:=h
   obtain ⟨q3_1,h⟩:=h
   obtain ⟨h1,h⟩:=h
   obtain ⟨q8_1,h⟩:=h
   refine p226_1_0 i s f wide k k1 v1 k11 y k111 g1 hE ⟨hc0,q1_1,q2_1,q3_1,rfl,(by have hx:=QC cI (s:=1) (fun _=>rfl) v1; simp only [rowI] at hx ⊢; rw [hx]; simp),h1,rfl,q8_1,trivial⟩ ?_
   rw [(show rowI v1++[.int .i64 ((s.cell+((y:Int)*f.g.w))+(k11:Int))]=rowI (v1++[((s.cell+((y:Int)*f.g.w))+(k11:Int))]) from (XD cI v1 [((s.cell+((y:Int)*f.g.w))+(k11:Int))]).symm)]; (try rw [(show (v1.length+1)=(v1++[((s.cell+((y:Int)*f.g.w))+(k11:Int))]).length from by simp)]); exact (h (g1+1))
 · have h:=h.2 (odf hc0)
   obtain ⟨q1_1,h⟩:=h
   exact p226_1_1 i s f wide k k1 v1 k11 y k111 g1 hE ⟨hc0,q1_1,trivial⟩ (h g1)
theorem cells_any (f:Fld) (i:Int) (s:Sit) (h:FldAt f i):qt Try.prog 226 [.rptr [.int .i64 f.g.w,.int .i64 f.g.h,.rsl (rowI f.g.cells) 0 f.g.cells.length,.rsl (rowI f.g.hts) 0 f.g.hts.length,.rsl (Qc f.ps) 0 f.ps.length,.rsl (Qb f.ss) 0 f.ss.length,.rsl (rowI f.tk) 0 f.tk.length] 0,.int .i64 i,.agg [.int .i64 s.cell,.bool s.turned]] (YN f i s):=yB Try.func226 f226b fun E hE=>by
 have hp:=h.get
 have hd:=h.dim (s:=s)
 have p:=Qck h.ok.g
 have p1:=p.w1; have p2:=p.w8; have p3:=p.h1; have p4:=p.h8
 have hc:=XF h.ok.g
 have out:onB f.g (pAt f i) s=false→YN f i s=.tup [.nilSl,.bool false]:=fun q=>by
  unfold YN Qp Qbl
  rw [if_neg (show ¬ onB f.g (pAt f i) s=true by rw [q]; exact Bool.false_ne_true)]; rfl
 have inn:onB f.g (pAt f i) s=true→YN f i s=.tup [.rsl (rowI (XW f.g s.cell (qw (pAt f i) s).toNat (qi (pAt f i) s).toNat 0)) 0 (XW f.g s.cell (qw (pAt f i) s).toNat (qi (pAt f i) s).toNat 0).length,.bool true]:=fun q=>by
  unfold YN Qp Qbl
  rw [if_pos q]; rfl
 have key:∀ (W H:Int),0≤W→W≤8→0≤H→H≤8→0≤s.cell→s.cell≤64→∀ (d y:Nat) (v:List Int),(y:Int)+(d:Int)=H→v.length≤8*y→YN f i s=.tup [.rsl (rowI (v++XW f.g s.cell W.toNat d y)) 0 (v++XW f.g s.cell W.toNat d y).length,.bool true]→QaX E i s f W H v y:=by
  intro W H a1 a2 a3 a4 a5 a6 d
  induction d with
  | zero =>
   intro y v hy hv hr
   refine f226W0 i s f W H v y hE ⟨fun q=>by omega,fun _=>?_⟩
   simpa [XW] using hr
  | succ d ih =>
   intro y v hy hv hr
   have hm:=mul64' (a:=(y:Int)) (b:=f.g.w) (by omega) (by omega)
   have row:∀ (e x:Nat) (u:List Int),(x:Int)+(e:Int)=W→u.length≤8*y+x→u++WY f.g s.cell y e x=v++WY f.g s.cell y W.toNat 0→f226G1 E i s f W H W u x y y:=by
    intro e
    induction e with
    | zero =>
     intro x u hx hu he
     simp only [WY,List.append_nil] at he
     refine f226W1 i s f W H W u x y y hE ⟨fun q=>by omega,fun _=>⟨⟨by omega,by omega⟩,ih (y+1) u (by omega) (by omega) ?_⟩⟩
     rw [hr,he]
     simp only [XW,List.append_assoc]
    | succ e ie =>
     intro x u hx hu he
     refine f226W1 i s f W H W u x y y hE ⟨fun _=>⟨⟨by omega,by omega⟩,⟨by omega,by omega⟩,⟨by omega,by omega⟩,by omega,⟨by omega,by omega⟩,ie (x+1) _ (by omega) (by simp; omega) ?_⟩,fun q=>by omega⟩
     rw [← he]; simp only [WY,List.append_assoc,List.singleton_append]
   exact f226W0 i s f W H v y hE ⟨fun _=>row W.toNat 0 v (by omega) (by omega) rfl,fun q=>by omega⟩
 have tail:∀ (W H:Int),W=qw (pAt f i) s→H=qi (pAt f i) s→(InR .i64 ((f.g.cells.length:Int) - 1)∧(Qa s.cell 0 ((f.g.cells.length:Int) - 1)=false→YN f i s=.tup [.nilSl,.bool false])∧(Qa s.cell 0 ((f.g.cells.length:Int) - 1)=true→(f.g.w ≠ 0∧(InR .i64 ((Int.tmod s.cell f.g.w)+W)∧(((Int.tmod s.cell f.g.w)+W) > f.g.w→YN f i s=.tup [.nilSl,.bool false])∧(¬ (((Int.tmod s.cell f.g.w)+W) > f.g.w)→(InR .i64 (Int.tdiv s.cell f.g.w)∧(f.g.w ≠ 0∧(InR .i64 ((Int.tdiv s.cell f.g.w)+H)∧(((Int.tdiv s.cell f.g.w)+H) > f.g.h→YN f i s=.tup [.nilSl,.bool false])∧(¬ (((Int.tdiv s.cell f.g.w)+H) > f.g.h)→QaX E i s f W H [] 0))))))))):=by
  intro W H eW eH
  refine ⟨⟨by omega,by omega⟩,fun q=>?_,fun q=>?_⟩
  · refine out ?_
    unfold onB; rw [q]; rfl
  have q':=QI.1 q
  obtain ⟨d1,d2,d3,d4,-⟩:=OnG.dims (g:=f.g) (c:=s.cell) ⟨h.ok.g,q'.1,by omega⟩
  refine ⟨by omega,⟨by omega,by omega⟩,fun q1=>?_,fun q1=>⟨⟨by omega,by omega⟩,by omega,⟨by omega,by omega⟩,fun q2=>?_,fun q2=>?_⟩⟩
  · refine out ?_
    cases e:onB f.g (pAt f i) s with
    | false=>rfl
    | true=>have:=(Qcb.1 e).2.1; omega
  · refine out ?_
    cases e:onB f.g (pAt f i) s with
    | false=>rfl
    | true=>have:=(Qcb.1 e).2.2; omega
  · subst eW eH
    refine key _ _ (by omega) (by omega) (by omega) (by omega) (by omega) (by omega) (qi (pAt f i) s).toNat 0 [] (by omega) (by simp) ?_
    exact inn (Qcb.2 ⟨q',by omega,by omega⟩)
 refine f226W i s f hE ⟨h.lo,_,hp,fun ht=>tail _ _ ?_ ?_,fun ht=>tail _ _ ?_ ?_⟩
 · unfold qw; rw [if_pos ht]
 · unfold qi; rw [if_pos ht]
 · unfold qw; rw [if_neg (by rw [ht]; exact Bool.false_ne_true)]
 · unfold qi; rw [if_neg (by rw [ht]; exact Bool.false_ne_true)]
theorem yM (f:Fld) (i:Int) (s:Sit) (h:FldAt f i) (h2:(Qp f i s).2=true):qt Try.prog 226 [.rptr [.int .i64 f.g.w,.int .i64 f.g.h,.rsl (rowI f.g.cells) 0 f.g.cells.length,.rsl (rowI f.g.hts) 0 f.g.hts.length,.rsl (Qc f.ps) 0 f.ps.length,.rsl (Qb f.ss) 0 f.ss.length,.rsl (rowI f.tk) 0 f.tk.length] 0,.int .i64 i,.agg [.int .i64 s.cell,.bool s.turned]] (.tup [.rsl (rowI (Qp f i s).1) 0 (Qp f i s).1.length,.bool true]):=by
 have:=cells_any f i s h
 rw [YN,if_pos h2] at this; exact this
theorem cells_out (f:Fld) (i:Int) (s:Sit) (h:FldAt f i) (h2:(Qp f i s).2=false):qt Try.prog 226 [.rptr [.int .i64 f.g.w,.int .i64 f.g.h,.rsl (rowI f.g.cells) 0 f.g.cells.length,.rsl (rowI f.g.hts) 0 f.g.hts.length,.rsl (Qc f.ps) 0 f.ps.length,.rsl (Qb f.ss) 0 f.ss.length,.rsl (rowI f.tk) 0 f.tk.length] 0,.int .i64 i,.agg [.int .i64 s.cell,.bool s.turned]] (.tup [.nilSl,.bool false]):=by
 have:=cells_any f i s h
 rw [YN,if_neg (by rw [h2]; exact Bool.false_ne_true)] at this; exact this
theorem f164b:Try.f164.body=some (Qd Try.prog 164):=by kernel_rfl
theorem u164 {a c k:List AV} {r:AV} (h:Pure Try.prog 164 (a++c++k) r):Qi Try.prog (.clos 164 a k) c r:=Qk Try.func164 (by kernel_rfl) f164b h
def yl (P:Program):List Item:=kAt 400 [.code (Qd P 164)] [.b false,.stop]
def f164S0 (i:Int) (s:Sit) (f:Fld) (low:Int) (high:Int) (v1_0:Int) (v1_1:Int) (v1_2:Int) (v1_3:Int) (v1_4:Int) (i1:Nat):St:=⟨([.rptr [.int .i64 f.g.w,.int .i64 f.g.h,.rsl (rowI f.g.cells) 0 f.g.cells.length,.rsl (rowI f.g.hts) 0 f.g.hts.length,.rsl (Qc f.ps) 0 f.ps.length,.rsl (Qb f.ss) 0 f.ss.length,.rsl (rowI f.tk) 0 f.tk.length] 0]++jj 6 ([.ptr 1 0 0,J,J,.int .i64 low,.int .i64 high]++jj 49 ([.rsl (rowI ((Qp f i s).1)) 0 (((Qp f i s).1).length),.int .i64 ((((Qp f i s).1).length:Nat):Int),.int .i64 (i1:Int)]++Js 49))),[⟨true,0,1,true,[.int .i64 s.cell,.bool s.turned],false⟩,⟨true,0,1,true,[.int .i64 v1_0,.int .i64 v1_1,.int .i64 v1_2,.int .i64 v1_3,.int .i64 v1_4],false⟩]⟩
def Qbg (E:Env) (i:Int) (s:Sit) (f:Fld) (low:Int) (high:Int) (v1_0:Int) (v1_1:Int) (v1_2:Int) (v1_3:Int) (v1_4:Int) (i1:Nat):Prop:=G Try.prog E (yl Try.prog) (f164S0 i s f low high v1_0 v1_1 v1_2 v1_3 v1_4 i1 )
abbrev z164_1 (f:Fld):List AV:=[.int .i64 f.g.w,.int .i64 f.g.h,.rsl (rowI f.g.cells) 0 f.g.cells.length,.rsl (rowI f.g.hts) 0 f.g.hts.length,.rsl (Qc f.ps) 0 f.ps.length,.rsl (Qb f.ss) 0 f.ss.length,.rsl (rowI f.tk) 0 f.tk.length]
abbrev WA (pe:Ptc):List AV:=[.int .i64 pe.wide,.int .i64 pe.high,.int .i64 pe.slope,.int .i64 pe.years,.int .i64 pe.wish]
abbrev yb (f:Fld) (i:Int) (s:Sit):List AV:=[.rptr (z164_1 f) 0,.int .i64 i,.agg [.int .i64 s.cell,.bool s.turned]]
abbrev Qaw (f:Fld) (i:Int) (s:Sit):AV:=.tup [.rsl (rowI ((Qp f i s).1)) 0 (((Qp f i s).1).length),.bool true]
abbrev z164_5 (f:Fld) (e1:Int) (i:Int) (s:Sit):List AV:=[.rptr (z164_1 f) 0]++jj 6 ([.ptr 1 0 0,J,J,.int .i64 e1,.int .i64 e1]++jj 49 ([.rsl (rowI ((Qp f i s).1)) 0 (((Qp f i s).1).length),.int .i64 ((((Qp f i s).1).length:Nat):Int),.int .i64 0]++Js 49))
theorem p164_start_0 (i:Int) (s:Sit) (f:Fld) (pe:Ptc) {E:Env} {res:AV} (hE:Qh Try.prog 164 res E) (ho:AllP [0≤i∧i<(f.ps.length:Int),((Qc f.ps).drop (0+(Int.toNat i)*5)).take 5=(WA pe),5≤5,Yp Try.prog (.clos 226 [] []) (yb f i s) (Qaw f i s),false=false,s.turned=true,(pe.wide == pe.high)=true])
 (hr:AvLe (.bool false) res):G Try.prog E [.code (Qd Try.prog 164)] ⟨(yb f i s)++unds (Try.f164.ntmps - 3),[]⟩ :=
 Qf (n:=400) (evs:=[.auto,.ld (.agg (WA pe)),.vn (Qaw f i s),.b false,.b true,.b true]) (obs:=_) hE Try.func164 Qg (by kernel_rfl) ho hr
theorem p164_start_1 (i:Int) (s:Sit) (f:Fld) (pe:Ptc) (e:Int) (e1:Int) {E:Env} {rv:AV} (hE:Qh Try.prog 164 rv E) (ho:AllP [0≤i∧i<(f.ps.length:Int),((Qc f.ps).drop (0+(Int.toNat i)*5)).take 5=(WA pe),5≤5,Yp Try.prog (.clos 226 [] []) (yb f i s) (Qaw f i s),false=false,s.turned=true,(pe.wide == pe.high)=false,(0:Int)≤0∧(0:Int)<((((Qp f i s).1).length:Nat):Int),((rowI ((Qp f i s).1)).drop (0+0*1)).take 1=[.int .i64 e],0≤e∧e<(f.g.hts.length:Int),((rowI f.g.hts).drop (0+(Int.toNat e)*1)).take 1=[.int .i64 e1],(0:Int)≤0∧(0:Int)<((((Qp f i s).1).length:Nat):Int),((rowI ((Qp f i s).1)).drop (0+0*1)).take 1=[.int .i64 e],0≤e∧e<(f.g.hts.length:Int),((rowI f.g.hts).drop (0+(Int.toNat e)*1)).take 1=[.int .i64 e1]])
 (hg:G Try.prog E (yl Try.prog) ⟨(z164_5 f e1 i s),[⟨true,0,1,true,[.int .i64 s.cell,.bool s.turned],false⟩,⟨true,0,1,true,(WA pe),false⟩]⟩):G Try.prog E [.code (Qd Try.prog 164)] ⟨(yb f i s)++unds (Try.f164.ntmps - 3),[]⟩ :=
 Qe (n:=400) (ds:=[]) (cs:=[]) (live:=[0,7,10,11,61,62,63]) (m:=2) (evs:=[.auto,.ld (.agg (WA pe)),.vn (Qaw f i s),.b false,.b true,.b false,.auto,.ld (.int .i64 e),.ld (.int .i64 e1),.auto,.ld (.int .i64 e),.ld (.int .i64 e1),.stop]) (obs:=_) hE.2.1 (hE.nogh _) Qg (by kernel_rfl) ho hg
theorem p164_start_2 (i:Int) (s:Sit) (f:Fld) (pe:Ptc) (e:Int) (e1:Int) {E:Env} {rv:AV} (hE:Qh Try.prog 164 rv E) (ho:AllP [0≤i∧i<(f.ps.length:Int),((Qc f.ps).drop (0+(Int.toNat i)*5)).take 5=(WA pe),5≤5,Yp Try.prog (.clos 226 [] []) (yb f i s) (Qaw f i s),false=false,s.turned=false,false=false,(0:Int)≤0∧(0:Int)<((((Qp f i s).1).length:Nat):Int),((rowI ((Qp f i s).1)).drop (0+0*1)).take 1=[.int .i64 e],0≤e∧e<(f.g.hts.length:Int),((rowI f.g.hts).drop (0+(Int.toNat e)*1)).take 1=[.int .i64 e1],(0:Int)≤0∧(0:Int)<((((Qp f i s).1).length:Nat):Int),((rowI ((Qp f i s).1)).drop (0+0*1)).take 1=[.int .i64 e],0≤e∧e<(f.g.hts.length:Int),((rowI f.g.hts).drop (0+(Int.toNat e)*1)).take 1=[.int .i64 e1]])
 (hg:G Try.prog E (yl Try.prog) ⟨(z164_5 f e1 i s),[⟨true,0,1,true,[.int .i64 s.cell,.bool s.turned],false⟩,⟨true,0,1,true,(WA pe),false⟩]⟩):G Try.prog E [.code (Qd Try.prog 164)] ⟨(yb f i s)++unds (Try.f164.ntmps - 3),[]⟩ :=
 Qe (n:=400) (ds:=[]) (cs:=[]) (live:=[0,7,10,11,61,62,63]) (m:=2) (evs:=[.auto,.ld (.agg (WA pe)),.vn (Qaw f i s),.b false,.b false,.b false,.auto,.ld (.int .i64 e),.ld (.int .i64 e1),.auto,.ld (.int .i64 e),.ld (.int .i64 e1),.stop]) (obs:=_) hE.2.1 (hE.nogh _) Qg (by kernel_rfl) ho hg
theorem p164_start_3 (i:Int) (s:Sit) (f:Fld) (pe:Ptc) {E:Env} {res:AV} (hE:Qh Try.prog 164 res E) (ho:AllP [0≤i∧i<(f.ps.length:Int),((Qc f.ps).drop (0+(Int.toNat i)*5)).take 5=(WA pe),5≤5,Yp Try.prog (.clos 226 [] []) (yb f i s) (.tup [.nilSl,.bool false]),true=true,true=true])
 (hr:AvLe (.bool false) res):G Try.prog E [.code (Qd Try.prog 164)] ⟨(yb f i s)++unds (Try.f164.ntmps - 3),[]⟩ :=
 Qf (n:=400) (evs:=[.auto,.ld (.agg (WA pe)),.vn (.tup [.nilSl,.bool false]),.b true,.b true]) (obs:=_) hE Try.func164 Qg (by kernel_rfl) ho hr
theorem f164W (i:Int) (s:Sit) (f:Fld) {E:Env} {rv:Bool} (hE:Qh Try.prog 164 (.bool rv) E)
 (h:(0≤i∧(∃ pe:Ptc,f.ps[Int.toNat i]?=some pe∧((((Qp f i s).2)=true→((FldAt f i)∧((s.turned=true→((pe.wide=pe.high→rv=false)∧(¬ (pe.wide=pe.high)→(∃ e:Int,((Qp f i s).1)[0]?=some e∧(0≤e∧(∃ e1:Int,f.g.hts[Int.toNat e]?=some e1∧Qbg E i s f e1 e1 pe.wide pe.high pe.slope pe.years pe.wish 0))))))∧(s.turned=false→(∃ e:Int,((Qp f i s).1)[0]?=some e∧(0≤e∧(∃ e1:Int,f.g.hts[Int.toNat e]?=some e1∧Qbg E i s f e1 e1 pe.wide pe.high pe.slope pe.years pe.wish 0)))))))∧(((Qp f i s).2)=false→((FldAt f i)∧rv=false)))))):G Try.prog E [.code (Qd Try.prog 164)] ⟨[.rptr [.int .i64 f.g.w,.int .i64 f.g.h,.rsl (rowI f.g.cells) 0 f.g.cells.length,.rsl (rowI f.g.hts) 0 f.g.hts.length,.rsl (Qc f.ps) 0 f.ps.length,.rsl (Qb f.ss) 0 f.ss.length,.rsl (rowI f.tk) 0 f.tk.length] 0,.int .i64 i,.agg [.int .i64 s.cell,.bool s.turned]]++unds (Try.f164.ntmps - 3),[]⟩:=by
 obtain ⟨h2,h⟩:=h
 obtain ⟨pe,h1,h⟩:=h
 rcases bft ((Qp f i s).2) with hc0 | hc0
 · have h:=h.1 hc0
   obtain ⟨h3,h⟩:=h
   rcases bft s.turned with hc1 | hc1
   · have h:=h.1 hc1
     rcases bft (pe.wide == pe.high) with hc2 | hc2
     · have h:=h.1 (eq_of_beq hc2)
       exact p164_start_0 i s f pe hE ⟨(Qj h2 h1),(rp cPtc 5 0 5 h1),(by decide),(QK Try.func226 (by kernel_rfl) f226b (yM f i s h3 hc0)),rfl,hc1,hc2,trivial⟩ (AvLe.of_eq (by rw [h]; try rfl))
     · have h:=h.2 (ne_of_beq_false hc2)
       obtain ⟨e,h4,h⟩:=h
       obtain ⟨h6,h⟩:=h
       obtain ⟨e1,h5,h⟩:=h
       exact p164_start_1 i s f pe e e1 hE ⟨(Qj h2 h1),(rp cPtc 5 0 5 h1),(by decide),(QK Try.func226 (by kernel_rfl) f226b (yM f i s h3 hc0)),rfl,hc1,hc2,(Qs h4),(rp cI 1 0 1 h4),(Qj h6 h5),(rp cI 1 0 1 h5),(Qs h4),(rp cI 1 0 1 h4),(Qj h6 h5),(rp cI 1 0 1 h5),trivial⟩ h
   · have h:=h.2 hc1
     obtain ⟨e,h4,h⟩:=h
     obtain ⟨h6,h⟩:=h
     obtain ⟨e1,h5,h⟩:=h
     exact p164_start_2 i s f pe e e1 hE ⟨(Qj h2 h1),(rp cPtc 5 0 5 h1),(by decide),(QK Try.func226 (by kernel_rfl) f226b (yM f i s h3 hc0)),rfl,hc1,rfl,(Qs h4),(rp cI 1 0 1 h4),(Qj h6 h5),(rp cI 1 0 1 h5),(Qs h4),(rp cI 1 0 1 h4),(Qj h6 h5),(rp cI 1 0 1 h5),trivial⟩ h
 · have h:=h.2 hc0
   obtain ⟨h3,h⟩:=h
   exact p164_start_3 i s f pe hE ⟨(Qj h2 h1),(rp cPtc 5 0 5 h1),(by decide),(QK Try.func226 (by kernel_rfl) f226b (cells_out f i s h3 hc0)),rfl,rfl,trivial⟩ (AvLe.of_eq (by rw [h]; try rfl))
theorem p164_0_0 (i:Int) (s:Sit) (f:Fld) (low:Int) (high:Int) (v1_0:Int) (v1_1:Int) (v1_2:Int) (v1_3:Int) (v1_4:Int) (i1:Nat) (e:Int) (e1:Int) {E:Env} {res:AV} (hE:Qh Try.prog 164 res E) (ho:AllP [(decide ((i1:Int)<((((Qp f i s).1).length:Nat):Int)))=true,0≤(i1:Int)∧(i1:Int)<((((Qp f i s).1).length:Nat):Int),((rowI ((Qp f i s).1)).drop (0+(Int.toNat (i1:Int))*1)).take 1=[.int .i64 e],0≤e∧e<(f.g.cells.length:Int),((rowI f.g.cells).drop (0+(Int.toNat e)*1)).take 1=[.int .i64 e1],(e1 != 0)=true,true=true])
 (hr:AvLe (.bool false) res):G Try.prog E (yl Try.prog) (f164S0 i s f low high v1_0 v1_1 v1_2 v1_3 v1_4 i1 ) :=
 Qf (n:=400) (evs:=[.b true,.ld (.int .i64 e),.auto,.ld (.int .i64 e1),.b true,.b true]) (obs:=_) hE Try.func164 Qg (by kernel_rfl) ho hr
theorem p164_0_1 (i:Int) (s:Sit) (f:Fld) (low:Int) (high:Int) (v1_0:Int) (v1_1:Int) (v1_2:Int) (v1_3:Int) (v1_4:Int) (i1:Nat) (e:Int) (e1:Int) (e2:Int) {E:Env} {res:AV} (hE:Qh Try.prog 164 res E) (ho:AllP [(decide ((i1:Int)<((((Qp f i s).1).length:Nat):Int)))=true,0≤(i1:Int)∧(i1:Int)<((((Qp f i s).1).length:Nat):Int),((rowI ((Qp f i s).1)).drop (0+(Int.toNat (i1:Int))*1)).take 1=[.int .i64 e],0≤e∧e<(f.g.cells.length:Int),((rowI f.g.cells).drop (0+(Int.toNat e)*1)).take 1=[.int .i64 e1],(e1 != 0)=false,0≤e∧e<(f.tk.length:Int),((rowI f.tk).drop (0+(Int.toNat e)*1)).take 1=[.int .i64 e2],(decide (e2≥0))=true])
 (hr:AvLe (.bool false) res):G Try.prog E (yl Try.prog) (f164S0 i s f low high v1_0 v1_1 v1_2 v1_3 v1_4 i1 ) :=
 Qf (n:=400) (evs:=[.b true,.ld (.int .i64 e),.auto,.ld (.int .i64 e1),.b false,.auto,.ld (.int .i64 e2),.b true]) (obs:=_) hE Try.func164 Qg (by kernel_rfl) ho hr
theorem p164_0_2 (i:Int) (s:Sit) (f:Fld) (low:Int) (high:Int) (v1_0:Int) (v1_1:Int) (v1_2:Int) (v1_3:Int) (v1_4:Int) (i1:Nat) (e:Int) (e1:Int) (e2:Int) (e3:Int) {E:Env} {rv:AV} (hE:Qh Try.prog 164 rv E) (ho:AllP [(decide ((i1:Int)<((((Qp f i s).1).length:Nat):Int)))=true,0≤(i1:Int)∧(i1:Int)<((((Qp f i s).1).length:Nat):Int),((rowI ((Qp f i s).1)).drop (0+(Int.toNat (i1:Int))*1)).take 1=[.int .i64 e],0≤e∧e<(f.g.cells.length:Int),((rowI f.g.cells).drop (0+(Int.toNat e)*1)).take 1=[.int .i64 e1],(e1 != 0)=false,0≤e∧e<(f.tk.length:Int),((rowI f.tk).drop (0+(Int.toNat e)*1)).take 1=[.int .i64 e2],(decide (e2≥0))=false,0≤e∧e<(f.g.hts.length:Int),((rowI f.g.hts).drop (0+(Int.toNat e)*1)).take 1=[.int .i64 e3],0≤e∧e<(f.g.hts.length:Int),((rowI f.g.hts).drop (0+(Int.toNat e)*1)).take 1=[.int .i64 e3],InR .i64 ((i1:Int)+1)])
 (hg:G Try.prog E (yl Try.prog) ⟨([.rptr (z164_1 f) 0]++jj 6 ([.ptr 1 0 0,J,J,.int .i64 (iMin low e3),.int .i64 (iMax high e3)]++jj 49 ([.rsl (rowI ((Qp f i s).1)) 0 (((Qp f i s).1).length),.int .i64 ((((Qp f i s).1).length:Nat):Int),.int .i64 ((i1:Int)+1)]++Js 49))),[⟨true,0,1,true,[.int .i64 s.cell,.bool s.turned],false⟩,⟨true,0,1,true,[.int .i64 v1_0,.int .i64 v1_1,.int .i64 v1_2,.int .i64 v1_3,.int .i64 v1_4],false⟩]⟩):G Try.prog E (yl Try.prog) (f164S0 i s f low high v1_0 v1_1 v1_2 v1_3 v1_4 i1 ) :=
 Qe (n:=400) (ds:=[]) (cs:=[]) (live:=[0,7,10,11,61,62,63]) (m:=2) (evs:=[.b true,.ld (.int .i64 e),.auto,.ld (.int .i64 e1),.b false,.auto,.ld (.int .i64 e2),.b false,.auto,.ld (.int .i64 e3),.auto,.ld (.int .i64 e3),.stop]) (obs:=_) hE.2.1 (hE.nogh _) Qg (by kernel_rfl) ho hg
theorem p164_0_3 (i:Int) (s:Sit) (f:Fld) (low:Int) (high:Int) (v1_0:Int) (v1_1:Int) (v1_2:Int) (v1_3:Int) (v1_4:Int) (i1:Nat) {E:Env} {res:AV} (hE:Qh Try.prog 164 res E) (ho:AllP [(decide ((i1:Int)<((((Qp f i s).1).length:Nat):Int)))=false,InR .i64 (high - low)])
 (hr:AvLe (.bool (decide ((high - low)≤v1_2))) res):G Try.prog E (yl Try.prog) (f164S0 i s f low high v1_0 v1_1 v1_2 v1_3 v1_4 i1 ) :=
 Qf (n:=400) (evs:=[.b false]) (obs:=_) hE Try.func164 Qg (by kernel_rfl) ho hr
theorem f164W0 (i:Int) (s:Sit) (f:Fld) (low:Int) (high:Int) (v1_0:Int) (v1_1:Int) (v1_2:Int) (v1_3:Int) (v1_4:Int) (i1:Nat) {E:Env} {rv:Bool} (hE:Qh Try.prog 164 (.bool rv) E)
 (h:(((i1:Int)<((((Qp f i s).1).length:Nat):Int)→(∃ e:Int,((Qp f i s).1)[i1]?=some e∧(0≤e∧(∃ e1:Int,f.g.cells[Int.toNat e]?=some e1∧((¬ (e1=0)→rv=false)∧(e1=0→(0≤e∧(∃ e2:Int,f.tk[Int.toNat e]?=some e2∧((e2≥0→rv=false)∧(¬ (e2≥0)→(0≤e∧(∃ e3:Int,f.g.hts[Int.toNat e]?=some e3∧((I6 ((i1:Int)+1))∧Qbg E i s f (iMin low e3) (iMax high e3) v1_0 v1_1 v1_2 v1_3 v1_4 (i1+1))))))))))))))∧(¬ ((i1:Int)<((((Qp f i s).1).length:Nat):Int))→((I6 (high - low))∧rv=(decide ((high - low)≤v1_2)))))):Qbg E i s f low high v1_0 v1_1 v1_2 v1_3 v1_4 i1:=by
 rcases bft (decide ((i1:Int)<((((Qp f i s).1).length:Nat):Int))) with hc0 | hc0
 · have h:=h.1 (odt hc0)
   obtain ⟨e,h1,h⟩:=h
   obtain ⟨h3,h⟩:=h
   obtain ⟨e1,h2,h⟩:=h
   rcases bft (e1 != 0) with hc1 | hc1
   · have h:=h.1 (bneT hc1)
     exact p164_0_0 i s f low high v1_0 v1_1 v1_2 v1_3 v1_4 i1 e e1 hE ⟨hc0,(Qs h1),(rp cI 1 0 1 h1),(Qj h3 h2),(rp cI 1 0 1 h2),hc1,rfl,trivial⟩ (AvLe.of_eq (by rw [h]; try rfl))
   · have h:=h.2 (bneF hc1)
     obtain ⟨h5,h⟩:=h
     obtain ⟨e2,h4,h⟩:=h
     rcases bft (decide (e2≥0)) with hc2 | hc2
     · have h:=h.1 (odt hc2)
       exact p164_0_1 i s f low high v1_0 v1_1 v1_2 v1_3 v1_4 i1 e e1 e2 hE ⟨hc0,(Qs h1),(rp cI 1 0 1 h1),(Qj h3 h2),(rp cI 1 0 1 h2),hc1,(Qj h5 h4),(rp cI 1 0 1 h4),hc2,trivial⟩ (AvLe.of_eq (by rw [h]; try rfl))
     · have h:=h.2 (odf hc2)
       obtain ⟨h7,h⟩:=h
       obtain ⟨e3,h6,h⟩:=h
       obtain ⟨q17_3,h⟩:=h
       exact p164_0_2 i s f low high v1_0 v1_1 v1_2 v1_3 v1_4 i1 e e1 e2 e3 hE ⟨hc0,(Qs h1),(rp cI 1 0 1 h1),(Qj h3 h2),(rp cI 1 0 1 h2),hc1,(Qj h5 h4),(rp cI 1 0 1 h4),hc2,(Qj h7 h6),(rp cI 1 0 1 h6),(Qj h7 h6),(rp cI 1 0 1 h6),q17_3,trivial⟩ h
 · have h:=h.2 (odf hc0)
   obtain ⟨q1_1,h⟩:=h
   exact p164_0_3 i s f low high v1_0 v1_1 v1_2 v1_3 v1_4 i1 hE ⟨hc0,q1_1,trivial⟩ (AvLe.of_eq (by rw [h]; try rfl))
theorem fits2_ok (f:Fld) (i:Int) (s:Sit) (h:FldAt f i):Pure Try.prog 164 [.rptr [.int .i64 f.g.w,.int .i64 f.g.h,.rsl (rowI f.g.cells) 0 f.g.cells.length,.rsl (rowI f.g.hts) 0 f.g.hts.length,.rsl (Qc f.ps) 0 f.ps.length,.rsl (Qb f.ss) 0 f.ss.length,.rsl (rowI f.tk) 0 f.tk.length] 0,.int .i64 i,.agg [.int .i64 s.cell,.bool s.turned]] (.bool (YT f i s)):=Qy Try.func164 f164b fun E hE=>by
 have hp:=h.get
 have key:(Qp f i s).2=true→∀ (d n:Nat) (lo hi:Int),n+d=(Qp f i s).1.length→(0≤lo∧lo≤100)→(0≤hi∧hi≤100)→fitGo f (pAt f i).slope ((Qp f i s).1.drop n) lo hi=YT f i s→Qbg E i s f lo hi (pAt f i).wide (pAt f i).high (pAt f i).slope (pAt f i).years (pAt f i).wish n:=by
  intro hin d
  have hc:=QcH h hin
  have hn:=QcI h hin
  induction d with
  | zero =>
   intro n lo hi hd hlo hhi hr
   rw [List.drop_eq_nil_of_le (by omega)] at hr
   exact f164W0 i s f lo hi _ _ _ _ _ n (rv:=YT f i s) hE ⟨fun q=>by omega,fun _=>⟨⟨by omega,by omega⟩,hr.symm⟩⟩
  | succ d ih =>
   intro n lo hi hd hlo hhi hr
   have hx:(Qp f i s).1[n]?=some ((Qp f i s).1[n]'(by omega)):=List.getElem?_eq_getElem (by omega)
   rw [List.drop_eq_getElem_cons (by omega)] at hr
   generalize (Qp f i s).1[n]'(by omega)=e at hx hr
   have ho:=hc e (List.mem_of_getElem? hx)
   have h0:=ho.lo; have h1:=ho.hi
   have ht:f.tk[e.toNat]?=some (f.tk.getD e.toNat 0):=XQ 0 (i:=e) (by have:=h.ok.tl; omega)
   unfold fitGo at hr
   refine f164W0 i s f lo hi _ _ _ _ _ n (rv:=YT f i s) hE ⟨fun _=>⟨e,hx,h0,_,ho.cell,fun q=>?_,fun q=>⟨h0,_,ht,fun q2=>?_,fun q2=>⟨h0,_,ho.ht,⟨by omega,by omega⟩,?_⟩⟩⟩,fun q=>by omega⟩
   · rw [if_neg (fun hh=>q hh.1)] at hr; exact hr.symm
   · rw [if_neg (fun hh=>hh.2 q2)] at hr; exact hr.symm
   · rw [if_pos ⟨q,q2⟩] at hr
     exact ih (n+1) _ _ (by omega) (iMin_b hlo ho.htb) (iMax_b hhi ho.htb) hr
 have go:(Qp f i s).2=true→¬ (s.turned=true∧(pAt f i).wide=(pAt f i).high)→(∃ e:Int,(Qp f i s).1[0]?=some e∧(0≤e∧(∃ e1:Int,f.g.hts[Int.toNat e]?=some e1∧Qbg E i s f e1 e1 (pAt f i).wide (pAt f i).high (pAt f i).slope (pAt f i).years (pAt f i).wish 0))):=by
  intro hin hq
  have hn:=QcI h hin
  have hx:(Qp f i s).1[0]?=some ((Qp f i s).1.getD 0 0):=XQ 0 (i:=0) (by omega)
  have ho:=QcH h hin _ (List.mem_of_getElem? hx)
  refine ⟨_,hx,ho.lo,_,ho.ht,key hin (Qp f i s).1.length 0 _ _ (by omega) ho.htb ho.htb ?_⟩
  unfold YT
  rw [if_pos ⟨hin,hq⟩,List.drop_zero]
 refine f164W i s f (rv:=YT f i s) hE ⟨h.lo,_,hp,fun hin=>⟨h,fun ht=>⟨fun q=>?_,fun q=>go hin (fun hh=>q hh.2)⟩,fun ht=>go hin (fun hh=>by rw [ht] at hh; cases hh.1)⟩,fun hin=>⟨h,?_⟩⟩
 · unfold YT; rw [if_neg (fun hh=>hh.2 ⟨ht,q⟩)]
 · unfold YT; rw [if_neg (fun hh=>by rw [hin] at hh; cases hh.1)]
theorem f165b:Try.f165.body=some (Qd Try.prog 165):=by kernel_rfl
def f165K0 (P:Program):List Item:=kAt 400 [.code (Qd P 165)] [.stop]
def f165S0 (i:Int) (s:Sit) (f:Fld) (v1:List Sit) (i1:Nat) (v2:List Int):St:=⟨([.ptr 0 0 0,.int .i64 i]++jj 22 ([.rsl (rowI ((Qp (⟨f.g,f.ps,(f.ss.set (Int.toNat i) s),f.tk⟩:Fld) i s).1)) 0 (((Qp (⟨f.g,f.ps,(f.ss.set (Int.toNat i) s),f.tk⟩:Fld) i s).1).length),.int .i64 ((((Qp (⟨f.g,f.ps,(f.ss.set (Int.toNat i) s),f.tk⟩:Fld) i s).1).length:Nat):Int),.int .i64 (i1:Int)]++Js 11)),[⟨true,0,1,false,[.int .i64 f.g.w,.int .i64 f.g.h,.rsl (rowI f.g.cells) 0 f.g.cells.length,.rsl (rowI f.g.hts) 0 f.g.hts.length,.rsl (Qc f.ps) 0 f.ps.length,.sl 1 0 0 v1.length 2,.sl 2 0 0 v2.length 1],false⟩,⟨true,0,2,true,(Qb v1),true⟩,⟨true,0,1,true,(rowI v2),true⟩,⟨true,0,1,true,[.int .i64 s.cell,.bool s.turned],false⟩]⟩
def Qbf (E:Env) (i:Int) (s:Sit) (f:Fld) (v1:List Sit) (i1:Nat) (v2:List Int):Prop:=G Try.prog E (f165K0 Try.prog) (f165S0 i s f v1 i1 v2 )
theorem p165_start_0 (i:Int) (s:Sit) (f:Fld) (se:Sit) {E:Env} {rv:AV} {bs2:List Blk} (hE:LentE Try.prog 165 [.sl 2 0 0 0 1] rv bs2 E) (ho:AllP [0≤i∧i<(f.ss.length:Int),0=0,((0+(Int.toNat i)*2)+2)≤(Qb f.ss).length,0=0,Yp Try.prog (.clos 226 [] []) [.rptr [.int .i64 f.g.w,.int .i64 f.g.h,.rsl (rowI f.g.cells) 0 f.g.cells.length,.rsl (rowI f.g.hts) 0 f.g.hts.length,.rsl (Qc f.ps) 0 f.ps.length,.rsl (Qu (Qb f.ss) (0+(Int.toNat i)*2) [.int .i64 s.cell,.bool s.turned]) 0 f.ss.length,.rsl (rowI f.tk) 0 f.tk.length] 0,.int .i64 i,.agg [.int .i64 s.cell,.bool s.turned]] (.tup [.rsl (rowI ((Qp (⟨f.g,f.ps,(f.ss.set (Int.toNat i) s),f.tk⟩:Fld) i s).1)) 0 (((Qp (⟨f.g,f.ps,(f.ss.set (Int.toNat i) s),f.tk⟩:Fld) i s).1).length),.bool true]),0=0,0=0])
 (hg:G Try.prog E (f165K0 Try.prog) ⟨([.ptr 0 0 0,.int .i64 i]++jj 22 ([.rsl (rowI ((Qp (⟨f.g,f.ps,(f.ss.set (Int.toNat i) s),f.tk⟩:Fld) i s).1)) 0 (((Qp (⟨f.g,f.ps,(f.ss.set (Int.toNat i) s),f.tk⟩:Fld) i s).1).length),.int .i64 ((((Qp (⟨f.g,f.ps,(f.ss.set (Int.toNat i) s),f.tk⟩:Fld) i s).1).length:Nat):Int),.int .i64 0]++Js 11)),[⟨true,0,1,false,[.int .i64 f.g.w,.int .i64 f.g.h,.rsl (rowI f.g.cells) 0 f.g.cells.length,.rsl (rowI f.g.hts) 0 f.g.hts.length,.rsl (Qc f.ps) 0 f.ps.length,.sl 1 0 0 f.ss.length 2,.sl 2 0 0 f.tk.length 1],false⟩,⟨true,0,2,true,(Qu (Qb f.ss) (0+(Int.toNat i)*2) [.int .i64 s.cell,.bool s.turned]),true⟩,⟨true,0,1,true,(rowI f.tk),true⟩,⟨true,0,1,true,[.int .i64 s.cell,.bool s.turned],false⟩]⟩):G Try.prog E [.code (Qd Try.prog 165)] ⟨[.ptr 0 0 0,.int .i64 i,.agg [.int .i64 s.cell,.bool s.turned]]++unds (Try.f165.ntmps - 3),[⟨true,0,1,false,[.int .i64 f.g.w,.int .i64 f.g.h,.rsl (rowI f.g.cells) 0 f.g.cells.length,.rsl (rowI f.g.hts) 0 f.g.hts.length,.rsl (Qc f.ps) 0 f.ps.length,.sl 1 0 0 f.ss.length 2,.sl 2 0 0 f.tk.length 1],false⟩,⟨true,0,2,true,(Qb f.ss),true⟩,⟨true,0,1,true,(rowI f.tk),true⟩]⟩ :=
 Qe (n:=400) (ds:=[]) (cs:=[]) (live:=[0,1,24,25,26]) (m:=4) (evs:=[.vn (.tup [.rsl (rowI ((Qp (⟨f.g,f.ps,(f.ss.set (Int.toNat i) s),f.tk⟩:Fld) i s).1)) 0 (((Qp (⟨f.g,f.ps,(f.ss.set (Int.toNat i) s),f.tk⟩:Fld) i s).1).length),.bool true]),.stop]) (obs:=_) hE.kind (hE.nogh (by kernel_rfl)) Qg (by kernel_rfl) ho hg
theorem f165W (i:Int) (s:Sit) (f:Fld) {E:Env} {rv:Unit} {ss2:List Sit} {tk2:List Int} (hE:LentE Try.prog 165 [.sl 2 0 0 0 1] (.tup []) [⟨true,0,1,false,[.int .i64 f.g.w,.int .i64 f.g.h,.rsl (rowI f.g.cells) 0 f.g.cells.length,.rsl (rowI f.g.hts) 0 f.g.hts.length,.rsl (Qc f.ps) 0 f.ps.length,.sl 1 0 0 ss2.length 2,.sl 2 0 0 tk2.length 1],false⟩,⟨true,0,2,true,(Qb ss2),true⟩,⟨true,0,1,true,(rowI tk2),true⟩] E)
 (h:(0≤i∧(∃ se:Sit,f.ss[Int.toNat i]?=some se∧((FldAt (⟨f.g,f.ps,(f.ss.set (Int.toNat i) s),f.tk⟩:Fld) i∧(Qp (⟨f.g,f.ps,(f.ss.set (Int.toNat i) s),f.tk⟩:Fld) i s).2=true)∧Qbf E i s f (f.ss.set (Int.toNat i) s) 0 f.tk)))):G Try.prog E [.code (Qd Try.prog 165)] ⟨[.ptr 0 0 0,.int .i64 i,.agg [.int .i64 s.cell,.bool s.turned]]++unds (Try.f165.ntmps - 3),[⟨true,0,1,false,[.int .i64 f.g.w,.int .i64 f.g.h,.rsl (rowI f.g.cells) 0 f.g.cells.length,.rsl (rowI f.g.hts) 0 f.g.hts.length,.rsl (Qc f.ps) 0 f.ps.length,.sl 1 0 0 f.ss.length 2,.sl 2 0 0 f.tk.length 1],false⟩,⟨true,0,2,true,(Qb f.ss),true⟩,⟨true,0,1,true,(rowI f.tk),true⟩]⟩:=by
 obtain ⟨h2,h⟩:=h
 obtain ⟨se,h1,h⟩:=h
 obtain ⟨h3,h⟩:=h
 refine p165_start_0 i s f se hE ⟨(Qj h2 h1),rfl,(rf cSit 2 0 2 h1),rfl,(by rw [(show AV.rsl (Qu (Qb f.ss) (0+(Int.toNat i)*2) [.int .i64 s.cell,.bool s.turned]) 0 f.ss.length=AV.rsl (Qb (f.ss.set (Int.toNat i) s)) 0 (f.ss.set (Int.toNat i) s).length from by rw [(show Qu (Qb f.ss) (0+(Int.toNat i)*2) [.int .i64 s.cell,.bool s.turned]=Qb (f.ss.set (Int.toNat i) s) from Qz cSit (s:=2) (k:=0) (fun _=>rfl) h1 rfl (by first | decide | simp))]; rw [show f.ss.length=(f.ss.set (Int.toNat i) s).length from by simp])]; exact (QK Try.func226 (by kernel_rfl) f226b (yM (⟨f.g,f.ps,(f.ss.set (Int.toNat i) s),f.tk⟩:Fld) i s h3.1 h3.2))),rfl,rfl,trivial⟩ ?_
 have h:=h
 simp only [Qbf,f165S0,List.length_set] at h
 rw [(show Qu (Qb f.ss) (0+(Int.toNat i)*2) [.int .i64 s.cell,.bool s.turned]=Qb (f.ss.set (Int.toNat i) s) from Qz cSit (s:=2) (k:=0) (fun _=>rfl) h1 rfl (by first | decide | simp))]
 exact h
abbrev yT (f:Fld) (i:Int) (s:Sit):=Qp (⟨f.g,f.ps,(f.ss.set (Int.toNat i) s),f.tk⟩:Fld) i s
abbrev z165_2 (f:Fld) (v1:List Sit) (v2:List Int):List AV:=[.int .i64 f.g.w,.int .i64 f.g.h,.rsl (rowI f.g.cells) 0 f.g.cells.length,.rsl (rowI f.g.hts) 0 f.g.hts.length,.rsl (Qc f.ps) 0 f.ps.length,.sl 1 0 0 v1.length 2,.sl 2 0 0 v2.length 1]
theorem p165_0_0 (i:Int) (s:Sit) (f:Fld) (v1:List Sit) (i1:Nat) (v2:List Int) (e:Int) (e1:Int) {E:Env} {rv:AV} {bs2:List Blk} (hE:LentE Try.prog 165 [.sl 2 0 0 0 1] rv bs2 E) (ho:AllP [(decide ((i1:Int)<((((yT f i s).1).length:Nat):Int)))=true,0≤(i1:Int)∧(i1:Int)<((((yT f i s).1).length:Nat):Int),((rowI ((yT f i s).1)).drop (0+(Int.toNat (i1:Int))*1)).take 1=[.int .i64 e],0≤e∧e<(v2.length:Int),0=0,((0+(Int.toNat e)*1)+1)≤(rowI v2).length,0=0,InR .i64 ((i1:Int)+1)])
 (hg:G Try.prog E (f165K0 Try.prog) ⟨([.ptr 0 0 0,.int .i64 i]++jj 22 ([.rsl (rowI ((yT f i s).1)) 0 (((yT f i s).1).length),.int .i64 ((((yT f i s).1).length:Nat):Int),.int .i64 ((i1:Int)+1)]++Js 11)),[⟨true,0,1,false,(z165_2 f v1 v2),false⟩,⟨true,0,2,true,(Qb v1),true⟩,⟨true,0,1,true,(Qu (rowI v2) (0+(Int.toNat e)*1) [.int .i64 i]),true⟩,⟨true,0,1,true,[.int .i64 s.cell,.bool s.turned],false⟩]⟩):G Try.prog E (f165K0 Try.prog) (f165S0 i s f v1 i1 v2 ) :=
 Qe (n:=400) (ds:=[]) (cs:=[]) (live:=[0,1,24,25,26]) (m:=4) (evs:=[.b true,.ld (.int .i64 e),.stop]) (obs:=_) hE.kind (hE.nogh (by kernel_rfl)) Qg (by kernel_rfl) ho hg
theorem p165_0_1 (i:Int) (s:Sit) (f:Fld) (v1:List Sit) (i1:Nat) (v2:List Int) {E:Env} {res:AV} {bs2:List Blk} (hE:LentE Try.prog 165 [.sl 2 0 0 0 1] res bs2 E) (ho:AllP [(decide ((i1:Int)<((((yT f i s).1).length:Nat):Int)))=false])
 (hr:(.tup [])=res) (hb:[⟨true,0,1,false,(z165_2 f v1 v2),false⟩,⟨true,0,2,true,(Qb v1),true⟩,⟨true,0,1,true,(rowI v2),true⟩]=bs2):G Try.prog E (f165K0 Try.prog) (f165S0 i s f v1 i1 v2 ) :=
 Qr (n:=400) (live:=[]) (m:=3) (evs:=[.b false]) (obs:=_) hE (hE.nogh (by kernel_rfl)) Try.func165 Qg (by kernel_rfl) ho hr hb
theorem f165W0 (i:Int) (s:Sit) (f:Fld) (v1:List Sit) (i1:Nat) (v2:List Int) {E:Env} {rv:Unit} {ss2:List Sit} {tk2:List Int} (hE:LentE Try.prog 165 [.sl 2 0 0 0 1] (.tup []) [⟨true,0,1,false,[.int .i64 f.g.w,.int .i64 f.g.h,.rsl (rowI f.g.cells) 0 f.g.cells.length,.rsl (rowI f.g.hts) 0 f.g.hts.length,.rsl (Qc f.ps) 0 f.ps.length,.sl 1 0 0 ss2.length 2,.sl 2 0 0 tk2.length 1],false⟩,⟨true,0,2,true,(Qb ss2),true⟩,⟨true,0,1,true,(rowI tk2),true⟩] E)
 (h:(((i1:Int)<((((Qp (⟨f.g,f.ps,(f.ss.set (Int.toNat i) s),f.tk⟩:Fld) i s).1).length:Nat):Int)→(∃ e:Int,((Qp (⟨f.g,f.ps,(f.ss.set (Int.toNat i) s),f.tk⟩:Fld) i s).1)[i1]?=some e∧(0≤e∧(∃ e1:Int,v2[Int.toNat e]?=some e1∧((I6 ((i1:Int)+1))∧Qbf E i s f v1 (i1+1) (v2.set (Int.toNat e) i))))))∧(¬ ((i1:Int)<((((Qp (⟨f.g,f.ps,(f.ss.set (Int.toNat i) s),f.tk⟩:Fld) i s).1).length:Nat):Int))→ss2=v1∧tk2=v2))):Qbf E i s f v1 i1 v2:=by
 rcases bft (decide ((i1:Int)<((((Qp (⟨f.g,f.ps,(f.ss.set (Int.toNat i) s),f.tk⟩:Fld) i s).1).length:Nat):Int))) with hc0 | hc0
 · have h:=h.1 (odt hc0)
   obtain ⟨e,h1,h⟩:=h
   obtain ⟨h3,h⟩:=h
   obtain ⟨e1,h2,h⟩:=h
   obtain ⟨q9_1,h⟩:=h
   refine p165_0_0 i s f v1 i1 v2 e e1 hE ⟨hc0,(Qs h1),(rp cI 1 0 1 h1),(Qj h3 h2),rfl,(rf cI 1 0 1 h2),rfl,q9_1,trivial⟩ ?_
   have h:=h
   simp only [Qbf,f165S0,List.length_set] at h
   rw [(show Qu (rowI v2) (0+(Int.toNat e)*1) [.int .i64 i]=rowI (v2.set (Int.toNat e) i) from Qz cI (s:=1) (k:=0) (fun _=>rfl) h2 rfl (by first | decide | simp))]
   exact h
 · have h:=h.2 (odf hc0)
   obtain ⟨qe0,qe1⟩:=h
   exact p165_0_1 i s f v1 i1 v2 hE ⟨hc0,trivial⟩ (by try rfl) (by rw [qe0,qe1]; all_goals (first | rfl | (simp only [List.length_set]; done) | (simp only [List.length_set]; rfl) | (simp only [List.length_set,List.length_replicate]; done)))
theorem put_ok (f:Fld) (i:Int) (s:Sit) (h:FldAt f i) (hin:(Qp f i s).2=true):Lent Try.prog 165 [.ptr 0 0 0,.int .i64 i,.agg [.int .i64 s.cell,.bool s.turned]] [⟨true,0,1,false,[.int .i64 f.g.w,.int .i64 f.g.h,.rsl (rowI f.g.cells) 0 f.g.cells.length,.rsl (rowI f.g.hts) 0 f.g.hts.length,.rsl (Qc f.ps) 0 f.ps.length,.sl 1 0 0 f.ss.length 2,.sl 2 0 0 f.tk.length 1],false⟩,⟨true,0,2,true,(Qb f.ss),true⟩,⟨true,0,1,true,(rowI f.tk),true⟩] (.tup []) [⟨true,0,1,false,[.int .i64 (((putF f i s).g).w),.int .i64 (((putF f i s).g).h),.rsl (rowI (((putF f i s).g).cells)) 0 ((((putF f i s).g).cells).length),.rsl (rowI (((putF f i s).g).hts)) 0 ((((putF f i s).g).hts).length),.rsl (Qc ((putF f i s).ps)) 0 (((putF f i s).ps).length),.sl 1 0 0 ((putF f i s).ss.length) 2,.sl 2 0 0 ((putF f i s).tk.length) 1],false⟩,⟨true,0,2,true,(Qb (putF f i s).ss),true⟩,⟨true,0,1,true,(rowI (putF f i s).tk),true⟩]:=by
 refine WF _ Try.func165 f165b rfl rfl fun E hE=>?_
 have hl:=h.lo; have hu:=h.hi
 have hn:=QcI h hin
 have hc:=QcH h hin
 have hs:f.ss[i.toNat]?=some (f.ss[i.toNat]'(by have:=h.ok.sl; omega)):=List.getElem?_eq_getElem (by have:=h.ok.sl; omega)
 have h2:FldAt ⟨f.g,f.ps,f.ss.set (Int.toNat i) s,f.tk⟩ i:=⟨⟨h.ok.g,h.ok.ps,by simpa using h.ok.sl,h.ok.tl,h.ok.pl⟩,h.lo,h.hi⟩
 have key:∀ (d n:Nat) (v:List Int),n+d=(Qp f i s).1.length→v.length=f.g.cells.length→((Qp f i s).1.drop n).foldl (setsK i) v=(putF f i s).tk→Qbf E i s f (f.ss.set (Int.toNat i) s) n v:=by
  intro d
  induction d with
  | zero =>
   intro n v hd hv hr
   rw [List.drop_eq_nil_of_le (by omega)] at hr
   exact f165W0 i s f _ n v (rv:=()) hE ⟨fun q=>absurd q (by show ¬ (n:Int)<((Qp f i s).1.length:Int); omega),fun _=>⟨rfl,hr.symm⟩⟩
  | succ d ih =>
   intro n v hd hv hr
   have hx:(Qp f i s).1[n]?=some ((Qp f i s).1[n]'(by omega)):=List.getElem?_eq_getElem (by omega)
   rw [List.drop_eq_getElem_cons (by omega)] at hr
   generalize (Qp f i s).1[n]'(by omega)=e at hx hr
   have ho:=hc e (List.mem_of_getElem? hx)
   have h0:=ho.lo; have h1:=ho.hi
   have ht:v[e.toNat]?=some (v.getD e.toNat 0):=XQ 0 (i:=e) (by omega)
   exact f165W0 i s f _ n v (rv:=()) hE ⟨fun _=>⟨e,hx,h0,_,ht,⟨by omega,by omega⟩,ih (n+1) _ (by omega) (by simpa using hv) hr⟩,fun q=>absurd (show (n:Int)<((Qp f i s).1.length:Int) by omega) q⟩
 exact f165W i s f (rv:=()) hE ⟨h.lo,_,hs,⟨h2,hin⟩,key (Qp f i s).1.length 0 f.tk (by omega) h.ok.tl (by rw [List.drop_zero]; rfl)⟩
theorem Qap:Try.f89.body=some (Qd Try.prog 89):=by kernel_rfl
def yh (P:Program):List Item:=kAt 400 [.code (Qd P 89)] [.b false,.b false,.stop]
def f89qS0 (g:Gd) (l:(List Ptc)) (sites:(List Sit)) (i:Nat) (v3:List Sit) (v5:List Int):St:=⟨(jj 6 ([.ptr 6 0 0]++jj 22 ([.rsl (Qb sites) 0 sites.length,.int .i64 (sites.length:Int),.int .i64 (i:Int)]++Js 19))),[⟨true,0,1,true,[.int .i64 g.w,.int .i64 g.h,.rsl (rowI g.cells) 0 g.cells.length,.rsl (rowI g.hts) 0 g.hts.length],false⟩,⟨true,0,1,true,[.int .i64 g.w,.int .i64 g.h,.rsl (rowI g.cells) 0 g.cells.length,.rsl (rowI g.hts) 0 g.hts.length],false⟩,⟨true,0,2,true,[.int .i64 (-1),.bool false],true⟩,⟨true,0,2,true,(Qb v3),true⟩,⟨true,0,1,true,[.int .i64 (-1)],true⟩,⟨true,0,1,true,(rowI v5),true⟩,⟨true,0,1,false,[.int .i64 g.w,.int .i64 g.h,.rsl (rowI g.cells) 0 g.cells.length,.rsl (rowI g.hts) 0 g.hts.length,.rsl (Qc l) 0 l.length,.sl 3 0 0 v3.length 2,.sl 5 0 0 v5.length 1],false⟩]⟩
def f89qG0 (E:Env) (g:Gd) (l:(List Ptc)) (sites:(List Sit)) (i:Nat) (v3:List Sit) (v5:List Int):Prop:=G Try.prog E (yh Try.prog) (f89qS0 g l sites i v3 v5 )
abbrev Yt (g:Gd):List AV:=[.int .i64 g.w,.int .i64 g.h,.rsl (rowI g.cells) 0 g.cells.length,.rsl (rowI g.hts) 0 g.hts.length]
abbrev z89q_2 (g:Gd) (l:(List Ptc)) (v3:List Sit) (v5:List Int) (i:Nat) (se:Sit):List Blk:=[⟨true,0,1,false,[.int .i64 g.w,.int .i64 g.h,.rsl (rowI g.cells) 0 g.cells.length,.rsl (rowI g.hts) 0 g.hts.length,.rsl (Qc l) 0 l.length,.sl 1 0 0 ((putF (⟨g,l,v3,v5⟩:Fld) (i:Int) se).ss.length) 2,.sl 2 0 0 ((putF (⟨g,l,v3,v5⟩:Fld) (i:Int) se).tk.length) 1],false⟩,⟨true,0,2,true,(Qb (putF (⟨g,l,v3,v5⟩:Fld) (i:Int) se).ss),true⟩,⟨true,0,1,true,(rowI (putF (⟨g,l,v3,v5⟩:Fld) (i:Int) se).tk),true⟩]
abbrev z89q_3 (g:Gd) (l:(List Ptc)) (v3:List Sit) (v5:List Int):List AV:=[.int .i64 g.w,.int .i64 g.h,.rsl (rowI g.cells) 0 g.cells.length,.rsl (rowI g.hts) 0 g.hts.length,.rsl (Qc l) 0 l.length,.rsl (Qb v3) 0 v3.length,.rsl (rowI v5) 0 v5.length]
theorem p89q_start_0 (g:Gd) (l:(List Ptc)) (sites:(List Sit)) {E:Env} {res:AV} (hE:Qh Try.prog 89 res E) (ho:AllP [QO Try.prog (.clos 163 [] []) [.agg (Yt g),.rsl (Qc l) 0 l.length] [] (.tup [.ptr 5 0 0,.int .i64 0,.int .i64 0]) [⟨true,0,1,true,(Yt g),false⟩,⟨true,0,2,true,[.int .i64 (-1),.bool false],true⟩,⟨true,0,2,true,(Qb (List.replicate (Int.toNat ((l.length:Int):Int)) nowhere)),true⟩,⟨true,0,1,true,[.int .i64 (-1)],true⟩,⟨true,0,1,true,(rowI (List.replicate (Int.toNat ((g.cells.length:Int):Int)) (-1:Int))),true⟩,⟨true,0,1,false,[.int .i64 g.w,.int .i64 g.h,.rsl (rowI g.cells) 0 g.cells.length,.rsl (rowI g.hts) 0 g.hts.length,.rsl (Qc l) 0 l.length,.sl 2 0 0 ((List.replicate (Int.toNat ((l.length:Int):Int)) nowhere).length) 2,.sl 4 0 0 ((List.replicate (Int.toNat ((g.cells.length:Int):Int)) (-1:Int)).length) 1],false⟩],false=false,((sites.length:Int) != (l.length:Int))=true])
 (hr:AvLe (.tup [.nilPtr,.int .i64 (sites.length:Int),.int .i64 41]) res):G Try.prog E [.code (Qd Try.prog 89)] ⟨[.agg (Yt g),.rsl (Qc l) 0 l.length,.rsl (Qb sites) 0 sites.length]++unds (Try.f89.ntmps - 3),[]⟩ :=
 Qf (n:=400) (evs:=[.lent [] (.tup [.ptr 5 0 0,.int .i64 0,.int .i64 0]) [⟨true,0,1,true,(Yt g),false⟩,⟨true,0,2,true,[.int .i64 (-1),.bool false],true⟩,⟨true,0,2,true,(Qb (List.replicate (Int.toNat ((l.length:Int):Int)) nowhere)),true⟩,⟨true,0,1,true,[.int .i64 (-1)],true⟩,⟨true,0,1,true,(rowI (List.replicate (Int.toNat ((g.cells.length:Int):Int)) (-1:Int))),true⟩,⟨true,0,1,false,[.int .i64 g.w,.int .i64 g.h,.rsl (rowI g.cells) 0 g.cells.length,.rsl (rowI g.hts) 0 g.hts.length,.rsl (Qc l) 0 l.length,.sl 2 0 0 ((List.replicate (Int.toNat ((l.length:Int):Int)) nowhere).length) 2,.sl 4 0 0 ((List.replicate (Int.toNat ((g.cells.length:Int):Int)) (-1:Int)).length) 1],false⟩],.b false,.b true]) (obs:=_) hE Try.func89 Qg (by kernel_rfl) ho hr
theorem p89q_start_1 (g:Gd) (l:(List Ptc)) (sites:(List Sit)) {E:Env} {rv:AV} (hE:Qh Try.prog 89 rv E) (ho:AllP [QO Try.prog (.clos 163 [] []) [.agg (Yt g),.rsl (Qc l) 0 l.length] [] (.tup [.ptr 5 0 0,.int .i64 0,.int .i64 0]) [⟨true,0,1,true,(Yt g),false⟩,⟨true,0,2,true,[.int .i64 (-1),.bool false],true⟩,⟨true,0,2,true,(Qb (List.replicate (Int.toNat ((l.length:Int):Int)) nowhere)),true⟩,⟨true,0,1,true,[.int .i64 (-1)],true⟩,⟨true,0,1,true,(rowI (List.replicate (Int.toNat ((g.cells.length:Int):Int)) (-1:Int))),true⟩,⟨true,0,1,false,[.int .i64 g.w,.int .i64 g.h,.rsl (rowI g.cells) 0 g.cells.length,.rsl (rowI g.hts) 0 g.hts.length,.rsl (Qc l) 0 l.length,.sl 2 0 0 ((List.replicate (Int.toNat ((l.length:Int):Int)) nowhere).length) 2,.sl 4 0 0 ((List.replicate (Int.toNat ((g.cells.length:Int):Int)) (-1:Int)).length) 1],false⟩],false=false,((sites.length:Int) != (l.length:Int))=false])
 (hg:G Try.prog E (yh Try.prog) ⟨(jj 6 ([.ptr 6 0 0]++jj 22 ([.rsl (Qb sites) 0 sites.length,.int .i64 (sites.length:Int),.int .i64 0]++Js 19))),[⟨true,0,1,true,(Yt g),false⟩,⟨true,0,1,true,(Yt g),false⟩,⟨true,0,2,true,[.int .i64 (-1),.bool false],true⟩,⟨true,0,2,true,(Qb (List.replicate (Int.toNat ((l.length:Int):Int)) nowhere)),true⟩,⟨true,0,1,true,[.int .i64 (-1)],true⟩,⟨true,0,1,true,(rowI (List.replicate (Int.toNat ((g.cells.length:Int):Int)) (-1:Int))),true⟩,⟨true,0,1,false,[.int .i64 g.w,.int .i64 g.h,.rsl (rowI g.cells) 0 g.cells.length,.rsl (rowI g.hts) 0 g.hts.length,.rsl (Qc l) 0 l.length,.sl 3 0 0 ((List.replicate (Int.toNat ((l.length:Int):Int)) nowhere).length) 2,.sl 5 0 0 ((List.replicate (Int.toNat ((g.cells.length:Int):Int)) (-1:Int)).length) 1],false⟩]⟩):G Try.prog E [.code (Qd Try.prog 89)] ⟨[.agg (Yt g),.rsl (Qc l) 0 l.length,.rsl (Qb sites) 0 sites.length]++unds (Try.f89.ntmps - 3),[]⟩ :=
 Qe (n:=400) (ds:=[]) (cs:=[]) (live:=[6,29,30,31]) (m:=7) (evs:=[.lent [] (.tup [.ptr 5 0 0,.int .i64 0,.int .i64 0]) [⟨true,0,1,true,(Yt g),false⟩,⟨true,0,2,true,[.int .i64 (-1),.bool false],true⟩,⟨true,0,2,true,(Qb (List.replicate (Int.toNat ((l.length:Int):Int)) nowhere)),true⟩,⟨true,0,1,true,[.int .i64 (-1)],true⟩,⟨true,0,1,true,(rowI (List.replicate (Int.toNat ((g.cells.length:Int):Int)) (-1:Int))),true⟩,⟨true,0,1,false,[.int .i64 g.w,.int .i64 g.h,.rsl (rowI g.cells) 0 g.cells.length,.rsl (rowI g.hts) 0 g.hts.length,.rsl (Qc l) 0 l.length,.sl 2 0 0 ((List.replicate (Int.toNat ((l.length:Int):Int)) nowhere).length) 2,.sl 4 0 0 ((List.replicate (Int.toNat ((g.cells.length:Int):Int)) (-1:Int)).length) 1],false⟩],.b false,.b false,.stop]) (obs:=_) hE.2.1 (hE.nogh _) Qg (by kernel_rfl) ho hg
theorem p89q_start_2 (g:Gd) (l:(List Ptc)) (sites:(List Sit)) {E:Env} {res:AV} (hE:Qh Try.prog 89 res E) (ho:AllP [QO Try.prog (.clos 163 [] []) [.agg (Yt g),.rsl (Qc l) 0 l.length] [] (.tup [.nilPtr,.int .i64 ((Xk g l).1),.int .i64 ((Xk g l).2)]) [],((Xk g l).2 != 0)=true])
 (hr:AvLe (.tup [.nilPtr,.int .i64 ((Xk g l).1),.int .i64 ((Xk g l).2)]) res):G Try.prog E [.code (Qd Try.prog 89)] ⟨[.agg (Yt g),.rsl (Qc l) 0 l.length,.rsl (Qb sites) 0 sites.length]++unds (Try.f89.ntmps - 3),[]⟩ :=
 Qf (n:=400) (evs:=[.lent [] (.tup [.nilPtr,.int .i64 ((Xk g l).1),.int .i64 ((Xk g l).2)]) [],.b true]) (obs:=_) hE Try.func89 Qg (by kernel_rfl) ho hr
theorem f89qW (g:Gd) (l:(List Ptc)) (sites:(List Sit)) {E:Env} {rv:AV} (hE:Qh Try.prog 89 rv E)
 (h:(((Xk g l).2=0→((GdSmall g∧l.length≤1000)∧((¬ ((sites.length:Int)=(l.length:Int))→rv=(.tup [.nilPtr,.int .i64 (sites.length:Int),.int .i64 41]))∧((sites.length:Int)=(l.length:Int)→f89qG0 E g l sites 0 (List.replicate (Int.toNat ((l.length:Int):Int)) nowhere) (List.replicate (Int.toNat ((g.cells.length:Int):Int)) (-1:Int))))))∧(¬ ((Xk g l).2=0)→((GdSmall g∧l.length≤1000)∧rv=(.tup [.nilPtr,.int .i64 ((Xk g l).1),.int .i64 ((Xk g l).2)]))))):G Try.prog E [.code (Qd Try.prog 89)] ⟨[.agg [.int .i64 g.w,.int .i64 g.h,.rsl (rowI g.cells) 0 g.cells.length,.rsl (rowI g.hts) 0 g.hts.length],.rsl (Qc l) 0 l.length,.rsl (Qb sites) 0 sites.length]++unds (Try.f89.ntmps - 3),[]⟩:=by
 rcases bft (decide ((Xk g l).2=0)) with hc0 | hc0
 · have h:=h.1 (odt hc0)
   obtain ⟨h1,h⟩:=h
   rcases bft ((sites.length:Int) != (l.length:Int)) with hc1 | hc1
   · have h:=h.1 (bneT hc1)
     exact p89q_start_0 g l sites hE ⟨(Qt Try.func163 (by kernel_rfl) f163qb (Qbi g l h1.1 h1.2 (odt hc0))),rfl,hc1,trivial⟩ (AvLe.of_eq (by rw [h]; try rfl))
   · have h:=h.2 (bneF hc1)
     exact p89q_start_1 g l sites hE ⟨(Qt Try.func163 (by kernel_rfl) f163qb (Qbi g l h1.1 h1.2 (odt hc0))),rfl,hc1,trivial⟩ h
 · have h:=h.2 (odf hc0)
   obtain ⟨h1,h⟩:=h
   exact p89q_start_2 g l sites hE ⟨(Qt Try.func163 (by kernel_rfl) f163qb (empty_err g l h1.1 h1.2 (odf hc0))),(by have hq:=hc0; simpa using hq),trivial⟩ (AvLe.of_eq (by rw [h]; try rfl))
theorem p89q_0_0 (g:Gd) (l:(List Ptc)) (sites:(List Sit)) (i:Nat) (v3:List Sit) (v5:List Int) (se:Sit) {E:Env} {rv:AV} (hE:Qh Try.prog 89 rv E) (ho:AllP [(decide ((i:Int)<(sites.length:Int)))=true,0≤(i:Int)∧(i:Int)<(sites.length:Int),((Qb sites).drop (0+(Int.toNat (i:Int))*2)).take 2=[.int .i64 se.cell,.bool se.turned],2≤2,(se.cell == (-1) && (se.turned == false && true))=true,InR .i64 ((i:Int)+1)])
 (hg:G Try.prog E (yh Try.prog) ⟨(jj 6 ([.ptr 6 0 0]++jj 22 ([.rsl (Qb sites) 0 sites.length,.int .i64 (sites.length:Int),.int .i64 ((i:Int)+1)]++Js 19))),[⟨true,0,1,true,(Yt g),false⟩,⟨true,0,1,true,(Yt g),false⟩,⟨true,0,2,true,[.int .i64 (-1),.bool false],true⟩,⟨true,0,2,true,(Qb v3),true⟩,⟨true,0,1,true,[.int .i64 (-1)],true⟩,⟨true,0,1,true,(rowI v5),true⟩,⟨true,0,1,false,[.int .i64 g.w,.int .i64 g.h,.rsl (rowI g.cells) 0 g.cells.length,.rsl (rowI g.hts) 0 g.hts.length,.rsl (Qc l) 0 l.length,.sl 3 0 0 v3.length 2,.sl 5 0 0 v5.length 1],false⟩]⟩):G Try.prog E (yh Try.prog) (f89qS0 g l sites i v3 v5 ) :=
 Qe (n:=400) (ds:=[]) (cs:=[]) (live:=[6,29,30,31]) (m:=7) (evs:=[.b true,.ld (.agg [.int .i64 se.cell,.bool se.turned]),.b true,.stop]) (obs:=_) hE.2.1 (hE.nogh _) Qg (by kernel_rfl) ho hg
theorem p89q_0_1 (g:Gd) (l:(List Ptc)) (sites:(List Sit)) (i:Nat) (v3:List Sit) (v5:List Int) (se:Sit) {E:Env} {res:AV} (hE:Qh Try.prog 89 res E) (ho:AllP [(decide ((i:Int)<(sites.length:Int)))=true,0≤(i:Int)∧(i:Int)<(sites.length:Int),((Qb sites).drop (0+(Int.toNat (i:Int))*2)).take 2=[.int .i64 se.cell,.bool se.turned],2≤2,(se.cell == (-1) && (se.turned == false && true))=false,Qi Try.prog (.clos 164 [] []) [.rptr (z89q_3 g l v3 v5) 0,.int .i64 (i:Int),.agg [.int .i64 se.cell,.bool se.turned]] (.bool (YT (⟨g,l,v3,v5⟩:Fld) (i:Int) se)),0=0,0=0,(!(YT (⟨g,l,v3,v5⟩:Fld) (i:Int) se))=true])
 (hr:AvLe (.tup [.nilPtr,.int .i64 (i:Int),.int .i64 41]) res):G Try.prog E (yh Try.prog) (f89qS0 g l sites i v3 v5 ) :=
 Qf (n:=400) (evs:=[.b true,.ld (.agg [.int .i64 se.cell,.bool se.turned]),.b false,.v (.bool (YT (⟨g,l,v3,v5⟩:Fld) (i:Int) se)),.b true]) (obs:=_) hE Try.func89 Qg (by kernel_rfl) ho hr
theorem p89q_0_2 (g:Gd) (l:(List Ptc)) (sites:(List Sit)) (i:Nat) (v3:List Sit) (v5:List Int) (se:Sit) {E:Env} {rv:AV} (hE:Qh Try.prog 89 rv E) (ho:AllP [(decide ((i:Int)<(sites.length:Int)))=true,0≤(i:Int)∧(i:Int)<(sites.length:Int),((Qb sites).drop (0+(Int.toNat (i:Int))*2)).take 2=[.int .i64 se.cell,.bool se.turned],2≤2,(se.cell == (-1) && (se.turned == false && true))=false,Qi Try.prog (.clos 164 [] []) [.rptr (z89q_3 g l v3 v5) 0,.int .i64 (i:Int),.agg [.int .i64 se.cell,.bool se.turned]] (.bool (YT (⟨g,l,v3,v5⟩:Fld) (i:Int) se)),0=0,0=0,(!(YT (⟨g,l,v3,v5⟩:Fld) (i:Int) se))=false,QO Try.prog (.clos 165 [] []) [.ptr 0 0 0,.int .i64 (i:Int),.agg [.int .i64 se.cell,.bool se.turned]] [⟨true,0,1,false,[.int .i64 g.w,.int .i64 g.h,.rsl (rowI g.cells) 0 g.cells.length,.rsl (rowI g.hts) 0 g.hts.length,.rsl (Qc l) 0 l.length,.sl 1 0 0 v3.length 2,.sl 2 0 0 v5.length 1],false⟩,⟨true,0,2,true,(Qb v3),true⟩,⟨true,0,1,true,(rowI v5),true⟩] (.tup []) (z89q_2 g l v3 v5 i se),InR .i64 ((i:Int)+1)])
 (hg:G Try.prog E (yh Try.prog) ⟨(jj 6 ([.ptr 6 0 0]++jj 22 ([.rsl (Qb sites) 0 sites.length,.int .i64 (sites.length:Int),.int .i64 ((i:Int)+1)]++Js 19))),[⟨true,0,1,true,(Yt g),false⟩,⟨true,0,1,true,(Yt g),false⟩,⟨true,0,2,true,[.int .i64 (-1),.bool false],true⟩,⟨true,0,2,true,(Qb (putF (⟨g,l,v3,v5⟩:Fld) (i:Int) se).ss),true⟩,⟨true,0,1,true,[.int .i64 (-1)],true⟩,⟨true,0,1,true,(rowI (putF (⟨g,l,v3,v5⟩:Fld) (i:Int) se).tk),true⟩,⟨true,0,1,false,[.int .i64 g.w,.int .i64 g.h,.rsl (rowI g.cells) 0 g.cells.length,.rsl (rowI g.hts) 0 g.hts.length,.rsl (Qc l) 0 l.length,.sl 3 0 0 ((putF (⟨g,l,v3,v5⟩:Fld) (i:Int) se).ss.length) 2,.sl 5 0 0 ((putF (⟨g,l,v3,v5⟩:Fld) (i:Int) se).tk.length) 1],false⟩]⟩):G Try.prog E (yh Try.prog) (f89qS0 g l sites i v3 v5 ) :=
 Qe (n:=400) (ds:=[]) (cs:=[]) (live:=[6,29,30,31]) (m:=7) (evs:=[.b true,.ld (.agg [.int .i64 se.cell,.bool se.turned]),.b false,.v (.bool (YT (⟨g,l,v3,v5⟩:Fld) (i:Int) se)),.b false,.lent [6,3,5] (.tup []) (z89q_2 g l v3 v5 i se),.stop]) (obs:=_) hE.2.1 (hE.nogh _) Qg (by kernel_rfl) ho hg
theorem p89q_0_3 (g:Gd) (l:(List Ptc)) (sites:(List Sit)) (i:Nat) (v3:List Sit) (v5:List Int) {E:Env} {res:AV} (hE:Qh Try.prog 89 res E) (ho:AllP [(decide ((i:Int)<(sites.length:Int)))=false,0=0,0=0])
 (hr:AvLe (.tup [.rptr (z89q_3 g l v3 v5) 0,.int .i64 0,.int .i64 0]) res):G Try.prog E (yh Try.prog) (f89qS0 g l sites i v3 v5 ) :=
 Qf (n:=400) (evs:=[.b false]) (obs:=_) hE Try.func89 Qg (by kernel_rfl) ho hr
theorem f89qW0 (g:Gd) (l:(List Ptc)) (sites:(List Sit)) (i:Nat) (v3:List Sit) (v5:List Int) {E:Env} {rv:AV} (hE:Qh Try.prog 89 rv E)
 (h:(((i:Int)<(sites.length:Int)→(∃ se:Sit,sites[i]?=some se∧(((se.cell == (-1) && (se.turned == false && true))=true→((I6 ((i:Int)+1))∧f89qG0 E g l sites (i+1) v3 v5))∧((se.cell == (-1) && (se.turned == false && true))=false→((FldAt (⟨g,l,v3,v5⟩:Fld) (i:Int))∧(((YT (⟨g,l,v3,v5⟩:Fld) (i:Int) se)=false→rv=(.tup [.nilPtr,.int .i64 (i:Int),.int .i64 41]))∧((YT (⟨g,l,v3,v5⟩:Fld) (i:Int) se)=true→((FldAt (⟨g,l,v3,v5⟩:Fld) (i:Int)∧(Qp (⟨g,l,v3,v5⟩:Fld) (i:Int) se).2=true)∧((I6 ((i:Int)+1))∧f89qG0 E g l sites (i+1) ((putF (⟨g,l,v3,v5⟩:Fld) (i:Int) se).ss) ((putF (⟨g,l,v3,v5⟩:Fld) (i:Int) se).tk))))))))))∧(¬ ((i:Int)<(sites.length:Int))→rv=(.tup [.rptr [.int .i64 g.w,.int .i64 g.h,.rsl (rowI g.cells) 0 g.cells.length,.rsl (rowI g.hts) 0 g.hts.length,.rsl (Qc l) 0 l.length,.rsl (Qb v3) 0 v3.length,.rsl (rowI v5) 0 v5.length] 0,.int .i64 0,.int .i64 0])))):f89qG0 E g l sites i v3 v5:=by
 rcases bft (decide ((i:Int)<(sites.length:Int))) with hc0 | hc0
 · have h:=h.1 (odt hc0)
   obtain ⟨se,h1,h⟩:=h
   rcases bft (se.cell == (-1) && (se.turned == false && true)) with hc1 | hc1
   · have h:=h.1 hc1
     obtain ⟨q6_2,h⟩:=h
     exact p89q_0_0 g l sites i v3 v5 se hE ⟨hc0,(Qs h1),(rp cSit 2 0 2 h1),(by decide),hc1,q6_2,trivial⟩ h
   · have h:=h.2 hc1
     obtain ⟨h2,h⟩:=h
     rcases bft (!(YT (⟨g,l,v3,v5⟩:Fld) (i:Int) se)) with hc2 | hc2
     · have h:=h.1 (bnT hc2)
       exact p89q_0_1 g l sites i v3 v5 se hE ⟨hc0,(Qs h1),(rp cSit 2 0 2 h1),(by decide),hc1,(u164 (fits2_ok (⟨g,l,v3,v5⟩:Fld) (i:Int) se h2)),rfl,rfl,hc2,trivial⟩ (AvLe.of_eq (by rw [h]; try rfl))
     · have h:=h.2 (bnF hc2)
       obtain ⟨h3,h⟩:=h
       obtain ⟨q11_3,h⟩:=h
       exact p89q_0_2 g l sites i v3 v5 se hE ⟨hc0,(Qs h1),(rp cSit 2 0 2 h1),(by decide),hc1,(u164 (fits2_ok (⟨g,l,v3,v5⟩:Fld) (i:Int) se h2)),rfl,rfl,hc2,(Qt Try.func165 (by kernel_rfl) f165b (put_ok (⟨g,l,v3,v5⟩:Fld) (i:Int) se h3.1 h3.2)),q11_3,trivial⟩ h
 · have h:=h.2 (odf hc0)
   exact p89q_0_3 g l sites i v3 v5 hE ⟨hc0,rfl,rfl,trivial⟩ (AvLe.of_eq (by rw [h]; try rfl))
def Qcf (t:Fld × Int × Int):AV:=if t.2.2=0 then .tup [.rptr [.int .i64 t.1.g.w,.int .i64 t.1.g.h,.rsl (rowI t.1.g.cells) 0 t.1.g.cells.length,.rsl (rowI t.1.g.hts) 0 t.1.g.hts.length,.rsl (Qc t.1.ps) 0 t.1.ps.length,.rsl (Qb t.1.ss) 0 t.1.ss.length,.rsl (rowI t.1.tk) 0 t.1.tk.length] 0,.int .i64 0,.int .i64 0] else .tup [.nilPtr,.int .i64 t.2.1,.int .i64 t.2.2]
theorem newF_gen (g:Gd) (l:List Ptc) (sites:List Sit) (h:GdSmall g∧l.length≤1000∧sites.length≤1000):Pure Try.prog 89 [.agg [.int .i64 g.w,.int .i64 g.h,.rsl (rowI g.cells) 0 g.cells.length,.rsl (rowI g.hts) 0 g.hts.length],.rsl (Qc l) 0 l.length,.rsl (Qb sites) 0 sites.length] (Qcf (newF g l sites)):=Qy Try.func89 Qap fun E hE=>by
 have key:∀ (d i:Nat) (f:Fld),i+d=sites.length→FldOk f→f.g=g→f.ps=l→sites.length=l.length→Qcf (VH (sites.drop i) i f)=Qcf (newF g l sites)→f89qG0 E g l sites i f.ss f.tk:=by
  intro d
  induction d with
  | zero =>
   intro i f hd hf hg hl hs hr
   rw [List.drop_eq_nil_of_le (by omega)] at hr
   refine f89qW0 g l sites i f.ss f.tk (rv:=Qcf (newF g l sites)) hE ⟨fun q=>by omega,fun _=>?_⟩
   subst hg hl
   exact hr.symm
  | succ d ih =>
   intro i f hd hf hg hl hs hr
   have hx:sites[i]?=some (sites[i]'(by omega)):=List.getElem?_eq_getElem (by omega)
   rw [List.drop_eq_getElem_cons (by omega)] at hr
   generalize sites[i]'(by omega)=s at hx hr
   unfold VH at hr
   have hat:FldAt f (i:Int):=⟨hf,by omega,by rw [hl]; omega⟩
   subst hg hl
   refine f89qW0 f.g f.ps sites i f.ss f.tk (rv:=Qcf (newF f.g f.ps sites)) hE ⟨fun _=>⟨s,hx,fun q=>⟨⟨by omega,by omega⟩,?_⟩,fun q=>⟨hat,fun q2=>?_,fun q2=>⟨⟨hat,fits_cells q2⟩,⟨by omega,by omega⟩,?_⟩⟩⟩,fun q=>by omega⟩
   · rw [if_pos (show isNo s=true from q)] at hr
     exact ih (i+1) f (by omega) hf rfl rfl hs hr
   · rw [if_neg (by rw [show isNo s=false from q]; exact Bool.false_ne_true),if_neg (by rw [show YT f _ s=false from q2]; exact Bool.false_ne_true)] at hr
     exact hr.symm
   · rw [if_neg (by rw [show isNo s=false from q]; exact Bool.false_ne_true),if_pos (show YT f _ s=true from q2)] at hr
     exact ih (i+1) (putF f (i:Int) s) (by omega) (putF_ok hf) rfl rfl hs hr
 refine f89qW g l sites (rv:=Qcf (newF g l sites)) hE ⟨fun he=>⟨⟨h.1,h.2.1⟩,fun q=>?_,fun q=>?_⟩,fun he=>⟨⟨h.1,h.2.1⟩,?_⟩⟩
 · unfold newF; rw [if_pos he,if_neg (by omega)]; rfl
 · exact key sites.length 0 (VG g l) (by omega) (emptyF_ok he) rfl rfl (by omega) (by unfold newF; rw [if_pos he,if_pos (by omega),List.drop_zero])
 · unfold newF; rw [if_neg he]; unfold Qcf; rw [if_neg he]
theorem qG (g:Gd) (l:List Ptc) (sites:List Sit) (h:GdSmall g∧l.length≤1000∧sites.length≤1000) (h2:decide ((newF g l sites).2.2=0)=true):Pure Try.prog 89 [.agg [.int .i64 g.w,.int .i64 g.h,.rsl (rowI g.cells) 0 g.cells.length,.rsl (rowI g.hts) 0 g.hts.length],.rsl (Qc l) 0 l.length,.rsl (Qb sites) 0 sites.length] (.tup [.rptr [.int .i64 ((((newF g l sites).1).g).w),.int .i64 ((((newF g l sites).1).g).h),.rsl (rowI ((((newF g l sites).1).g).cells)) 0 (((((newF g l sites).1).g).cells).length),.rsl (rowI ((((newF g l sites).1).g).hts)) 0 (((((newF g l sites).1).g).hts).length),.rsl (Qc (((newF g l sites).1).ps)) 0 ((((newF g l sites).1).ps).length),.rsl (Qb (((newF g l sites).1).ss)) 0 ((((newF g l sites).1).ss).length),.rsl (rowI (((newF g l sites).1).tk)) 0 ((((newF g l sites).1).tk).length)] 0,.int .i64 0,.int .i64 0]):=by
 have:=newF_gen g l sites h
 rw [Qcf,if_pos (of_decide_eq_true h2)] at this; exact this
theorem Qce (g:Gd) (l:List Ptc) (sites:List Sit) (h:GdSmall g∧l.length≤1000∧sites.length≤1000) (h2:decide ((newF g l sites).2.2=0)=false):Pure Try.prog 89 [.agg [.int .i64 g.w,.int .i64 g.h,.rsl (rowI g.cells) 0 g.cells.length,.rsl (rowI g.hts) 0 g.hts.length],.rsl (Qc l) 0 l.length,.rsl (Qb sites) 0 sites.length] (.tup [.nilPtr,.int .i64 (newF g l sites).2.1,.int .i64 (newF g l sites).2.2]):=by
 have:=newF_gen g l sites h
 rw [Qcf,if_neg (of_decide_eq_false h2)] at this; exact this
end Go.Proofs.Ytemklbioijmjiaa
namespace Go.Proofs.Ytemklbioijmjiaa
open Go Ax
open Go.Proofs
def QF (f:Fld) (c:Int):Bool:=!(decide (Va f.g c=1)) && decide (f.tk.getD c.toNat 0<0)
structure OnF (f:Fld) (c:Int):Prop where
 ok:FldOk f
 lo:0≤c
 hi:c<(f.g.cells.length:Int)
theorem OnF.on {f:Fld} {c:Int} (h:OnF f c):OnG f.g c:=⟨h.ok.g,h.lo,h.hi⟩
theorem OnF.tk {f:Fld} {c:Int} (h:OnF f c):f.tk[c.toNat]?=some (f.tk.getD c.toNat 0):=XQ 0 (i:=c) (by have:=h.lo; have:=h.hi; have:=h.ok.tl; omega)
theorem sl_eq {k g o o' l l' s:Nat} (h1:o=o') (h2:l=l'):AV.sl k g o l s=AV.sl k g o' l' s:=by subst h1; subst h2; rfl
theorem qI {α:Type} {l:List α} {o m:Nat} {a:α} (h:l[o]?=some a) (hm:m=l.length - o):(0:Int)≤0∧(0:Int)<(m:Int):=by
 have:=(List.getElem?_eq_some_iff.1 h).1
 subst hm; omega
theorem qC {α:Type} (f:α→List AV) {s:Nat} (hf:∀ a,(f a).length=s) {l:List α} {o:Nat} {a:α} (h:l[o]?=some a):((l.flatMap f).drop (o*s+0*s)).take s=f a:=by
 have:=row_part f hf (k:=0) (m:=s) (by omega) h
 rw [show 0+o*s+0=o*s+0*s by omega] at this
 rw [this,List.drop_zero,List.take_of_length_le (by rw [hf]; exact Nat.le_refl _)]
theorem Ka {α:Type} (f:α→List AV) {s:Nat} (hf:∀ a,(f a).length=s) (l:List α):∀ (o:Nat),(l.flatMap f).drop (o*s)=(l.drop o).flatMap f
 | 0=>by simp
 | o+1=>by
  cases l with
  | nil=>simp
  | cons x l =>
   rw [List.flatMap_cons,Nat.succ_mul,List.drop_append,hf,List.drop_of_length_le (by rw [hf]; omega),List.nil_append,show o*s+s - s=o*s by omega,Ka f hf l o]
   rfl
theorem VI:Try.f54.body=some (Qd Try.prog 54):=by kernel_rfl
abbrev z54q_1 (f:Fld) (c:Int):List AV:=[.rptr [.int .i64 f.g.w,.int .i64 f.g.h,.rsl (rowI f.g.cells) 0 f.g.cells.length,.rsl (rowI f.g.hts) 0 f.g.hts.length,.rsl (Qc f.ps) 0 f.ps.length,.rsl (Qb f.ss) 0 f.ss.length,.rsl (rowI f.tk) 0 f.tk.length] 0,.int .i64 c]
theorem p54q_start_0 (c:Int) (f:Fld) (e:Int) (e1:Int) {E:Env} {res:AV} (hE:Qh Try.prog 54 res E) (ho:AllP [0≤c∧c<(f.g.cells.length:Int),((rowI f.g.cells).drop (0+(Int.toNat c)*1)).take 1=[.int .i64 e],(e != 1)=true,0≤c∧c<(f.tk.length:Int),((rowI f.tk).drop (0+(Int.toNat c)*1)).take 1=[.int .i64 e1]])
 (hr:AvLe (.bool (decide (e1<0))) res):G Try.prog E [.code (Qd Try.prog 54)] ⟨(z54q_1 f c)++unds (Try.f54.ntmps - 2),[]⟩ :=
 Qf (n:=400) (evs:=[.auto,.ld (.int .i64 e),.b true,.auto,.ld (.int .i64 e1)]) (obs:=_) hE Try.func54 Qg (by kernel_rfl) ho hr
theorem p54q_start_1 (c:Int) (f:Fld) (e:Int) {E:Env} {res:AV} (hE:Qh Try.prog 54 res E) (ho:AllP [0≤c∧c<(f.g.cells.length:Int),((rowI f.g.cells).drop (0+(Int.toNat c)*1)).take 1=[.int .i64 e],(e != 1)=false])
 (hr:AvLe (.bool false) res):G Try.prog E [.code (Qd Try.prog 54)] ⟨(z54q_1 f c)++unds (Try.f54.ntmps - 2),[]⟩ :=
 Qf (n:=400) (evs:=[.auto,.ld (.int .i64 e),.b false]) (obs:=_) hE Try.func54 Qg (by kernel_rfl) ho hr
theorem f54qW (c:Int) (f:Fld) {E:Env} {rv:Bool} (hE:Qh Try.prog 54 (.bool rv) E)
 (h:(0≤c∧(∃ e:Int,f.g.cells[Int.toNat c]?=some e∧((¬ (e=1)→(0≤c∧(∃ e1:Int,f.tk[Int.toNat c]?=some e1∧rv=(decide (e1<0)))))∧(e=1→rv=false))))):G Try.prog E [.code (Qd Try.prog 54)] ⟨[.rptr [.int .i64 f.g.w,.int .i64 f.g.h,.rsl (rowI f.g.cells) 0 f.g.cells.length,.rsl (rowI f.g.hts) 0 f.g.hts.length,.rsl (Qc f.ps) 0 f.ps.length,.rsl (Qb f.ss) 0 f.ss.length,.rsl (rowI f.tk) 0 f.tk.length] 0,.int .i64 c]++unds (Try.f54.ntmps - 2),[]⟩:=by
 obtain ⟨h2,h⟩:=h
 obtain ⟨e,h1,h⟩:=h
 rcases bft (e != 1) with hc0 | hc0
 · have h:=h.1 (bneT hc0)
   obtain ⟨h4,h⟩:=h
   obtain ⟨e1,h3,h⟩:=h
   exact p54q_start_0 c f e e1 hE ⟨(Qj h2 h1),(rp cI 1 0 1 h1),hc0,(Qj h4 h3),(rp cI 1 0 1 h3),trivial⟩ (AvLe.of_eq (by rw [h]; try rfl))
 · have h:=h.2 (bneF hc0)
   exact p54q_start_1 c f e hE ⟨(Qj h2 h1),(rp cI 1 0 1 h1),hc0,trivial⟩ (AvLe.of_eq (by rw [h]; try rfl))
theorem f57qb:Try.f57.body=some (Qd Try.prog 57):=by kernel_rfl
abbrev Yu (f:Fld) (c:Int):List AV:=[.rptr [.int .i64 f.g.w,.int .i64 f.g.h,.rsl (rowI f.g.cells) 0 f.g.cells.length,.rsl (rowI f.g.hts) 0 f.g.hts.length,.rsl (Qc f.ps) 0 f.ps.length,.rsl (Qb f.ss) 0 f.ss.length,.rsl (rowI f.tk) 0 f.tk.length] 0,.int .i64 c]
theorem p57q_start_0 (c:Int) (f:Fld) {E:Env} {res:AV} (hE:Qh Try.prog 57 res E) (ho:AllP [f.g.w ≠ 0,InR .i64 (Int.tdiv c f.g.w),f.g.w ≠ 0,(decide ((Int.tdiv c f.g.w) > 0))=true,InR .i64 (c - f.g.w),1≤2147483648,0=0,(decide ((Int.tmod c f.g.w) > 0))=true,InR .i64 (c - 1),0=0,1=1,2≤2147483648,0=0,InR .i64 (f.g.w - 1),(decide ((Int.tmod c f.g.w)<(f.g.w - 1)))=true,InR .i64 (c+1),1=1,2=2,3≤2147483648,0=0,InR .i64 (f.g.h - 1),(decide ((Int.tdiv c f.g.w)<(f.g.h - 1)))=true,InR .i64 (c+f.g.w),2=2,3=3,4≤2147483648,0=0,3=3])
 (hr:AvLe (.rsl [.int .i64 (c - f.g.w),.int .i64 (c - 1),.int .i64 (c+1),.int .i64 (c+f.g.w)] 0 4) res):G Try.prog E [.code (Qd Try.prog 57)] ⟨(Yu f c)++unds (Try.f57.ntmps - 2),[]⟩ :=
 Qf (n:=400) (evs:=[.b true,.b true,.b true,.b true]) (obs:=_) hE Try.func57 Qg (by kernel_rfl) ho hr
theorem p57q_start_1 (c:Int) (f:Fld) {E:Env} {res:AV} (hE:Qh Try.prog 57 res E) (ho:AllP [f.g.w ≠ 0,InR .i64 (Int.tdiv c f.g.w),f.g.w ≠ 0,(decide ((Int.tdiv c f.g.w) > 0))=true,InR .i64 (c - f.g.w),1≤2147483648,0=0,(decide ((Int.tmod c f.g.w) > 0))=true,InR .i64 (c - 1),0=0,1=1,2≤2147483648,0=0,InR .i64 (f.g.w - 1),(decide ((Int.tmod c f.g.w)<(f.g.w - 1)))=true,InR .i64 (c+1),1=1,2=2,3≤2147483648,0=0,InR .i64 (f.g.h - 1),(decide ((Int.tdiv c f.g.w)<(f.g.h - 1)))=false,2=2])
 (hr:AvLe (.rsl [.int .i64 (c - f.g.w),.int .i64 (c - 1),.int .i64 (c+1)] 0 3) res):G Try.prog E [.code (Qd Try.prog 57)] ⟨(Yu f c)++unds (Try.f57.ntmps - 2),[]⟩ :=
 Qf (n:=400) (evs:=[.b true,.b true,.b true,.b false]) (obs:=_) hE Try.func57 Qg (by kernel_rfl) ho hr
theorem p57q_start_2 (c:Int) (f:Fld) {E:Env} {res:AV} (hE:Qh Try.prog 57 res E) (ho:AllP [f.g.w ≠ 0,InR .i64 (Int.tdiv c f.g.w),f.g.w ≠ 0,(decide ((Int.tdiv c f.g.w) > 0))=true,InR .i64 (c - f.g.w),1≤2147483648,0=0,(decide ((Int.tmod c f.g.w) > 0))=true,InR .i64 (c - 1),0=0,1=1,2≤2147483648,0=0,InR .i64 (f.g.w - 1),(decide ((Int.tmod c f.g.w)<(f.g.w - 1)))=false,InR .i64 (f.g.h - 1),(decide ((Int.tdiv c f.g.w)<(f.g.h - 1)))=true,InR .i64 (c+f.g.w),1=1,2=2,3≤2147483648,0=0,2=2])
 (hr:AvLe (.rsl [.int .i64 (c - f.g.w),.int .i64 (c - 1),.int .i64 (c+f.g.w)] 0 3) res):G Try.prog E [.code (Qd Try.prog 57)] ⟨(Yu f c)++unds (Try.f57.ntmps - 2),[]⟩ :=
 Qf (n:=400) (evs:=[.b true,.b true,.b false,.b true]) (obs:=_) hE Try.func57 Qg (by kernel_rfl) ho hr
theorem p57q_start_3 (c:Int) (f:Fld) {E:Env} {res:AV} (hE:Qh Try.prog 57 res E) (ho:AllP [f.g.w ≠ 0,InR .i64 (Int.tdiv c f.g.w),f.g.w ≠ 0,(decide ((Int.tdiv c f.g.w) > 0))=true,InR .i64 (c - f.g.w),1≤2147483648,0=0,(decide ((Int.tmod c f.g.w) > 0))=true,InR .i64 (c - 1),0=0,1=1,2≤2147483648,0=0,InR .i64 (f.g.w - 1),(decide ((Int.tmod c f.g.w)<(f.g.w - 1)))=false,InR .i64 (f.g.h - 1),(decide ((Int.tdiv c f.g.w)<(f.g.h - 1)))=false,1=1])
 (hr:AvLe (.rsl [.int .i64 (c - f.g.w),.int .i64 (c - 1)] 0 2) res):G Try.prog E [.code (Qd Try.prog 57)] ⟨(Yu f c)++unds (Try.f57.ntmps - 2),[]⟩ :=
 Qf (n:=400) (evs:=[.b true,.b true,.b false,.b false]) (obs:=_) hE Try.func57 Qg (by kernel_rfl) ho hr
theorem p57q_start_4 (c:Int) (f:Fld) {E:Env} {res:AV} (hE:Qh Try.prog 57 res E) (ho:AllP [f.g.w ≠ 0,InR .i64 (Int.tdiv c f.g.w),f.g.w ≠ 0,(decide ((Int.tdiv c f.g.w) > 0))=true,InR .i64 (c - f.g.w),1≤2147483648,0=0,(decide ((Int.tmod c f.g.w) > 0))=false,InR .i64 (f.g.w - 1),(decide ((Int.tmod c f.g.w)<(f.g.w - 1)))=true,InR .i64 (c+1),0=0,1=1,2≤2147483648,0=0,InR .i64 (f.g.h - 1),(decide ((Int.tdiv c f.g.w)<(f.g.h - 1)))=true,InR .i64 (c+f.g.w),1=1,2=2,3≤2147483648,0=0,2=2])
 (hr:AvLe (.rsl [.int .i64 (c - f.g.w),.int .i64 (c+1),.int .i64 (c+f.g.w)] 0 3) res):G Try.prog E [.code (Qd Try.prog 57)] ⟨(Yu f c)++unds (Try.f57.ntmps - 2),[]⟩ :=
 Qf (n:=400) (evs:=[.b true,.b false,.b true,.b true]) (obs:=_) hE Try.func57 Qg (by kernel_rfl) ho hr
theorem p57q_start_5 (c:Int) (f:Fld) {E:Env} {res:AV} (hE:Qh Try.prog 57 res E) (ho:AllP [f.g.w ≠ 0,InR .i64 (Int.tdiv c f.g.w),f.g.w ≠ 0,(decide ((Int.tdiv c f.g.w) > 0))=true,InR .i64 (c - f.g.w),1≤2147483648,0=0,(decide ((Int.tmod c f.g.w) > 0))=false,InR .i64 (f.g.w - 1),(decide ((Int.tmod c f.g.w)<(f.g.w - 1)))=true,InR .i64 (c+1),0=0,1=1,2≤2147483648,0=0,InR .i64 (f.g.h - 1),(decide ((Int.tdiv c f.g.w)<(f.g.h - 1)))=false,1=1])
 (hr:AvLe (.rsl [.int .i64 (c - f.g.w),.int .i64 (c+1)] 0 2) res):G Try.prog E [.code (Qd Try.prog 57)] ⟨(Yu f c)++unds (Try.f57.ntmps - 2),[]⟩ :=
 Qf (n:=400) (evs:=[.b true,.b false,.b true,.b false]) (obs:=_) hE Try.func57 Qg (by kernel_rfl) ho hr
theorem p57q_start_6 (c:Int) (f:Fld) {E:Env} {res:AV} (hE:Qh Try.prog 57 res E) (ho:AllP [f.g.w ≠ 0,InR .i64 (Int.tdiv c f.g.w),f.g.w ≠ 0,(decide ((Int.tdiv c f.g.w) > 0))=true,InR .i64 (c - f.g.w),1≤2147483648,0=0,(decide ((Int.tmod c f.g.w) > 0))=false,InR .i64 (f.g.w - 1),(decide ((Int.tmod c f.g.w)<(f.g.w - 1)))=false,InR .i64 (f.g.h - 1),(decide ((Int.tdiv c f.g.w)<(f.g.h - 1)))=true,InR .i64 (c+f.g.w),0=0,1=1,2≤2147483648,0=0,1=1])
 (hr:AvLe (.rsl [.int .i64 (c - f.g.w),.int .i64 (c+f.g.w)] 0 2) res):G Try.prog E [.code (Qd Try.prog 57)] ⟨(Yu f c)++unds (Try.f57.ntmps - 2),[]⟩ :=
 Qf (n:=400) (evs:=[.b true,.b false,.b false,.b true]) (obs:=_) hE Try.func57 Qg (by kernel_rfl) ho hr
theorem p57q_start_7 (c:Int) (f:Fld) {E:Env} {res:AV} (hE:Qh Try.prog 57 res E) (ho:AllP [f.g.w ≠ 0,InR .i64 (Int.tdiv c f.g.w),f.g.w ≠ 0,(decide ((Int.tdiv c f.g.w) > 0))=true,InR .i64 (c - f.g.w),1≤2147483648,0=0,(decide ((Int.tmod c f.g.w) > 0))=false,InR .i64 (f.g.w - 1),(decide ((Int.tmod c f.g.w)<(f.g.w - 1)))=false,InR .i64 (f.g.h - 1),(decide ((Int.tdiv c f.g.w)<(f.g.h - 1)))=false,0=0])
 (hr:AvLe (.rsl [.int .i64 (c - f.g.w)] 0 1) res):G Try.prog E [.code (Qd Try.prog 57)] ⟨(Yu f c)++unds (Try.f57.ntmps - 2),[]⟩ :=
 Qf (n:=400) (evs:=[.b true,.b false,.b false,.b false]) (obs:=_) hE Try.func57 Qg (by kernel_rfl) ho hr
theorem p57q_start_8 (c:Int) (f:Fld) {E:Env} {res:AV} (hE:Qh Try.prog 57 res E) (ho:AllP [f.g.w ≠ 0,InR .i64 (Int.tdiv c f.g.w),f.g.w ≠ 0,(decide ((Int.tdiv c f.g.w) > 0))=false,(decide ((Int.tmod c f.g.w) > 0))=true,InR .i64 (c - 1),1≤2147483648,0=0,InR .i64 (f.g.w - 1),(decide ((Int.tmod c f.g.w)<(f.g.w - 1)))=true,InR .i64 (c+1),0=0,1=1,2≤2147483648,0=0,InR .i64 (f.g.h - 1),(decide ((Int.tdiv c f.g.w)<(f.g.h - 1)))=true,InR .i64 (c+f.g.w),1=1,2=2,3≤2147483648,0=0,2=2])
 (hr:AvLe (.rsl [.int .i64 (c - 1),.int .i64 (c+1),.int .i64 (c+f.g.w)] 0 3) res):G Try.prog E [.code (Qd Try.prog 57)] ⟨(Yu f c)++unds (Try.f57.ntmps - 2),[]⟩ :=
 Qf (n:=400) (evs:=[.b false,.b true,.b true,.b true]) (obs:=_) hE Try.func57 Qg (by kernel_rfl) ho hr
theorem p57q_start_9 (c:Int) (f:Fld) {E:Env} {res:AV} (hE:Qh Try.prog 57 res E) (ho:AllP [f.g.w ≠ 0,InR .i64 (Int.tdiv c f.g.w),f.g.w ≠ 0,(decide ((Int.tdiv c f.g.w) > 0))=false,(decide ((Int.tmod c f.g.w) > 0))=true,InR .i64 (c - 1),1≤2147483648,0=0,InR .i64 (f.g.w - 1),(decide ((Int.tmod c f.g.w)<(f.g.w - 1)))=true,InR .i64 (c+1),0=0,1=1,2≤2147483648,0=0,InR .i64 (f.g.h - 1),(decide ((Int.tdiv c f.g.w)<(f.g.h - 1)))=false,1=1])
 (hr:AvLe (.rsl [.int .i64 (c - 1),.int .i64 (c+1)] 0 2) res):G Try.prog E [.code (Qd Try.prog 57)] ⟨(Yu f c)++unds (Try.f57.ntmps - 2),[]⟩ :=
 Qf (n:=400) (evs:=[.b false,.b true,.b true,.b false]) (obs:=_) hE Try.func57 Qg (by kernel_rfl) ho hr
theorem QbM (c:Int) (f:Fld) {E:Env} {res:AV} (hE:Qh Try.prog 57 res E) (ho:AllP [f.g.w ≠ 0,InR .i64 (Int.tdiv c f.g.w),f.g.w ≠ 0,(decide ((Int.tdiv c f.g.w) > 0))=false,(decide ((Int.tmod c f.g.w) > 0))=true,InR .i64 (c - 1),1≤2147483648,0=0,InR .i64 (f.g.w - 1),(decide ((Int.tmod c f.g.w)<(f.g.w - 1)))=false,InR .i64 (f.g.h - 1),(decide ((Int.tdiv c f.g.w)<(f.g.h - 1)))=true,InR .i64 (c+f.g.w),0=0,1=1,2≤2147483648,0=0,1=1])
 (hr:AvLe (.rsl [.int .i64 (c - 1),.int .i64 (c+f.g.w)] 0 2) res):G Try.prog E [.code (Qd Try.prog 57)] ⟨(Yu f c)++unds (Try.f57.ntmps - 2),[]⟩ :=
 Qf (n:=400) (evs:=[.b false,.b true,.b false,.b true]) (obs:=_) hE Try.func57 Qg (by kernel_rfl) ho hr
theorem QbL (c:Int) (f:Fld) {E:Env} {res:AV} (hE:Qh Try.prog 57 res E) (ho:AllP [f.g.w ≠ 0,InR .i64 (Int.tdiv c f.g.w),f.g.w ≠ 0,(decide ((Int.tdiv c f.g.w) > 0))=false,(decide ((Int.tmod c f.g.w) > 0))=true,InR .i64 (c - 1),1≤2147483648,0=0,InR .i64 (f.g.w - 1),(decide ((Int.tmod c f.g.w)<(f.g.w - 1)))=false,InR .i64 (f.g.h - 1),(decide ((Int.tdiv c f.g.w)<(f.g.h - 1)))=false,0=0])
 (hr:AvLe (.rsl [.int .i64 (c - 1)] 0 1) res):G Try.prog E [.code (Qd Try.prog 57)] ⟨(Yu f c)++unds (Try.f57.ntmps - 2),[]⟩ :=
 Qf (n:=400) (evs:=[.b false,.b true,.b false,.b false]) (obs:=_) hE Try.func57 Qg (by kernel_rfl) ho hr
theorem QbK (c:Int) (f:Fld) {E:Env} {res:AV} (hE:Qh Try.prog 57 res E) (ho:AllP [f.g.w ≠ 0,InR .i64 (Int.tdiv c f.g.w),f.g.w ≠ 0,(decide ((Int.tdiv c f.g.w) > 0))=false,(decide ((Int.tmod c f.g.w) > 0))=false,InR .i64 (f.g.w - 1),(decide ((Int.tmod c f.g.w)<(f.g.w - 1)))=true,InR .i64 (c+1),1≤2147483648,0=0,InR .i64 (f.g.h - 1),(decide ((Int.tdiv c f.g.w)<(f.g.h - 1)))=true,InR .i64 (c+f.g.w),0=0,1=1,2≤2147483648,0=0,1=1])
 (hr:AvLe (.rsl [.int .i64 (c+1),.int .i64 (c+f.g.w)] 0 2) res):G Try.prog E [.code (Qd Try.prog 57)] ⟨(Yu f c)++unds (Try.f57.ntmps - 2),[]⟩ :=
 Qf (n:=400) (evs:=[.b false,.b false,.b true,.b true]) (obs:=_) hE Try.func57 Qg (by kernel_rfl) ho hr
theorem QbJ (c:Int) (f:Fld) {E:Env} {res:AV} (hE:Qh Try.prog 57 res E) (ho:AllP [f.g.w ≠ 0,InR .i64 (Int.tdiv c f.g.w),f.g.w ≠ 0,(decide ((Int.tdiv c f.g.w) > 0))=false,(decide ((Int.tmod c f.g.w) > 0))=false,InR .i64 (f.g.w - 1),(decide ((Int.tmod c f.g.w)<(f.g.w - 1)))=true,InR .i64 (c+1),1≤2147483648,0=0,InR .i64 (f.g.h - 1),(decide ((Int.tdiv c f.g.w)<(f.g.h - 1)))=false,0=0])
 (hr:AvLe (.rsl [.int .i64 (c+1)] 0 1) res):G Try.prog E [.code (Qd Try.prog 57)] ⟨(Yu f c)++unds (Try.f57.ntmps - 2),[]⟩ :=
 Qf (n:=400) (evs:=[.b false,.b false,.b true,.b false]) (obs:=_) hE Try.func57 Qg (by kernel_rfl) ho hr
theorem QbI (c:Int) (f:Fld) {E:Env} {res:AV} (hE:Qh Try.prog 57 res E) (ho:AllP [f.g.w ≠ 0,InR .i64 (Int.tdiv c f.g.w),f.g.w ≠ 0,(decide ((Int.tdiv c f.g.w) > 0))=false,(decide ((Int.tmod c f.g.w) > 0))=false,InR .i64 (f.g.w - 1),(decide ((Int.tmod c f.g.w)<(f.g.w - 1)))=false,InR .i64 (f.g.h - 1),(decide ((Int.tdiv c f.g.w)<(f.g.h - 1)))=true,InR .i64 (c+f.g.w),1≤2147483648,0=0,0=0])
 (hr:AvLe (.rsl [.int .i64 (c+f.g.w)] 0 1) res):G Try.prog E [.code (Qd Try.prog 57)] ⟨(Yu f c)++unds (Try.f57.ntmps - 2),[]⟩ :=
 Qf (n:=400) (evs:=[.b false,.b false,.b false,.b true]) (obs:=_) hE Try.func57 Qg (by kernel_rfl) ho hr
theorem QbH (c:Int) (f:Fld) {E:Env} {res:AV} (hE:Qh Try.prog 57 res E) (ho:AllP [f.g.w ≠ 0,InR .i64 (Int.tdiv c f.g.w),f.g.w ≠ 0,(decide ((Int.tdiv c f.g.w) > 0))=false,(decide ((Int.tmod c f.g.w) > 0))=false,InR .i64 (f.g.w - 1),(decide ((Int.tmod c f.g.w)<(f.g.w - 1)))=false,InR .i64 (f.g.h - 1),(decide ((Int.tdiv c f.g.w)<(f.g.h - 1)))=false])
 (hr:AvLe (.nilSl) res):G Try.prog E [.code (Qd Try.prog 57)] ⟨(Yu f c)++unds (Try.f57.ntmps - 2),[]⟩ :=
 Qf (n:=400) (evs:=[.b false,.b false,.b false,.b false]) (obs:=_) hE Try.func57 Qg (by kernel_rfl) ho hr
theorem f57qW (c:Int) (f:Fld) {E:Env} {rv:(List Int)} (hE:Qh Try.prog 57 (.rsl (rowI rv) 0 rv.length) E)
 (h:(f.g.w ≠ 0∧((I6 (Int.tdiv c f.g.w))∧(f.g.w ≠ 0∧(((Int.tdiv c f.g.w) > 0→((I6 (c - f.g.w))∧(((Int.tmod c f.g.w) > 0→((I6 (c - 1))∧((I6 (f.g.w - 1))∧(((Int.tmod c f.g.w)<(f.g.w - 1)→((I6 (c+1))∧((I6 (f.g.h - 1))∧(((Int.tdiv c f.g.w)<(f.g.h - 1)→((I6 (c+f.g.w))∧rv=[(c - f.g.w),(c - 1),(c+1),(c+f.g.w)]))∧(¬ ((Int.tdiv c f.g.w)<(f.g.h - 1))→rv=[(c - f.g.w),(c - 1),(c+1)])))))∧(¬ ((Int.tmod c f.g.w)<(f.g.w - 1))→((I6 (f.g.h - 1))∧(((Int.tdiv c f.g.w)<(f.g.h - 1)→((I6 (c+f.g.w))∧rv=[(c - f.g.w),(c - 1),(c+f.g.w)]))∧(¬ ((Int.tdiv c f.g.w)<(f.g.h - 1))→rv=[(c - f.g.w),(c - 1)]))))))))∧(¬ ((Int.tmod c f.g.w) > 0)→((I6 (f.g.w - 1))∧(((Int.tmod c f.g.w)<(f.g.w - 1)→((I6 (c+1))∧((I6 (f.g.h - 1))∧(((Int.tdiv c f.g.w)<(f.g.h - 1)→((I6 (c+f.g.w))∧rv=[(c - f.g.w),(c+1),(c+f.g.w)]))∧(¬ ((Int.tdiv c f.g.w)<(f.g.h - 1))→rv=[(c - f.g.w),(c+1)])))))∧(¬ ((Int.tmod c f.g.w)<(f.g.w - 1))→((I6 (f.g.h - 1))∧(((Int.tdiv c f.g.w)<(f.g.h - 1)→((I6 (c+f.g.w))∧rv=[(c - f.g.w),(c+f.g.w)]))∧(¬ ((Int.tdiv c f.g.w)<(f.g.h - 1))→rv=[(c - f.g.w)]))))))))))∧(¬ ((Int.tdiv c f.g.w) > 0)→(((Int.tmod c f.g.w) > 0→((I6 (c - 1))∧((I6 (f.g.w - 1))∧(((Int.tmod c f.g.w)<(f.g.w - 1)→((I6 (c+1))∧((I6 (f.g.h - 1))∧(((Int.tdiv c f.g.w)<(f.g.h - 1)→((I6 (c+f.g.w))∧rv=[(c - 1),(c+1),(c+f.g.w)]))∧(¬ ((Int.tdiv c f.g.w)<(f.g.h - 1))→rv=[(c - 1),(c+1)])))))∧(¬ ((Int.tmod c f.g.w)<(f.g.w - 1))→((I6 (f.g.h - 1))∧(((Int.tdiv c f.g.w)<(f.g.h - 1)→((I6 (c+f.g.w))∧rv=[(c - 1),(c+f.g.w)]))∧(¬ ((Int.tdiv c f.g.w)<(f.g.h - 1))→rv=[(c - 1)]))))))))∧(¬ ((Int.tmod c f.g.w) > 0)→((I6 (f.g.w - 1))∧(((Int.tmod c f.g.w)<(f.g.w - 1)→((I6 (c+1))∧((I6 (f.g.h - 1))∧(((Int.tdiv c f.g.w)<(f.g.h - 1)→((I6 (c+f.g.w))∧rv=[(c+1),(c+f.g.w)]))∧(¬ ((Int.tdiv c f.g.w)<(f.g.h - 1))→rv=[(c+1)])))))∧(¬ ((Int.tmod c f.g.w)<(f.g.w - 1))→((I6 (f.g.h - 1))∧(((Int.tdiv c f.g.w)<(f.g.h - 1)→((I6 (c+f.g.w))∧rv=[(c+f.g.w)]))∧(¬ ((Int.tdiv c f.g.w)<(f.g.h - 1))→rv=([]:List Int))))))))))))))):G Try.prog E [.code (Qd Try.prog 57)] ⟨[.rptr [.int .i64 f.g.w,.int .i64 f.g.h,.rsl (rowI f.g.cells) 0 f.g.cells.length,.rsl (rowI f.g.hts) 0 f.g.hts.length,.rsl (Qc f.ps) 0 f.ps.length,.rsl (Qb f.ss) 0 f.ss.length,.rsl (rowI f.tk) 0 f.tk.length] 0,.int .i64 c]++unds (Try.f57.ntmps - 2),[]⟩:=by
 obtain ⟨q0_0,h⟩:=h
 obtain ⟨q1_0,h⟩:=h
 obtain ⟨q2_0,h⟩:=h
 rcases bft (decide ((Int.tdiv c f.g.w) > 0)) with hc0 | hc0
 · have h:=h.1 (odt hc0)
   obtain ⟨q4_1,h⟩:=h
   rcases bft (decide ((Int.tmod c f.g.w) > 0)) with hc1 | hc1
   · have h:=h.1 (odt hc1)
     obtain ⟨q8_2,h⟩:=h
     obtain ⟨q13_2,h⟩:=h
     rcases bft (decide ((Int.tmod c f.g.w)<(f.g.w - 1))) with hc2 | hc2
     · have h:=h.1 (odt hc2)
       obtain ⟨q15_3,h⟩:=h
       obtain ⟨q20_3,h⟩:=h
       rcases bft (decide ((Int.tdiv c f.g.w)<(f.g.h - 1))) with hc3 | hc3
       · have h:=h.1 (odt hc3)
         obtain ⟨q22_4,h⟩:=h
         exact p57q_start_0 c f hE ⟨q0_0,q1_0,q2_0,hc0,q4_1,(by decide),rfl,hc1,q8_2,rfl,rfl,(by decide),rfl,q13_2,hc2,q15_3,rfl,rfl,(by decide),rfl,q20_3,hc3,q22_4,rfl,rfl,(by decide),rfl,rfl,trivial⟩ (AvLe.of_eq (by rw [h]; try rfl))
       · have h:=h.2 (odf hc3)
         exact p57q_start_1 c f hE ⟨q0_0,q1_0,q2_0,hc0,q4_1,(by decide),rfl,hc1,q8_2,rfl,rfl,(by decide),rfl,q13_2,hc2,q15_3,rfl,rfl,(by decide),rfl,q20_3,hc3,rfl,trivial⟩ (AvLe.of_eq (by rw [h]; try rfl))
     · have h:=h.2 (odf hc2)
       obtain ⟨q15_3,h⟩:=h
       rcases bft (decide ((Int.tdiv c f.g.w)<(f.g.h - 1))) with hc3 | hc3
       · have h:=h.1 (odt hc3)
         obtain ⟨q17_4,h⟩:=h
         exact p57q_start_2 c f hE ⟨q0_0,q1_0,q2_0,hc0,q4_1,(by decide),rfl,hc1,q8_2,rfl,rfl,(by decide),rfl,q13_2,hc2,q15_3,hc3,q17_4,rfl,rfl,(by decide),rfl,rfl,trivial⟩ (AvLe.of_eq (by rw [h]; try rfl))
       · have h:=h.2 (odf hc3)
         exact p57q_start_3 c f hE ⟨q0_0,q1_0,q2_0,hc0,q4_1,(by decide),rfl,hc1,q8_2,rfl,rfl,(by decide),rfl,q13_2,hc2,q15_3,hc3,rfl,trivial⟩ (AvLe.of_eq (by rw [h]; try rfl))
   · have h:=h.2 (odf hc1)
     obtain ⟨q8_2,h⟩:=h
     rcases bft (decide ((Int.tmod c f.g.w)<(f.g.w - 1))) with hc2 | hc2
     · have h:=h.1 (odt hc2)
       obtain ⟨q10_3,h⟩:=h
       obtain ⟨q15_3,h⟩:=h
       rcases bft (decide ((Int.tdiv c f.g.w)<(f.g.h - 1))) with hc3 | hc3
       · have h:=h.1 (odt hc3)
         obtain ⟨q17_4,h⟩:=h
         exact p57q_start_4 c f hE ⟨q0_0,q1_0,q2_0,hc0,q4_1,(by decide),rfl,hc1,q8_2,hc2,q10_3,rfl,rfl,(by decide),rfl,q15_3,hc3,q17_4,rfl,rfl,(by decide),rfl,rfl,trivial⟩ (AvLe.of_eq (by rw [h]; try rfl))
       · have h:=h.2 (odf hc3)
         exact p57q_start_5 c f hE ⟨q0_0,q1_0,q2_0,hc0,q4_1,(by decide),rfl,hc1,q8_2,hc2,q10_3,rfl,rfl,(by decide),rfl,q15_3,hc3,rfl,trivial⟩ (AvLe.of_eq (by rw [h]; try rfl))
     · have h:=h.2 (odf hc2)
       obtain ⟨q10_3,h⟩:=h
       rcases bft (decide ((Int.tdiv c f.g.w)<(f.g.h - 1))) with hc3 | hc3
       · have h:=h.1 (odt hc3)
         obtain ⟨q12_4,h⟩:=h
         exact p57q_start_6 c f hE ⟨q0_0,q1_0,q2_0,hc0,q4_1,(by decide),rfl,hc1,q8_2,hc2,q10_3,hc3,q12_4,rfl,rfl,(by decide),rfl,rfl,trivial⟩ (AvLe.of_eq (by rw [h]; try rfl))
       · have h:=h.2 (odf hc3)
         exact p57q_start_7 c f hE ⟨q0_0,q1_0,q2_0,hc0,q4_1,(by decide),rfl,hc1,q8_2,hc2,q10_3,hc3,rfl,trivial⟩ (AvLe.of_eq (by rw [h]; try rfl))
 · have h:=h.2 (odf hc0)
   rcases bft (decide ((Int.tmod c f.g.w) > 0)) with hc1 | hc1
   · have h:=h.1 (odt hc1)
     obtain ⟨q5_2,h⟩:=h
     obtain ⟨q8_2,h⟩:=h
     rcases bft (decide ((Int.tmod c f.g.w)<(f.g.w - 1))) with hc2 | hc2
     · have h:=h.1 (odt hc2)
       obtain ⟨q10_3,h⟩:=h
       obtain ⟨q15_3,h⟩:=h
       rcases bft (decide ((Int.tdiv c f.g.w)<(f.g.h - 1))) with hc3 | hc3
       · have h:=h.1 (odt hc3)
         obtain ⟨q17_4,h⟩:=h
         exact p57q_start_8 c f hE ⟨q0_0,q1_0,q2_0,hc0,hc1,q5_2,(by decide),rfl,q8_2,hc2,q10_3,rfl,rfl,(by decide),rfl,q15_3,hc3,q17_4,rfl,rfl,(by decide),rfl,rfl,trivial⟩ (AvLe.of_eq (by rw [h]; try rfl))
       · have h:=h.2 (odf hc3)
         exact p57q_start_9 c f hE ⟨q0_0,q1_0,q2_0,hc0,hc1,q5_2,(by decide),rfl,q8_2,hc2,q10_3,rfl,rfl,(by decide),rfl,q15_3,hc3,rfl,trivial⟩ (AvLe.of_eq (by rw [h]; try rfl))
     · have h:=h.2 (odf hc2)
       obtain ⟨q10_3,h⟩:=h
       rcases bft (decide ((Int.tdiv c f.g.w)<(f.g.h - 1))) with hc3 | hc3
       · have h:=h.1 (odt hc3)
         obtain ⟨q12_4,h⟩:=h
         exact QbM c f hE ⟨q0_0,q1_0,q2_0,hc0,hc1,q5_2,(by decide),rfl,q8_2,hc2,q10_3,hc3,q12_4,rfl,rfl,(by decide),rfl,rfl,trivial⟩ (AvLe.of_eq (by rw [h]; try rfl))
       · have h:=h.2 (odf hc3)
         exact QbL c f hE ⟨q0_0,q1_0,q2_0,hc0,hc1,q5_2,(by decide),rfl,q8_2,hc2,q10_3,hc3,rfl,trivial⟩ (AvLe.of_eq (by rw [h]; try rfl))
   · have h:=h.2 (odf hc1)
     obtain ⟨q5_2,h⟩:=h
     rcases bft (decide ((Int.tmod c f.g.w)<(f.g.w - 1))) with hc2 | hc2
     · have h:=h.1 (odt hc2)
       obtain ⟨q7_3,h⟩:=h
       obtain ⟨q10_3,h⟩:=h
       rcases bft (decide ((Int.tdiv c f.g.w)<(f.g.h - 1))) with hc3 | hc3
       · have h:=h.1 (odt hc3)
         obtain ⟨q12_4,h⟩:=h
         exact QbK c f hE ⟨q0_0,q1_0,q2_0,hc0,hc1,q5_2,hc2,q7_3,(by decide),rfl,q10_3,hc3,q12_4,rfl,rfl,(by decide),rfl,rfl,trivial⟩ (AvLe.of_eq (by rw [h]; try rfl))
       · have h:=h.2 (odf hc3)
         exact QbJ c f hE ⟨q0_0,q1_0,q2_0,hc0,hc1,q5_2,hc2,q7_3,(by decide),rfl,q10_3,hc3,rfl,trivial⟩ (AvLe.of_eq (by rw [h]; try rfl))
     · have h:=h.2 (odf hc2)
       obtain ⟨q7_3,h⟩:=h
       rcases bft (decide ((Int.tdiv c f.g.w)<(f.g.h - 1))) with hc3 | hc3
       · have h:=h.1 (odt hc3)
         obtain ⟨q9_4,h⟩:=h
         exact QbI c f hE ⟨q0_0,q1_0,q2_0,hc0,hc1,q5_2,hc2,q7_3,hc3,q9_4,(by decide),rfl,rfl,trivial⟩ (AvLe.of_eq (by rw [h]; try rfl))
       · have h:=h.2 (odf hc3)
         exact QbH c f hE ⟨q0_0,q1_0,q2_0,hc0,hc1,q5_2,hc2,q7_3,hc3,trivial⟩ (by rw [h]; exact qe)
theorem Xp (f:Fld) (c:Int) (h:OnF f c):Pure Try.prog 54 [.rptr [.int .i64 f.g.w,.int .i64 f.g.h,.rsl (rowI f.g.cells) 0 f.g.cells.length,.rsl (rowI f.g.hts) 0 f.g.hts.length,.rsl (Qc f.ps) 0 f.ps.length,.rsl (Qb f.ss) 0 f.ss.length,.rsl (rowI f.tk) 0 f.tk.length] 0,.int .i64 c] (.bool (QF f c)):=Qy Try.func54 VI fun E hE=>by
 refine f54qW c f (rv:=QF f c) hE ⟨h.lo,_,h.on.cell,fun h1=>⟨h.lo,_,h.tk,?_⟩,fun h1=>?_⟩
 · unfold QF; rw [decide_eq_false h1]; rfl
 · unfold QF; rw [decide_eq_true h1]; rfl
theorem Wu (f:Fld) (c:Int) (h:OnF f c):Pure Try.prog 57 [.rptr [.int .i64 f.g.w,.int .i64 f.g.h,.rsl (rowI f.g.cells) 0 f.g.cells.length,.rsl (rowI f.g.hts) 0 f.g.hts.length,.rsl (Qc f.ps) 0 f.ps.length,.rsl (Qb f.ss) 0 f.ss.length,.rsl (rowI f.tk) 0 f.tk.length] 0,.int .i64 c] (.rsl (rowI (Ql f.g c)) 0 (Ql f.g c).length):=Qy Try.func57 f57qb fun E hE=>by
 have p:=Qck h.ok.g
 obtain ⟨d1,d2,d3,d4,-⟩:=h.on.dims
 have h1:=h.lo; have h2:=h.hi; have h3:=p.w1; have h4:=p.w8; have h5:=p.h8; have h6:=XF h.ok.g
 refine f57qW c f (rv:=Ql f.g c) hE ?_
 unfold Ql
 generalize Int.tdiv c f.g.w=y at *
 generalize Int.tmod c f.g.w=x at *
 refine ⟨by omega,⟨by omega,by omega⟩,by omega,?_⟩
 repeat' (first | (refine ⟨?_,?_⟩) | (intro _))
 all_goals first | omega | (simp [*])
theorem f166b:Try.f166.body=some (Qd Try.prog 166):=by kernel_rfl
theorem u166 {a c k:List AV} {r:AV} (h:Pure Try.prog 166 (a++c++k) r):Qi Try.prog (.clos 166 a k) c r:=Qk Try.func166 (by kernel_rfl) f166b h
def qo (P:Program):List Item:=kAt 400 [.code (Qd P 166)] [.stop]
def Qbd (b:Int) (f:Fld) (v2:List Int) (i:Nat) (v1:List Int) (g2:Nat) (g1:Nat):St:=⟨([.rptr [.int .i64 f.g.w,.int .i64 f.g.h,.rsl (rowI f.g.cells) 0 f.g.cells.length,.rsl (rowI f.g.hts) 0 f.g.hts.length,.rsl (Qc f.ps) 0 f.ps.length,.rsl (Qb f.ss) 0 f.ss.length,.rsl (rowI f.tk) 0 f.tk.length] 0,.int .i64 b,J,J,J,.sl 1 g1 0 v1.length 1,.sl 2 g2 0 v2.length 1]++jj 16 ([.rsl (rowI f.g.cells) 0 f.g.cells.length,.int .i64 (f.g.cells.length:Int),.int .i64 (i:Int)]++Js 65)),[⟨false,1,1,true,[],false⟩,⟨true,g1,1,true,(rowI v1),true⟩,⟨true,g2,1,true,(rowI v2),true⟩]⟩
def Qbe (E:Env) (b:Int) (f:Fld) (v2:List Int) (i:Nat) (v1:List Int):Prop:=∀ g2 g1:Nat,G Try.prog E (qo Try.prog) (Qbd b f v2 i v1 g2 g1)
def f166K1 (P:Program):List Item:=kAt 400 [.code (Qd P 166)] [.b false,.stop]
def f166S1 (b:Int) (f:Fld) (queue:Nat) (v1:List Int) (v2:List Int) (g1:Nat) (g2:Nat):St:=⟨([.rptr [.int .i64 f.g.w,.int .i64 f.g.h,.rsl (rowI f.g.cells) 0 f.g.cells.length,.rsl (rowI f.g.hts) 0 f.g.hts.length,.rsl (Qc f.ps) 0 f.ps.length,.rsl (Qb f.ss) 0 f.ss.length,.rsl (rowI f.tk) 0 f.tk.length] 0,.int .i64 b,J,J,J,.sl 1 g1 0 v1.length 1,.sl 2 g2 (queue*1) (v2.length - queue) 1]++Js 84),[⟨false,1,1,true,[],false⟩,⟨true,g1,1,true,(rowI v1),true⟩,⟨true,g2,1,true,(rowI v2),true⟩]⟩
def f166G1 (E:Env) (b:Int) (f:Fld) (queue:Nat) (v1:List Int) (v2:List Int):Prop:=∀ g1 g2:Nat,G Try.prog E (f166K1 Try.prog) (f166S1 b f queue v1 v2 g1 g2)
def Wc (P:Program):List Item:=kAt 400 [.code (Qd P 166)] [.b false,.b true,.stop]
def KU (b:Int) (f:Fld) (queue:Nat) (j:(List Int)) (j1:Nat) (v1:List Int) (v2:List Int) (j11:Nat) (g1:Nat) (g2:Nat):St:=⟨([.rptr [.int .i64 f.g.w,.int .i64 f.g.h,.rsl (rowI f.g.cells) 0 f.g.cells.length,.rsl (rowI f.g.hts) 0 f.g.hts.length,.rsl (Qc f.ps) 0 f.ps.length,.rsl (Qb f.ss) 0 f.ss.length,.rsl (rowI f.tk) 0 f.tk.length] 0,.int .i64 b,J,J,J,.sl 1 g1 0 v1.length 1,.sl 2 g2 (queue*1) (v2.length - queue) 1]++jj 47 ([.rsl (rowI j) 0 j.length,.int .i64 (j1:Int),.int .i64 (j11:Int)]++Js 34)),[⟨false,1,1,true,[],false⟩,⟨true,g1,1,true,(rowI v1),true⟩,⟨true,g2,1,true,(rowI v2),true⟩]⟩
def KV (E:Env) (b:Int) (f:Fld) (queue:Nat) (j:(List Int)) (j1:Nat) (v1:List Int) (v2:List Int) (j11:Nat):Prop:=∀ g1 g2:Nat,G Try.prog E (Wc Try.prog) (KU b f queue j j1 v1 v2 j11 g1 g2)
abbrev Vg (f:Fld):List AV:=[.int .i64 f.g.w,.int .i64 f.g.h,.rsl (rowI f.g.cells) 0 f.g.cells.length,.rsl (rowI f.g.hts) 0 f.g.hts.length,.rsl (Qc f.ps) 0 f.ps.length,.rsl (Qb f.ss) 0 f.ss.length,.rsl (rowI f.tk) 0 f.tk.length]
abbrev Qav (g1:Nat) (v1:List Int) (g2:Nat) (v2:List Int):List Blk:=[⟨false,1,1,true,[],false⟩,⟨true,g1,1,true,(rowI v1),true⟩,⟨true,g2,1,true,(rowI v2),true⟩]
abbrev z166_3 (f:Fld) (b:Int) (g1:Nat) (v1:List Int) (g2:Nat) (queue:Nat) (v2:List Int) (j:(List Int)) (j1:Nat) (j11:Nat):List AV:=[.rptr (Vg f) 0,.int .i64 b,J,J,J,.sl 1 g1 0 v1.length 1,.sl 2 g2 (queue*1) (v2.length - queue) 1]++jj 47 ([.rsl (rowI j) 0 j.length,.int .i64 (j1:Int),.int .i64 ((j11:Int)+1)]++Js 34)
abbrev z166_4 (f:Fld) (i:Nat):List AV:=[.rsl (rowI f.g.cells) 0 f.g.cells.length,.int .i64 (f.g.cells.length:Int),.int .i64 ((i:Int)+1)]++Js 65
theorem p166_start_0 (b:Int) (f:Fld) {E:Env} {rv:AV} (hE:Qh Try.prog 166 rv E) (ho:AllP [(∀ k,slOf 0 k (.sl k 0 0 1 1)=true),QO Try.prog (.clos 55 [] []) [.rsl [.int .i64 (-1)] 0 1,.int .i64 (f.g.cells.length:Int)] [] (.sl 0 0 0 ((List.replicate (Int.toNat ((f.g.cells.length:Int):Int)) ((-1):Int)).length) 1) [⟨true,0,1,true,(rowI (List.replicate (Int.toNat ((f.g.cells.length:Int):Int)) ((-1):Int))),true⟩]])
 (hg:G Try.prog E (qo Try.prog) ⟨([.rptr (Vg f) 0,.int .i64 b,J,J,J,.sl 1 0 0 ((List.replicate (Int.toNat ((f.g.cells.length:Int):Int)) ((-1):Int)).length) 1,.sl 2 0 0 0 1]++jj 16 ([.rsl (rowI f.g.cells) 0 f.g.cells.length,.int .i64 (f.g.cells.length:Int),.int .i64 0]++Js 65)),[⟨false,1,1,true,[],false⟩,⟨true,0,1,true,(rowI (List.replicate (Int.toNat ((f.g.cells.length:Int):Int)) ((-1):Int))),true⟩,⟨true,0,1,true,[],true⟩]⟩):G Try.prog E [.code (Qd Try.prog 166)] ⟨[.rptr (Vg f) 0,.int .i64 b]++unds (Try.f166.ntmps - 2),[]⟩ :=
 Qe (n:=400) (ds:=[(6,1)]) (cs:=[]) (live:=[0,1,5,6,23,24,25]) (m:=3) (evs:=[.vn .junk,.lent [] (.sl 0 0 0 ((List.replicate (Int.toNat ((f.g.cells.length:Int):Int)) ((-1):Int)).length) 1) [⟨true,0,1,true,(rowI (List.replicate (Int.toNat ((f.g.cells.length:Int):Int)) ((-1):Int))),true⟩],.stop]) (obs:=_) hE.2.1 (hE.nogh _) Qg (by kernel_rfl) ho hg
theorem f166W (b:Int) (f:Fld) {E:Env} {rv:(List Int)} (hE:Qh Try.prog 166 (.rsl (rowI rv) 0 rv.length) E)
 (h:(((1:Int)≤((f.g.cells.length:Int):Int)∧((f.g.cells.length:Int):Int)≤2147483648)∧Qbe E b f ([]) 0 (List.replicate (Int.toNat ((f.g.cells.length:Int):Int)) ((-1):Int)))):G Try.prog E [.code (Qd Try.prog 166)] ⟨[.rptr [.int .i64 f.g.w,.int .i64 f.g.h,.rsl (rowI f.g.cells) 0 f.g.cells.length,.rsl (rowI f.g.hts) 0 f.g.hts.length,.rsl (Qc f.ps) 0 f.ps.length,.rsl (Qb f.ss) 0 f.ss.length,.rsl (rowI f.tk) 0 f.tk.length] 0,.int .i64 b]++unds (Try.f166.ntmps - 2),[]⟩:=by
 obtain ⟨h1,h⟩:=h
 exact p166_start_0 b f hE ⟨(fun k=>by simp [slOf]),(Qt Try.func55 (by kernel_rfl) f55b (VP ((-1):Int) ((f.g.cells.length:Int):Int) h1)),trivial⟩ (h 0 0)
theorem p166_0_0 (b:Int) (f:Fld) (v2:List Int) (i:Nat) (v1:List Int) (g2:Nat) (g1:Nat) (e:Int) (e1:Int) {E:Env} {rv:AV} (hE:Qh Try.prog 166 rv E) (ho:AllP [(decide ((i:Int)<(f.g.cells.length:Int)))=true,0≤(i:Int)∧(i:Int)<(f.g.cells.length:Int),((rowI f.g.cells).drop (0+(Int.toNat (i:Int))*1)).take 1=[.int .i64 e],(e == 3)=true,((i:Int) != b)=true,0≤(i:Int)∧(i:Int)<(v1.length:Int),g1=g1,((0+(Int.toNat (i:Int))*1)+1)≤(rowI v1).length,g1=g1,g2=g2,(0+(v2.length*1))=(rowI v2).length,(v2.length+1)≤2147483648,0=0,InR .i64 ((i:Int)+1)])
 (hg:G Try.prog E (qo Try.prog) ⟨([.rptr (Vg f) 0,.int .i64 b,J,J,J,.sl 1 g1 0 v1.length 1,.sl 2 (g2+1) 0 (v2.length+1) 1]++jj 16 (z166_4 f i)),[⟨false,1,1,true,[],false⟩,⟨true,g1,1,true,(Qu (rowI v1) (0+(Int.toNat (i:Int))*1) [.int .i64 0]),true⟩,⟨true,(g2+1),1,true,((rowI v2)++[.int .i64 (i:Int)]),true⟩]⟩):G Try.prog E (qo Try.prog) (Qbd b f v2 i v1 g2 g1) :=
 Qe (n:=400) (ds:=[]) (cs:=[]) (live:=[0,1,5,6,23,24,25]) (m:=3) (evs:=[.b true,.ld (.int .i64 e),.b true,.b true,.stop]) (obs:=_) hE.2.1 (hE.nogh _) Qg (by kernel_rfl) ho hg
theorem p166_0_1 (b:Int) (f:Fld) (v2:List Int) (i:Nat) (v1:List Int) (g2:Nat) (g1:Nat) (e:Int) {E:Env} {rv:AV} (hE:Qh Try.prog 166 rv E) (ho:AllP [(decide ((i:Int)<(f.g.cells.length:Int)))=true,0≤(i:Int)∧(i:Int)<(f.g.cells.length:Int),((rowI f.g.cells).drop (0+(Int.toNat (i:Int))*1)).take 1=[.int .i64 e],(e == 3)=true,((i:Int) != b)=false,InR .i64 ((i:Int)+1)])
 (hg:G Try.prog E (qo Try.prog) ⟨([.rptr (Vg f) 0,.int .i64 b,J,J,J,.sl 1 g1 0 v1.length 1,.sl 2 g2 0 v2.length 1]++jj 16 (z166_4 f i)),(Qav g1 v1 g2 v2)⟩):G Try.prog E (qo Try.prog) (Qbd b f v2 i v1 g2 g1) :=
 Qe (n:=400) (ds:=[]) (cs:=[]) (live:=[0,1,5,6,23,24,25]) (m:=3) (evs:=[.b true,.ld (.int .i64 e),.b true,.b false,.stop]) (obs:=_) hE.2.1 (hE.nogh _) Qg (by kernel_rfl) ho hg
theorem p166_0_2 (b:Int) (f:Fld) (v2:List Int) (i:Nat) (v1:List Int) (g2:Nat) (g1:Nat) (e:Int) {E:Env} {rv:AV} (hE:Qh Try.prog 166 rv E) (ho:AllP [(decide ((i:Int)<(f.g.cells.length:Int)))=true,0≤(i:Int)∧(i:Int)<(f.g.cells.length:Int),((rowI f.g.cells).drop (0+(Int.toNat (i:Int))*1)).take 1=[.int .i64 e],(e == 3)=false,false=false,InR .i64 ((i:Int)+1)])
 (hg:G Try.prog E (qo Try.prog) ⟨([.rptr (Vg f) 0,.int .i64 b,J,J,J,.sl 1 g1 0 v1.length 1,.sl 2 g2 0 v2.length 1]++jj 16 (z166_4 f i)),(Qav g1 v1 g2 v2)⟩):G Try.prog E (qo Try.prog) (Qbd b f v2 i v1 g2 g1) :=
 Qe (n:=400) (ds:=[]) (cs:=[]) (live:=[0,1,5,6,23,24,25]) (m:=3) (evs:=[.b true,.ld (.int .i64 e),.b false,.b false,.stop]) (obs:=_) hE.2.1 (hE.nogh _) Qg (by kernel_rfl) ho hg
theorem p166_0_3 (b:Int) (f:Fld) (v2:List Int) (i:Nat) (v1:List Int) (g2:Nat) (g1:Nat) {E:Env} {rv:AV} (hE:Qh Try.prog 166 rv E) (ho:AllP [(decide ((i:Int)<(f.g.cells.length:Int)))=false])
 (hg:G Try.prog E (f166K1 Try.prog) ⟨([.rptr [.int .i64 f.g.w,.int .i64 f.g.h,.rsl (rowI f.g.cells) 0 f.g.cells.length,.rsl (rowI f.g.hts) 0 f.g.hts.length,.rsl (Qc f.ps) 0 f.ps.length,.rsl (Qb f.ss) 0 f.ss.length,.rsl (rowI f.tk) 0 f.tk.length] 0,.int .i64 b,J,J,J,.sl 1 g1 0 v1.length 1,.sl 2 g2 0 v2.length 1]++Js 84),[⟨false,1,1,true,[],false⟩,⟨true,g1,1,true,(rowI v1),true⟩,⟨true,g2,1,true,(rowI v2),true⟩]⟩):G Try.prog E (qo Try.prog) (Qbd b f v2 i v1 g2 g1) :=
 Qe (n:=400) (ds:=[]) (cs:=[]) (live:=[0,1,5,6]) (m:=3) (evs:=[.b false,.stop]) (obs:=_) hE.2.1 (hE.nogh _) Qg (by kernel_rfl) ho hg
theorem f166W0 (b:Int) (f:Fld) (v2:List Int) (i:Nat) (v1:List Int) {E:Env} {rv:(List Int)} (hE:Qh Try.prog 166 (.rsl (rowI rv) 0 rv.length) E)
 (h:(((i:Int)<(f.g.cells.length:Int)→(∃ e:Int,f.g.cells[i]?=some e∧((e=3→((¬ ((i:Int)=b)→(∃ e1:Int,v1[i]?=some e1∧((v2.length+1)≤2147483648∧((I6 ((i:Int)+1))∧Qbe E b f (v2++[(i:Int)]) (i+1) (v1.set i 0)))))∧((i:Int)=b→((I6 ((i:Int)+1))∧Qbe E b f v2 (i+1) v1))))∧(¬ (e=3)→((I6 ((i:Int)+1))∧Qbe E b f v2 (i+1) v1)))))∧(¬ ((i:Int)<(f.g.cells.length:Int))→f166G1 E b f 0 v1 v2))):Qbe E b f v2 i v1:=by
 intro g2 g1
 rcases bft (decide ((i:Int)<(f.g.cells.length:Int))) with hc0 | hc0
 · have h:=h.1 (odt hc0)
   obtain ⟨e,h1,h⟩:=h
   rcases bft (e == 3) with hc1 | hc1
   · have h:=h.1 (eq_of_beq hc1)
     rcases bft ((i:Int) != b) with hc2 | hc2
     · have h:=h.1 (bneT hc2)
       obtain ⟨e1,h2,h⟩:=h
       obtain ⟨h3,h⟩:=h
       obtain ⟨q15_3,h⟩:=h
       refine p166_0_0 b f v2 i v1 g2 g1 e e1 hE ⟨hc0,(Qs h1),(rp cI 1 0 1 h1),hc1,hc2,(Qs h2),rfl,(rf cI 1 0 1 h2),rfl,rfl,(by have hx:=QC cI (s:=1) (fun _=>rfl) v2; simp only [rowI] at hx ⊢; rw [hx]; simp),h3,rfl,q15_3,trivial⟩ ?_
       have h:=(h (g2+1) g1)
       simp only [Qbd,List.length_set] at h
       rw [(show rowI v2++[.int .i64 (i:Int)]=rowI (v2++[(i:Int)]) from (XD cI v2 [(i:Int)]).symm)]; (try rw [(show (v2.length+1)=(v2++[(i:Int)]).length from by simp)]); rw [(show Qu (rowI v1) (0+(Int.toNat (i:Int))*1) [.int .i64 0]=rowI (v1.set i 0) from Qz cI (s:=1) (k:=0) (fun _=>rfl) h2 rfl (by first | decide | simp))]
       exact h
     · have h:=h.2 (bneF hc2)
       obtain ⟨q6_3,h⟩:=h
       exact p166_0_1 b f v2 i v1 g2 g1 e hE ⟨hc0,(Qs h1),(rp cI 1 0 1 h1),hc1,hc2,q6_3,trivial⟩ (h g2 g1)
   · have h:=h.2 (ne_of_beq_false hc1)
     obtain ⟨q6_2,h⟩:=h
     exact p166_0_2 b f v2 i v1 g2 g1 e hE ⟨hc0,(Qs h1),(rp cI 1 0 1 h1),hc1,rfl,q6_2,trivial⟩ (h g2 g1)
 · have h:=h.2 (odf hc0)
   refine p166_0_3 b f v2 i v1 g2 g1 hE ⟨hc0,trivial⟩ ?_
   rw [(show AV.sl 2 g2 0 v2.length 1=AV.sl 2 g2 (0*1) (v2.length - 0) 1 from sl_eq (by omega) (by first | rfl | omega | (simp; done) | (simp; omega)))]; exact (h g1 g2)
theorem p166_1_0 (b:Int) (f:Fld) (queue:Nat) (v1:List Int) (v2:List Int) (g1:Nat) (g2:Nat) (e:Int) {E:Env} {rv:AV} (hE:Qh Try.prog 166 rv E) (ho:AllP [g2=g2,(decide ((((v2.length - queue):Nat):Int) > 0))=true,(0:Int)≤0∧(0:Int)<(((v2.length - queue):Nat):Int),g2=g2,g2=g2,((rowI v2).drop ((queue*1)+0*1)).take 1=[.int .i64 e],Qi Try.prog (.clos 57 [] []) [.rptr (Vg f) 0,.int .i64 e] (.rsl (rowI (Ql f.g e)) 0 ((Ql f.g e).length))])
 (hg:G Try.prog E (Wc Try.prog) ⟨([.rptr (Vg f) 0,.int .i64 b,J,J,J,.sl 1 g1 0 v1.length 1,.sl 2 g2 (queue*1) (v2.length - queue) 1]++jj 47 ([.rsl (rowI (Ql f.g e)) 0 ((Ql f.g e).length),.int .i64 (((Ql f.g e).length:Nat):Int),.int .i64 0]++Js 34)),(Qav g1 v1 g2 v2)⟩):G Try.prog E (f166K1 Try.prog) (f166S1 b f queue v1 v2 g1 g2) :=
 Qe (n:=400) (ds:=[]) (cs:=[]) (live:=[0,1,5,6,54,55,56]) (m:=3) (evs:=[.b true,.ld (.int .i64 e),.v (.rsl (rowI (Ql f.g e)) 0 ((Ql f.g e).length)),.stop]) (obs:=_) hE.2.1 (hE.nogh _) Qg (by kernel_rfl) ho hg
theorem p166_1_1 (b:Int) (f:Fld) (queue:Nat) (v1:List Int) (v2:List Int) (g1:Nat) (g2:Nat) {E:Env} {res:AV} (hE:Qh Try.prog 166 res E) (ho:AllP [g2=g2,(decide ((((v2.length - queue):Nat):Int) > 0))=false,g1=g1])
 (hr:AvLe (.rsl (rowI v1) 0 v1.length) res):G Try.prog E (f166K1 Try.prog) (f166S1 b f queue v1 v2 g1 g2) :=
 Qf (n:=400) (evs:=[.b false]) (obs:=_) hE Try.func166 Qg (by kernel_rfl) ho hr
theorem f166W1 (b:Int) (f:Fld) (queue:Nat) (v1:List Int) (v2:List Int) {E:Env} {rv:(List Int)} (hE:Qh Try.prog 166 (.rsl (rowI rv) 0 rv.length) E)
 (h:(((((v2.length - queue):Nat):Int) > 0→(∃ e:Int,v2[queue]?=some e∧((OnF f e)∧KV E b f queue (Ql f.g e) ((Ql f.g e).length) v1 v2 0)))∧(¬ ((((v2.length - queue):Nat):Int) > 0)→rv=v1))):f166G1 E b f queue v1 v2:=by
 intro g1 g2
 rcases bft (decide ((((v2.length - queue):Nat):Int) > 0)) with hc0 | hc0
 · have h:=h.1 (odt hc0)
   obtain ⟨e,h1,h⟩:=h
   obtain ⟨h2,h⟩:=h
   exact p166_1_0 b f queue v1 v2 g1 g2 e hE ⟨rfl,hc0,(qI h1 rfl),rfl,rfl,(qC cI (s:=1) (fun _=>rfl) h1),(Qk Try.func57 (by kernel_rfl) f57qb (Wu f e h2)),trivial⟩ (h g1 g2)
 · have h:=h.2 (odf hc0)
   exact p166_1_1 b f queue v1 v2 g1 g2 hE ⟨rfl,hc0,rfl,trivial⟩ (AvLe.of_eq (by rw [h]; try rfl))
theorem p166_2_0 (b:Int) (f:Fld) (queue:Nat) (j:(List Int)) (j1:Nat) (v1:List Int) (v2:List Int) (j11:Nat) (g1:Nat) (g2:Nat) (e:Int) (e1:Int) (e2:Int) (e3:Int) {E:Env} {rv:AV} (hE:Qh Try.prog 166 rv E) (ho:AllP [(decide ((j11:Int)<(j1:Int)))=true,0≤(j11:Int)∧(j11:Int)<(j.length:Int),((rowI j).drop (0+(Int.toNat (j11:Int))*1)).take 1=[.int .i64 e],Qi Try.prog (.clos 54 [] []) [.rptr (Vg f) 0,.int .i64 e] (.bool (QF f e)),(QF f e)=true,(e != b)=true,0≤e∧e<(v1.length:Int),g1=g1,g1=g1,((rowI v1).drop (0+(Int.toNat e)*1)).take 1=[.int .i64 e1],(decide (e1<0))=true,(0:Int)≤0∧(0:Int)<(((v2.length - queue):Nat):Int),g2=g2,g2=g2,((rowI v2).drop ((queue*1)+0*1)).take 1=[.int .i64 e2],0≤e2∧e2<(v1.length:Int),g1=g1,g1=g1,((rowI v1).drop (0+(Int.toNat e2)*1)).take 1=[.int .i64 e3],InR .i64 (e3+1),0≤e∧e<(v1.length:Int),g1=g1,((0+(Int.toNat e)*1)+1)≤(rowI v1).length,g1=g1,g2=g2,((queue*1)+((v2.length - queue)*1))=(rowI v2).length,((v2.length - queue)+1)≤2147483648,0=0,InR .i64 ((j11:Int)+1)])
 (hg:G Try.prog E (Wc Try.prog) ⟨([.rptr (Vg f) 0,.int .i64 b,J,J,J,.sl 1 g1 0 v1.length 1,.sl 2 (g2+1) 0 ((v2.length - queue)+1) 1]++jj 47 ([.rsl (rowI j) 0 j.length,.int .i64 (j1:Int),.int .i64 ((j11:Int)+1)]++Js 34)),[⟨false,1,1,true,[],false⟩,⟨true,g1,1,true,(Qu (rowI v1) (0+(Int.toNat e)*1) [.int .i64 (e3+1)]),true⟩,⟨true,(g2+1),1,true,(((rowI v2).drop (queue*1))++[.int .i64 e]),true⟩]⟩):G Try.prog E (Wc Try.prog) (KU b f queue j j1 v1 v2 j11 g1 g2) :=
 Qe (n:=400) (ds:=[]) (cs:=[]) (live:=[0,1,5,6,54,55,56]) (m:=3) (evs:=[.b true,.ld (.int .i64 e),.v (.bool (QF f e)),.b true,.b true,.ld (.int .i64 e1),.b true,.ld (.int .i64 e2),.ld (.int .i64 e3),.stop]) (obs:=_) hE.2.1 (hE.nogh _) Qg (by kernel_rfl) ho hg
theorem p166_2_1 (b:Int) (f:Fld) (queue:Nat) (j:(List Int)) (j1:Nat) (v1:List Int) (v2:List Int) (j11:Nat) (g1:Nat) (g2:Nat) (e:Int) (e1:Int) {E:Env} {rv:AV} (hE:Qh Try.prog 166 rv E) (ho:AllP [(decide ((j11:Int)<(j1:Int)))=true,0≤(j11:Int)∧(j11:Int)<(j.length:Int),((rowI j).drop (0+(Int.toNat (j11:Int))*1)).take 1=[.int .i64 e],Qi Try.prog (.clos 54 [] []) [.rptr (Vg f) 0,.int .i64 e] (.bool (QF f e)),(QF f e)=true,(e != b)=true,0≤e∧e<(v1.length:Int),g1=g1,g1=g1,((rowI v1).drop (0+(Int.toNat e)*1)).take 1=[.int .i64 e1],(decide (e1<0))=false,InR .i64 ((j11:Int)+1)])
 (hg:G Try.prog E (Wc Try.prog) ⟨(z166_3 f b g1 v1 g2 queue v2 j j1 j11),(Qav g1 v1 g2 v2)⟩):G Try.prog E (Wc Try.prog) (KU b f queue j j1 v1 v2 j11 g1 g2) :=
 Qe (n:=400) (ds:=[]) (cs:=[]) (live:=[0,1,5,6,54,55,56]) (m:=3) (evs:=[.b true,.ld (.int .i64 e),.v (.bool (QF f e)),.b true,.b true,.ld (.int .i64 e1),.b false,.stop]) (obs:=_) hE.2.1 (hE.nogh _) Qg (by kernel_rfl) ho hg
theorem p166_2_2 (b:Int) (f:Fld) (queue:Nat) (j:(List Int)) (j1:Nat) (v1:List Int) (v2:List Int) (j11:Nat) (g1:Nat) (g2:Nat) (e:Int) {E:Env} {rv:AV} (hE:Qh Try.prog 166 rv E) (ho:AllP [(decide ((j11:Int)<(j1:Int)))=true,0≤(j11:Int)∧(j11:Int)<(j.length:Int),((rowI j).drop (0+(Int.toNat (j11:Int))*1)).take 1=[.int .i64 e],Qi Try.prog (.clos 54 [] []) [.rptr (Vg f) 0,.int .i64 e] (.bool (QF f e)),(QF f e)=true,(e != b)=false,false=false,InR .i64 ((j11:Int)+1)])
 (hg:G Try.prog E (Wc Try.prog) ⟨(z166_3 f b g1 v1 g2 queue v2 j j1 j11),(Qav g1 v1 g2 v2)⟩):G Try.prog E (Wc Try.prog) (KU b f queue j j1 v1 v2 j11 g1 g2) :=
 Qe (n:=400) (ds:=[]) (cs:=[]) (live:=[0,1,5,6,54,55,56]) (m:=3) (evs:=[.b true,.ld (.int .i64 e),.v (.bool (QF f e)),.b true,.b false,.b false,.stop]) (obs:=_) hE.2.1 (hE.nogh _) Qg (by kernel_rfl) ho hg
theorem p166_2_3 (b:Int) (f:Fld) (queue:Nat) (j:(List Int)) (j1:Nat) (v1:List Int) (v2:List Int) (j11:Nat) (g1:Nat) (g2:Nat) (e:Int) {E:Env} {rv:AV} (hE:Qh Try.prog 166 rv E) (ho:AllP [(decide ((j11:Int)<(j1:Int)))=true,0≤(j11:Int)∧(j11:Int)<(j.length:Int),((rowI j).drop (0+(Int.toNat (j11:Int))*1)).take 1=[.int .i64 e],Qi Try.prog (.clos 54 [] []) [.rptr (Vg f) 0,.int .i64 e] (.bool (QF f e)),(QF f e)=false,false=false,false=false,InR .i64 ((j11:Int)+1)])
 (hg:G Try.prog E (Wc Try.prog) ⟨(z166_3 f b g1 v1 g2 queue v2 j j1 j11),(Qav g1 v1 g2 v2)⟩):G Try.prog E (Wc Try.prog) (KU b f queue j j1 v1 v2 j11 g1 g2) :=
 Qe (n:=400) (ds:=[]) (cs:=[]) (live:=[0,1,5,6,54,55,56]) (m:=3) (evs:=[.b true,.ld (.int .i64 e),.v (.bool (QF f e)),.b false,.b false,.b false,.stop]) (obs:=_) hE.2.1 (hE.nogh _) Qg (by kernel_rfl) ho hg
theorem p166_2_4 (b:Int) (f:Fld) (queue:Nat) (j:(List Int)) (j1:Nat) (v1:List Int) (v2:List Int) (j11:Nat) (g1:Nat) (g2:Nat) {E:Env} {rv:AV} (hE:Qh Try.prog 166 rv E) (ho:AllP [(decide ((j11:Int)<(j1:Int)))=false,1≤(v2.length - queue),(v2.length - queue)≤(v2.length - queue),(0:Int)≤1,g2=g2])
 (hg:G Try.prog E (f166K1 Try.prog) ⟨([.rptr [.int .i64 f.g.w,.int .i64 f.g.h,.rsl (rowI f.g.cells) 0 f.g.cells.length,.rsl (rowI f.g.hts) 0 f.g.hts.length,.rsl (Qc f.ps) 0 f.ps.length,.rsl (Qb f.ss) 0 f.ss.length,.rsl (rowI f.tk) 0 f.tk.length] 0,.int .i64 b,J,J,J,.sl 1 g1 0 v1.length 1,.sl 2 g2 ((queue*1)+1) ((v2.length - queue) - 1) 1]++Js 84),[⟨false,1,1,true,[],false⟩,⟨true,g1,1,true,(rowI v1),true⟩,⟨true,g2,1,true,(rowI v2),true⟩]⟩):G Try.prog E (Wc Try.prog) (KU b f queue j j1 v1 v2 j11 g1 g2) :=
 Qe (n:=400) (ds:=[]) (cs:=[]) (live:=[0,1,5,6]) (m:=3) (evs:=[.b false,.stop]) (obs:=_) hE.2.1 (hE.nogh _) Qg (by kernel_rfl) ho hg
theorem f166W2 (b:Int) (f:Fld) (queue:Nat) (j:(List Int)) (j1:Nat) (v1:List Int) (v2:List Int) (j11:Nat) {E:Env} {rv:(List Int)} (hE:Qh Try.prog 166 (.rsl (rowI rv) 0 rv.length) E)
 (h:(((j11:Int)<(j1:Int)→(∃ e:Int,j[j11]?=some e∧((OnF f e)∧(((QF f e)=true→((¬ (e=b)→(0≤e∧(∃ e1:Int,v1[Int.toNat e]?=some e1∧((e1<0→(∃ e2:Int,v2[queue]?=some e2∧(0≤e2∧(∃ e3:Int,v1[Int.toNat e2]?=some e3∧((I6 (e3+1))∧(queue≤v2.length∧(((v2.length - queue)+1)≤2147483648∧((I6 ((j11:Int)+1))∧KV E b f 0 j j1 (v1.set (Int.toNat e) (e3+1)) ((v2.drop queue)++[e]) (j11+1)))))))))∧(¬ (e1<0)→((I6 ((j11:Int)+1))∧KV E b f queue j j1 v1 v2 (j11+1)))))))∧(e=b→((I6 ((j11:Int)+1))∧KV E b f queue j j1 v1 v2 (j11+1)))))∧((QF f e)=false→((I6 ((j11:Int)+1))∧KV E b f queue j j1 v1 v2 (j11+1)))))))∧(¬ ((j11:Int)<(j1:Int))→(1≤(v2.length - queue)∧f166G1 E b f (queue+1) v1 v2)))):KV E b f queue j j1 v1 v2 j11:=by
 intro g1 g2
 rcases bft (decide ((j11:Int)<(j1:Int))) with hc0 | hc0
 · have h:=h.1 (odt hc0)
   obtain ⟨e,h1,h⟩:=h
   obtain ⟨h2,h⟩:=h
   rcases bft (QF f e) with hc1 | hc1
   · have h:=h.1 hc1
     rcases bft (e != b) with hc2 | hc2
     · have h:=h.1 (bneT hc2)
       obtain ⟨h4,h⟩:=h
       obtain ⟨e1,h3,h⟩:=h
       rcases bft (decide (e1<0)) with hc3 | hc3
       · have h:=h.1 (odt hc3)
         obtain ⟨e2,h5,h⟩:=h
         obtain ⟨h7,h⟩:=h
         obtain ⟨e3,h6,h⟩:=h
         obtain ⟨q23_4,h⟩:=h
         obtain ⟨h8,h⟩:=h
         obtain ⟨h9,h⟩:=h
         obtain ⟨q32_4,h⟩:=h
         refine p166_2_0 b f queue j j1 v1 v2 j11 g1 g2 e e1 e2 e3 hE ⟨hc0,(Qs h1),(rp cI 1 0 1 h1),(Qk Try.func54 (by kernel_rfl) VI (Xp f e h2)),hc1,hc2,(Qj h4 h3),rfl,rfl,(rp cI 1 0 1 h3),hc3,(qI h5 rfl),rfl,rfl,(qC cI (s:=1) (fun _=>rfl) h5),(Qj h7 h6),rfl,rfl,(rp cI 1 0 1 h6),q23_4,(Qj h4 h3),rfl,(rf cI 1 0 1 h3),rfl,rfl,(by have hx:=QC cI (s:=1) (fun _=>rfl) v2; simp only [rowI] at hx ⊢; rw [hx]; omega),h9,rfl,q32_4,trivial⟩ ?_
         have h:=(h g1 (g2+1))
         simp only [KU,List.length_set] at h
         rw [(show AV.sl 2 (g2+1) 0 ((v2.length - queue)+1) 1=AV.sl 2 (g2+1) (0*1) (((v2.drop queue)++[e]).length - 0) 1 from sl_eq (by omega) (by first | rfl | omega | (simp; done) | (simp; omega)))]; rw [(show Qu (rowI v1) (0+(Int.toNat e)*1) [.int .i64 (e3+1)]=rowI (v1.set (Int.toNat e) (e3+1)) from Qz cI (s:=1) (k:=0) (fun _=>rfl) h3 rfl (by first | decide | simp))]; rw [(show (rowI v2).drop (queue*1)=rowI (v2.drop queue) from Ka cI (fun _=>rfl) v2 queue)]; rw [(show rowI (v2.drop queue)++[.int .i64 e]=rowI ((v2.drop queue)++[e]) from (XD cI (v2.drop queue) [e]).symm)]
         exact h
       · have h:=h.2 (odf hc3)
         obtain ⟨q13_4,h⟩:=h
         exact p166_2_1 b f queue j j1 v1 v2 j11 g1 g2 e e1 hE ⟨hc0,(Qs h1),(rp cI 1 0 1 h1),(Qk Try.func54 (by kernel_rfl) VI (Xp f e h2)),hc1,hc2,(Qj h4 h3),rfl,rfl,(rp cI 1 0 1 h3),hc3,q13_4,trivial⟩ (h g1 g2)
     · have h:=h.2 (bneF hc2)
       obtain ⟨q8_3,h⟩:=h
       exact p166_2_2 b f queue j j1 v1 v2 j11 g1 g2 e hE ⟨hc0,(Qs h1),(rp cI 1 0 1 h1),(Qk Try.func54 (by kernel_rfl) VI (Xp f e h2)),hc1,hc2,rfl,q8_3,trivial⟩ (h g1 g2)
   · have h:=h.2 hc1
     obtain ⟨q8_2,h⟩:=h
     exact p166_2_3 b f queue j j1 v1 v2 j11 g1 g2 e hE ⟨hc0,(Qs h1),(rp cI 1 0 1 h1),(Qk Try.func54 (by kernel_rfl) VI (Xp f e h2)),hc1,rfl,rfl,q8_2,trivial⟩ (h g1 g2)
 · have h:=h.2 (odf hc0)
   obtain ⟨q1_1,h⟩:=h
   refine p166_2_4 b f queue j j1 v1 v2 j11 g1 g2 hE ⟨hc0,q1_1,(Nat.le_refl _),(by decide),rfl,trivial⟩ ?_
   rw [(show AV.sl 2 g2 ((queue*1)+1) ((v2.length - queue) - 1) 1=AV.sl 2 g2 ((queue+1)*1) (v2.length - (queue+1)) 1 from sl_eq (by omega) (by first | rfl | omega | (simp; done) | (simp; omega)))]; exact (h g1 g2)
end Go.Proofs.Ytemklbioijmjiaa
namespace Go.Proofs.Ytemklbioijmjiaa
open Go Ax
open Go.Proofs
theorem Km:∀ (n:Nat) {l:List Nat},l.Nodup→(∀ s ∈ l,s<n)→l.length≤n
 | 0,l,_,h=>by
  cases l with
  | nil=>simp
  | cons a l=>exact absurd (h a List.mem_cons_self) (by omega)
 | n+1,l,hd,h=>by
  by_cases hm:n ∈ l
  · have h1:=Km n (l:=l.erase n) (hd.erase n) (fun s hs=>by
     have:=h s (List.mem_of_mem_erase hs)
     have:s ≠ n:=fun e=>by subst e; exact (List.Nodup.not_mem_erase hd) hs
     omega)
    rw [List.length_erase_of_mem hm] at h1; omega
  · have:=Km n (l:=l) hd (fun s hs=>by
     have:=h s hs
     have:s ≠ n:=fun e=>by subst e; exact hm hs
     omega)
    omega
theorem nodup_leI {n:Nat} {l:List Int} (hd:l.Nodup) (h:∀ s ∈ l,0≤s∧s<(n:Int)):l.length≤n:=by
 have:(l.map Int.toNat).Nodup:=by
  rw [List.Nodup,List.pairwise_map]
  refine List.Pairwise.imp_of_mem (fun {a b} ha hb hab e=>hab ?_) hd
  have:=h a ha; have:=h b hb; omega
 have:=Km n this (fun s hs=>by
  obtain ⟨a,ha,rfl⟩:=List.mem_map.1 hs
  have:=h a ha; omega)
 simpa using this
theorem Qaf {g:Gd} {c k:Int} (h:OnG g c) (hk:k ∈ Ql g c):c ∈ Ql g k:=by
 have hK:=Vr h hk
 have p:=Qck h.ok
 obtain ⟨d1,d2,d3,d4,d5⟩:=h.dims
 obtain ⟨e1,e2,e3,e4,e5⟩:=hK.dims
 have h3:=p.w1
 have uq:∀ {y y' x x':Int},0≤x→x<g.w→0≤x'→x'<g.w→g.w*y+x=g.w*y'+x'→y=y'∧x=x':=by
  intro y y' x x' a1 a2 a3 a4 a5
  have:y=y':=by
   rcases Int.lt_trichotomy y y' with q | q | q
   · exfalso
     have:=Int.mul_le_mul_of_nonneg_left (show y+1≤y' by omega) (show 0≤g.w by omega)
     rw [Int.mul_add,Int.mul_one] at this; omega
   · exact q
   · exfalso
     have:=Int.mul_le_mul_of_nonneg_left (show y'+1≤y by omega) (show 0≤g.w by omega)
     rw [Int.mul_add,Int.mul_one] at this; omega
  subst this
  exact ⟨rfl,by omega⟩
 simp only [Ql,List.mem_append] at hk ⊢
 rcases hk with ((hk | hk) | hk) | hk <;> split at hk <;> simp only [List.mem_singleton,List.not_mem_nil] at hk
 · rename_i q
   have e:=uq (y:=Int.tdiv k g.w) (y':=Int.tdiv c g.w - 1) (x:=Int.tmod k g.w) (x':=Int.tmod c g.w) e3 e4 d3 d4 (by rw [Int.mul_sub,Int.mul_one]; omega)
   right
   rw [if_pos (by omega)]; simp only [List.mem_singleton]; omega
 · rename_i q
   have e:=uq (y:=Int.tdiv k g.w) (y':=Int.tdiv c g.w) (x:=Int.tmod k g.w) (x':=Int.tmod c g.w - 1) e3 e4 (by omega) (by omega) (by omega)
   left; right
   rw [if_pos (by omega)]; simp only [List.mem_singleton]; omega
 · rename_i q
   have e:=uq (y:=Int.tdiv k g.w) (y':=Int.tdiv c g.w) (x:=Int.tmod k g.w) (x':=Int.tmod c g.w+1) e3 e4 (by omega) (by omega) (by omega)
   left; left; right
   rw [if_pos (by omega)]; simp only [List.mem_singleton]; omega
 · rename_i q
   have e:=uq (y:=Int.tdiv k g.w) (y':=Int.tdiv c g.w+1) (x:=Int.tmod k g.w) (x':=Int.tmod c g.w) e3 e4 d3 d4 (by rw [Int.mul_add,Int.mul_one]; omega)
   left; left; left
   rw [if_pos (by omega)]; simp only [List.mem_singleton]; omega
/-! ### the search -/
def atI (l:List Int) (c:Int):Int:=l.getD c.toNat 0
theorem Yc {l:List Int} {c k v:Int} (hc:0≤c) (hk:0≤k) (hl:c<(l.length:Int)):atI (l.set c.toNat v) k=if c=k then v else atI l k:=by
 unfold atI
 rw [List.getD_eq_getElem?_getD,List.getD_eq_getElem?_getD,List.getElem?_set]
 by_cases e:c=k
 · subst e; rw [if_pos rfl,if_pos (by omega),if_pos rfl]; rfl
 · rw [if_neg (by omega),if_neg e]
theorem XE {l:List Int} {c:Int} (h0:0≤c) (h1:c<(l.length:Int)):l[c.toNat]?=some (atI l c):=XQ 0 (i:=c) ⟨h0,h1⟩
def VE (b:Int):List Int→Nat→List Int × List Int→List Int × List Int
 | [],_,s=>s
 | e :: l,i,s=>if e=3∧¬ (i:Int)=b then VE b l (i+1) (s.1.set i 0,s.2++[(i:Int)]) else VE b l (i+1) s
def QS (f:Fld) (b u:Int) (s:List Int × List Int) (c:Int):List Int × List Int :=
 if QF f c=true∧¬ c=b∧atI s.1 c<0 then (s.1.set c.toNat (atI s.1 u+1),s.2++[c]) else s
def Qcp (f:Fld) (b:Int):Nat→List Int→List Int→List Int
 | _,out,[]=>out
 | 0,out,_ :: _=>out
 | n+1,out,u :: q=>Qcp f b n ((Ql f.g u).foldl (QS f b u) (out,q)).1 ((Ql f.g u).foldl (QS f b u) (out,q)).2
def seedK (f:Fld) (b:Int):List Int × List Int:=VE b f.g.cells 0 (List.replicate f.g.cells.length (-1),[])
def farK (f:Fld) (b:Int):List Int:=Qcp f b f.g.cells.length (seedK f b).1 (seedK f b).2
structure FarI (f:Fld) (b:Int) (done q out:List Int):Prop where
 len:out.length=f.g.cells.length
 nd:(done++q).Nodup
 mem:∀ c ∈ done++q,OnF f c∧0≤atI out c∧atI out c<((done++q).length:Int)
 vis:∀ c,OnF f c→0≤atI out c→c ∈ done++q
 neg:∀ c,OnF f c→-1≤atI out c
 step:∀ c ∈ done++q,0<atI out c→∃ k ∈ Ql f.g c,atI out k=atI out c - 1
 cl:∀ u ∈ done,∀ c ∈ Ql f.g u,QF f c=true→¬ c=b→0≤atI out c
 gate:∀ c,OnF f c→Va f.g c=3→¬ c=b→0≤atI out c
theorem FarI.card {f:Fld} {b:Int} {done q out:List Int} (h:FarI f b done q out):(done++q).length≤f.g.cells.length:=nodup_leI h.nd fun s hs=>⟨(h.mem s hs).1.lo,(h.mem s hs).1.hi⟩
theorem QaQ {f:Fld} {b:Int} {done q out:List Int} {u c:Int} (h:FarI f b done (u :: q) out) (hc:c ∈ Ql f.g u) :
 FarI f b done (u :: (QS f b u (out,q) c).2) (QS f b u (out,q) c).1∧(QF f c=true→¬ c=b→0≤atI (QS f b u (out,q) c).1 c) ∧
  ∀ k,OnF f k→0≤atI out k→0≤atI (QS f b u (out,q) c).1 k:=by
 have hu:=h.mem u (by simp)
 have hC:OnF f c:=by have:=Vr hu.1.on hc; exact ⟨hu.1.ok,this.lo,this.hi⟩
 unfold QS
 split
 · rename_i p
   obtain ⟨p1,p2,p3⟩:=p
   have p3:atI out c<0:=p3
   have hl:c<(out.length:Int):=by rw [h.len]; exact hC.hi
   have hat:∀ k,OnF f k→atI (out.set c.toNat (atI out u+1)) k=if c=k then atI out u+1 else atI out k:=fun k hk=>Yc hC.lo hk.lo hl
   have hne:∀ k ∈ done++u :: q,c ≠ k:=fun k hk e=>by subst e; have:=(h.mem c hk).2.1; omega
   have hV:done++u :: (q++[c])=(done++u :: q)++[c]:=by simp
   have hb:∀ k,OnF f k→∀ j ∈ Ql f.g k,OnF f j:=fun k hk j hj=>by have:=Vr hk.on hj; exact ⟨hk.ok,this.lo,this.hi⟩
   have up:∀ k,OnF f k→0≤atI out k→0≤atI (out.set c.toNat (atI out u+1)) k:=fun k hk q=>by
    rw [hat k hk]; split
    · have:=hu.2.1; omega
    · exact q
   refine ⟨⟨by simpa using h.len,?_,?_,?_,?_,?_,?_,?_⟩,fun _ _=>?_,up⟩
   · show (done++u :: (q++[c])).Nodup
     rw [hV,List.nodup_append]
     exact ⟨h.nd,by simp,fun a ha b hb=>by rw [List.mem_singleton] at hb; rw [hb]; exact (hne a ha).symm⟩
   · show ∀ k ∈ done++u :: (q++[c]),_
     rw [hV]
     intro k hk
     rcases List.mem_append.1 hk with hk | hk
     · have m:=h.mem k hk
       rw [hat k m.1,if_neg (hne k hk)]
       refine ⟨m.1,m.2.1,?_⟩
       have:=m.2.2
       simp only [List.length_append,List.length_cons,List.length_nil] at this ⊢; omega
     · rw [List.mem_singleton] at hk; subst hk
       rw [hat k hC,if_pos rfl]
       refine ⟨hC,by omega,?_⟩
       have:=hu.2.2
       simp only [List.length_append,List.length_cons,List.length_nil] at this ⊢; omega
   · show ∀ k,OnF f k→0≤atI (out.set c.toNat (atI out u+1)) k→k ∈ done++u :: (q++[c])
     rw [hV]
     intro k hk q2
     rw [hat k hk] at q2
     by_cases e:c=k
     · subst e; simp
     · rw [if_neg e] at q2; exact List.mem_append_left _ (h.vis k hk q2)
   · show ∀ k,OnF f k→-1≤atI (out.set c.toNat (atI out u+1)) k
     intro k hk
     rw [hat k hk]; split
     · omega
     · exact h.neg k hk
   · show ∀ k ∈ done++u :: (q++[c]),0<atI (out.set c.toNat (atI out u+1)) k→_
     rw [hV]
     intro k hk q2
     rcases List.mem_append.1 hk with hk | hk
     · have m:=h.mem k hk
       rw [hat k m.1,if_neg (hne k hk)] at q2 ⊢
       obtain ⟨j,j1,j2⟩:=h.step k hk q2
       refine ⟨j,j1,?_⟩
       rw [hat j (hb k m.1 j j1),if_neg (fun e=>by subst e; omega)]; exact j2
     · rw [List.mem_singleton] at hk; subst hk
       refine ⟨u,Qaf hu.1.on hc,?_⟩
       rw [hat u hu.1,if_neg (hne u (by simp)),hat k hC,if_pos rfl]; omega
   · show ∀ v ∈ done,∀ k ∈ Ql f.g v,_→_→0≤atI (out.set c.toNat (atI out u+1)) k
     intro v hv k hk q1 q2
     exact up k (hb v (h.mem v (by simp [hv])).1 k hk) (h.cl v hv k hk q1 q2)
   · intro k hk q1 q2
     exact up k hk (h.gate k hk q1 q2)
   · show 0≤atI (out.set c.toNat (atI out u+1)) c
     rw [hat c hC,if_pos rfl]; omega
 · rename_i p
   refine ⟨h,fun q1 q2=>?_,fun k hk q=>q⟩
   rcases Int.lt_or_le (atI out c) 0 with q | q
   · exact absurd ⟨q1,q2,q⟩ p
   · exact q
theorem farRow_ok {f:Fld} {b u:Int} {done:List Int}:∀ (L:List Int) (q out:List Int),FarI f b done (u :: q) out→(∀ c ∈ L,c ∈ Ql f.g u) →
 FarI f b done (u :: (L.foldl (QS f b u) (out,q)).2) (L.foldl (QS f b u) (out,q)).1∧(∀ c ∈ L,QF f c=true→¬ c=b→0≤atI (L.foldl (QS f b u) (out,q)).1 c) ∧
  ∀ k,OnF f k→0≤atI out k→0≤atI (L.foldl (QS f b u) (out,q)).1 k
 | [],q,out,h,_=>⟨h,by simp,fun _ _ h=>h⟩
 | c :: L,q,out,h,hL=>by
  obtain ⟨s1,s2,s3⟩:=QaQ h (hL c List.mem_cons_self)
  obtain ⟨r1,r2,r3⟩:=farRow_ok L _ _ s1 (fun x hx=>hL x (List.mem_cons_of_mem _ hx))
  have hu:=h.mem u (by simp)
  have hC:OnF f c:=by have:=Vr hu.1.on (hL c List.mem_cons_self); exact ⟨hu.1.ok,this.lo,this.hi⟩
  simp only [List.foldl_cons]
  refine ⟨r1,fun x hx q1 q2=>?_,fun k hk q=>r3 k hk (s3 k hk q)⟩
  rcases List.mem_cons.1 hx with rfl | hx
  · exact r3 x hC (s2 q1 q2)
  · exact r2 x hx q1 q2
theorem KF {f:Fld} {b u:Int} {done q out:List Int} (h:FarI f b done (u :: q) out) :
 FarI f b (done++[u]) ((Ql f.g u).foldl (QS f b u) (out,q)).2 ((Ql f.g u).foldl (QS f b u) (out,q)).1:=by
 obtain ⟨r1,r2,-⟩:=farRow_ok (Ql f.g u) q out h (fun _ h=>h)
 generalize (Ql f.g u).foldl (QS f b u) (out,q)=s at r1 r2
 have e:done++[u]++s.2=done++u :: s.2:=by simp
 refine ⟨r1.len,by rw [e]; exact r1.nd,by rw [e]; exact r1.mem,by rw [e]; exact r1.vis,r1.neg,by rw [e]; exact r1.step,fun v hv c hc q1 q2=>?_,r1.gate⟩
 rcases List.mem_append.1 hv with hv | hv
 · exact r1.cl v hv c hc q1 q2
 · rw [List.mem_singleton] at hv; subst hv; exact r2 c hc q1 q2
theorem farGo_ok {f:Fld} {b:Int}:∀ (n:Nat) (done q out:List Int),FarI f b done q out→f.g.cells.length≤done.length+n→∃ done',FarI f b done' [] (Qcp f b n out q)
 | n,done,[],out,h,_=>by
  cases n <;> exact ⟨done,h⟩
 | 0,done,u :: q,out,h,hn=>by
  have:=h.card
  simp only [List.length_append,List.length_cons] at this; omega
 | n+1,done,u :: q,out,h,hn=>by
  unfold Qcp
  exact farGo_ok n (done++[u]) _ _ (KF h) (by simp; omega)
/-- The beginning: the gates. -/
structure SeedI (f:Fld) (b:Int) (i:Nat) (q out:List Int):Prop where
 len:out.length=f.g.cells.length
 nd:q.Nodup
 mem:∀ c ∈ q,OnF f c∧atI out c=0∧c<(i:Int)
 oth:∀ c,OnF f c→c ∈ q ∨ atI out c=-1
 gate:∀ c,OnF f c→c<(i:Int)→Va f.g c=3→¬ c=b→c ∈ q
theorem yX {f:Fld} {b:Int} {i:Nat} {q out:List Int} {e:Int} (hf:FldOk f) (h:SeedI f b i q out) (he:f.g.cells[i]?=some e) :
 (e=3∧¬ (i:Int)=b→SeedI f b (i+1) (q++[(i:Int)]) (out.set i 0))∧(¬ (e=3∧¬ (i:Int)=b)→SeedI f b (i+1) q out):=by
 have hi:=(List.getElem?_eq_some_iff.1 he).1
 have hI:OnF f (i:Int):=⟨hf,by omega,by omega⟩
 have hce:Va f.g (i:Int)=e:=by
  have:=hI.on.cell
  rw [show Int.toNat (i:Int)=i by omega,he] at this
  exact (Option.some.inj this).symm
 have hl:(i:Int)<(out.length:Int):=by rw [h.len]; omega
 have hat:∀ k,OnF f k→atI (out.set i 0) k=if (i:Int)=k then 0 else atI out k:=fun k hk=>by
  have:=Yc (l:=out) (c:=(i:Int)) (k:=k) (v:=0) (by omega) hk.lo hl
  rwa [show Int.toNat (i:Int)=i by omega] at this
 refine ⟨fun p=>⟨by simpa using h.len,?_,?_,?_,?_⟩,fun p=>⟨h.len,h.nd,?_,h.oth,?_⟩⟩
 · rw [List.nodup_append]
   refine ⟨h.nd,by simp,fun a ha c hc=>?_⟩
   rw [List.mem_singleton] at hc
   have:=(h.mem a ha).2.2; omega
 · intro c hc
   rcases List.mem_append.1 hc with hc | hc
   · have m:=h.mem c hc
     rw [hat c m.1,if_neg (by omega)]
     exact ⟨m.1,m.2.1,by omega⟩
   · rw [List.mem_singleton] at hc; subst hc
     rw [hat _ hI,if_pos rfl]; exact ⟨hI,rfl,by omega⟩
 · intro c hc
   by_cases q:(i:Int)=c
   · left; subst q; simp
   · rw [hat c hc,if_neg q]
     rcases h.oth c hc with m | m
     · left; exact List.mem_append_left _ m
     · right; exact m
 · intro c hc h1 h2 h3
   by_cases q:(i:Int)=c
   · subst q; simp
   · exact List.mem_append_left _ (h.gate c hc (by omega) h2 h3)
 · intro c hc
   have m:=h.mem c hc
   exact ⟨m.1,m.2.1,by omega⟩
 · intro c hc h1 h2 h3
   by_cases q:(i:Int)=c
   · subst q; exact absurd ⟨by rw [← hce]; exact h2,h3⟩ p
   · exact h.gate c hc (by omega) h2 h3
theorem seed0 {f:Fld} {b:Int} (hf:FldOk f):SeedI f b 0 [] (List.replicate f.g.cells.length (-1)) :=
 ⟨by simp,by simp,by simp,fun c hc=>.inr (by
  have:=hc.lo; have:=hc.hi
  simp only [atI,List.getD_eq_getElem?_getD,List.getElem?_replicate]
  rw [if_pos (by omega)]; rfl),fun c hc h=>by have:=hc.lo; omega⟩
theorem seed_far {f:Fld} {b:Int} {q out:List Int} (h:SeedI f b f.g.cells.length q out):FarI f b [] q out:=by
 refine ⟨h.len,by simpa using h.nd,fun c hc=>?_,fun c hc q2=>?_,fun c hc=>?_,fun c hc q2=>?_,by simp,fun c hc q1 q2=>?_⟩
 · have m:=h.mem c (by simpa using hc)
   refine ⟨m.1,by omega,?_⟩
   rw [m.2.1]
   have:=List.length_pos_of_mem hc; omega
 · rcases h.oth c hc with m | m
   · simpa using m
   · omega
 · rcases h.oth c hc with m | m
   · have:=(h.mem c m).2.1; omega
   · omega
 · have m:=h.mem c (by simpa using hc); omega
 · have m:=h.mem c (h.gate c hc hc.hi q1 q2); omega
theorem yY {f:Fld} {b:Int} (hf:FldOk f):∀ (d i:Nat) (q out:List Int),i+d=f.g.cells.length→SeedI f b i q out→SeedI f b f.g.cells.length (VE b (f.g.cells.drop i) i (out,q)).2 (VE b (f.g.cells.drop i) i (out,q)).1
 | 0,i,q,out,hd,h=>by
  rw [List.drop_eq_nil_of_le (by omega)]
  unfold VE
  rw [show f.g.cells.length=i by omega]; exact h
 | d+1,i,q,out,hd,h=>by
  have hx:f.g.cells[i]?=some (f.g.cells[i]'(by omega)):=List.getElem?_eq_getElem (by omega)
  have:=yX hf h hx
  rw [List.drop_eq_getElem_cons (by omega)]
  unfold VE
  split
  · rename_i p; exact yY hf d (i+1) _ _ (by omega) (this.1 p)
  · rename_i p; exact yY hf d (i+1) _ _ (by omega) (this.2 p)
theorem Qbx {f:Fld} {b:Int} (hf:FldOk f):FarI f b [] (seedK f b).2 (seedK f b).1:=by
 have:=yY hf f.g.cells.length 0 [] _ (by omega) (seed0 (b:=b) hf)
 rw [List.drop_zero] at this
 exact seed_far this
theorem Qco {f:Fld} {b:Int} (hf:FldOk f):∃ done,FarI f b done [] (farK f b):=farGo_ok _ _ _ _ (Qbx hf) (by simp)
theorem far_ok2 (f:Fld) (b:Int) (hf:FldOk f):Pure Try.prog 166 [.rptr [.int .i64 f.g.w,.int .i64 f.g.h,.rsl (rowI f.g.cells) 0 f.g.cells.length,.rsl (rowI f.g.hts) 0 f.g.hts.length,.rsl (Qc f.ps) 0 f.ps.length,.rsl (Qb f.ss) 0 f.ss.length,.rsl (rowI f.tk) 0 f.tk.length] 0,.int .i64 b] (.rsl (rowI (farK f b)) 0 (farK f b).length):=Qy Try.func166 f166b fun E hE=>by
 have hg:=XF hf.g
 have search:∀ (n:Nat) (done q out v2:List Int) (k:Nat),FarI f b done q out→f.g.cells.length≤done.length+n→v2.drop k=q→Qcp f b n out q=farK f b→f166G1 E b f k out v2:=by
  intro n
  induction n with
  | zero =>
   intro done q out v2 k h hn hq hr
   cases q with
   | nil =>
    have:v2.length - k=0:=by have:=congrArg List.length hq; simpa using this
    exact f166W1 b f k out v2 (rv:=farK f b) hE ⟨fun h=>by omega,fun _=>by rw [← hr]; rfl⟩
   | cons u q =>
    have:=h.card
    simp only [List.length_append,List.length_cons] at this; omega
  | succ n ih =>
   intro done q out v2 k h hn hq hr
   cases q with
   | nil =>
    have:v2.length - k=0:=by have:=congrArg List.length hq; simpa using this
    exact f166W1 b f k out v2 (rv:=farK f b) hE ⟨fun h=>by omega,fun _=>by rw [← hr]; rfl⟩
   | cons u q =>
    have hu:=h.mem u (by simp)
    have hl:0<v2.length - k:=by have:=congrArg List.length hq; simp at this; omega
    have hk:v2[k]?=some u:=by
     have:=congrArg (·[0]?) hq
     simpa using this
    have row:∀ (e j:Nat) (k:Nat) (q out v2:List Int),j+e=(Ql f.g u).length→FarI f b done (u :: q) out→v2.drop k=u :: q→Qcp f b n (((Ql f.g u).drop j).foldl (QS f b u) (out,q)).1 (((Ql f.g u).drop j).foldl (QS f b u) (out,q)).2=farK f b→FarI f b (done++[u]) (((Ql f.g u).drop j).foldl (QS f b u) (out,q)).2 (((Ql f.g u).drop j).foldl (QS f b u) (out,q)).1→KV E b f k (Ql f.g u) (Ql f.g u).length out v2 j:=by
     intro e
     induction e with
     | zero =>
      intro j k q out v2 hj hi hv hr hfin
      rw [List.drop_eq_nil_of_le (by omega)] at hr hfin
      have hl:0<v2.length - k:=by have:=congrArg List.length hv; simp at this; omega
      refine f166W2 b f k _ _ out v2 j (rv:=farK f b) hE ⟨fun h=>by omega,fun _=>⟨by omega,ih (done++[u]) q out v2 (k+1) hfin (by simp; omega) ?_ hr⟩⟩
      rw [← List.drop_drop,hv]; rfl
     | succ e ie =>
      intro j k q out v2 hj hi hv hr hfin
      have hx:(Ql f.g u)[j]?=some ((Ql f.g u)[j]'(by omega)):=List.getElem?_eq_getElem (by omega)
      rw [List.drop_eq_getElem_cons (by omega)] at hr hfin
      generalize (Ql f.g u)[j]'(by omega)=c at hx hr hfin
      have hc:=List.mem_of_getElem? hx
      have hC:OnF f c:=by have:=Vr hu.1.on hc; exact ⟨hf,this.lo,this.hi⟩
      have hb4:=qV f.g u
      have hst:=QaQ hi hc
      simp only [List.foldl_cons] at hr hfin
      have c0:=hC.lo; have c1:=hC.hi; have u0:=hu.1.lo; have u1:=hu.1.hi
      have hou:=(hi.mem u (by simp)).2
      have hcard:=hi.card
      have hkv:k≤v2.length:=by have:=congrArg List.length hv; simp at this; omega
      have hlv:v2.length - k=q.length+1:=by have:=congrArg List.length hv; simpa using this
      have hk2:v2[k]?=some u:=by have:=congrArg (·[0]?) hv; simpa using this
      simp only [List.length_append,List.length_cons] at hcard hou
      refine f166W2 b f k _ _ out v2 j (rv:=farK f b) hE ⟨fun _=>⟨c,hx,hC,fun q1=>⟨fun q2=>⟨c0,_,XE c0 (by rw [hi.len]; exact c1),fun q3=>⟨u,hk2,u0,_,XE u0 (by rw [hi.len]; exact u1),⟨by omega,by omega⟩,hkv,by omega,⟨by omega,by omega⟩,?_⟩,fun q3=>⟨⟨by omega,by omega⟩,?_⟩⟩,fun q2=>⟨⟨by omega,by omega⟩,?_⟩⟩,fun q1=>⟨⟨by omega,by omega⟩,?_⟩⟩,fun h=>by omega⟩
      · have es:QS f b u (out,q) c=(out.set c.toNat (atI out u+1),q++[c]):=by unfold QS; rw [if_pos ⟨q1,q2,q3⟩]
        rw [es] at hr hfin hst
        exact ie (j+1) 0 (q++[c]) _ _ (by omega) hst.1 (by rw [List.drop_zero,hv]; rfl) hr hfin
      · have es:QS f b u (out,q) c=(out,q):=by unfold QS; rw [if_neg (fun hh=>q3 hh.2.2)]
        rw [es] at hr hfin
        exact ie (j+1) k q out v2 (by omega) hi hv hr hfin
      · have es:QS f b u (out,q) c=(out,q):=by unfold QS; rw [if_neg (fun hh=>hh.2.1 q2)]
        rw [es] at hr hfin
        exact ie (j+1) k q out v2 (by omega) hi hv hr hfin
      · have es:QS f b u (out,q) c=(out,q):=by unfold QS; rw [if_neg (fun hh=>by rw [q1] at hh; cases hh.1)]
        rw [es] at hr hfin
        exact ie (j+1) k q out v2 (by omega) hi hv hr hfin
    refine f166W1 b f k out v2 (rv:=farK f b) hE ⟨fun _=>⟨u,hk,hu.1,?_⟩,fun h=>by omega⟩
    refine row (Ql f.g u).length 0 k q out v2 (by omega) h hq (by rw [List.drop_zero]; exact hr) (by rw [List.drop_zero]; exact KF h)
 have seeds:∀ (d i:Nat) (q out:List Int),i+d=f.g.cells.length→q.length≤i→SeedI f b i q out→VE b (f.g.cells.drop i) i (out,q)=seedK f b→Qbe E b f q i out:=by
  intro d
  induction d with
  | zero =>
   intro i q out hd hq h hr
   rw [List.drop_eq_nil_of_le (by omega)] at hr
   have hs:=Qbx (b:=b) hf
   rw [← hr] at hs
   refine f166W0 b f q i out (rv:=farK f b) hE ⟨fun h=>by omega,fun _=>search f.g.cells.length [] q out q 0 hs (by simp) (by simp) ?_⟩
   unfold farK; rw [← hr]; rfl
  | succ d ih =>
   intro i q out hd hq h hr
   have hx:f.g.cells[i]?=some (f.g.cells[i]'(by omega)):=List.getElem?_eq_getElem (by omega)
   have hst:=yX hf h hx
   rw [List.drop_eq_getElem_cons (by omega)] at hr
   generalize f.g.cells[i]'(by omega)=e at hx hr hst
   unfold VE at hr
   have ho:out[i]?=some (out[i]'(by rw [h.len]; omega)):=List.getElem?_eq_getElem (by rw [h.len]; omega)
   refine f166W0 b f q i out (rv:=farK f b) hE ⟨fun _=>⟨e,hx,fun q1=>⟨fun q2=>⟨_,ho,by omega,⟨by omega,by omega⟩,?_⟩,fun q2=>⟨⟨by omega,by omega⟩,?_⟩⟩,fun q1=>⟨⟨by omega,by omega⟩,?_⟩⟩,fun h=>by omega⟩
   · rw [if_pos ⟨q1,q2⟩] at hr
     exact ih (i+1) _ _ (by omega) (by simp; omega) (hst.1 ⟨q1,q2⟩) hr
   · rw [if_neg (fun hh=>hh.2 q2)] at hr
     exact ih (i+1) _ _ (by omega) (by omega) (hst.2 (fun hh=>hh.2 q2)) hr
   · rw [if_neg (fun hh=>q1 hh.1)] at hr
     exact ih (i+1) _ _ (by omega) (by omega) (hst.2 (fun hh=>q1 hh.1)) hr
 refine f166W b f (rv:=farK f b) hE ⟨⟨by omega,by omega⟩,seeds f.g.cells.length 0 [] _ (by omega) (by simp) (seed0 hf) ?_⟩
 rw [List.drop_zero]; rfl
end Go.Proofs.Ytemklbioijmjiaa
namespace Go.Proofs.Ytemklbioijmjiaa
open Go Ax
open Go.Proofs
/-- The numbers of which something is so. -/
def XV (P:Int→Bool):Nat→Nat→List Int
 | 0,_=>[]
 | d+1,i=>if P (i:Int)=true then (i:Int) :: XV P d (i+1) else XV P d (i+1)
def XA (P:Int→Bool) (n:Nat):List Int:=XV P n 0
theorem qz {P:Int→Bool}:∀ (d i:Nat),(XV P d i).length≤d
 | 0,i=>by simp [XV]
 | d+1,i=>by
  have:=qz (P:=P) d (i+1)
  unfold XV
  split
  · simp; omega
  · omega
theorem Qaz {P:Int→Bool} {x:Int}:∀ (d i:Nat),x ∈ XV P d i ↔ P x=true∧(i:Int)≤x∧x<(i:Int)+(d:Int)
 | 0,i=>⟨fun h=>by simp [XV] at h,fun h=>by omega⟩
 | d+1,i=>by
  have ih:=Qaz (P:=P) (x:=x) d (i+1)
  unfold XV
  split
  · rename_i c
    rw [List.mem_cons,ih]
    constructor
    · rintro (rfl | h)
      · exact ⟨c,by omega,by omega⟩
      · exact ⟨h.1,by omega,by omega⟩
    · intro h
      by_cases e:x=(i:Int)
      · exact .inl e
      · exact .inr ⟨h.1,by omega,by omega⟩
  · rename_i c
    rw [ih]
    constructor
    · intro h; exact ⟨h.1,by omega,by omega⟩
    · intro h
      have:x ≠ (i:Int):=fun e=>by rw [e] at h; exact c h.1
      exact ⟨h.1,by omega,by omega⟩
theorem yW {P:Int→Bool} {n:Nat} {x:Int}:x ∈ XA P n ↔ P x=true∧0≤x∧x<(n:Int):=by
 unfold XA; rw [Qaz]; simp
def QR (f:Fld) (b:Int) (far:List Int) (c:Int):Bool:=QF f c && (!(decide (c=b)) && decide (atI far c<0))
/-- The cells that a blocked one traps. -/
def Qv (f:Fld) (b:Int):List Int:=XA (QR f b (farK f b)) f.g.cells.length
def WW (f:Fld):Nat→Nat→Int × Int→Int × Int
 | 0,_,s=>s
 | d+1,b,s=>if 0<(Qv f (b:Int)).length∧(s.1<0 ∨ (Qv f (b:Int)).getD 0 0<s.1) then WW f d (b+1) ((Qv f (b:Int)).getD 0 0,(b:Int)) else WW f d (b+1) s
def safeK (f:Fld):Int × Int:=WW f f.g.cells.length 0 (-1,-1)
def QJ (g:Gd) (l:List Ptc) (t:List Sit):Int × Int × Bool × Int :=
 if (newF g l t).2.2=0 then ((safeK (newF g l t).1).1,(safeK (newF g l t).1).2,decide ((safeK (newF g l t).1).1<0),0) else (0,0,false,(newF g l t).2.2)
theorem trapK_len (f:Fld) (b:Int):(Qv f b).length≤f.g.cells.length:=qz _ _
theorem Vi {f:Fld} {b c:Int}:c ∈ Qv f b ↔ (QF f c=true∧¬ c=b∧atI (farK f b) c<0)∧0≤c∧c<(f.g.cells.length:Int):=by
 unfold Qv
 rw [yW]
 simp only [QR,Bool.and_eq_true,Bool.not_eq_true',decide_eq_false_iff_not,decide_eq_true_eq]
theorem farK_len {f:Fld} (b:Int) (hf:FldOk f):(farK f b).length=f.g.cells.length:=by
 obtain ⟨d,h⟩:=Qco (b:=b) hf
 exact h.len
theorem f168b:Try.f168.body=some (Qd Try.prog 168):=by kernel_rfl
theorem u168 {a c k:List AV} {r:AV} (h:Pure Try.prog 168 (a++c++k) r):Qi Try.prog (.clos 168 a k) c r:=Qk Try.func168 (by kernel_rfl) f168b h
abbrev z168_1 (f:Fld):List AV:=[.int .i64 f.g.w,.int .i64 f.g.h,.rsl (rowI f.g.cells) 0 f.g.cells.length,.rsl (rowI f.g.hts) 0 f.g.hts.length,.rsl (Qc f.ps) 0 f.ps.length,.rsl (Qb f.ss) 0 f.ss.length,.rsl (rowI f.tk) 0 f.tk.length]
abbrev z168_2 (c:Int) (f:Fld) (b:Int) (far:List Int):List AV:=[.int .i64 c,.rptr [.rptr (z168_1 f) 0] 0,.rptr [.int .i64 b] 0,.rptr [.rsl (rowI far) 0 far.length] 0]
theorem p168_start_0 (c:Int) (f:Fld) (b:Int) (far:List Int) (e:Int) {E:Env} {res:AV} (hE:Qh Try.prog 168 res E) (ho:AllP [Qi Try.prog (.clos 54 [] []) [.rptr (z168_1 f) 0,.int .i64 c] (.bool (QF f c)),(QF f c)=true,(c != b)=true,0≤c∧c<(far.length:Int),((rowI far).drop (0+(Int.toNat c)*1)).take 1=[.int .i64 e]])
 (hr:AvLe (.bool (decide (e<0))) res):G Try.prog E [.code (Qd Try.prog 168)] ⟨(z168_2 c f b far)++unds (Try.f168.ntmps - 4),[]⟩ :=
 Qf (n:=400) (evs:=[.v (.bool (QF f c)),.b true,.b true,.auto,.ld (.int .i64 e)]) (obs:=_) hE Try.func168 Qg (by kernel_rfl) ho hr
theorem p168_start_1 (c:Int) (f:Fld) (b:Int) (far:List Int) {E:Env} {res:AV} (hE:Qh Try.prog 168 res E) (ho:AllP [Qi Try.prog (.clos 54 [] []) [.rptr (z168_1 f) 0,.int .i64 c] (.bool (QF f c)),(QF f c)=true,(c != b)=false])
 (hr:AvLe (.bool false) res):G Try.prog E [.code (Qd Try.prog 168)] ⟨(z168_2 c f b far)++unds (Try.f168.ntmps - 4),[]⟩ :=
 Qf (n:=400) (evs:=[.v (.bool (QF f c)),.b true,.b false]) (obs:=_) hE Try.func168 Qg (by kernel_rfl) ho hr
theorem p168_start_2 (c:Int) (f:Fld) (b:Int) (far:List Int) {E:Env} {res:AV} (hE:Qh Try.prog 168 res E) (ho:AllP [Qi Try.prog (.clos 54 [] []) [.rptr (z168_1 f) 0,.int .i64 c] (.bool (QF f c)),(QF f c)=false,false=false])
 (hr:AvLe (.bool false) res):G Try.prog E [.code (Qd Try.prog 168)] ⟨(z168_2 c f b far)++unds (Try.f168.ntmps - 4),[]⟩ :=
 Qf (n:=400) (evs:=[.v (.bool (QF f c)),.b false,.b false]) (obs:=_) hE Try.func168 Qg (by kernel_rfl) ho hr
theorem f168W (c:Int) (f:Fld) (b:Int) (far:List Int) {E:Env} {rv:Bool} (hE:Qh Try.prog 168 (.bool rv) E)
 (h:((OnF f c)∧(((QF f c)=true→((¬ (c=b)→(0≤c∧(∃ e:Int,far[Int.toNat c]?=some e∧rv=(decide (e<0)))))∧(c=b→rv=false)))∧((QF f c)=false→rv=false)))):G Try.prog E [.code (Qd Try.prog 168)] ⟨[.int .i64 c,.rptr [.rptr [.int .i64 f.g.w,.int .i64 f.g.h,.rsl (rowI f.g.cells) 0 f.g.cells.length,.rsl (rowI f.g.hts) 0 f.g.hts.length,.rsl (Qc f.ps) 0 f.ps.length,.rsl (Qb f.ss) 0 f.ss.length,.rsl (rowI f.tk) 0 f.tk.length] 0] 0,.rptr [.int .i64 b] 0,.rptr [.rsl (rowI far) 0 far.length] 0]++unds (Try.f168.ntmps - 4),[]⟩:=by
 obtain ⟨h1,h⟩:=h
 rcases bft (QF f c) with hc0 | hc0
 · have h:=h.1 hc0
   rcases bft (c != b) with hc1 | hc1
   · have h:=h.1 (bneT hc1)
     obtain ⟨h3,h⟩:=h
     obtain ⟨e,h2,h⟩:=h
     exact p168_start_0 c f b far e hE ⟨(Qk Try.func54 (by kernel_rfl) VI (Xp f c h1)),hc0,hc1,(Qj h3 h2),(rp cI 1 0 1 h2),trivial⟩ (AvLe.of_eq (by rw [h]; try rfl))
   · have h:=h.2 (bneF hc1)
     exact p168_start_1 c f b far hE ⟨(Qk Try.func54 (by kernel_rfl) VI (Xp f c h1)),hc0,hc1,trivial⟩ (AvLe.of_eq (by rw [h]; try rfl))
 · have h:=h.2 hc0
   exact p168_start_2 c f b far hE ⟨(Qk Try.func54 (by kernel_rfl) VI (Xp f c h1)),hc0,rfl,trivial⟩ (AvLe.of_eq (by rw [h]; try rfl))
theorem yy (c:Int) (f:Fld) (b:Int) (far:List Int) (h:OnF f c∧far.length=f.g.cells.length):Pure Try.prog 168 [.int .i64 c,.rptr [.rptr [.int .i64 f.g.w,.int .i64 f.g.h,.rsl (rowI f.g.cells) 0 f.g.cells.length,.rsl (rowI f.g.hts) 0 f.g.hts.length,.rsl (Qc f.ps) 0 f.ps.length,.rsl (Qb f.ss) 0 f.ss.length,.rsl (rowI f.tk) 0 f.tk.length] 0] 0,.rptr [.int .i64 b] 0,.rptr [.rsl (rowI far) 0 far.length] 0] (.bool (QR f b far c)):=Qy Try.func168 f168b fun E hE=>by
 have h0:=h.1.lo; have h1:=h.1.hi
 refine f168W c f b far (rv:=QR f b far c) hE ⟨h.1,fun q1=>⟨fun q2=>⟨h0,_,XE h0 (by rw [h.2]; exact h1),?_⟩,fun q2=>?_⟩,fun q1=>?_⟩
 · unfold QR; rw [q1,decide_eq_false q2]; rfl
 · unfold QR; rw [decide_eq_true q2]; simp
 · unfold QR; rw [q1]; rfl
theorem f167tb:Try.f167.body=some (Qd Try.prog 167):=by kernel_rfl
def WI (P:Program):List Item:=kAt 400 [.code (Qd P 167)] [.stop]
def QcD (f:Fld) (b:Int) (far:List Int) (v0:List Int) (i:Nat) (g0:Nat):St:=⟨([J,.clos 168 [] [.rptr [.rptr [.int .i64 f.g.w,.int .i64 f.g.h,.rsl (rowI f.g.cells) 0 f.g.cells.length,.rsl (rowI f.g.hts) 0 f.g.hts.length,.rsl (Qc f.ps) 0 f.ps.length,.rsl (Qb f.ss) 0 f.ss.length,.rsl (rowI f.tk) 0 f.tk.length] 0] 0,.rptr [.int .i64 b] 0,.rptr [.rsl (rowI far) 0 far.length] 0],J,J,.sl 0 g0 0 v0.length 1]++jj 6 ([.int .i64 (f.g.cells.length:Int),.int .i64 (i:Int)]++Js 11)),[⟨true,g0,1,true,(rowI v0),true⟩]⟩
def KS (E:Env) (f:Fld) (b:Int) (far:List Int) (v0:List Int) (i:Nat):Prop:=∀ g0:Nat,G Try.prog E (WI Try.prog) (QcD f b far v0 i g0)
abbrev z167t_1 (f:Fld):List AV:=[.int .i64 f.g.w,.int .i64 f.g.h,.rsl (rowI f.g.cells) 0 f.g.cells.length,.rsl (rowI f.g.hts) 0 f.g.hts.length,.rsl (Qc f.ps) 0 f.ps.length,.rsl (Qb f.ss) 0 f.ss.length,.rsl (rowI f.tk) 0 f.tk.length]
abbrev Qbo (f:Fld) (b:Int) (far:List Int):List AV:=[.rptr [.rptr (z167t_1 f) 0] 0,.rptr [.int .i64 b] 0,.rptr [.rsl (rowI far) 0 far.length] 0]
theorem QbS (f:Fld) (b:Int) (far:List Int) {E:Env} {rv:AV} (hE:Qh Try.prog 167 rv E) (ho:AllP [])
 (hg:G Try.prog E (WI Try.prog) ⟨([J,.clos 168 [] (Qbo f b far),J,J,.sl 0 0 0 0 1]++jj 6 ([.int .i64 (f.g.cells.length:Int),.int .i64 0]++Js 11)),[⟨true,0,1,true,[],true⟩]⟩):G Try.prog E [.code (Qd Try.prog 167)] ⟨[.rptr (z167t_1 f) 0,.clos 168 [] (Qbo f b far)]++unds (Try.f167.ntmps - 2),[]⟩ :=
 Qe (n:=400) (ds:=[(4,1)]) (cs:=[]) (live:=[1,4,11,12]) (m:=1) (evs:=[.stop]) (obs:=_) hE.2.1 (hE.nogh _) Qg (by kernel_rfl) ho hg
theorem f167tW (f:Fld) (b:Int) (far:List Int) {E:Env} {rv:(List Int)} (hE:Qh Try.prog 167 (.rsl (rowI rv) 0 rv.length) E)
 (h:KS E f b far ([]) 0):G Try.prog E [.code (Qd Try.prog 167)] ⟨[.rptr [.int .i64 f.g.w,.int .i64 f.g.h,.rsl (rowI f.g.cells) 0 f.g.cells.length,.rsl (rowI f.g.hts) 0 f.g.hts.length,.rsl (Qc f.ps) 0 f.ps.length,.rsl (Qb f.ss) 0 f.ss.length,.rsl (rowI f.tk) 0 f.tk.length] 0,.clos 168 [] [.rptr [.rptr [.int .i64 f.g.w,.int .i64 f.g.h,.rsl (rowI f.g.cells) 0 f.g.cells.length,.rsl (rowI f.g.hts) 0 f.g.hts.length,.rsl (Qc f.ps) 0 f.ps.length,.rsl (Qb f.ss) 0 f.ss.length,.rsl (rowI f.tk) 0 f.tk.length] 0] 0,.rptr [.int .i64 b] 0,.rptr [.rsl (rowI far) 0 far.length] 0]]++unds (Try.f167.ntmps - 2),[]⟩:=by
 exact QbS f b far hE trivial (h 0)
theorem p167t_0_0 (f:Fld) (b:Int) (far:List Int) (v0:List Int) (i:Nat) (g0:Nat) {E:Env} {rv:AV} (hE:Qh Try.prog 167 rv E) (ho:AllP [(decide ((i:Int)<(f.g.cells.length:Int)))=true,Qi Try.prog (.clos 168 [] [.rptr [.rptr [.int .i64 f.g.w,.int .i64 f.g.h,.rsl (rowI f.g.cells) 0 f.g.cells.length,.rsl (rowI f.g.hts) 0 f.g.hts.length,.rsl (Qc f.ps) 0 f.ps.length,.rsl (Qb f.ss) 0 f.ss.length,.rsl (rowI f.tk) 0 f.tk.length] 0] 0,.rptr [.int .i64 b] 0,.rptr [.rsl (rowI far) 0 far.length] 0]) [.int .i64 (i:Int)] (.bool (QR f b far (i:Int))),(QR f b far (i:Int))=true,g0=g0,(0+(v0.length*1))=(rowI v0).length,(v0.length+1)≤2147483648,0=0,InR .i64 ((i:Int)+1)])
 (hg:G Try.prog E (WI Try.prog) ⟨([J,.clos 168 [] [.rptr [.rptr [.int .i64 f.g.w,.int .i64 f.g.h,.rsl (rowI f.g.cells) 0 f.g.cells.length,.rsl (rowI f.g.hts) 0 f.g.hts.length,.rsl (Qc f.ps) 0 f.ps.length,.rsl (Qb f.ss) 0 f.ss.length,.rsl (rowI f.tk) 0 f.tk.length] 0] 0,.rptr [.int .i64 b] 0,.rptr [.rsl (rowI far) 0 far.length] 0],J,J,.sl 0 (g0+1) 0 (v0.length+1) 1]++jj 6 ([.int .i64 (f.g.cells.length:Int),.int .i64 ((i:Int)+1)]++Js 11)),[⟨true,(g0+1),1,true,((rowI v0)++[.int .i64 (i:Int)]),true⟩]⟩):G Try.prog E (WI Try.prog) (QcD f b far v0 i g0) :=
 Qe (n:=400) (ds:=[]) (cs:=[]) (live:=[1,4,11,12]) (m:=1) (evs:=[.b true,.v (.bool (QR f b far (i:Int))),.b true,.stop]) (obs:=_) hE.2.1 (hE.nogh _) Qg (by kernel_rfl) ho hg
theorem p167t_0_1 (f:Fld) (b:Int) (far:List Int) (v0:List Int) (i:Nat) (g0:Nat) {E:Env} {rv:AV} (hE:Qh Try.prog 167 rv E) (ho:AllP [(decide ((i:Int)<(f.g.cells.length:Int)))=true,Qi Try.prog (.clos 168 [] (Qbo f b far)) [.int .i64 (i:Int)] (.bool (QR f b far (i:Int))),(QR f b far (i:Int))=false,InR .i64 ((i:Int)+1)])
 (hg:G Try.prog E (WI Try.prog) ⟨([J,.clos 168 [] (Qbo f b far),J,J,.sl 0 g0 0 v0.length 1]++jj 6 ([.int .i64 (f.g.cells.length:Int),.int .i64 ((i:Int)+1)]++Js 11)),[⟨true,g0,1,true,(rowI v0),true⟩]⟩):G Try.prog E (WI Try.prog) (QcD f b far v0 i g0) :=
 Qe (n:=400) (ds:=[]) (cs:=[]) (live:=[1,4,11,12]) (m:=1) (evs:=[.b true,.v (.bool (QR f b far (i:Int))),.b false,.stop]) (obs:=_) hE.2.1 (hE.nogh _) Qg (by kernel_rfl) ho hg
theorem p167t_0_2 (f:Fld) (b:Int) (far:List Int) (v0:List Int) (i:Nat) (g0:Nat) {E:Env} {res:AV} (hE:Qh Try.prog 167 res E) (ho:AllP [(decide ((i:Int)<(f.g.cells.length:Int)))=false,g0=g0])
 (hr:AvLe (.rsl (rowI v0) 0 v0.length) res):G Try.prog E (WI Try.prog) (QcD f b far v0 i g0) :=
 Qf (n:=400) (evs:=[.b false]) (obs:=_) hE Try.func167 Qg (by kernel_rfl) ho hr
theorem f167tW0 (f:Fld) (b:Int) (far:List Int) (v0:List Int) (i:Nat) {E:Env} {rv:(List Int)} (hE:Qh Try.prog 167 (.rsl (rowI rv) 0 rv.length) E)
 (h:(((i:Int)<(f.g.cells.length:Int)→((OnF f (i:Int)∧far.length=f.g.cells.length)∧(((QR f b far (i:Int))=true→((v0.length+1)≤2147483648∧((I6 ((i:Int)+1))∧KS E f b far (v0++[(i:Int)]) (i+1))))∧((QR f b far (i:Int))=false→((I6 ((i:Int)+1))∧KS E f b far v0 (i+1))))))∧(¬ ((i:Int)<(f.g.cells.length:Int))→rv=v0))):KS E f b far v0 i:=by
 intro g0
 rcases bft (decide ((i:Int)<(f.g.cells.length:Int))) with hc0 | hc0
 · have h:=h.1 (odt hc0)
   obtain ⟨h1,h⟩:=h
   rcases bft (QR f b far (i:Int)) with hc1 | hc1
   · have h:=h.1 hc1
     obtain ⟨h2,h⟩:=h
     obtain ⟨q7_2,h⟩:=h
     refine p167t_0_0 f b far v0 i g0 hE ⟨hc0,(u168 (yy (i:Int) f b far h1)),hc1,rfl,(by have hx:=QC cI (s:=1) (fun _=>rfl) v0; simp only [rowI] at hx ⊢; rw [hx]; simp),h2,rfl,q7_2,trivial⟩ ?_
     rw [(show rowI v0++[.int .i64 (i:Int)]=rowI (v0++[(i:Int)]) from (XD cI v0 [(i:Int)]).symm)]; (try rw [(show (v0.length+1)=(v0++[(i:Int)]).length from by simp)]); exact (h (g0+1))
   · have h:=h.2 hc1
     obtain ⟨q3_2,h⟩:=h
     exact p167t_0_1 f b far v0 i g0 hE ⟨hc0,(u168 (yy (i:Int) f b far h1)),hc1,q3_2,trivial⟩ (h g0)
 · have h:=h.2 (odf hc0)
   exact p167t_0_2 f b far v0 i g0 hE ⟨hc0,rfl,trivial⟩ (AvLe.of_eq (by rw [h]; try rfl))
theorem some1_ok (f:Fld) (b:Int) (far:List Int) (h:FldOk f∧far.length=f.g.cells.length):Pure Try.prog 167 [.rptr [.int .i64 f.g.w,.int .i64 f.g.h,.rsl (rowI f.g.cells) 0 f.g.cells.length,.rsl (rowI f.g.hts) 0 f.g.hts.length,.rsl (Qc f.ps) 0 f.ps.length,.rsl (Qb f.ss) 0 f.ss.length,.rsl (rowI f.tk) 0 f.tk.length] 0,.clos 168 [] [.rptr [.rptr [.int .i64 f.g.w,.int .i64 f.g.h,.rsl (rowI f.g.cells) 0 f.g.cells.length,.rsl (rowI f.g.hts) 0 f.g.hts.length,.rsl (Qc f.ps) 0 f.ps.length,.rsl (Qb f.ss) 0 f.ss.length,.rsl (rowI f.tk) 0 f.tk.length] 0] 0,.rptr [.int .i64 b] 0,.rptr [.rsl (rowI far) 0 far.length] 0]] (.rsl (rowI (XA (QR f b far) f.g.cells.length)) 0 (XA (QR f b far) f.g.cells.length).length):=Qy Try.func167 f167tb fun E hE=>by
 have hg:=XF h.1.g
 have key:∀ (d i:Nat) (v:List Int),i+d=f.g.cells.length→v.length≤i→v++XV (QR f b far) d i=XA (QR f b far) f.g.cells.length→KS E f b far v i:=by
  intro d
  induction d with
  | zero =>
   intro i v hd hv hr
   exact f167tW0 f b far v i (rv:=XA (QR f b far) f.g.cells.length) hE ⟨fun q=>by omega,fun _=>by simpa [XV] using hr.symm⟩
  | succ d ih =>
   intro i v hd hv hr
   unfold XV at hr
   refine f167tW0 f b far v i (rv:=XA (QR f b far) f.g.cells.length) hE ⟨fun _=>⟨⟨⟨h.1,by omega,by omega⟩,h.2⟩,fun q=>⟨by omega,⟨by omega,by omega⟩,?_⟩,fun q=>⟨⟨by omega,by omega⟩,?_⟩⟩,fun q=>by omega⟩
   · rw [if_pos q] at hr
     exact ih (i+1) _ (by omega) (by simp; omega) (by rw [List.append_assoc]; exact hr)
   · rw [if_neg (by rw [q]; exact Bool.false_ne_true)] at hr
     exact ih (i+1) v (by omega) (by omega) hr
 exact f167tW f b far (rv:=XA (QR f b far) f.g.cells.length) hE (key f.g.cells.length 0 [] (by omega) (by simp) rfl)
theorem f90b:Try.f90.body=some (Qd Try.prog 90):=by kernel_rfl
theorem u90 {a c k:List AV} {r:AV} (h:Pure Try.prog 90 (a++c++k) r):Qi Try.prog (.clos 90 a k) c r:=Qk Try.func90 (by kernel_rfl) f90b h
abbrev z90_1 (f:Fld):List AV:=[.int .i64 f.g.w,.int .i64 f.g.h,.rsl (rowI f.g.cells) 0 f.g.cells.length,.rsl (rowI f.g.hts) 0 f.g.hts.length,.rsl (Qc f.ps) 0 f.ps.length,.rsl (Qb f.ss) 0 f.ss.length,.rsl (rowI f.tk) 0 f.tk.length]
abbrev z90_2 (f:Fld) (b:Int):AV:=.rsl (rowI (XA (QR f b (farK f b)) f.g.cells.length)) 0 ((XA (QR f b (farK f b)) f.g.cells.length).length)
theorem p90_start_0 (b:Int) (f:Fld) {E:Env} {res:AV} (hE:Qh Try.prog 90 res E) (ho:AllP [Qi Try.prog (.clos 166 [] []) [.rptr (z90_1 f) 0,.int .i64 b] (.rsl (rowI (farK f b)) 0 ((farK f b).length)),1≤1,QO Try.prog (.clos 167 [] []) [.rptr (z90_1 f) 0,.clos 168 [] [.ptr 0 0 0,.ptr 1 0 0,.ptr 2 0 0]] [⟨true,0,1,true,[.rptr (z90_1 f) 0],false⟩,⟨true,0,1,true,[.int .i64 b],false⟩,⟨true,0,1,true,[.rsl (rowI (farK f b)) 0 ((farK f b).length)],false⟩] (z90_2 f b) [⟨false,1,1,true,[],false⟩,⟨false,1,1,true,[],false⟩,⟨false,1,1,true,[],false⟩]])
 (hr:AvLe (z90_2 f b) res):G Try.prog E [.code (Qd Try.prog 90)] ⟨[.rptr (z90_1 f) 0,.int .i64 b]++unds (Try.f90.ntmps - 2),[]⟩ :=
 Qf (n:=400) (evs:=[.v (.rsl (rowI (farK f b)) 0 ((farK f b).length)),.lent [0,1,2] (z90_2 f b) [⟨false,1,1,true,[],false⟩,⟨false,1,1,true,[],false⟩,⟨false,1,1,true,[],false⟩]]) (obs:=_) hE Try.func90 Qg (by kernel_rfl) ho hr
theorem f90W (b:Int) (f:Fld) {E:Env} {rv:(List Int)} (hE:Qh Try.prog 90 (.rsl (rowI rv) 0 rv.length) E)
 (h:((FldOk f)∧((FldOk f∧(farK f b).length=f.g.cells.length)∧rv=(XA (QR f b (farK f b)) f.g.cells.length)))):G Try.prog E [.code (Qd Try.prog 90)] ⟨[.rptr [.int .i64 f.g.w,.int .i64 f.g.h,.rsl (rowI f.g.cells) 0 f.g.cells.length,.rsl (rowI f.g.hts) 0 f.g.hts.length,.rsl (Qc f.ps) 0 f.ps.length,.rsl (Qb f.ss) 0 f.ss.length,.rsl (rowI f.tk) 0 f.tk.length] 0,.int .i64 b]++unds (Try.f90.ntmps - 2),[]⟩:=by
 obtain ⟨h1,h⟩:=h
 obtain ⟨h2,h⟩:=h
 exact p90_start_0 b f hE ⟨(u166 (far_ok2 f b h1)),(by decide),(Xb (fv':=.clos 167 [] []) (args':=[.rptr [.int .i64 f.g.w,.int .i64 f.g.h,.rsl (rowI f.g.cells) 0 f.g.cells.length,.rsl (rowI f.g.hts) 0 f.g.hts.length,.rsl (Qc f.ps) 0 f.ps.length,.rsl (Qb f.ss) 0 f.ss.length,.rsl (rowI f.tk) 0 f.tk.length] 0,.clos 168 [] [.rptr [.rptr [.int .i64 f.g.w,.int .i64 f.g.h,.rsl (rowI f.g.cells) 0 f.g.cells.length,.rsl (rowI f.g.hts) 0 f.g.hts.length,.rsl (Qc f.ps) 0 f.ps.length,.rsl (Qb f.ss) 0 f.ss.length,.rsl (rowI f.tk) 0 f.tk.length] 0] 0,.rptr [.int .i64 b] 0,.rptr [.rsl (rowI (farK f b)) 0 ((farK f b).length)] 0]]) (o1:=[]) (o2:=[]) (by kernel_rfl) trivial (by kernel_rfl) trivial (Qk Try.func167 (by kernel_rfl) f167tb (some1_ok f b (farK f b) h2))),trivial⟩ (AvLe.of_eq (by rw [h]; try rfl))
theorem Wj (f:Fld) (b:Int) (h:FldOk f):Pure Try.prog 90 [.rptr [.int .i64 f.g.w,.int .i64 f.g.h,.rsl (rowI f.g.cells) 0 f.g.cells.length,.rsl (rowI f.g.hts) 0 f.g.hts.length,.rsl (Qc f.ps) 0 f.ps.length,.rsl (Qb f.ss) 0 f.ss.length,.rsl (rowI f.tk) 0 f.tk.length] 0,.int .i64 b] (.rsl (rowI (Qv f b)) 0 (Qv f b).length):=Qy Try.func90 f90b fun E hE =>
 f90W b f (rv:=Qv f b) hE ⟨h,⟨h,farK_len b h⟩,rfl⟩
theorem f35b:Try.f35.body=some (Qd Try.prog 35):=by kernel_rfl
theorem u35 {a c k:List AV} {r:AV} (h:Pure Try.prog 35 (a++c++k) r):Qi Try.prog (.clos 35 a k) c r:=Qk Try.func35 (by kernel_rfl) f35b h
def KI (P:Program):List Item:=kAt 400 [.code (Qd P 35)] [.b false,.stop]
def f35S0 (g:Gd) (l:(List Ptc)) (t:(List Sit)) (cell:Int) (blocked:Int) (i:Nat):St:=⟨(jj 6 ([.int .i64 cell,.int .i64 blocked,J,J,.rptr [.int .i64 ((((newF g l t).1).g).w),.int .i64 ((((newF g l t).1).g).h),.rsl (rowI ((((newF g l t).1).g).cells)) 0 (((((newF g l t).1).g).cells).length),.rsl (rowI ((((newF g l t).1).g).hts)) 0 (((((newF g l t).1).g).hts).length),.rsl (Qc (((newF g l t).1).ps)) 0 ((((newF g l t).1).ps).length),.rsl (Qb (((newF g l t).1).ss)) 0 ((((newF g l t).1).ss).length),.rsl (rowI (((newF g l t).1).tk)) 0 ((((newF g l t).1).tk).length)] 0]++jj 19 ([.int .i64 ((((((newF g l t).1).g).cells).length:Nat):Int),.int .i64 (i:Int)]++Js 28))),[⟨true,0,1,true,[.int .i64 g.w,.int .i64 g.h,.rsl (rowI g.cells) 0 g.cells.length,.rsl (rowI g.hts) 0 g.hts.length],false⟩]⟩
def f35G0 (E:Env) (g:Gd) (l:(List Ptc)) (t:(List Sit)) (cell:Int) (blocked:Int) (i:Nat):Prop:=G Try.prog E (KI Try.prog) (f35S0 g l t cell blocked i )
abbrev yQ (g:Gd) (l:(List Ptc)) (t:(List Sit)):List AV:=[.int .i64 ((((newF g l t).1).g).w),.int .i64 ((((newF g l t).1).g).h),.rsl (rowI ((((newF g l t).1).g).cells)) 0 (((((newF g l t).1).g).cells).length),.rsl (rowI ((((newF g l t).1).g).hts)) 0 (((((newF g l t).1).g).hts).length),.rsl (Qc (((newF g l t).1).ps)) 0 ((((newF g l t).1).ps).length),.rsl (Qb (((newF g l t).1).ss)) 0 ((((newF g l t).1).ss).length),.rsl (rowI (((newF g l t).1).tk)) 0 ((((newF g l t).1).tk).length)]
abbrev z35_2 (g:Gd):List AV:=[.int .i64 g.w,.int .i64 g.h,.rsl (rowI g.cells) 0 g.cells.length,.rsl (rowI g.hts) 0 g.hts.length]
abbrev z35_3 (g:Gd) (l:(List Ptc)) (t:(List Sit)) (i:Nat):AV:=.rsl (rowI (Qv ((newF g l t).1) (i:Int))) 0 ((Qv ((newF g l t).1) (i:Int)).length)
abbrev z35_4 (g:Gd) (l:(List Ptc)) (t:(List Sit)) (i:Nat):List AV:=[.int .i64 ((((((newF g l t).1).g).cells).length:Nat):Int),.int .i64 ((i:Int)+1)]++Js 28
abbrev z35_5 (g:Gd) (l:(List Ptc)) (t:(List Sit)):List AV:=[.agg (z35_2 g),.rsl (Qc l) 0 l.length,.rsl (Qb t) 0 t.length]
theorem p35_start_0 (g:Gd) (l:(List Ptc)) (t:(List Sit)) {E:Env} {rv:AV} (hE:Qh Try.prog 35 rv E) (ho:AllP [Qi Try.prog (.clos 89 [] []) (z35_5 g l t) (.tup [.rptr (yQ g l t) 0,.int .i64 0,.int .i64 0]),false=false])
 (hg:G Try.prog E (KI Try.prog) ⟨(jj 6 ([.int .i64 (-1),.int .i64 (-1),J,J,.rptr (yQ g l t) 0]++jj 19 ([.int .i64 ((((((newF g l t).1).g).cells).length:Nat):Int),.int .i64 0]++Js 28))),[⟨true,0,1,true,(z35_2 g),false⟩]⟩):G Try.prog E [.code (Qd Try.prog 35)] ⟨(z35_5 g l t)++unds (Try.f35.ntmps - 3),[]⟩ :=
 Qe (n:=400) (ds:=[]) (cs:=[]) (live:=[6,7,10,30,31]) (m:=1) (evs:=[.v (.tup [.rptr (yQ g l t) 0,.int .i64 0,.int .i64 0]),.b false,.stop]) (obs:=_) hE.2.1 (hE.nogh _) Qg (by kernel_rfl) ho hg
theorem p35_start_1 (g:Gd) (l:(List Ptc)) (t:(List Sit)) {E:Env} {res:AV} (hE:Qh Try.prog 35 res E) (ho:AllP [Qi Try.prog (.clos 89 [] []) (z35_5 g l t) (.tup [.nilPtr,.int .i64 ((newF g l t).2.1),.int .i64 ((newF g l t).2.2)]),((newF g l t).2.2 != 0)=true])
 (hr:AvLe (.tup [.int .i64 0,.int .i64 0,.bool false,.int .i64 ((newF g l t).2.2)]) res):G Try.prog E [.code (Qd Try.prog 35)] ⟨(z35_5 g l t)++unds (Try.f35.ntmps - 3),[]⟩ :=
 Qf (n:=400) (evs:=[.v (.tup [.nilPtr,.int .i64 ((newF g l t).2.1),.int .i64 ((newF g l t).2.2)]),.b true]) (obs:=_) hE Try.func35 Qg (by kernel_rfl) ho hr
theorem f35W (g:Gd) (l:(List Ptc)) (t:(List Sit)) {E:Env} {rv:(Int × Int × Bool × Int)} (hE:Qh Try.prog 35 (.tup [.int .i64 rv.1,.int .i64 rv.2.1,.bool rv.2.2.1,.int .i64 rv.2.2.2]) E)
 (h:(((newF g l t).2.2=0→((GdSmall g∧l.length≤1000∧t.length≤1000)∧f35G0 E g l t (-1) (-1) 0))∧(¬ ((newF g l t).2.2=0)→((GdSmall g∧l.length≤1000∧t.length≤1000)∧rv=(0,0,false,(newF g l t).2.2))))):G Try.prog E [.code (Qd Try.prog 35)] ⟨[.agg [.int .i64 g.w,.int .i64 g.h,.rsl (rowI g.cells) 0 g.cells.length,.rsl (rowI g.hts) 0 g.hts.length],.rsl (Qc l) 0 l.length,.rsl (Qb t) 0 t.length]++unds (Try.f35.ntmps - 3),[]⟩:=by
 rcases bft (decide ((newF g l t).2.2=0)) with hc0 | hc0
 · have h:=h.1 (odt hc0)
   obtain ⟨h1,h⟩:=h
   exact p35_start_0 g l t hE ⟨(Qk Try.func89 (by kernel_rfl) Qap (qG g l t h1 hc0)),rfl,trivial⟩ h
 · have h:=h.2 (odf hc0)
   obtain ⟨h1,h⟩:=h
   exact p35_start_1 g l t hE ⟨(Qk Try.func89 (by kernel_rfl) Qap (Qce g l t h1 hc0)),(by have hq:=hc0; simpa using hq),trivial⟩ (AvLe.of_eq (by rw [h]; try rfl))
theorem p35_0_0 (g:Gd) (l:(List Ptc)) (t:(List Sit)) (cell:Int) (blocked:Int) (i:Nat) (e:Int) {E:Env} {rv:AV} (hE:Qh Try.prog 35 rv E) (ho:AllP [(decide ((i:Int)<((((((newF g l t).1).g).cells).length:Nat):Int)))=true,Qi Try.prog (.clos 90 [] []) [.rptr (yQ g l t) 0,.int .i64 (i:Int)] (z35_3 g l t i),(decide ((((Qv ((newF g l t).1) (i:Int)).length:Nat):Int) > 0))=true,(decide (cell<0))=true,true=true,(0:Int)≤0∧(0:Int)<(((Qv ((newF g l t).1) (i:Int)).length:Nat):Int),((rowI (Qv ((newF g l t).1) (i:Int))).drop (0+0*1)).take 1=[.int .i64 e],InR .i64 ((i:Int)+1)])
 (hg:G Try.prog E (KI Try.prog) ⟨(jj 6 ([.int .i64 e,.int .i64 (i:Int),J,J,.rptr (yQ g l t) 0]++jj 19 (z35_4 g l t i))),[⟨true,0,1,true,(z35_2 g),false⟩]⟩):G Try.prog E (KI Try.prog) (f35S0 g l t cell blocked i ) :=
 Qe (n:=400) (ds:=[]) (cs:=[]) (live:=[6,7,10,30,31]) (m:=1) (evs:=[.b true,.v (z35_3 g l t i),.b true,.b true,.b true,.ld (.int .i64 e),.stop]) (obs:=_) hE.2.1 (hE.nogh _) Qg (by kernel_rfl) ho hg
theorem p35_0_1 (g:Gd) (l:(List Ptc)) (t:(List Sit)) (cell:Int) (blocked:Int) (i:Nat) (e:Int) {E:Env} {rv:AV} (hE:Qh Try.prog 35 rv E) (ho:AllP [(decide ((i:Int)<((((((newF g l t).1).g).cells).length:Nat):Int)))=true,Qi Try.prog (.clos 90 [] []) [.rptr (yQ g l t) 0,.int .i64 (i:Int)] (z35_3 g l t i),(decide ((((Qv ((newF g l t).1) (i:Int)).length:Nat):Int) > 0))=true,(decide (cell<0))=false,(0:Int)≤0∧(0:Int)<(((Qv ((newF g l t).1) (i:Int)).length:Nat):Int),((rowI (Qv ((newF g l t).1) (i:Int))).drop (0+0*1)).take 1=[.int .i64 e],(decide (e<cell))=true,(0:Int)≤0∧(0:Int)<(((Qv ((newF g l t).1) (i:Int)).length:Nat):Int),((rowI (Qv ((newF g l t).1) (i:Int))).drop (0+0*1)).take 1=[.int .i64 e],InR .i64 ((i:Int)+1)])
 (hg:G Try.prog E (KI Try.prog) ⟨(jj 6 ([.int .i64 e,.int .i64 (i:Int),J,J,.rptr (yQ g l t) 0]++jj 19 (z35_4 g l t i))),[⟨true,0,1,true,(z35_2 g),false⟩]⟩):G Try.prog E (KI Try.prog) (f35S0 g l t cell blocked i ) :=
 Qe (n:=400) (ds:=[]) (cs:=[]) (live:=[6,7,10,30,31]) (m:=1) (evs:=[.b true,.v (z35_3 g l t i),.b true,.b false,.ld (.int .i64 e),.b true,.ld (.int .i64 e),.stop]) (obs:=_) hE.2.1 (hE.nogh _) Qg (by kernel_rfl) ho hg
theorem p35_0_2 (g:Gd) (l:(List Ptc)) (t:(List Sit)) (cell:Int) (blocked:Int) (i:Nat) (e:Int) {E:Env} {rv:AV} (hE:Qh Try.prog 35 rv E) (ho:AllP [(decide ((i:Int)<((((((newF g l t).1).g).cells).length:Nat):Int)))=true,Qi Try.prog (.clos 90 [] []) [.rptr (yQ g l t) 0,.int .i64 (i:Int)] (z35_3 g l t i),(decide ((((Qv ((newF g l t).1) (i:Int)).length:Nat):Int) > 0))=true,(decide (cell<0))=false,(0:Int)≤0∧(0:Int)<(((Qv ((newF g l t).1) (i:Int)).length:Nat):Int),((rowI (Qv ((newF g l t).1) (i:Int))).drop (0+0*1)).take 1=[.int .i64 e],(decide (e<cell))=false,InR .i64 ((i:Int)+1)])
 (hg:G Try.prog E (KI Try.prog) ⟨(jj 6 ([.int .i64 cell,.int .i64 blocked,J,J,.rptr (yQ g l t) 0]++jj 19 (z35_4 g l t i))),[⟨true,0,1,true,(z35_2 g),false⟩]⟩):G Try.prog E (KI Try.prog) (f35S0 g l t cell blocked i ) :=
 Qe (n:=400) (ds:=[]) (cs:=[]) (live:=[6,7,10,30,31]) (m:=1) (evs:=[.b true,.v (z35_3 g l t i),.b true,.b false,.ld (.int .i64 e),.b false,.stop]) (obs:=_) hE.2.1 (hE.nogh _) Qg (by kernel_rfl) ho hg
theorem p35_0_3 (g:Gd) (l:(List Ptc)) (t:(List Sit)) (cell:Int) (blocked:Int) (i:Nat) {E:Env} {rv:AV} (hE:Qh Try.prog 35 rv E) (ho:AllP [(decide ((i:Int)<((((((newF g l t).1).g).cells).length:Nat):Int)))=true,Qi Try.prog (.clos 90 [] []) [.rptr (yQ g l t) 0,.int .i64 (i:Int)] (z35_3 g l t i),(decide ((((Qv ((newF g l t).1) (i:Int)).length:Nat):Int) > 0))=false,false=false,InR .i64 ((i:Int)+1)])
 (hg:G Try.prog E (KI Try.prog) ⟨(jj 6 ([.int .i64 cell,.int .i64 blocked,J,J,.rptr (yQ g l t) 0]++jj 19 (z35_4 g l t i))),[⟨true,0,1,true,(z35_2 g),false⟩]⟩):G Try.prog E (KI Try.prog) (f35S0 g l t cell blocked i ) :=
 Qe (n:=400) (ds:=[]) (cs:=[]) (live:=[6,7,10,30,31]) (m:=1) (evs:=[.b true,.v (z35_3 g l t i),.b false,.b false,.stop]) (obs:=_) hE.2.1 (hE.nogh _) Qg (by kernel_rfl) ho hg
theorem p35_0_4 (g:Gd) (l:(List Ptc)) (t:(List Sit)) (cell:Int) (blocked:Int) (i:Nat) {E:Env} {res:AV} (hE:Qh Try.prog 35 res E) (ho:AllP [(decide ((i:Int)<((((((newF g l t).1).g).cells).length:Nat):Int)))=false])
 (hr:AvLe (.tup [.int .i64 cell,.int .i64 blocked,.bool (decide (cell<0)),.int .i64 0]) res):G Try.prog E (KI Try.prog) (f35S0 g l t cell blocked i ) :=
 Qf (n:=400) (evs:=[.b false]) (obs:=_) hE Try.func35 Qg (by kernel_rfl) ho hr
theorem f35W0 (g:Gd) (l:(List Ptc)) (t:(List Sit)) (cell:Int) (blocked:Int) (i:Nat) {E:Env} {rv:(Int × Int × Bool × Int)} (hE:Qh Try.prog 35 (.tup [.int .i64 rv.1,.int .i64 rv.2.1,.bool rv.2.2.1,.int .i64 rv.2.2.2]) E)
 (h:(((i:Int)<((((((newF g l t).1).g).cells).length:Nat):Int)→((FldOk ((newF g l t).1))∧(((((Qv ((newF g l t).1) (i:Int)).length:Nat):Int) > 0→((cell<0→(∃ e:Int,(Qv ((newF g l t).1) (i:Int))[0]?=some e∧((I6 ((i:Int)+1))∧f35G0 E g l t e (i:Int) (i+1))))∧(¬ (cell<0)→(∃ e:Int,(Qv ((newF g l t).1) (i:Int))[0]?=some e∧((e<cell→((I6 ((i:Int)+1))∧f35G0 E g l t e (i:Int) (i+1)))∧(¬ (e<cell)→((I6 ((i:Int)+1))∧f35G0 E g l t cell blocked (i+1))))))))∧(¬ ((((Qv ((newF g l t).1) (i:Int)).length:Nat):Int) > 0)→((I6 ((i:Int)+1))∧f35G0 E g l t cell blocked (i+1))))))∧(¬ ((i:Int)<((((((newF g l t).1).g).cells).length:Nat):Int))→rv=(cell,blocked,(decide (cell<0)),0)))):f35G0 E g l t cell blocked i:=by
 rcases bft (decide ((i:Int)<((((((newF g l t).1).g).cells).length:Nat):Int))) with hc0 | hc0
 · have h:=h.1 (odt hc0)
   obtain ⟨h1,h⟩:=h
   rcases bft (decide ((((Qv ((newF g l t).1) (i:Int)).length:Nat):Int) > 0)) with hc1 | hc1
   · have h:=h.1 (odt hc1)
     rcases bft (decide (cell<0)) with hc2 | hc2
     · have h:=h.1 (odt hc2)
       obtain ⟨e,h2,h⟩:=h
       obtain ⟨q8_3,h⟩:=h
       exact p35_0_0 g l t cell blocked i e hE ⟨hc0,(u90 (Wj ((newF g l t).1) (i:Int) h1)),hc1,hc2,rfl,(Qs h2),(rp cI 1 0 1 h2),q8_3,trivial⟩ h
     · have h:=h.2 (odf hc2)
       obtain ⟨e,h2,h⟩:=h
       rcases bft (decide (e<cell)) with hc3 | hc3
       · have h:=h.1 (odt hc3)
         obtain ⟨q10_4,h⟩:=h
         exact p35_0_1 g l t cell blocked i e hE ⟨hc0,(u90 (Wj ((newF g l t).1) (i:Int) h1)),hc1,hc2,(Qs h2),(rp cI 1 0 1 h2),hc3,(Qs h2),(rp cI 1 0 1 h2),q10_4,trivial⟩ h
       · have h:=h.2 (odf hc3)
         obtain ⟨q8_4,h⟩:=h
         exact p35_0_2 g l t cell blocked i e hE ⟨hc0,(u90 (Wj ((newF g l t).1) (i:Int) h1)),hc1,hc2,(Qs h2),(rp cI 1 0 1 h2),hc3,q8_4,trivial⟩ h
   · have h:=h.2 (odf hc1)
     obtain ⟨q4_2,h⟩:=h
     exact p35_0_3 g l t cell blocked i hE ⟨hc0,(u90 (Wj ((newF g l t).1) (i:Int) h1)),hc1,rfl,q4_2,trivial⟩ h
 · have h:=h.2 (odf hc0)
   exact p35_0_4 g l t cell blocked i hE ⟨hc0,trivial⟩ (AvLe.of_eq (by rw [h]; try rfl))
theorem Qaj (g:Gd) (l:List Ptc) (t:List Sit) (h:GdSmall g∧l.length≤1000∧t.length≤1000):Pure Try.prog 35 [.agg [.int .i64 g.w,.int .i64 g.h,.rsl (rowI g.cells) 0 g.cells.length,.rsl (rowI g.hts) 0 g.hts.length],.rsl (Qc l) 0 l.length,.rsl (Qb t) 0 t.length] (.tup [.int .i64 (QJ g l t).1,.int .i64 (QJ g l t).2.1,.bool (QJ g l t).2.2.1,.int .i64 (QJ g l t).2.2.2]):=Qy Try.func35 f35b fun E hE=>by
 refine f35W g l t (rv:=QJ g l t) hE ⟨fun q=>⟨h,?_⟩,fun q=>⟨h,?_⟩⟩
 · have hf:=YH q
   have hg:=XF hf.1.g
   have key:∀ (d i:Nat) (s:Int × Int),i+d=(newF g l t).1.g.cells.length→WW (newF g l t).1 d i s=safeK (newF g l t).1→f35G0 E g l t s.1 s.2 i:=by
    intro d
    induction d with
    | zero =>
     intro i s hd hr
     refine f35W0 g l t s.1 s.2 i (rv:=QJ g l t) hE ⟨fun q=>by omega,fun _=>?_⟩
     unfold QJ; rw [if_pos q,← hr]; rfl
    | succ d ih =>
     intro i s hd hr
     unfold WW at hr
     have hx:0<(Qv (newF g l t).1 (i:Int)).length→(Qv (newF g l t).1 (i:Int))[0]?=some ((Qv (newF g l t).1 (i:Int)).getD 0 0):=fun h=>XQ 0 (i:=0) (by omega)
     refine f35W0 g l t s.1 s.2 i (rv:=QJ g l t) hE ⟨fun _=>⟨hf.1,fun q1=>⟨fun q2=>⟨_,hx (by omega),⟨by omega,by omega⟩,?_⟩,fun q2=>⟨_,hx (by omega),fun q3=>⟨⟨by omega,by omega⟩,?_⟩,fun q3=>⟨⟨by omega,by omega⟩,?_⟩⟩⟩,fun q1=>⟨⟨by omega,by omega⟩,?_⟩⟩,fun q=>by omega⟩
     · rw [if_pos ⟨by omega,.inl q2⟩] at hr; exact ih (i+1) _ (by omega) hr
     · rw [if_pos ⟨by omega,.inr q3⟩] at hr; exact ih (i+1) _ (by omega) hr
     · rw [if_neg (fun hh=>hh.2.elim q2 q3)] at hr; exact ih (i+1) s (by omega) hr
     · rw [if_neg (fun hh=>q1 (by omega))] at hr; exact ih (i+1) s (by omega) hr
   exact key _ 0 (-1,-1) (Nat.zero_add _) rfl
 · unfold QJ; rw [if_neg q]
theorem Qcz:Try.f53.body=some (Qd Try.prog 53):=by kernel_rfl
abbrev z53q_1 (g:Gd) (l:(List Ptc)) (t:(List Sit)):List AV:=[.int .i64 ((((newF g l t).1).g).w),.int .i64 ((((newF g l t).1).g).h),.rsl (rowI ((((newF g l t).1).g).cells)) 0 (((((newF g l t).1).g).cells).length),.rsl (rowI ((((newF g l t).1).g).hts)) 0 (((((newF g l t).1).g).hts).length),.rsl (Qc (((newF g l t).1).ps)) 0 ((((newF g l t).1).ps).length),.rsl (Qb (((newF g l t).1).ss)) 0 ((((newF g l t).1).ss).length),.rsl (rowI (((newF g l t).1).tk)) 0 ((((newF g l t).1).tk).length)]
abbrev Qas (g:Gd):List AV:=[.int .i64 g.w,.int .i64 g.h,.rsl (rowI g.cells) 0 g.cells.length,.rsl (rowI g.hts) 0 g.hts.length]
abbrev z53q_3 (g:Gd) (l:(List Ptc)) (t:(List Sit)) (a:Int):List AV:=[.agg (Qas g),.rsl (Qc l) 0 l.length,.rsl (Qb t) 0 t.length,.rsl [.int .i64 a] 0 1]
theorem p53q_start_0 (g:Gd) (l:(List Ptc)) (t:(List Sit)) (a:Int) {E:Env} {res:AV} (hE:Qh Try.prog 53 res E) (ho:AllP [Qi Try.prog (.clos 89 [] []) [.agg (Qas g),.rsl (Qc l) 0 l.length,.rsl (Qb t) 0 t.length] (.tup [.rptr (z53q_1 g l t) 0,.int .i64 0,.int .i64 0]),false=false,Qi Try.prog (.clos 76 [] []) [.rsl [.int .i64 a] 0 1,.clos 128 [] [.rptr (Qas g) 0]] (.bool (([a]).any (offG g))),(([a]).any (offG g))=true])
 (hr:AvLe (.tup [.nilPtr,.int .i64 1]) res):G Try.prog E [.code (Qd Try.prog 53)] ⟨(z53q_3 g l t a)++unds (Try.f53.ntmps - 4),[]⟩ :=
 Qf (n:=400) (evs:=[.v (.tup [.rptr (z53q_1 g l t) 0,.int .i64 0,.int .i64 0]),.b false,.v (.bool (([a]).any (offG g))),.b true]) (obs:=_) hE Try.func53 Qg (by kernel_rfl) ho hr
theorem p53q_start_1 (g:Gd) (l:(List Ptc)) (t:(List Sit)) (a:Int) {E:Env} {res:AV} (hE:Qh Try.prog 53 res E) (ho:AllP [Qi Try.prog (.clos 89 [] []) [.agg (Qas g),.rsl (Qc l) 0 l.length,.rsl (Qb t) 0 t.length] (.tup [.rptr (z53q_1 g l t) 0,.int .i64 0,.int .i64 0]),false=false,Qi Try.prog (.clos 76 [] []) [.rsl [.int .i64 a] 0 1,.clos 128 [] [.rptr (Qas g) 0]] (.bool (([a]).any (offG g))),(([a]).any (offG g))=false])
 (hr:AvLe (.tup [.rptr (z53q_1 g l t) 0,.int .i64 0]) res):G Try.prog E [.code (Qd Try.prog 53)] ⟨(z53q_3 g l t a)++unds (Try.f53.ntmps - 4),[]⟩ :=
 Qf (n:=400) (evs:=[.v (.tup [.rptr (z53q_1 g l t) 0,.int .i64 0,.int .i64 0]),.b false,.v (.bool (([a]).any (offG g))),.b false]) (obs:=_) hE Try.func53 Qg (by kernel_rfl) ho hr
theorem p53q_start_2 (g:Gd) (l:(List Ptc)) (t:(List Sit)) (a:Int) {E:Env} {res:AV} (hE:Qh Try.prog 53 res E) (ho:AllP [Qi Try.prog (.clos 89 [] []) [.agg (Qas g),.rsl (Qc l) 0 l.length,.rsl (Qb t) 0 t.length] (.tup [.nilPtr,.int .i64 ((newF g l t).2.1),.int .i64 ((newF g l t).2.2)]),((newF g l t).2.2 != 0)=true])
 (hr:AvLe (.tup [.nilPtr,.int .i64 ((newF g l t).2.2)]) res):G Try.prog E [.code (Qd Try.prog 53)] ⟨(z53q_3 g l t a)++unds (Try.f53.ntmps - 4),[]⟩ :=
 Qf (n:=400) (evs:=[.v (.tup [.nilPtr,.int .i64 ((newF g l t).2.1),.int .i64 ((newF g l t).2.2)]),.b true]) (obs:=_) hE Try.func53 Qg (by kernel_rfl) ho hr
theorem f53qW (g:Gd) (l:(List Ptc)) (t:(List Sit)) (a:Int) {E:Env} {rv:AV} (hE:Qh Try.prog 53 rv E)
 (h:(((newF g l t).2.2=0→((GdSmall g∧l.length≤1000∧t.length≤1000)∧(((∀ x ∈ ([a]),g.cells.length≤100)∧([a]).length≤9223372036854775807)∧(((([a]).any (offG g))=true→rv=(.tup [.nilPtr,.int .i64 1]))∧((([a]).any (offG g))=false→rv=(.tup [.rptr [.int .i64 ((((newF g l t).1).g).w),.int .i64 ((((newF g l t).1).g).h),.rsl (rowI ((((newF g l t).1).g).cells)) 0 (((((newF g l t).1).g).cells).length),.rsl (rowI ((((newF g l t).1).g).hts)) 0 (((((newF g l t).1).g).hts).length),.rsl (Qc (((newF g l t).1).ps)) 0 ((((newF g l t).1).ps).length),.rsl (Qb (((newF g l t).1).ss)) 0 ((((newF g l t).1).ss).length),.rsl (rowI (((newF g l t).1).tk)) 0 ((((newF g l t).1).tk).length)] 0,.int .i64 0]))))))∧(¬ ((newF g l t).2.2=0)→((GdSmall g∧l.length≤1000∧t.length≤1000)∧rv=(.tup [.nilPtr,.int .i64 ((newF g l t).2.2)]))))):G Try.prog E [.code (Qd Try.prog 53)] ⟨[.agg [.int .i64 g.w,.int .i64 g.h,.rsl (rowI g.cells) 0 g.cells.length,.rsl (rowI g.hts) 0 g.hts.length],.rsl (Qc l) 0 l.length,.rsl (Qb t) 0 t.length,.rsl [.int .i64 a] 0 1]++unds (Try.f53.ntmps - 4),[]⟩:=by
 rcases bft (decide ((newF g l t).2.2=0)) with hc0 | hc0
 · have h:=h.1 (odt hc0)
   obtain ⟨h1,h⟩:=h
   obtain ⟨h2,h⟩:=h
   rcases bft (([a]).any (offG g)) with hc1 | hc1
   · have h:=h.1 hc1
     exact p53q_start_0 g l t a hE ⟨(Qk Try.func89 (by kernel_rfl) Qap (qG g l t h1 hc0)),rfl,(Qk Try.func76 (by kernel_rfl) f76wcb (anyOff_ok ([a]) g h2)),hc1,trivial⟩ (AvLe.of_eq (by rw [h]; try rfl))
   · have h:=h.2 hc1
     exact p53q_start_1 g l t a hE ⟨(Qk Try.func89 (by kernel_rfl) Qap (qG g l t h1 hc0)),rfl,(Qk Try.func76 (by kernel_rfl) f76wcb (anyOff_ok ([a]) g h2)),hc1,trivial⟩ (AvLe.of_eq (by rw [h]; try rfl))
 · have h:=h.2 (odf hc0)
   obtain ⟨h1,h⟩:=h
   exact p53q_start_2 g l t a hE ⟨(Qk Try.func89 (by kernel_rfl) Qap (Qce g l t h1 hc0)),(by have hq:=hc0; simpa using hq),trivial⟩ (AvLe.of_eq (by rw [h]; try rfl))
def wcAV (g:Gd) (l:List Ptc) (t:List Sit) (a:Int):AV:=if (newF g l t).2.2=0 then (if [a].any (offG g)=true then .tup [.nilPtr,.int .i64 1] else .tup [.rptr [.int .i64 ((((newF g l t).1).g).w),.int .i64 ((((newF g l t).1).g).h),.rsl (rowI ((((newF g l t).1).g).cells)) 0 (((((newF g l t).1).g).cells).length),.rsl (rowI ((((newF g l t).1).g).hts)) 0 (((((newF g l t).1).g).hts).length),.rsl (Qc (((newF g l t).1).ps)) 0 ((((newF g l t).1).ps).length),.rsl (Qb (((newF g l t).1).ss)) 0 ((((newF g l t).1).ss).length),.rsl (rowI (((newF g l t).1).tk)) 0 ((((newF g l t).1).tk).length)] 0,.int .i64 0]) else .tup [.nilPtr,.int .i64 (newF g l t).2.2]
theorem VL (g:Gd) (l:List Ptc) (t:List Sit) (a:Int) (h:GdSmall g∧l.length≤1000∧t.length≤1000):Pure Try.prog 53 [.agg [.int .i64 g.w,.int .i64 g.h,.rsl (rowI g.cells) 0 g.cells.length,.rsl (rowI g.hts) 0 g.hts.length],.rsl (Qc l) 0 l.length,.rsl (Qb t) 0 t.length,.rsl [.int .i64 a] 0 1] (wcAV g l t a):=Qy Try.func53 Qcz fun E hE=>by
 have hl:([a]:List Int).length≤9223372036854775807:=by simp
 refine f53qW g l t a (rv:=wcAV g l t a) hE ⟨fun q=>⟨h,⟨fun _ _=>h.1.cells,hl⟩,fun q2=>?_,fun q2=>?_⟩,fun q=>⟨h,?_⟩⟩
 · unfold wcAV; rw [if_pos q,if_pos q2]
 · unfold wcAV; rw [if_pos q,if_neg (by rw [q2]; exact Bool.false_ne_true)]
 · unfold wcAV; rw [if_neg q]
theorem wc1_off (g:Gd) (l:List Ptc) (t:List Sit) (a:Int) (h:GdSmall g∧l.length≤1000∧t.length≤1000) (h1:decide ((newF g l t).2.2=0)=true) (h2:[a].any (offG g)=true):Pure Try.prog 53 [.agg [.int .i64 g.w,.int .i64 g.h,.rsl (rowI g.cells) 0 g.cells.length,.rsl (rowI g.hts) 0 g.hts.length],.rsl (Qc l) 0 l.length,.rsl (Qb t) 0 t.length,.rsl [.int .i64 a] 0 1] (.tup [.nilPtr,.int .i64 1]):=by
 have:=VL g l t a h
 unfold wcAV at this; rw [if_pos (of_decide_eq_true h1),if_pos h2] at this; exact this
theorem wc1_in (g:Gd) (l:List Ptc) (t:List Sit) (a:Int) (h:GdSmall g∧l.length≤1000∧t.length≤1000) (h1:decide ((newF g l t).2.2=0)=true) (h2:[a].any (offG g)=false):Pure Try.prog 53 [.agg [.int .i64 g.w,.int .i64 g.h,.rsl (rowI g.cells) 0 g.cells.length,.rsl (rowI g.hts) 0 g.hts.length],.rsl (Qc l) 0 l.length,.rsl (Qb t) 0 t.length,.rsl [.int .i64 a] 0 1] (.tup [.rptr [.int .i64 ((((newF g l t).1).g).w),.int .i64 ((((newF g l t).1).g).h),.rsl (rowI ((((newF g l t).1).g).cells)) 0 (((((newF g l t).1).g).cells).length),.rsl (rowI ((((newF g l t).1).g).hts)) 0 (((((newF g l t).1).g).hts).length),.rsl (Qc (((newF g l t).1).ps)) 0 ((((newF g l t).1).ps).length),.rsl (Qb (((newF g l t).1).ss)) 0 ((((newF g l t).1).ss).length),.rsl (rowI (((newF g l t).1).tk)) 0 ((((newF g l t).1).tk).length)] 0,.int .i64 0]):=by
 have:=VL g l t a h
 unfold wcAV at this; rw [if_pos (of_decide_eq_true h1),if_neg (by rw [h2]; exact Bool.false_ne_true)] at this; exact this
theorem wc1_bad (g:Gd) (l:List Ptc) (t:List Sit) (a:Int) (h:GdSmall g∧l.length≤1000∧t.length≤1000) (h1:decide ((newF g l t).2.2=0)=false):Pure Try.prog 53 [.agg [.int .i64 g.w,.int .i64 g.h,.rsl (rowI g.cells) 0 g.cells.length,.rsl (rowI g.hts) 0 g.hts.length],.rsl (Qc l) 0 l.length,.rsl (Qb t) 0 t.length,.rsl [.int .i64 a] 0 1] (.tup [.nilPtr,.int .i64 (newF g l t).2.2]):=by
 have:=VL g l t a h
 unfold wcAV at this; rw [if_neg (of_decide_eq_false h1)] at this; exact this
theorem f167ub:Try.f167.body=some (Qd Try.prog 167):=by kernel_rfl
def WH (P:Program):List Item:=kAt 400 [.code (Qd P 167)] [.stop]
def QcC (f:Fld) (b:Int) (far:List Int) (v0:List Int) (i:Nat) (g0:Nat):St:=⟨([J,.clos 168 [] [.rptr [.rptr [.int .i64 f.g.w,.int .i64 f.g.h,.rsl (rowI f.g.cells) 0 f.g.cells.length,.rsl (rowI f.g.hts) 0 f.g.hts.length,.rsl (Qc f.ps) 0 f.ps.length,.rsl (Qb f.ss) 0 f.ss.length,.rsl (rowI f.tk) 0 f.tk.length] 0] 0,.rptr [.int .i64 b] 0,.rptr [.rsl (rowI far) 0 far.length] 0],J,J,.sl 0 g0 0 v0.length 1]++jj 6 ([.int .i64 (f.g.cells.length:Int),.int .i64 (i:Int)]++Js 11)),[⟨true,g0,1,true,(rowI v0),true⟩]⟩
def KR (E:Env) (f:Fld) (b:Int) (far:List Int) (v0:List Int) (i:Nat):Prop:=∀ g0:Nat,G Try.prog E (WH Try.prog) (QcC f b far v0 i g0)
abbrev z167u_1 (f:Fld):List AV:=[.int .i64 f.g.w,.int .i64 f.g.h,.rsl (rowI f.g.cells) 0 f.g.cells.length,.rsl (rowI f.g.hts) 0 f.g.hts.length,.rsl (Qc f.ps) 0 f.ps.length,.rsl (Qb f.ss) 0 f.ss.length,.rsl (rowI f.tk) 0 f.tk.length]
abbrev Qbn (f:Fld) (b:Int) (far:List Int):List AV:=[.rptr [.rptr (z167u_1 f) 0] 0,.rptr [.int .i64 b] 0,.rptr [.rsl (rowI far) 0 far.length] 0]
theorem QbR (f:Fld) (b:Int) (far:List Int) {E:Env} {rv:(List Int)} (hE:PureOE Try.prog 167 rv.length 1 (rowI rv) E) (ho:AllP [])
 (hg:G Try.prog E (WH Try.prog) ⟨([J,.clos 168 [] (Qbn f b far),J,J,.sl 0 0 0 0 1]++jj 6 ([.int .i64 (f.g.cells.length:Int),.int .i64 0]++Js 11)),[⟨true,0,1,true,[],true⟩]⟩):G Try.prog E [.code (Qd Try.prog 167)] ⟨[.rptr (z167u_1 f) 0,.clos 168 [] (Qbn f b far)]++unds (Try.f167.ntmps - 2),[]⟩ :=
 Qe (n:=400) (ds:=[(4,1)]) (cs:=[]) (live:=[1,4,11,12]) (m:=1) (evs:=[.stop]) (obs:=_) hE.kind (hE.nogh _) Qg (by kernel_rfl) ho hg
theorem f167uW (f:Fld) (b:Int) (far:List Int) {E:Env} {rv:(List Int)} (hE:PureOE Try.prog 167 rv.length 1 (rowI rv) E)
 (h:KR E f b far ([]) 0):G Try.prog E [.code (Qd Try.prog 167)] ⟨[.rptr [.int .i64 f.g.w,.int .i64 f.g.h,.rsl (rowI f.g.cells) 0 f.g.cells.length,.rsl (rowI f.g.hts) 0 f.g.hts.length,.rsl (Qc f.ps) 0 f.ps.length,.rsl (Qb f.ss) 0 f.ss.length,.rsl (rowI f.tk) 0 f.tk.length] 0,.clos 168 [] [.rptr [.rptr [.int .i64 f.g.w,.int .i64 f.g.h,.rsl (rowI f.g.cells) 0 f.g.cells.length,.rsl (rowI f.g.hts) 0 f.g.hts.length,.rsl (Qc f.ps) 0 f.ps.length,.rsl (Qb f.ss) 0 f.ss.length,.rsl (rowI f.tk) 0 f.tk.length] 0] 0,.rptr [.int .i64 b] 0,.rptr [.rsl (rowI far) 0 far.length] 0]]++unds (Try.f167.ntmps - 2),[]⟩:=by
 exact QbR f b far hE trivial (h 0)
theorem p167u_0_0 (f:Fld) (b:Int) (far:List Int) (v0:List Int) (i:Nat) (g0:Nat) {E:Env} {rv:(List Int)} (hE:PureOE Try.prog 167 rv.length 1 (rowI rv) E) (ho:AllP [(decide ((i:Int)<(f.g.cells.length:Int)))=true,Qi Try.prog (.clos 168 [] [.rptr [.rptr [.int .i64 f.g.w,.int .i64 f.g.h,.rsl (rowI f.g.cells) 0 f.g.cells.length,.rsl (rowI f.g.hts) 0 f.g.hts.length,.rsl (Qc f.ps) 0 f.ps.length,.rsl (Qb f.ss) 0 f.ss.length,.rsl (rowI f.tk) 0 f.tk.length] 0] 0,.rptr [.int .i64 b] 0,.rptr [.rsl (rowI far) 0 far.length] 0]) [.int .i64 (i:Int)] (.bool (QR f b far (i:Int))),(QR f b far (i:Int))=true,g0=g0,(0+(v0.length*1))=(rowI v0).length,(v0.length+1)≤2147483648,0=0,InR .i64 ((i:Int)+1)])
 (hg:G Try.prog E (WH Try.prog) ⟨([J,.clos 168 [] [.rptr [.rptr [.int .i64 f.g.w,.int .i64 f.g.h,.rsl (rowI f.g.cells) 0 f.g.cells.length,.rsl (rowI f.g.hts) 0 f.g.hts.length,.rsl (Qc f.ps) 0 f.ps.length,.rsl (Qb f.ss) 0 f.ss.length,.rsl (rowI f.tk) 0 f.tk.length] 0] 0,.rptr [.int .i64 b] 0,.rptr [.rsl (rowI far) 0 far.length] 0],J,J,.sl 0 (g0+1) 0 (v0.length+1) 1]++jj 6 ([.int .i64 (f.g.cells.length:Int),.int .i64 ((i:Int)+1)]++Js 11)),[⟨true,(g0+1),1,true,((rowI v0)++[.int .i64 (i:Int)]),true⟩]⟩):G Try.prog E (WH Try.prog) (QcC f b far v0 i g0) :=
 Qe (n:=400) (ds:=[]) (cs:=[]) (live:=[1,4,11,12]) (m:=1) (evs:=[.b true,.v (.bool (QR f b far (i:Int))),.b true,.stop]) (obs:=_) hE.kind (hE.nogh _) Qg (by kernel_rfl) ho hg
theorem p167u_0_1 (f:Fld) (b:Int) (far:List Int) (v0:List Int) (i:Nat) (g0:Nat) {E:Env} {rv:(List Int)} (hE:PureOE Try.prog 167 rv.length 1 (rowI rv) E) (ho:AllP [(decide ((i:Int)<(f.g.cells.length:Int)))=true,Qi Try.prog (.clos 168 [] (Qbn f b far)) [.int .i64 (i:Int)] (.bool (QR f b far (i:Int))),(QR f b far (i:Int))=false,InR .i64 ((i:Int)+1)])
 (hg:G Try.prog E (WH Try.prog) ⟨([J,.clos 168 [] (Qbn f b far),J,J,.sl 0 g0 0 v0.length 1]++jj 6 ([.int .i64 (f.g.cells.length:Int),.int .i64 ((i:Int)+1)]++Js 11)),[⟨true,g0,1,true,(rowI v0),true⟩]⟩):G Try.prog E (WH Try.prog) (QcC f b far v0 i g0) :=
 Qe (n:=400) (ds:=[]) (cs:=[]) (live:=[1,4,11,12]) (m:=1) (evs:=[.b true,.v (.bool (QR f b far (i:Int))),.b false,.stop]) (obs:=_) hE.kind (hE.nogh _) Qg (by kernel_rfl) ho hg
theorem p167u_0_2 (f:Fld) (b:Int) (far:List Int) (v0:List Int) (i:Nat) (g0:Nat) {E:Env} {len:Nat} {cells:List AV} (hE:PureOE Try.prog 167 len 1 cells E) (ho:AllP [(decide ((i:Int)<(f.g.cells.length:Int)))=false,g0=g0,∀ x ∈ (rowI v0),Xt x=true])
 (hl:v0.length=len) (hc:(rowI v0)=cells):G Try.prog E (WH Try.prog) (QcC f b far v0 i g0) :=
 KZ (n:=400) (evs:=[.b false]) (obs:=_) hE Try.func167 Qg (by kernel_rfl) ho hl hc
theorem f167uW0 (f:Fld) (b:Int) (far:List Int) (v0:List Int) (i:Nat) {E:Env} {rv:(List Int)} (hE:PureOE Try.prog 167 rv.length 1 (rowI rv) E)
 (h:(((i:Int)<(f.g.cells.length:Int)→((OnF f (i:Int)∧far.length=f.g.cells.length)∧(((QR f b far (i:Int))=true→((v0.length+1)≤2147483648∧((I6 ((i:Int)+1))∧KR E f b far (v0++[(i:Int)]) (i+1))))∧((QR f b far (i:Int))=false→((I6 ((i:Int)+1))∧KR E f b far v0 (i+1))))))∧(¬ ((i:Int)<(f.g.cells.length:Int))→rv=v0))):KR E f b far v0 i:=by
 intro g0
 rcases bft (decide ((i:Int)<(f.g.cells.length:Int))) with hc0 | hc0
 · have h:=h.1 (odt hc0)
   obtain ⟨h1,h⟩:=h
   rcases bft (QR f b far (i:Int)) with hc1 | hc1
   · have h:=h.1 hc1
     obtain ⟨h2,h⟩:=h
     obtain ⟨q7_2,h⟩:=h
     refine p167u_0_0 f b far v0 i g0 hE ⟨hc0,(u168 (yy (i:Int) f b far h1)),hc1,rfl,(by have hx:=QC cI (s:=1) (fun _=>rfl) v0; simp only [rowI] at hx ⊢; rw [hx]; simp),h2,rfl,q7_2,trivial⟩ ?_
     rw [(show rowI v0++[.int .i64 (i:Int)]=rowI (v0++[(i:Int)]) from (XD cI v0 [(i:Int)]).symm)]; (try rw [(show (v0.length+1)=(v0++[(i:Int)]).length from by simp)]); exact (h (g0+1))
   · have h:=h.2 hc1
     obtain ⟨q3_2,h⟩:=h
     exact p167u_0_1 f b far v0 i g0 hE ⟨hc0,(u168 (yy (i:Int) f b far h1)),hc1,q3_2,trivial⟩ (h g0)
 · have h:=h.2 (odf hc0)
   exact p167u_0_2 f b far v0 i g0 hE ⟨hc0,rfl,(Yw _),trivial⟩ (by rw [h]; try rfl) (by rw [h]; try rfl)
theorem some1O_ok (f:Fld) (b:Int) (far:List Int) (h:FldOk f∧far.length=f.g.cells.length):PureO0 Try.prog 167 [.rptr [.int .i64 f.g.w,.int .i64 f.g.h,.rsl (rowI f.g.cells) 0 f.g.cells.length,.rsl (rowI f.g.hts) 0 f.g.hts.length,.rsl (Qc f.ps) 0 f.ps.length,.rsl (Qb f.ss) 0 f.ss.length,.rsl (rowI f.tk) 0 f.tk.length] 0,.clos 168 [] [.rptr [.rptr [.int .i64 f.g.w,.int .i64 f.g.h,.rsl (rowI f.g.cells) 0 f.g.cells.length,.rsl (rowI f.g.hts) 0 f.g.hts.length,.rsl (Qc f.ps) 0 f.ps.length,.rsl (Qb f.ss) 0 f.ss.length,.rsl (rowI f.tk) 0 f.tk.length] 0] 0,.rptr [.int .i64 b] 0,.rptr [.rsl (rowI far) 0 far.length] 0]] (XA (QR f b far) f.g.cells.length).length 1 (rowI (XA (QR f b far) f.g.cells.length)):=QbA Try.func167 f167ub fun E hE=>by
 have hg:=XF h.1.g
 have key:∀ (d i:Nat) (v:List Int),i+d=f.g.cells.length→v.length≤i→v++XV (QR f b far) d i=XA (QR f b far) f.g.cells.length→KR E f b far v i:=by
  intro d
  induction d with
  | zero =>
   intro i v hd hv hr
   exact f167uW0 f b far v i (rv:=XA (QR f b far) f.g.cells.length) hE ⟨fun q=>by omega,fun _=>by simpa [XV] using hr.symm⟩
  | succ d ih =>
   intro i v hd hv hr
   unfold XV at hr
   refine f167uW0 f b far v i (rv:=XA (QR f b far) f.g.cells.length) hE ⟨fun _=>⟨⟨⟨h.1,by omega,by omega⟩,h.2⟩,fun q=>⟨by omega,⟨by omega,by omega⟩,?_⟩,fun q=>⟨⟨by omega,by omega⟩,?_⟩⟩,fun q=>by omega⟩
   · rw [if_pos q] at hr
     exact ih (i+1) _ (by omega) (by simp; omega) (by rw [List.append_assoc]; exact hr)
   · rw [if_neg (by rw [q]; exact Bool.false_ne_true)] at hr
     exact ih (i+1) v (by omega) (by omega) hr
 exact f167uW f b far (rv:=XA (QR f b far) f.g.cells.length) hE (key f.g.cells.length 0 [] (by omega) (by simp) rfl)
theorem f90ub:Try.f90.body=some (Qd Try.prog 90):=by kernel_rfl
abbrev z90u_1 (f:Fld):List AV:=[.int .i64 f.g.w,.int .i64 f.g.h,.rsl (rowI f.g.cells) 0 f.g.cells.length,.rsl (rowI f.g.hts) 0 f.g.hts.length,.rsl (Qc f.ps) 0 f.ps.length,.rsl (Qb f.ss) 0 f.ss.length,.rsl (rowI f.tk) 0 f.tk.length]
abbrev z90u_2 (f:Fld) (b:Int):List Blk:=[⟨true,0,1,true,[.rptr (z90u_1 f) 0],false⟩,⟨true,0,1,true,[.int .i64 b],false⟩,⟨true,0,1,true,[.rsl (rowI (farK f b)) 0 ((farK f b).length)],false⟩,⟨true,0,1,true,(rowI (XA (QR f b (farK f b)) f.g.cells.length)),true⟩]
theorem p90u_start_0 (b:Int) (f:Fld) {E:Env} {len:Nat} {cells:List AV} (hE:PureOE Try.prog 90 len 1 cells E) (ho:AllP [Qi Try.prog (.clos 166 [] []) [.rptr (z90u_1 f) 0,.int .i64 b] (.rsl (rowI (farK f b)) 0 ((farK f b).length)),1≤1,QO Try.prog (.clos 167 [] []) [.rptr (z90u_1 f) 0,.clos 168 [] [.ptr 0 0 0,.ptr 1 0 0,.ptr 2 0 0]] [⟨true,0,1,true,[.rptr (z90u_1 f) 0],false⟩,⟨true,0,1,true,[.int .i64 b],false⟩,⟨true,0,1,true,[.rsl (rowI (farK f b)) 0 ((farK f b).length)],false⟩] (.sl 3 0 0 ((XA (QR f b (farK f b)) f.g.cells.length).length) 1) (z90u_2 f b),0=0,∀ x ∈ (rowI (XA (QR f b (farK f b)) f.g.cells.length)),Xt x=true])
 (hl:(XA (QR f b (farK f b)) f.g.cells.length).length=len) (hc:(rowI (XA (QR f b (farK f b)) f.g.cells.length))=cells):G Try.prog E [.code (Qd Try.prog 90)] ⟨[.rptr (z90u_1 f) 0,.int .i64 b]++unds (Try.f90.ntmps - 2),[]⟩ :=
 KZ (n:=400) (evs:=[.v (.rsl (rowI (farK f b)) 0 ((farK f b).length)),.lent [0,1,2] (.sl 3 0 0 ((XA (QR f b (farK f b)) f.g.cells.length).length) 1) (z90u_2 f b)]) (obs:=_) hE Try.func90 Qg (by kernel_rfl) ho hl hc
theorem f90uW (b:Int) (f:Fld) {E:Env} {rv:(List Int)} (hE:PureOE Try.prog 90 rv.length 1 (rowI rv) E)
 (h:((FldOk f)∧((FldOk f∧(farK f b).length=f.g.cells.length)∧rv=(XA (QR f b (farK f b)) f.g.cells.length)))):G Try.prog E [.code (Qd Try.prog 90)] ⟨[.rptr [.int .i64 f.g.w,.int .i64 f.g.h,.rsl (rowI f.g.cells) 0 f.g.cells.length,.rsl (rowI f.g.hts) 0 f.g.hts.length,.rsl (Qc f.ps) 0 f.ps.length,.rsl (Qb f.ss) 0 f.ss.length,.rsl (rowI f.tk) 0 f.tk.length] 0,.int .i64 b]++unds (Try.f90.ntmps - 2),[]⟩:=by
 obtain ⟨h1,h⟩:=h
 obtain ⟨h2,h⟩:=h
 exact p90u_start_0 b f hE ⟨(u166 (far_ok2 f b h1)),(by decide),(VW (fv':=.clos 167 [] []) (args':=[.rptr [.int .i64 f.g.w,.int .i64 f.g.h,.rsl (rowI f.g.cells) 0 f.g.cells.length,.rsl (rowI f.g.hts) 0 f.g.hts.length,.rsl (Qc f.ps) 0 f.ps.length,.rsl (Qb f.ss) 0 f.ss.length,.rsl (rowI f.tk) 0 f.tk.length] 0,.clos 168 [] [.rptr [.rptr [.int .i64 f.g.w,.int .i64 f.g.h,.rsl (rowI f.g.cells) 0 f.g.cells.length,.rsl (rowI f.g.hts) 0 f.g.hts.length,.rsl (Qc f.ps) 0 f.ps.length,.rsl (Qb f.ss) 0 f.ss.length,.rsl (rowI f.tk) 0 f.tk.length] 0] 0,.rptr [.int .i64 b] 0,.rptr [.rsl (rowI (farK f b)) 0 ((farK f b).length)] 0]]) (o1:=[]) (o2:=[]) (by kernel_rfl) trivial (by kernel_rfl) trivial (Kd Try.func167 (by kernel_rfl) f167ub (some1O_ok f b (farK f b) h2)) (by decide)),rfl,(Yw _),trivial⟩ (by rw [h]; try rfl) (by rw [h]; try rfl)
theorem trappedO_ok (f:Fld) (b:Int) (h:FldOk f):PureO0 Try.prog 90 [.rptr [.int .i64 f.g.w,.int .i64 f.g.h,.rsl (rowI f.g.cells) 0 f.g.cells.length,.rsl (rowI f.g.hts) 0 f.g.hts.length,.rsl (Qc f.ps) 0 f.ps.length,.rsl (Qb f.ss) 0 f.ss.length,.rsl (rowI f.tk) 0 f.tk.length] 0,.int .i64 b] (Qv f b).length 1 (rowI (Qv f b)):=QbA Try.func90 f90ub fun E hE =>
 f90uW b f (rv:=Qv f b) hE ⟨h,⟨h,farK_len b h⟩,rfl⟩
theorem f38b:Try.f38.body=some (Qd Try.prog 38):=by kernel_rfl
abbrev z38_1 (g:Gd) (l:(List Ptc)) (t:(List Sit)):List AV:=[.int .i64 ((((newF g l t).1).g).w),.int .i64 ((((newF g l t).1).g).h),.rsl (rowI ((((newF g l t).1).g).cells)) 0 (((((newF g l t).1).g).cells).length),.rsl (rowI ((((newF g l t).1).g).hts)) 0 (((((newF g l t).1).g).hts).length),.rsl (Qc (((newF g l t).1).ps)) 0 ((((newF g l t).1).ps).length),.rsl (Qb (((newF g l t).1).ss)) 0 ((((newF g l t).1).ss).length),.rsl (rowI (((newF g l t).1).tk)) 0 ((((newF g l t).1).tk).length)]
abbrev z38_2 (g:Gd):List AV:=[.int .i64 g.w,.int .i64 g.h,.rsl (rowI g.cells) 0 g.cells.length,.rsl (rowI g.hts) 0 g.hts.length]
abbrev z38_3 (g:Gd) (l:(List Ptc)) (t:(List Sit)):List AV:=[.agg (z38_2 g),.rsl (Qc l) 0 l.length,.rsl (Qb t) 0 t.length,.sl 0 0 0 1 1]
theorem p38_start_0 (g:Gd) (l:(List Ptc)) (t:(List Sit)) (b:Int) {E:Env} {res:AV} (hE:PureNE Try.prog 38 res E) (ho:AllP [QO Try.prog (.clos 53 [] []) (z38_3 g l t) [⟨true,0,1,true,[.int .i64 b],true⟩] (.tup [.nilPtr,.int .i64 1]) [⟨false,1,1,true,[],false⟩],true=true])
 (hr:(.tup [.nilSl,.int .i64 1])=res):G Try.prog E [.code (Qd Try.prog 38)] ⟨[.agg (z38_2 g),.rsl (Qc l) 0 l.length,.rsl (Qb t) 0 t.length,.int .i64 b]++unds (Try.f38.ntmps - 4),[]⟩ :=
 Xg (n:=400) (evs:=[.lent [1] (.tup [.nilPtr,.int .i64 1]) [⟨false,1,1,true,[],false⟩],.b true]) (obs:=_) hE Try.func38 Qg (by kernel_rfl) ho hr
theorem p38_start_1 (g:Gd) (l:(List Ptc)) (t:(List Sit)) (b:Int) {E:Env} {res:AV} (hE:PureNE Try.prog 38 res E) (ho:AllP [QO Try.prog (.clos 53 [] []) (z38_3 g l t) [⟨true,0,1,true,[.int .i64 b],true⟩] (.tup [.rptr (z38_1 g l t) 0,.int .i64 0]) [⟨false,1,1,true,[],false⟩],false=false,QO Try.prog (.clos 90 [] []) [.rptr (z38_1 g l t) 0,.int .i64 b] [] (.sl 0 0 0 ((Qv ((newF g l t).1) b).length) 1) [⟨true,0,1,true,(rowI (Qv ((newF g l t).1) b)),true⟩],0=0,∀ x ∈ (rowI (Qv ((newF g l t).1) b)),Xt x=true])
 (hr:(.tup [.rsl (rowI (Qv ((newF g l t).1) b)) 0 ((Qv ((newF g l t).1) b).length),.int .i64 0])=res):G Try.prog E [.code (Qd Try.prog 38)] ⟨[.agg (z38_2 g),.rsl (Qc l) 0 l.length,.rsl (Qb t) 0 t.length,.int .i64 b]++unds (Try.f38.ntmps - 4),[]⟩ :=
 Xg (n:=400) (evs:=[.lent [1] (.tup [.rptr (z38_1 g l t) 0,.int .i64 0]) [⟨false,1,1,true,[],false⟩],.b false,.lent [] (.sl 0 0 0 ((Qv ((newF g l t).1) b).length) 1) [⟨true,0,1,true,(rowI (Qv ((newF g l t).1) b)),true⟩]]) (obs:=_) hE Try.func38 Qg (by kernel_rfl) ho hr
theorem p38_start_2 (g:Gd) (l:(List Ptc)) (t:(List Sit)) (b:Int) {E:Env} {res:AV} (hE:PureNE Try.prog 38 res E) (ho:AllP [QO Try.prog (.clos 53 [] []) (z38_3 g l t) [⟨true,0,1,true,[.int .i64 b],true⟩] (.tup [.nilPtr,.int .i64 ((newF g l t).2.2)]) [⟨false,1,1,true,[],false⟩],((newF g l t).2.2 != 0)=true])
 (hr:(.tup [.nilSl,.int .i64 ((newF g l t).2.2)])=res):G Try.prog E [.code (Qd Try.prog 38)] ⟨[.agg (z38_2 g),.rsl (Qc l) 0 l.length,.rsl (Qb t) 0 t.length,.int .i64 b]++unds (Try.f38.ntmps - 4),[]⟩ :=
 Xg (n:=400) (evs:=[.lent [1] (.tup [.nilPtr,.int .i64 ((newF g l t).2.2)]) [⟨false,1,1,true,[],false⟩],.b true]) (obs:=_) hE Try.func38 Qg (by kernel_rfl) ho hr
theorem f38W (g:Gd) (l:(List Ptc)) (t:(List Sit)) (b:Int) {E:Env} {rv:AV} (hE:PureNE Try.prog 38 rv E)
 (h:(((newF g l t).2.2=0→((([b].any (offG g))=true→((GdSmall g∧l.length≤1000∧t.length≤1000)∧rv=(.tup [.nilSl,.int .i64 1])))∧(([b].any (offG g))=false→((GdSmall g∧l.length≤1000∧t.length≤1000)∧((FldOk ((newF g l t).1))∧rv=(.tup [.rsl (rowI (Qv ((newF g l t).1) b)) 0 ((Qv ((newF g l t).1) b).length),.int .i64 0]))))))∧(¬ ((newF g l t).2.2=0)→((GdSmall g∧l.length≤1000∧t.length≤1000)∧rv=(.tup [.nilSl,.int .i64 ((newF g l t).2.2)]))))):G Try.prog E [.code (Qd Try.prog 38)] ⟨[.agg [.int .i64 g.w,.int .i64 g.h,.rsl (rowI g.cells) 0 g.cells.length,.rsl (rowI g.hts) 0 g.hts.length],.rsl (Qc l) 0 l.length,.rsl (Qb t) 0 t.length,.int .i64 b]++unds (Try.f38.ntmps - 4),[]⟩:=by
 rcases bft (decide ((newF g l t).2.2=0)) with hc0 | hc0
 · have h:=h.1 (odt hc0)
   rcases bft ([b].any (offG g)) with hc1 | hc1
   · have h:=h.1 hc1
     obtain ⟨h1,h⟩:=h
     exact p38_start_0 g l t b hE ⟨(Xb (fv':=.clos 53 [] []) (args':=[.agg [.int .i64 g.w,.int .i64 g.h,.rsl (rowI g.cells) 0 g.cells.length,.rsl (rowI g.hts) 0 g.hts.length],.rsl (Qc l) 0 l.length,.rsl (Qb t) 0 t.length,.rsl [.int .i64 b] 0 1]) (o1:=[]) (o2:=[0=0]) (by kernel_rfl) trivial (by kernel_rfl) ⟨rfl,trivial⟩ (Qk Try.func53 (by kernel_rfl) Qcz (wc1_off g l t b h1 hc0 hc1))),rfl,trivial⟩ (by rw [h]; try rfl)
   · have h:=h.2 hc1
     obtain ⟨h1,h⟩:=h
     obtain ⟨h2,h⟩:=h
     exact p38_start_1 g l t b hE ⟨(Xb (fv':=.clos 53 [] []) (args':=[.agg [.int .i64 g.w,.int .i64 g.h,.rsl (rowI g.cells) 0 g.cells.length,.rsl (rowI g.hts) 0 g.hts.length],.rsl (Qc l) 0 l.length,.rsl (Qb t) 0 t.length,.rsl [.int .i64 b] 0 1]) (o1:=[]) (o2:=[0=0]) (by kernel_rfl) trivial (by kernel_rfl) ⟨rfl,trivial⟩ (Qk Try.func53 (by kernel_rfl) Qcz (wc1_in g l t b h1 hc0 hc1))),rfl,(WC (Kd Try.func90 (by kernel_rfl) f90ub (trappedO_ok ((newF g l t).1) b h2)) rfl rfl (by decide)),rfl,(Yw _),trivial⟩ (by rw [h]; try rfl)
 · have h:=h.2 (odf hc0)
   obtain ⟨h1,h⟩:=h
   exact p38_start_2 g l t b hE ⟨(Xb (fv':=.clos 53 [] []) (args':=[.agg [.int .i64 g.w,.int .i64 g.h,.rsl (rowI g.cells) 0 g.cells.length,.rsl (rowI g.hts) 0 g.hts.length],.rsl (Qc l) 0 l.length,.rsl (Qb t) 0 t.length,.rsl [.int .i64 b] 0 1]) (o1:=[]) (o2:=[0=0]) (by kernel_rfl) trivial (by kernel_rfl) ⟨rfl,trivial⟩ (Qk Try.func53 (by kernel_rfl) Qcz (wc1_bad g l t b h1 hc0))),(by have hq:=hc0; simpa using hq),trivial⟩ (by rw [h]; try rfl)
def trapAV (g:Gd) (l:List Ptc) (t:List Sit) (b:Int):AV:=if (newF g l t).2.2=0 then (if [b].any (offG g)=true then .tup [.nilSl,.int .i64 1] else .tup [.rsl (rowI (Qv (newF g l t).1 b)) 0 (Qv (newF g l t).1 b).length,.int .i64 0]) else .tup [.nilSl,.int .i64 (newF g l t).2.2]
theorem Trapped_any (g:Gd) (l:List Ptc) (t:List Sit) (b:Int) (h:GdSmall g∧l.length≤1000∧t.length≤1000):qt Try.prog 38 [.agg [.int .i64 g.w,.int .i64 g.h,.rsl (rowI g.cells) 0 g.cells.length,.rsl (rowI g.hts) 0 g.hts.length],.rsl (Qc l) 0 l.length,.rsl (Qb t) 0 t.length,.int .i64 b] (trapAV g l t b):=yB Try.func38 f38b fun E hE=>by
 refine f38W g l t b hE ⟨fun q=>⟨fun q2=>⟨h,?_⟩,fun q2=>⟨h,(YH q).1,?_⟩⟩,fun q=>⟨h,?_⟩⟩
 · unfold trapAV; rw [if_pos q,if_pos q2]
 · unfold trapAV; rw [if_pos q,if_neg (by rw [q2]; exact Bool.false_ne_true)]
 · unfold trapAV; rw [if_neg q]
theorem Ww (g:Gd) (l:List Ptc) (t:List Sit) (b:Int) (h:GdSmall g∧l.length≤1000∧t.length≤1000) (h1:(newF g l t).2.2=0) (h2:[b].any (offG g)=false):qt Try.prog 38 [.agg [.int .i64 g.w,.int .i64 g.h,.rsl (rowI g.cells) 0 g.cells.length,.rsl (rowI g.hts) 0 g.hts.length],.rsl (Qc l) 0 l.length,.rsl (Qb t) 0 t.length,.int .i64 b] (.tup [.rsl (rowI (Qv (newF g l t).1 b)) 0 (Qv (newF g l t).1 b).length,.int .i64 0]):=by
 have:=Trapped_any g l t b h
 unfold trapAV at this; rw [if_pos h1,if_neg (by rw [h2]; exact Bool.false_ne_true)] at this; exact this
end Go.Proofs.Ytemklbioijmjiaa
namespace Go.Proofs.Ytemklbioijmjiaa
open Go Ax
open Go.Proofs
def InA (far:List Int) (x:Int):Prop:=0≤x∧x<(far.length:Int)
def AllA (far l:List Int):Prop:=(∀ x ∈ l,InA far x)∧(far.length≤100∧∀ x ∈ far,-1≤x∧x≤100)
def cmpA (far:List Int) (a b:Int):Int:=atI far a - atI far b
theorem AllA.perm {far l l':List Int} (h:AllA far l) (p:l'.Perm l):AllA far l':=⟨fun x hx=>h.1 x (p.mem_iff.1 hx),h.2⟩
theorem AllA.two {far l:List Int} {a b:Int} (h:AllA far l) (ha:a ∈ l) (hb:b ∈ l):AllA far [a,b] :=
 ⟨fun x hx=>by
  simp only [List.mem_cons,List.not_mem_nil,or_false] at hx
  rcases hx with rfl | rfl
  · exact h.1 _ ha
  · exact h.1 _ hb,h.2⟩
/-- What a function makes of a list,of which only the order changes. -/
noncomputable def permX (Φ:List Int→Prop) (l:List Int):List Int:=@dite _ (∃ lo:List Int,lo.Perm l∧Φ lo) (Classical.propDecidable _) (fun h=>Classical.choose h) (fun _=>l)
theorem XC {Φ:List Int→Prop} {l:List Int}:(permX Φ l).Perm l:=by
 unfold permX
 split
 · rename_i h; exact (Classical.choose_spec h).1
 · exact List.Perm.refl _
theorem qd {Φ:List Int→Prop} {l:List Int} (h:∃ lo:List Int,lo.Perm l∧Φ lo):Φ (permX Φ l):=by
 unfold permX
 rw [dif_pos h]
 exact (Classical.choose_spec h).2
theorem WV {l:List Int} {p q:Nat} {e e1:Int} (hq:l[q]?=some e) (hp:l[p]?=some e1):((l.set p e).set q e1).Perm l:=by
 obtain ⟨h1,rfl⟩:=List.getElem?_eq_some_iff.1 hq
 obtain ⟨h2,rfl⟩:=List.getElem?_eq_some_iff.1 hp
 exact List.set_set_perm h2 h1
theorem Qbr {l:List Int} {p q:Nat} {e e1:Int} (hq:l[q]?=some e) (hp:l[p]?=some e1):∃ x,(l.set p e)[q]?=some x:=by
 have:=(List.getElem?_eq_some_iff.1 hq).1
 exact ⟨(l.set p e)[q]'(by simpa using this),List.getElem?_eq_getElem (by simpa using this)⟩
theorem YY {l:List Int} {i:Int} (h0:0≤i) (h1:i<(l.length:Int)):∃ x,l[i.toNat]?=some x∧x ∈ l:=by
 have g:=XQ 0 ⟨h0,h1⟩ (l:=l)
 exact ⟨_,g,List.mem_of_getElem? g⟩
def Xs (l far:List Int) (n0:Nat):List Blk:=[⟨true,n0,1,true,rowI l,true⟩,⟨true,0,1,true,[.rsl (rowI far) 0 far.length],false⟩]
theorem f170b:Try.f170.body=some (Qd Try.prog 170):=by kernel_rfl
theorem u170 {a c k:List AV} {r:AV} (h:Pure Try.prog 170 (a++c++k) r):Qi Try.prog (.clos 170 a k) c r:=Qk Try.func170 (by kernel_rfl) f170b h
theorem p170_start_0 (a:Int) (b:Int) (far:List Int) (e:Int) (e1:Int) {E:Env} {res:AV} (hE:Qh Try.prog 170 res E) (ho:AllP [0≤a∧a<(far.length:Int),((rowI far).drop (0+(Int.toNat a)*1)).take 1=[.int .i64 e],0≤b∧b<(far.length:Int),((rowI far).drop (0+(Int.toNat b)*1)).take 1=[.int .i64 e1],InR .i64 (e - e1)])
 (hr:AvLe (.int .i64 (e - e1)) res):G Try.prog E [.code (Qd Try.prog 170)] ⟨[.int .i64 a,.int .i64 b,.rptr [.rsl (rowI far) 0 far.length] 0]++unds (Try.f170.ntmps - 3),[]⟩ :=
 Qf (n:=400) (evs:=[.auto,.ld (.int .i64 e),.auto,.ld (.int .i64 e1)]) (obs:=_) hE Try.func170 Qg (by kernel_rfl) ho hr
theorem f170W (a:Int) (b:Int) (far:List Int) {E:Env} {rv:Int} (hE:Qh Try.prog 170 (.int .i64 rv) E)
 (h:(0≤a∧(∃ e:Int,far[Int.toNat a]?=some e∧(0≤b∧(∃ e1:Int,far[Int.toNat b]?=some e1∧((I6 (e - e1))∧rv=(e - e1))))))):G Try.prog E [.code (Qd Try.prog 170)] ⟨[.int .i64 a,.int .i64 b,.rptr [.rsl (rowI far) 0 far.length] 0]++unds (Try.f170.ntmps - 3),[]⟩:=by
 obtain ⟨h2,h⟩:=h
 obtain ⟨e,h1,h⟩:=h
 obtain ⟨h4,h⟩:=h
 obtain ⟨e1,h3,h⟩:=h
 obtain ⟨q6_0,h⟩:=h
 exact p170_start_0 a b far e e1 hE ⟨(Qj h2 h1),(rp cI 1 0 1 h1),(Qj h4 h3),(rp cI 1 0 1 h3),q6_0,trivial⟩ (AvLe.of_eq (by rw [h]; try rfl))
theorem Wf (a b:Int) (far:List Int) (h:AllA far [a,b]):Pure Try.prog 170 [.int .i64 a,.int .i64 b,.rptr [.rsl (rowI far) 0 far.length] 0] (.int .i64 (cmpA far a b)):=Qy Try.func170 f170b fun E hE=>by
 have ha:=h.1 a (by simp); have hb:=h.1 b (by simp)
 have ga:=XE ha.1 ha.2; have gb:=XE hb.1 hb.2
 have ba:=h.2.2 _ (List.mem_of_getElem? ga); have bb:=h.2.2 _ (List.mem_of_getElem? gb)
 exact f170W a b far (rv:=cmpA far a b) hE ⟨ha.1,_,ga,hb.1,_,gb,⟨by omega,by omega⟩,rfl⟩
def in_P (l far:List Int) (n0:Nat) (a b:Int) (lo:List Int):Prop:=Lent Try.prog 262 [.sl 0 n0 0 l.length 1,.int .i64 a,.int .i64 b,.clos 170 [] [.ptr 1 0 0]] (Xs l far n0) (.tup []) (Xs lo far n0)
def in_Ex (l far:List Int) (n0:Nat) (a b:Int):Prop:=∃ lo:List Int,lo.Perm l∧in_P l far n0 a b lo
noncomputable def in_X (l far:List Int) (n0:Nat) (a b:Int):List Int:=permX (in_P l far n0 a b) l
theorem Vk (l far:List Int) (n0:Nat) (a b:Int):(in_X l far n0 a b).Perm l:=XC
theorem Qx (l far:List Int) (n0:Nat) (a b:Int):(in_X l far n0 a b).length=l.length:=XC.length_eq
theorem in_X_ok {l far:List Int} {n0:Nat} {a b:Int} {ln:Nat} (h:in_Ex l far n0 a b) (hn:ln=l.length):Lent Try.prog 262 [.sl 0 n0 0 ln 1,.int .i64 a,.int .i64 b,.clos 170 [] [.ptr 1 0 0]] (Xs l far n0) (.tup []) (Xs (in_X l far n0 a b) far n0):=by subst hn; exact qd h
def swP (l far:List Int) (n0:Nat) (a b n:Int) (lo:List Int):Prop:=Lent Try.prog 297 [.sl 0 n0 0 l.length 1,.int .i64 a,.int .i64 b,.int .i64 n,.clos 170 [] [.ptr 1 0 0]] (Xs l far n0) (.tup []) (Xs lo far n0)
def swEx (l far:List Int) (n0:Nat) (a b n:Int):Prop:=∃ lo:List Int,lo.Perm l∧swP l far n0 a b n lo
noncomputable def swX (l far:List Int) (n0:Nat) (a b n:Int):List Int:=permX (swP l far n0 a b n) l
theorem Qbs (l far:List Int) (n0:Nat) (a b n:Int):(swX l far n0 a b n).Perm l:=XC
theorem QH (l far:List Int) (n0:Nat) (a b n:Int):(swX l far n0 a b n).length=l.length:=XC.length_eq
theorem swX_ok {l far:List Int} {n0:Nat} {a b n:Int} {ln:Nat} (h:swEx l far n0 a b n) (hn:ln=l.length):Lent Try.prog 297 [.sl 0 n0 0 ln 1,.int .i64 a,.int .i64 b,.int .i64 n,.clos 170 [] [.ptr 1 0 0]] (Xs l far n0) (.tup []) (Xs (swX l far n0 a b n) far n0):=by subst hn; exact qd h
def roP (l far:List Int) (n0:Nat) (a m b:Int) (lo:List Int):Prop:=Lent Try.prog 283 [.sl 0 n0 0 l.length 1,.int .i64 a,.int .i64 m,.int .i64 b,.clos 170 [] [.ptr 1 0 0]] (Xs l far n0) (.tup []) (Xs lo far n0)
def roEx (l far:List Int) (n0:Nat) (a m b:Int):Prop:=∃ lo:List Int,lo.Perm l∧roP l far n0 a m b lo
noncomputable def roX (l far:List Int) (n0:Nat) (a m b:Int):List Int:=permX (roP l far n0 a m b) l
theorem roX_perm (l far:List Int) (n0:Nat) (a m b:Int):(roX l far n0 a m b).Perm l:=XC
theorem QN (l far:List Int) (n0:Nat) (a m b:Int):(roX l far n0 a m b).length=l.length:=XC.length_eq
theorem WZ {l far:List Int} {n0:Nat} {a m b:Int} {ln:Nat} (h:roEx l far n0 a m b) (hn:ln=l.length):Lent Try.prog 283 [.sl 0 n0 0 ln 1,.int .i64 a,.int .i64 m,.int .i64 b,.clos 170 [] [.ptr 1 0 0]] (Xs l far n0) (.tup []) (Xs (roX l far n0 a m b) far n0):=by subst hn; exact qd h
def syP (l far:List Int) (n0:Nat) (a m b:Int) (lo:List Int):Prop:=Lent Try.prog 263 [.sl 0 n0 0 l.length 1,.int .i64 a,.int .i64 m,.int .i64 b,.clos 170 [] [.ptr 1 0 0]] (Xs l far n0) (.tup []) (Xs lo far n0)
def syEx (l far:List Int) (n0:Nat) (a m b:Int):Prop:=∃ lo:List Int,lo.Perm l∧syP l far n0 a m b lo
noncomputable def syX (l far:List Int) (n0:Nat) (a m b:Int):List Int:=permX (syP l far n0 a m b) l
theorem YV (l far:List Int) (n0:Nat) (a m b:Int):(syX l far n0 a m b).Perm l:=XC
theorem QG (l far:List Int) (n0:Nat) (a m b:Int):(syX l far n0 a m b).length=l.length:=XC.length_eq
theorem XT {l far:List Int} {n0:Nat} {a m b:Int} {ln:Nat} (h:syEx l far n0 a m b) (hn:ln=l.length):Lent Try.prog 263 [.sl 0 n0 0 ln 1,.int .i64 a,.int .i64 m,.int .i64 b,.clos 170 [] [.ptr 1 0 0]] (Xs l far n0) (.tup []) (Xs (syX l far n0 a m b) far n0):=by subst hn; exact qd h
def stP (l far:List Int) (n0:Nat) (n:Int) (lo:List Int):Prop:=Lent Try.prog 219 [.sl 0 n0 0 l.length 1,.int .i64 n,.clos 170 [] [.ptr 1 0 0]] (Xs l far n0) (.tup []) (Xs lo far n0)
def stEx (l far:List Int) (n0:Nat) (n:Int):Prop:=∃ lo:List Int,lo.Perm l∧stP l far n0 n lo
noncomputable def stX (l far:List Int) (n0:Nat) (n:Int):List Int:=permX (stP l far n0 n) l
theorem stX_perm (l far:List Int) (n0:Nat) (n:Int):(stX l far n0 n).Perm l:=XC
theorem stX_len (l far:List Int) (n0:Nat) (n:Int):(stX l far n0 n).length=l.length:=XC.length_eq
theorem stX_ok {l far:List Int} {n0:Nat} {n:Int} {ln:Nat} (h:stEx l far n0 n) (hn:ln=l.length):Lent Try.prog 219 [.sl 0 n0 0 ln 1,.int .i64 n,.clos 170 [] [.ptr 1 0 0]] (Xs l far n0) (.tup []) (Xs (stX l far n0 n) far n0):=by subst hn; exact qd h
theorem f262b:Try.f262.body=some (Qd Try.prog 262):=by kernel_rfl
def QaU (P:Program):List Item:=kAt 400 [.code (Qd P 262)] [.stop]
def f262S0 (a:Int) (b:Int) (l far:List Int) (n0:Nat) (v0:List Int) (i:Int):St:=⟨([.sl 0 n0 0 v0.length 1,.int .i64 a,.int .i64 b,.clos 170 [] [.ptr 1 0 0],J,J,J,J,.int .i64 i]++Js 44),[⟨true,n0,1,true,(rowI v0),true⟩,⟨true,0,1,true,[.rsl (rowI far) 0 far.length],false⟩]⟩
def QaV (E:Env) (a:Int) (b:Int) (l far:List Int) (n0:Nat) (v0:List Int) (i:Int):Prop:=G Try.prog E (QaU Try.prog) (f262S0 a b l far n0 v0 i )
def QaT (P:Program):List Item:=kAt 400 [.code (Qd P 262)] [.b true,.stop]
def f262S1 (a:Int) (b:Int) (l far:List Int) (n0:Nat) (j:Int) (v0:List Int) (i:Int):St:=⟨([.sl 0 n0 0 v0.length 1,.int .i64 a,.int .i64 b,.clos 170 [] [.ptr 1 0 0],J,J,J,J,.int .i64 i,.int .i64 j]++Js 43),[⟨true,n0,1,true,(rowI v0),true⟩,⟨true,0,1,true,[.rsl (rowI far) 0 far.length],false⟩]⟩
def f262G1 (E:Env) (a:Int) (b:Int) (l far:List Int) (n0:Nat) (j:Int) (v0:List Int) (i:Int):Prop:=G Try.prog E (QaT Try.prog) (f262S1 a b l far n0 j v0 i )
abbrev z262_1 (n0:Nat) (v0:List Int) (far:List Int):List Blk:=[⟨true,n0,1,true,(rowI v0),true⟩,⟨true,0,1,true,[.rsl (rowI far) 0 far.length],false⟩]
theorem p262_start_0 (a:Int) (b:Int) (l far:List Int) (n0:Nat) {E:Env} {rv:AV} {bs2:List Blk} (hE:LentE Try.prog 262 [.sl 1 0 0 0 1] rv bs2 E) (ho:AllP [InR .i64 (a+1)])
 (hg:G Try.prog E (QaU Try.prog) ⟨([.sl 0 n0 0 l.length 1,.int .i64 a,.int .i64 b,.clos 170 [] [.ptr 1 0 0],J,J,J,J,.int .i64 (a+1)]++Js 44),[⟨true,n0,1,true,(rowI l),true⟩,⟨true,0,1,true,[.rsl (rowI far) 0 far.length],false⟩]⟩):G Try.prog E [.code (Qd Try.prog 262)] ⟨[.sl 0 n0 0 l.length 1,.int .i64 a,.int .i64 b,.clos 170 [] [.ptr 1 0 0]]++unds (Try.f262.ntmps - 4),[⟨true,n0,1,true,(rowI l),true⟩,⟨true,0,1,true,[.rsl (rowI far) 0 far.length],false⟩]⟩ :=
 Qe (n:=400) (ds:=[]) (cs:=[]) (live:=[0,1,2,3,8]) (m:=2) (evs:=[.stop]) (obs:=_) hE.kind (hE.nogh (by kernel_rfl)) Qg (by kernel_rfl) ho hg
theorem f262W (a:Int) (b:Int) (l far:List Int) (n0:Nat) {E:Env} {rv:Unit} {lo:List Int} (hE:LentE Try.prog 262 [.sl 1 0 0 0 1] (.tup []) [⟨true,n0,1,true,(rowI lo),true⟩,⟨true,0,1,true,[.rsl (rowI far) 0 far.length],false⟩] E)
 (h:((I6 (a+1))∧QaV E a b l far n0 l (a+1))):G Try.prog E [.code (Qd Try.prog 262)] ⟨[.sl 0 n0 0 l.length 1,.int .i64 a,.int .i64 b,.clos 170 [] [.ptr 1 0 0]]++unds (Try.f262.ntmps - 4),[⟨true,n0,1,true,(rowI l),true⟩,⟨true,0,1,true,[.rsl (rowI far) 0 far.length],false⟩]⟩:=by
 obtain ⟨q0_0,h⟩:=h
 exact p262_start_0 a b l far n0 hE ⟨q0_0,trivial⟩ h
theorem p262_0_0 (a:Int) (b:Int) (l far:List Int) (n0:Nat) (v0:List Int) (i:Int) {E:Env} {rv:AV} {bs2:List Blk} (hE:LentE Try.prog 262 [.sl 1 0 0 0 1] rv bs2 E) (ho:AllP [(decide (i<b))=true])
 (hg:G Try.prog E (QaT Try.prog) ⟨([.sl 0 n0 0 v0.length 1,.int .i64 a,.int .i64 b,.clos 170 [] [.ptr 1 0 0],J,J,J,J,.int .i64 i,.int .i64 i]++Js 43),(z262_1 n0 v0 far)⟩):G Try.prog E (QaU Try.prog) (f262S0 a b l far n0 v0 i ) :=
 Qe (n:=400) (ds:=[]) (cs:=[]) (live:=[0,1,2,3,8,9]) (m:=2) (evs:=[.b true,.stop]) (obs:=_) hE.kind (hE.nogh (by kernel_rfl)) Qg (by kernel_rfl) ho hg
theorem p262_0_1 (a:Int) (b:Int) (l far:List Int) (n0:Nat) (v0:List Int) (i:Int) {E:Env} {res:AV} {bs2:List Blk} (hE:LentE Try.prog 262 [.sl 1 0 0 0 1] res bs2 E) (ho:AllP [(decide (i<b))=false])
 (hr:(.tup [])=res) (hb:(z262_1 n0 v0 far)=bs2):G Try.prog E (QaU Try.prog) (f262S0 a b l far n0 v0 i ) :=
 Qr (n:=400) (live:=[]) (m:=2) (evs:=[.b false]) (obs:=_) hE (hE.nogh (by kernel_rfl)) Try.func262 Qg (by kernel_rfl) ho hr hb
theorem f262W0 (a:Int) (b:Int) (l far:List Int) (n0:Nat) (v0:List Int) (i:Int) {E:Env} {rv:Unit} {lo:List Int} (hE:LentE Try.prog 262 [.sl 1 0 0 0 1] (.tup []) [⟨true,n0,1,true,(rowI lo),true⟩,⟨true,0,1,true,[.rsl (rowI far) 0 far.length],false⟩] E)
 (h:((i<b→f262G1 E a b l far n0 i v0 i)∧(¬ (i<b)→lo=v0))):QaV E a b l far n0 v0 i:=by
 rcases bft (decide (i<b)) with hc0 | hc0
 · have h:=h.1 (odt hc0)
   exact p262_0_0 a b l far n0 v0 i hE ⟨hc0,trivial⟩ h
 · have h:=h.2 (odf hc0)
   have qe0:=h
   exact p262_0_1 a b l far n0 v0 i hE ⟨hc0,trivial⟩ (by try rfl) (by rw [qe0]; all_goals (first | rfl | (simp only [List.length_set]; done) | (simp only [List.length_set]; rfl) | (simp only [List.length_set,List.length_replicate]; done)))
theorem p262_1_0 (a:Int) (b:Int) (l far:List Int) (n0:Nat) (j:Int) (v0:List Int) (i:Int) (e:Int) (e1:Int) (e2:Int) {E:Env} {rv:AV} {bs2:List Blk} (hE:LentE Try.prog 262 [.sl 1 0 0 0 1] rv bs2 E) (ho:AllP [(decide (j > a))=true,0≤j∧j<(v0.length:Int),n0=n0,n0=n0,((rowI v0).drop (0+(Int.toNat j)*1)).take 1=[.int .i64 e],InR .i64 (j - 1),0≤(j - 1)∧(j - 1)<(v0.length:Int),n0=n0,n0=n0,((rowI v0).drop (0+(Int.toNat (j - 1))*1)).take 1=[.int .i64 e1],Qi Try.prog (.clos 170 [] [.rptr [.rsl (rowI far) 0 far.length] 0]) [.int .i64 e,.int .i64 e1] (.int .i64 (cmpA far e e1)),(decide ((cmpA far e e1)<0))=true,InR .i64 (j - 1),InR .i64 (j - 1),0≤(j - 1)∧(j - 1)<(v0.length:Int),n0=n0,n0=n0,((rowI v0).drop (0+(Int.toNat (j - 1))*1)).take 1=[.int .i64 e1],0≤j∧j<(v0.length:Int),n0=n0,n0=n0,((rowI v0).drop (0+(Int.toNat j)*1)).take 1=[.int .i64 e],0≤j∧j<(v0.length:Int),n0=n0,((0+(Int.toNat j)*1)+1)≤(rowI v0).length,n0=n0,0≤(j - 1)∧(j - 1)<(v0.length:Int),n0=n0,((0+(Int.toNat (j - 1))*1)+1)≤(Qu (rowI v0) (0+(Int.toNat j)*1) [.int .i64 e1]).length,n0=n0,InR .i64 (j - 1)])
 (hg:G Try.prog E (QaT Try.prog) ⟨([.sl 0 n0 0 v0.length 1,.int .i64 a,.int .i64 b,.clos 170 [] [.ptr 1 0 0],J,J,J,J,.int .i64 i,.int .i64 (j - 1)]++Js 43),[⟨true,n0,1,true,(Qu (Qu (rowI v0) (0+(Int.toNat j)*1) [.int .i64 e1]) (0+(Int.toNat (j - 1))*1) [.int .i64 e]),true⟩,⟨true,0,1,true,[.rsl (rowI far) 0 far.length],false⟩]⟩):G Try.prog E (QaT Try.prog) (f262S1 a b l far n0 j v0 i ) :=
 Qe (n:=400) (ds:=[]) (cs:=[]) (live:=[0,1,2,3,8,9]) (m:=2) (evs:=[.b true,.ld (.int .i64 e),.ld (.int .i64 e1),.v (.int .i64 (cmpA far e e1)),.b true,.ld (.int .i64 e1),.ld (.int .i64 e),.stop]) (obs:=_) hE.kind (hE.nogh (by kernel_rfl)) Qg (by kernel_rfl) ho hg
theorem p262_1_1 (a:Int) (b:Int) (l far:List Int) (n0:Nat) (j:Int) (v0:List Int) (i:Int) (e:Int) (e1:Int) {E:Env} {rv:AV} {bs2:List Blk} (hE:LentE Try.prog 262 [.sl 1 0 0 0 1] rv bs2 E) (ho:AllP [(decide (j > a))=true,0≤j∧j<(v0.length:Int),n0=n0,n0=n0,((rowI v0).drop (0+(Int.toNat j)*1)).take 1=[.int .i64 e],InR .i64 (j - 1),0≤(j - 1)∧(j - 1)<(v0.length:Int),n0=n0,n0=n0,((rowI v0).drop (0+(Int.toNat (j - 1))*1)).take 1=[.int .i64 e1],Qi Try.prog (.clos 170 [] [.rptr [.rsl (rowI far) 0 far.length] 0]) [.int .i64 e,.int .i64 e1] (.int .i64 (cmpA far e e1)),(decide ((cmpA far e e1)<0))=false,InR .i64 (i+1)])
 (hg:G Try.prog E (QaU Try.prog) ⟨([.sl 0 n0 0 v0.length 1,.int .i64 a,.int .i64 b,.clos 170 [] [.ptr 1 0 0],J,J,J,J,.int .i64 (i+1)]++Js 44),(z262_1 n0 v0 far)⟩):G Try.prog E (QaT Try.prog) (f262S1 a b l far n0 j v0 i ) :=
 Qe (n:=400) (ds:=[]) (cs:=[]) (live:=[0,1,2,3,8]) (m:=2) (evs:=[.b true,.ld (.int .i64 e),.ld (.int .i64 e1),.v (.int .i64 (cmpA far e e1)),.b false,.stop]) (obs:=_) hE.kind (hE.nogh (by kernel_rfl)) Qg (by kernel_rfl) ho hg
theorem p262_1_2 (a:Int) (b:Int) (l far:List Int) (n0:Nat) (j:Int) (v0:List Int) (i:Int) {E:Env} {rv:AV} {bs2:List Blk} (hE:LentE Try.prog 262 [.sl 1 0 0 0 1] rv bs2 E) (ho:AllP [(decide (j > a))=false,false=false,InR .i64 (i+1)])
 (hg:G Try.prog E (QaU Try.prog) ⟨([.sl 0 n0 0 v0.length 1,.int .i64 a,.int .i64 b,.clos 170 [] [.ptr 1 0 0],J,J,J,J,.int .i64 (i+1)]++Js 44),(z262_1 n0 v0 far)⟩):G Try.prog E (QaT Try.prog) (f262S1 a b l far n0 j v0 i ) :=
 Qe (n:=400) (ds:=[]) (cs:=[]) (live:=[0,1,2,3,8]) (m:=2) (evs:=[.b false,.b false,.stop]) (obs:=_) hE.kind (hE.nogh (by kernel_rfl)) Qg (by kernel_rfl) ho hg
theorem f262W1 (a:Int) (b:Int) (l far:List Int) (n0:Nat) (j:Int) (v0:List Int) (i:Int) {E:Env} {rv:Unit} {lo:List Int} (hE:LentE Try.prog 262 [.sl 1 0 0 0 1] (.tup []) [⟨true,n0,1,true,(rowI lo),true⟩,⟨true,0,1,true,[.rsl (rowI far) 0 far.length],false⟩] E)
 (h:((j > a→(0≤j∧(∃ e:Int,v0[Int.toNat j]?=some e∧((I6 (j - 1))∧(0≤(j - 1)∧(∃ e1:Int,v0[Int.toNat (j - 1)]?=some e1∧((AllA far [e,e1])∧(((cmpA far e e1)<0→((I6 (j - 1))∧((I6 (j - 1))∧(0≤(j - 1)∧(∃ e2:Int,(v0.set (Int.toNat j) e1)[Int.toNat (j - 1)]?=some e2∧((I6 (j - 1))∧f262G1 E a b l far n0 (j - 1) ((v0.set (Int.toNat j) e1).set (Int.toNat (j - 1)) e) i))))))∧(¬ ((cmpA far e e1)<0)→((I6 (i+1))∧QaV E a b l far n0 v0 (i+1)))))))))))∧(¬ (j > a)→((I6 (i+1))∧QaV E a b l far n0 v0 (i+1))))):f262G1 E a b l far n0 j v0 i:=by
 rcases bft (decide (j > a)) with hc0 | hc0
 · have h:=h.1 (odt hc0)
   obtain ⟨h2,h⟩:=h
   obtain ⟨e,h1,h⟩:=h
   obtain ⟨q6_1,h⟩:=h
   obtain ⟨h4,h⟩:=h
   obtain ⟨e1,h3,h⟩:=h
   obtain ⟨h5,h⟩:=h
   rcases bft (decide ((cmpA far e e1)<0)) with hc1 | hc1
   · have h:=h.1 (odt hc1)
     obtain ⟨q14_2,h⟩:=h
     obtain ⟨q15_2,h⟩:=h
     obtain ⟨h7,h⟩:=h
     obtain ⟨e2,h6,h⟩:=h
     obtain ⟨q33_2,h⟩:=h
     refine p262_1_0 a b l far n0 j v0 i e e1 e2 hE ⟨hc0,(Qj h2 h1),rfl,rfl,(rp cI 1 0 1 h1),q6_1,(Qj h4 h3),rfl,rfl,(rp cI 1 0 1 h3),(u170 (Wf e e1 far h5)),hc1,q14_2,q15_2,(Qj h4 h3),rfl,rfl,(rp cI 1 0 1 h3),(Qj h2 h1),rfl,rfl,(rp cI 1 0 1 h1),(Qj h2 h1),rfl,(rf cI 1 0 1 h1),rfl,(by have hx:=Qj h7 h6; simpa using hx),rfl,(by rw [(show Qu (rowI v0) (0+(Int.toNat j)*1) [.int .i64 e1]=rowI (v0.set (Int.toNat j) e1) from Qz cI (s:=1) (k:=0) (fun _=>rfl) h1 rfl (by first | decide | simp))]; exact rf cI 1 0 1 h6),rfl,q33_2,trivial⟩ ?_
     have h:=h
     simp only [f262G1,f262S1,List.length_set] at h
     rw [(show Qu (rowI v0) (0+(Int.toNat j)*1) [.int .i64 e1]=rowI (v0.set (Int.toNat j) e1) from Qz cI (s:=1) (k:=0) (fun _=>rfl) h1 rfl (by first | decide | simp))]; rw [(show Qu (rowI (v0.set (Int.toNat j) e1)) (0+(Int.toNat (j - 1))*1) [.int .i64 e]=rowI ((v0.set (Int.toNat j) e1).set (Int.toNat (j - 1)) e) from Qz cI (s:=1) (k:=0) (fun _=>rfl) h6 rfl (by first | decide | simp))]
     exact h
   · have h:=h.2 (odf hc1)
     obtain ⟨q14_2,h⟩:=h
     exact p262_1_1 a b l far n0 j v0 i e e1 hE ⟨hc0,(Qj h2 h1),rfl,rfl,(rp cI 1 0 1 h1),q6_1,(Qj h4 h3),rfl,rfl,(rp cI 1 0 1 h3),(u170 (Wf e e1 far h5)),hc1,q14_2,trivial⟩ h
 · have h:=h.2 (odf hc0)
   obtain ⟨q2_1,h⟩:=h
   exact p262_1_2 a b l far n0 j v0 i hE ⟨hc0,rfl,q2_1,trivial⟩ h
theorem in_ex (l far:List Int) (n0:Nat) (a b:Int) (hA:AllA far l) (h0:0≤a) (hb:b≤(l.length:Int)) (hl:l.length≤100) (ha:a≤100):in_Ex l far n0 a b:=by
 have inner:∀ (d:Nat) (v:List Int) (i j:Int),j - a≤(d:Int)→a≤j→j≤i→i<b→AllA far v→v.length=l.length→(∀ v',v'.Perm v→∃ lo:List Int,lo.Perm v'∧∀ E,LentE Try.prog 262 [.sl 1 0 0 0 1] (.tup []) (Xs lo far n0) E→QaV E a b l far n0 v' (i+1)) →
  ∃ lo:List Int,lo.Perm v∧∀ E,LentE Try.prog 262 [.sl 1 0 0 0 1] (.tup []) (Xs lo far n0) E→f262G1 E a b l far n0 j v i:=by
  intro d
  induction d with
  | zero =>
   intro v i j hd h1 h2 h3 hv hlen next
   obtain ⟨lo,p,q⟩:=next v (List.Perm.refl _)
   exact ⟨lo,p,fun E hE=>f262W1 a b l far n0 j v i (rv:=()) hE ⟨fun h=>by omega,fun _=>⟨⟨by omega,by omega⟩,q E hE⟩⟩⟩
  | succ d ih =>
   intro v i j hd h1 h2 h3 hv hlen next
   by_cases hj:j > a
   · obtain ⟨e,g1,m1⟩:=YY (l:=v) (i:=j) (by omega) (by omega)
     obtain ⟨e1,g2,m2⟩:=YY (l:=v) (i:=j - 1) (by omega) (by omega)
     by_cases hc:cmpA far e e1<0
     · have g3:(v.set (Int.toNat j) e1)[Int.toNat (j - 1)]?=some e1:=by rw [List.getElem?_set_ne (by omega)]; exact g2
       have sp:((v.set (Int.toNat j) e1).set (Int.toNat (j - 1)) e).Perm v:=WV g2 g1
       obtain ⟨lo,p,q⟩:=ih ((v.set (Int.toNat j) e1).set (Int.toNat (j - 1)) e) i (j - 1) (by omega) (by omega) (by omega) h3 (hv.perm sp) (by simpa using hlen) (fun v' hv'=>next v' (hv'.trans sp))
       exact ⟨lo,p.trans sp,fun E hE=>f262W1 a b l far n0 j v i (rv:=()) hE ⟨fun _=>⟨by omega,e,g1,⟨by omega,by omega⟩,by omega,e1,g2,hv.two m1 m2,fun _=>⟨⟨by omega,by omega⟩,⟨by omega,by omega⟩,by omega,e1,g3,⟨by omega,by omega⟩,q E hE⟩,fun h=>absurd hc h⟩,fun h=>absurd hj h⟩⟩
     · obtain ⟨lo,p,q⟩:=next v (List.Perm.refl _)
       exact ⟨lo,p,fun E hE=>f262W1 a b l far n0 j v i (rv:=()) hE ⟨fun _=>⟨by omega,e,g1,⟨by omega,by omega⟩,by omega,e1,g2,hv.two m1 m2,fun h=>absurd h hc,fun _=>⟨⟨by omega,by omega⟩,q E hE⟩⟩,fun h=>absurd hj h⟩⟩
   · obtain ⟨lo,p,q⟩:=next v (List.Perm.refl _)
     exact ⟨lo,p,fun E hE=>f262W1 a b l far n0 j v i (rv:=()) hE ⟨fun h=>absurd h hj,fun _=>⟨⟨by omega,by omega⟩,q E hE⟩⟩⟩
 have outer:∀ (d:Nat) (v:List Int) (i:Int),b - i≤(d:Int)→a+1≤i→i≤101→AllA far v→v.length=l.length→∃ lo:List Int,lo.Perm v∧∀ E,LentE Try.prog 262 [.sl 1 0 0 0 1] (.tup []) (Xs lo far n0) E→QaV E a b l far n0 v i:=by
  intro d
  induction d with
  | zero =>
   intro v i hd h1 h2 hv hlen
   exact ⟨v,List.Perm.refl _,fun E hE=>f262W0 a b l far n0 v i (rv:=()) hE ⟨fun h=>by omega,fun _=>rfl⟩⟩
  | succ d ih =>
   intro v i hd h1 h2 hv hlen
   by_cases hi:i<b
   · obtain ⟨lo,p,q⟩:=inner 100 v i i (by omega) (by omega) (by omega) hi hv hlen (fun v' hp=>by
      obtain ⟨lo,p,q⟩:=ih v' (i+1) (by omega) (by omega) (by omega) (hv.perm hp) (by rw [hp.length_eq]; exact hlen)
      exact ⟨lo,p,q⟩)
     exact ⟨lo,p,fun E hE=>f262W0 a b l far n0 v i (rv:=()) hE ⟨fun _=>q E hE,fun h=>absurd hi h⟩⟩
   · exact ⟨v,List.Perm.refl _,fun E hE=>f262W0 a b l far n0 v i (rv:=()) hE ⟨fun h=>absurd h hi,fun _=>rfl⟩⟩
 obtain ⟨lo,p,q⟩:=outer 200 l (a+1) (by omega) (by omega) (by omega) hA rfl
 exact ⟨lo,p,WF _ Try.func262 f262b rfl rfl fun E hE=>f262W a b l far n0 (rv:=()) hE ⟨⟨by omega,by omega⟩,q E hE⟩⟩
theorem f297b:Try.f297.body=some (Qd Try.prog 297):=by kernel_rfl
def f297K0 (P:Program):List Item:=kAt 400 [.code (Qd P 297)] [.stop]
def f297S0 (a:Int) (b:Int) (n:Int) (l far:List Int) (n0:Nat) (i:Nat) (v0:List Int):St:=⟨([.sl 0 n0 0 v0.length 1,.int .i64 a,.int .i64 b,.int .i64 n]++jj 6 ([.int .i64 (i:Int)]++Js 27)),[⟨true,n0,1,true,(rowI v0),true⟩,⟨true,0,1,true,[.rsl (rowI far) 0 far.length],false⟩]⟩
def f297G0 (E:Env) (a:Int) (b:Int) (n:Int) (l far:List Int) (n0:Nat) (i:Nat) (v0:List Int):Prop:=G Try.prog E (f297K0 Try.prog) (f297S0 a b n l far n0 i v0 )
theorem p297_start_0 (a:Int) (b:Int) (n:Int) (l far:List Int) (n0:Nat) {E:Env} {rv:AV} {bs2:List Blk} (hE:LentE Try.prog 297 [.sl 1 0 0 0 1] rv bs2 E) (ho:AllP [])
 (hg:G Try.prog E (f297K0 Try.prog) ⟨([.sl 0 n0 0 l.length 1,.int .i64 a,.int .i64 b,.int .i64 n]++jj 6 ([.int .i64 0]++Js 27)),[⟨true,n0,1,true,(rowI l),true⟩,⟨true,0,1,true,[.rsl (rowI far) 0 far.length],false⟩]⟩):G Try.prog E [.code (Qd Try.prog 297)] ⟨[.sl 0 n0 0 l.length 1,.int .i64 a,.int .i64 b,.int .i64 n,.clos 170 [] [.ptr 1 0 0]]++unds (Try.f297.ntmps - 5),[⟨true,n0,1,true,(rowI l),true⟩,⟨true,0,1,true,[.rsl (rowI far) 0 far.length],false⟩]⟩ :=
 Qe (n:=400) (ds:=[]) (cs:=[]) (live:=[0,1,2,3,10]) (m:=2) (evs:=[.stop]) (obs:=_) hE.kind (hE.nogh (by kernel_rfl)) Qg (by kernel_rfl) ho hg
theorem f297W (a:Int) (b:Int) (n:Int) (l far:List Int) (n0:Nat) {E:Env} {rv:Unit} {lo:List Int} (hE:LentE Try.prog 297 [.sl 1 0 0 0 1] (.tup []) [⟨true,n0,1,true,(rowI lo),true⟩,⟨true,0,1,true,[.rsl (rowI far) 0 far.length],false⟩] E)
 (h:f297G0 E a b n l far n0 0 l):G Try.prog E [.code (Qd Try.prog 297)] ⟨[.sl 0 n0 0 l.length 1,.int .i64 a,.int .i64 b,.int .i64 n,.clos 170 [] [.ptr 1 0 0]]++unds (Try.f297.ntmps - 5),[⟨true,n0,1,true,(rowI l),true⟩,⟨true,0,1,true,[.rsl (rowI far) 0 far.length],false⟩]⟩:=by
 exact p297_start_0 a b n l far n0 hE trivial h
theorem p297_0_0 (a:Int) (b:Int) (n:Int) (l far:List Int) (n0:Nat) (i:Nat) (v0:List Int) (e:Int) (e1:Int) (e2:Int) {E:Env} {rv:AV} {bs2:List Blk} (hE:LentE Try.prog 297 [.sl 1 0 0 0 1] rv bs2 E) (ho:AllP [(decide ((i:Int)<n))=true,InR .i64 (a+(i:Int)),InR .i64 (b+(i:Int)),InR .i64 (b+(i:Int)),0≤(b+(i:Int))∧(b+(i:Int))<(v0.length:Int),n0=n0,n0=n0,((rowI v0).drop (0+(Int.toNat (b+(i:Int)))*1)).take 1=[.int .i64 e],InR .i64 (a+(i:Int)),0≤(a+(i:Int))∧(a+(i:Int))<(v0.length:Int),n0=n0,n0=n0,((rowI v0).drop (0+(Int.toNat (a+(i:Int)))*1)).take 1=[.int .i64 e1],0≤(a+(i:Int))∧(a+(i:Int))<(v0.length:Int),n0=n0,((0+(Int.toNat (a+(i:Int)))*1)+1)≤(rowI v0).length,n0=n0,0≤(b+(i:Int))∧(b+(i:Int))<(v0.length:Int),n0=n0,((0+(Int.toNat (b+(i:Int)))*1)+1)≤(Qu (rowI v0) (0+(Int.toNat (a+(i:Int)))*1) [.int .i64 e]).length,n0=n0,InR .i64 ((i:Int)+1)])
 (hg:G Try.prog E (f297K0 Try.prog) ⟨([.sl 0 n0 0 v0.length 1,.int .i64 a,.int .i64 b,.int .i64 n]++jj 6 ([.int .i64 ((i:Int)+1)]++Js 27)),[⟨true,n0,1,true,(Qu (Qu (rowI v0) (0+(Int.toNat (a+(i:Int)))*1) [.int .i64 e]) (0+(Int.toNat (b+(i:Int)))*1) [.int .i64 e1]),true⟩,⟨true,0,1,true,[.rsl (rowI far) 0 far.length],false⟩]⟩):G Try.prog E (f297K0 Try.prog) (f297S0 a b n l far n0 i v0 ) :=
 Qe (n:=400) (ds:=[]) (cs:=[]) (live:=[0,1,2,3,10]) (m:=2) (evs:=[.b true,.ld (.int .i64 e),.ld (.int .i64 e1),.stop]) (obs:=_) hE.kind (hE.nogh (by kernel_rfl)) Qg (by kernel_rfl) ho hg
theorem p297_0_1 (a:Int) (b:Int) (n:Int) (l far:List Int) (n0:Nat) (i:Nat) (v0:List Int) {E:Env} {res:AV} {bs2:List Blk} (hE:LentE Try.prog 297 [.sl 1 0 0 0 1] res bs2 E) (ho:AllP [(decide ((i:Int)<n))=false])
 (hr:(.tup [])=res) (hb:[⟨true,n0,1,true,(rowI v0),true⟩,⟨true,0,1,true,[.rsl (rowI far) 0 far.length],false⟩]=bs2):G Try.prog E (f297K0 Try.prog) (f297S0 a b n l far n0 i v0 ) :=
 Qr (n:=400) (live:=[]) (m:=2) (evs:=[.b false]) (obs:=_) hE (hE.nogh (by kernel_rfl)) Try.func297 Qg (by kernel_rfl) ho hr hb
theorem f297W0 (a:Int) (b:Int) (n:Int) (l far:List Int) (n0:Nat) (i:Nat) (v0:List Int) {E:Env} {rv:Unit} {lo:List Int} (hE:LentE Try.prog 297 [.sl 1 0 0 0 1] (.tup []) [⟨true,n0,1,true,(rowI lo),true⟩,⟨true,0,1,true,[.rsl (rowI far) 0 far.length],false⟩] E)
 (h:(((i:Int)<n→((I6 (a+(i:Int)))∧((I6 (b+(i:Int)))∧((I6 (b+(i:Int)))∧(0≤(b+(i:Int))∧(∃ e:Int,v0[Int.toNat (b+(i:Int))]?=some e∧((I6 (a+(i:Int)))∧(0≤(a+(i:Int))∧(∃ e1:Int,v0[Int.toNat (a+(i:Int))]?=some e1∧(0≤(b+(i:Int))∧(∃ e2:Int,(v0.set (Int.toNat (a+(i:Int))) e)[Int.toNat (b+(i:Int))]?=some e2∧((I6 ((i:Int)+1))∧f297G0 E a b n l far n0 (i+1) ((v0.set (Int.toNat (a+(i:Int))) e).set (Int.toNat (b+(i:Int))) e1)))))))))))))∧(¬ ((i:Int)<n)→lo=v0))):f297G0 E a b n l far n0 i v0:=by
 rcases bft (decide ((i:Int)<n)) with hc0 | hc0
 · have h:=h.1 (odt hc0)
   obtain ⟨q1_1,h⟩:=h
   obtain ⟨q2_1,h⟩:=h
   obtain ⟨q3_1,h⟩:=h
   obtain ⟨h2,h⟩:=h
   obtain ⟨e,h1,h⟩:=h
   obtain ⟨q9_1,h⟩:=h
   obtain ⟨h4,h⟩:=h
   obtain ⟨e1,h3,h⟩:=h
   obtain ⟨h6,h⟩:=h
   obtain ⟨e2,h5,h⟩:=h
   obtain ⟨q24_1,h⟩:=h
   refine p297_0_0 a b n l far n0 i v0 e e1 e2 hE ⟨hc0,q1_1,q2_1,q3_1,(Qj h2 h1),rfl,rfl,(rp cI 1 0 1 h1),q9_1,(Qj h4 h3),rfl,rfl,(rp cI 1 0 1 h3),(Qj h4 h3),rfl,(rf cI 1 0 1 h3),rfl,(by have hx:=Qj h6 h5; simpa using hx),rfl,(by rw [(show Qu (rowI v0) (0+(Int.toNat (a+(i:Int)))*1) [.int .i64 e]=rowI (v0.set (Int.toNat (a+(i:Int))) e) from Qz cI (s:=1) (k:=0) (fun _=>rfl) h3 rfl (by first | decide | simp))]; exact rf cI 1 0 1 h5),rfl,q24_1,trivial⟩ ?_
   have h:=h
   simp only [f297G0,f297S0,List.length_set] at h
   rw [(show Qu (rowI v0) (0+(Int.toNat (a+(i:Int)))*1) [.int .i64 e]=rowI (v0.set (Int.toNat (a+(i:Int))) e) from Qz cI (s:=1) (k:=0) (fun _=>rfl) h3 rfl (by first | decide | simp))]; rw [(show Qu (rowI (v0.set (Int.toNat (a+(i:Int))) e)) (0+(Int.toNat (b+(i:Int)))*1) [.int .i64 e1]=rowI ((v0.set (Int.toNat (a+(i:Int))) e).set (Int.toNat (b+(i:Int))) e1) from Qz cI (s:=1) (k:=0) (fun _=>rfl) h5 rfl (by first | decide | simp))]
   exact h
 · have h:=h.2 (odf hc0)
   have qe0:=h
   exact p297_0_1 a b n l far n0 i v0 hE ⟨hc0,trivial⟩ (by try rfl) (by rw [qe0]; all_goals (first | rfl | (simp only [List.length_set]; done) | (simp only [List.length_set]; rfl) | (simp only [List.length_set,List.length_replicate]; done)))
theorem sw_ex (l far:List Int) (n0:Nat) (a b n:Int) (h:(0≤a∧0≤b)∧0≤n∧a+n≤(l.length:Int)∧b+n≤(l.length:Int)) (hl:l.length≤100):swEx l far n0 a b n:=by
 have key:∀ (d i:Nat) (v:List Int),(i:Int)+(d:Int)=n→v.length=l.length→∃ lo:List Int,lo.Perm v∧∀ E,LentE Try.prog 297 [.sl 1 0 0 0 1] (.tup []) (Xs lo far n0) E→f297G0 E a b n l far n0 i v:=by
  intro d
  induction d with
  | zero =>
   intro i v hd hv
   exact ⟨v,List.Perm.refl _,fun E hE=>f297W0 a b n l far n0 i v (rv:=()) hE ⟨fun h=>by omega,fun _=>rfl⟩⟩
  | succ d ih =>
   intro i v hd hv
   obtain ⟨e,g1,-⟩:=YY (l:=v) (i:=b+(i:Int)) (by omega) (by omega)
   obtain ⟨e1,g2,-⟩:=YY (l:=v) (i:=a+(i:Int)) (by omega) (by omega)
   obtain ⟨e2,g3⟩:=Qbr g1 g2
   have sp:((v.set (Int.toNat (a+(i:Int))) e).set (Int.toNat (b+(i:Int))) e1).Perm v:=WV g1 g2
   obtain ⟨lo,p,q⟩:=ih (i+1) _ (by omega) (sp.length_eq.trans hv)
   exact ⟨lo,p.trans sp,fun E hE=>f297W0 a b n l far n0 i v (rv:=()) hE ⟨fun _=>⟨⟨by omega,by omega⟩,⟨by omega,by omega⟩,⟨by omega,by omega⟩,by omega,e,g1,⟨by omega,by omega⟩,by omega,e1,g2,by omega,e2,g3,⟨by omega,by omega⟩,q E hE⟩,fun h=>by omega⟩⟩
 obtain ⟨lo,p,q⟩:=key n.toNat 0 l (by omega) rfl
 exact ⟨lo,p,WF _ Try.func297 f297b rfl rfl fun E hE=>f297W a b n l far n0 (rv:=()) hE (q E hE)⟩
theorem Qaq:Try.f283.body=some (Qd Try.prog 283):=by kernel_rfl
def KJ (P:Program):List Item:=kAt 400 [.code (Qd P 283)] [.stop]
def QaS (a:Int) (m:Int) (b:Int) (l far:List Int) (n0:Nat) (i:Int) (v0:List Int) (j:Int):St:=⟨([.sl 0 n0 0 v0.length 1,J,.int .i64 m,J,.clos 170 [] [.ptr 1 0 0]]++jj 5 ([.int .i64 i,.int .i64 j]++Js 46)),[⟨true,n0,1,true,(rowI v0),true⟩,⟨true,0,1,true,[.rsl (rowI far) 0 far.length],false⟩]⟩
def KK (E:Env) (a:Int) (m:Int) (b:Int) (l far:List Int) (n0:Nat) (i:Int) (v0:List Int) (j:Int):Prop:=G Try.prog E (KJ Try.prog) (QaS a m b l far n0 i v0 j )
noncomputable abbrev z283_1 (n0:Nat) (v0:List Int) (far:List Int) (m:Int) (i:Int) (j:Int):List Blk:=[⟨true,n0,1,true,(rowI (swX v0 far n0 (m - i) ((m+j) - i) i)),true⟩,⟨true,0,1,true,[.rsl (rowI far) 0 far.length],false⟩]
noncomputable abbrev z283_2 (n0:Nat) (v0:List Int) (far:List Int) (m:Int) (i:Int):List Blk:=[⟨true,n0,1,true,(rowI (swX v0 far n0 (m - i) m i)),true⟩,⟨true,0,1,true,[.rsl (rowI far) 0 far.length],false⟩]
noncomputable abbrev z283_3 (n0:Nat) (v0:List Int) (far:List Int) (m:Int) (i:Int) (j:Int):List Blk:=[⟨true,n0,1,true,(rowI (swX v0 far n0 (m - i) m j)),true⟩,⟨true,0,1,true,[.rsl (rowI far) 0 far.length],false⟩]
abbrev z283_4 (n0:Nat) (v0:List Int) (far:List Int):List Blk:=[⟨true,n0,1,true,(rowI v0),true⟩,⟨true,0,1,true,[.rsl (rowI far) 0 far.length],false⟩]
theorem p283_start_0 (a:Int) (m:Int) (b:Int) (l far:List Int) (n0:Nat) {E:Env} {rv:AV} {bs2:List Blk} (hE:LentE Try.prog 283 [.sl 1 0 0 0 1] rv bs2 E) (ho:AllP [InR .i64 (m - a),InR .i64 (b - m)])
 (hg:G Try.prog E (KJ Try.prog) ⟨([.sl 0 n0 0 l.length 1,J,.int .i64 m,J,.clos 170 [] [.ptr 1 0 0]]++jj 5 ([.int .i64 (m - a),.int .i64 (b - m)]++Js 46)),[⟨true,n0,1,true,(rowI l),true⟩,⟨true,0,1,true,[.rsl (rowI far) 0 far.length],false⟩]⟩):G Try.prog E [.code (Qd Try.prog 283)] ⟨[.sl 0 n0 0 l.length 1,.int .i64 a,.int .i64 m,.int .i64 b,.clos 170 [] [.ptr 1 0 0]]++unds (Try.f283.ntmps - 5),[⟨true,n0,1,true,(rowI l),true⟩,⟨true,0,1,true,[.rsl (rowI far) 0 far.length],false⟩]⟩ :=
 Qe (n:=400) (ds:=[]) (cs:=[]) (live:=[0,2,4,10,11]) (m:=2) (evs:=[.stop]) (obs:=_) hE.kind (hE.nogh (by kernel_rfl)) Qg (by kernel_rfl) ho hg
theorem f283W (a:Int) (m:Int) (b:Int) (l far:List Int) (n0:Nat) {E:Env} {rv:Unit} {lo:List Int} (hE:LentE Try.prog 283 [.sl 1 0 0 0 1] (.tup []) [⟨true,n0,1,true,(rowI lo),true⟩,⟨true,0,1,true,[.rsl (rowI far) 0 far.length],false⟩] E)
 (h:((I6 (m - a))∧((I6 (b - m))∧KK E a m b l far n0 (m - a) l (b - m)))):G Try.prog E [.code (Qd Try.prog 283)] ⟨[.sl 0 n0 0 l.length 1,.int .i64 a,.int .i64 m,.int .i64 b,.clos 170 [] [.ptr 1 0 0]]++unds (Try.f283.ntmps - 5),[⟨true,n0,1,true,(rowI l),true⟩,⟨true,0,1,true,[.rsl (rowI far) 0 far.length],false⟩]⟩:=by
 obtain ⟨q0_0,h⟩:=h
 obtain ⟨q1_0,h⟩:=h
 exact p283_start_0 a m b l far n0 hE ⟨q0_0,q1_0,trivial⟩ h
theorem p283_0_0 (a:Int) (m:Int) (b:Int) (l far:List Int) (n0:Nat) (i:Int) (v0:List Int) (j:Int) {E:Env} {rv:AV} {bs2:List Blk} (hE:LentE Try.prog 283 [.sl 1 0 0 0 1] rv bs2 E) (ho:AllP [(i != j)=true,(decide (i > j))=true,InR .i64 (m - i),QO Try.prog (.clos 297 [] []) [.sl 0 n0 0 v0.length 1,.int .i64 (m - i),.int .i64 m,.int .i64 j,.clos 170 [] [.ptr 1 0 0]] (z283_4 n0 v0 far) (.tup []) (z283_3 n0 v0 far m i j),InR .i64 (i - j)])
 (hg:G Try.prog E (KJ Try.prog) ⟨([.sl 0 n0 0 v0.length 1,J,.int .i64 m,J,.clos 170 [] [.ptr 1 0 0]]++jj 5 ([.int .i64 (i - j),.int .i64 j]++Js 46)),(z283_3 n0 v0 far m i j)⟩):G Try.prog E (KJ Try.prog) (QaS a m b l far n0 i v0 j ) :=
 Qe (n:=400) (ds:=[]) (cs:=[]) (live:=[0,2,4,10,11]) (m:=2) (evs:=[.b true,.b true,.lent [0,1] (.tup []) (z283_3 n0 v0 far m i j),.stop]) (obs:=_) hE.kind (hE.nogh (by kernel_rfl)) Qg (by kernel_rfl) ho hg
theorem p283_0_1 (a:Int) (m:Int) (b:Int) (l far:List Int) (n0:Nat) (i:Int) (v0:List Int) (j:Int) {E:Env} {rv:AV} {bs2:List Blk} (hE:LentE Try.prog 283 [.sl 1 0 0 0 1] rv bs2 E) (ho:AllP [(i != j)=true,(decide (i > j))=false,InR .i64 (m - i),InR .i64 (m+j),InR .i64 ((m+j) - i),QO Try.prog (.clos 297 [] []) [.sl 0 n0 0 v0.length 1,.int .i64 (m - i),.int .i64 ((m+j) - i),.int .i64 i,.clos 170 [] [.ptr 1 0 0]] (z283_4 n0 v0 far) (.tup []) (z283_1 n0 v0 far m i j),InR .i64 (j - i)])
 (hg:G Try.prog E (KJ Try.prog) ⟨([.sl 0 n0 0 v0.length 1,J,.int .i64 m,J,.clos 170 [] [.ptr 1 0 0]]++jj 5 ([.int .i64 i,.int .i64 (j - i)]++Js 46)),(z283_1 n0 v0 far m i j)⟩):G Try.prog E (KJ Try.prog) (QaS a m b l far n0 i v0 j ) :=
 Qe (n:=400) (ds:=[]) (cs:=[]) (live:=[0,2,4,10,11]) (m:=2) (evs:=[.b true,.b false,.lent [0,1] (.tup []) (z283_1 n0 v0 far m i j),.stop]) (obs:=_) hE.kind (hE.nogh (by kernel_rfl)) Qg (by kernel_rfl) ho hg
theorem p283_0_2 (a:Int) (m:Int) (b:Int) (l far:List Int) (n0:Nat) (i:Int) (v0:List Int) (j:Int) {E:Env} {res:AV} {bs2:List Blk} (hE:LentE Try.prog 283 [.sl 1 0 0 0 1] res bs2 E) (ho:AllP [(i != j)=false,InR .i64 (m - i),QO Try.prog (.clos 297 [] []) [.sl 0 n0 0 v0.length 1,.int .i64 (m - i),.int .i64 m,.int .i64 i,.clos 170 [] [.ptr 1 0 0]] (z283_4 n0 v0 far) (.tup []) (z283_2 n0 v0 far m i)])
 (hr:(.tup [])=res) (hb:(z283_2 n0 v0 far m i)=bs2):G Try.prog E (KJ Try.prog) (QaS a m b l far n0 i v0 j ) :=
 Qr (n:=400) (live:=[]) (m:=2) (evs:=[.b false,.lent [0,1] (.tup []) (z283_2 n0 v0 far m i)]) (obs:=_) hE (hE.nogh (by kernel_rfl)) Try.func283 Qg (by kernel_rfl) ho hr hb
theorem f283W0 (a:Int) (m:Int) (b:Int) (l far:List Int) (n0:Nat) (i:Int) (v0:List Int) (j:Int) {E:Env} {rv:Unit} {lo:List Int} (hE:LentE Try.prog 283 [.sl 1 0 0 0 1] (.tup []) [⟨true,n0,1,true,(rowI lo),true⟩,⟨true,0,1,true,[.rsl (rowI far) 0 far.length],false⟩] E)
 (h:((¬ (i=j)→((i > j→((I6 (m - i))∧((swEx v0 far n0 (m - i) m j)∧((I6 (i - j))∧KK E a m b l far n0 (i - j) (swX v0 far n0 (m - i) m j) j))))∧(¬ (i > j)→((I6 (m - i))∧((I6 (m+j))∧((I6 ((m+j) - i))∧((swEx v0 far n0 (m - i) ((m+j) - i) i)∧((I6 (j - i))∧KK E a m b l far n0 i (swX v0 far n0 (m - i) ((m+j) - i) i) (j - i)))))))))∧(i=j→((I6 (m - i))∧((swEx v0 far n0 (m - i) m i)∧lo=(swX v0 far n0 (m - i) m i)))))):KK E a m b l far n0 i v0 j:=by
 rcases bft (i != j) with hc0 | hc0
 · have h:=h.1 (bneT hc0)
   rcases bft (decide (i > j)) with hc1 | hc1
   · have h:=h.1 (odt hc1)
     obtain ⟨q2_2,h⟩:=h
     obtain ⟨h1,h⟩:=h
     obtain ⟨q4_2,h⟩:=h
     refine p283_0_0 a m b l far n0 i v0 j hE ⟨hc0,hc1,q2_2,(Qt Try.func297 (by kernel_rfl) f297b (swX_ok h1 (by first | rfl | (simp only [Qx,QH,QN,QG]; done)))),q4_2,trivial⟩ ?_
     have h:=h
     simp only [KK,QaS,List.length_set,QH] at h
     skip
     exact h
   · have h:=h.2 (odf hc1)
     obtain ⟨q2_2,h⟩:=h
     obtain ⟨q3_2,h⟩:=h
     obtain ⟨q4_2,h⟩:=h
     obtain ⟨h1,h⟩:=h
     obtain ⟨q6_2,h⟩:=h
     refine p283_0_1 a m b l far n0 i v0 j hE ⟨hc0,hc1,q2_2,q3_2,q4_2,(Qt Try.func297 (by kernel_rfl) f297b (swX_ok h1 (by first | rfl | (simp only [Qx,QH,QN,QG]; done)))),q6_2,trivial⟩ ?_
     have h:=h
     simp only [KK,QaS,List.length_set,QH] at h
     skip
     exact h
 · have h:=h.2 (bneF hc0)
   obtain ⟨q1_1,h⟩:=h
   obtain ⟨h1,h⟩:=h
   have qe0:=h
   exact p283_0_2 a m b l far n0 i v0 j hE ⟨hc0,q1_1,(Qt Try.func297 (by kernel_rfl) f297b (swX_ok h1 (by first | rfl | (simp only [Qx,QH,QN,QG]; done)))),trivial⟩ (by try rfl) (by rw [qe0]; all_goals (first | rfl | (simp only [List.length_set]; done) | (simp only [List.length_set]; rfl) | (simp only [List.length_set,List.length_replicate]; done)))
theorem ro_ex (l far:List Int) (n0:Nat) (a m b:Int) (h:0≤a∧a<m∧m<b∧b≤(l.length:Int)) (hl:l.length≤100):roEx l far n0 a m b:=by
 have key:∀ (d:Nat) (i j:Int) (v:List Int),i+j≤(d:Int)→0<i→0<j→a≤m - i→m+j≤b→v.length=l.length→∃ lo:List Int,lo.Perm v∧∀ E,LentE Try.prog 283 [.sl 1 0 0 0 1] (.tup []) (Xs lo far n0) E→KK E a m b l far n0 i v j:=by
  intro d
  induction d with
  | zero=>intro i j v hd h1 h2 h3 h4 hv; omega
  | succ d ih =>
   intro i j v hd h1 h2 h3 h4 hv
   by_cases e:i=j
   · subst e
     exact ⟨swX v far n0 (m - i) m i,Qbs ..,fun E hE=>f283W0 a m b l far n0 i v i (rv:=()) hE ⟨fun h=>absurd rfl h,fun _=>⟨⟨by omega,by omega⟩,sw_ex _ _ _ _ _ _ ⟨by omega,by omega,by omega,by omega⟩ (by omega),rfl⟩⟩⟩
   · by_cases c:i > j
     · obtain ⟨lo,p,q⟩:=ih (i - j) j (swX v far n0 (m - i) m j) (by omega) (by omega) h2 (by omega) h4 (by rw [QH]; exact hv)
       exact ⟨lo,p.trans (Qbs ..),fun E hE=>f283W0 a m b l far n0 i v j (rv:=()) hE ⟨fun _=>⟨fun _=>⟨⟨by omega,by omega⟩,sw_ex _ _ _ _ _ _ ⟨by omega,by omega,by omega,by omega⟩ (by omega),⟨by omega,by omega⟩,q E hE⟩,fun h=>absurd c h⟩,fun h=>absurd h e⟩⟩
     · obtain ⟨lo,p,q⟩:=ih i (j - i) (swX v far n0 (m - i) ((m+j) - i) i) (by omega) h1 (by omega) h3 (by omega) (by rw [QH]; exact hv)
       exact ⟨lo,p.trans (Qbs ..),fun E hE=>f283W0 a m b l far n0 i v j (rv:=()) hE ⟨fun _=>⟨fun h=>absurd h c,fun _=>⟨⟨by omega,by omega⟩,⟨by omega,by omega⟩,⟨by omega,by omega⟩,sw_ex _ _ _ _ _ _ ⟨by omega,by omega,by omega,by omega⟩ (by omega),⟨by omega,by omega⟩,q E hE⟩⟩,fun h=>absurd h e⟩⟩
 obtain ⟨lo,p,q⟩:=key 200 (m - a) (b - m) l (by omega) (by omega) (by omega) (by omega) (by omega) rfl
 exact ⟨lo,p,WF _ Try.func283 Qaq rfl rfl fun E hE=>f283W a m b l far n0 (rv:=()) hE ⟨⟨by omega,by omega⟩,⟨by omega,by omega⟩,q E hE⟩⟩
end Go.Proofs.Ytemklbioijmjiaa