/- A part of the proof: several texts, one behind the other. -/
import Derived.Test.YtemklbioijmjiaaLTopBlockedB
import Derived.Test.YtemklbioijmjiaaChecked
import Derived.Laws.Bits64b
set_option linter.unusedVariables false
set_option linter.unusedSimpArgs false
set_option maxRecDepth 100000
namespace Ax
open Go
def PureO0 (P:Program) (f:FuncId) (args:List AV) (len sz:Nat) (cells:List AV):Prop :=
 ∀ (Z:Nat→Prop) (w:World) (cargs:Array Value),(∀ b,Z b→b<w.heap.size)→VRs Z w C0 args cargs.toList →
  Calls P f cargs w fun e w'=>∃ v,e=.returned v∧NewSl w w' v len sz cells∧Fr w (fun _=>False) w'
structure PureOE (P:Program) (f:FuncId) (len sz:Nat) (cells:List AV) (E:Env):Prop where
 ro:E.b.roundOf=none
 kind:E.b.kind=.normal
 fn:E.b.fn=f
 nm:∀ b,¬ E.M b
 gA:E.gA=[]
 fin:E.Fin=(Wz P f E.cs fun v w'=>NewSl E.w0 w' v len sz cells∧Fr E.w0 (fun _=>False) w')
 cb:E.Cb=C0
 df:E.df=[]
section
variable {P:Program} {E:Env} {K K':List Item} {st st':St}
theorem PureOE.nogh {f:FuncId} {len sz:Nat} {cells:List AV} (hE:PureOE P f len sz cells E) (m:Nat):refsBelows m E.gA=true:=by rw [hE.gA]; rfl
theorem QbA {f:FuncId} {fn:Func} {c:Code} {args:List AV} {len sz:Nat} {cells:List AV} (hf:P.funcs[f]?=some fn) (hb:fn.body=some c)
 (h:∀ E,PureOE P f len sz cells E→G P E [.code c] ⟨args++unds (fn.ntmps - args.length),[]⟩):PureO0 P f args len sz cells:=by
 intro Z w cargs hz ha cs
 have hE:PureOE P f len sz cells (callEnv P f Z (fun _=>False) w cs fun v w'=>NewSl w w' v len sz cells∧Fr w (fun _=>False) w') :=
  ⟨rfl,rfl,rfl,fun _ h=>h,rfl,rfl,rfl,rfl⟩
 have henter:Frame.enter P f cargs .normal=({ (default:Frame) with fn:=f,kind:=.normal }:Frame).atR { tmps:=cargs++Array.replicate (fn.ntmps - cargs.size) undef,defers:=[] } [.code c]:=by
  simp only [Frame.enter,Frame.atR,hf,hb,Option.map_some,Option.getD_some,Option.bind_some]; rfl
 have hl:args.length=cargs.size:=by simpa using ha.1
 obtain ⟨m',s,v,w',fr,rfl,r1,r2,r3⟩:=h _ hE C0 Z { tmps:=cargs++Array.replicate (fn.ntmps - cargs.size) undef,defers:=[] } w
  ⟨⟨by simp [Yd,hl],fun i x y p q=>by
   simp only [Array.toList_append,Array.toList_replicate] at q
   rw [Yd] at p
   by_cases hi:i<args.length
   · rw [List.getElem?_append_left hi] at p
     rw [List.getElem?_append_left (by simpa [← hl] using hi)] at q
     exact ha.2 i x y p q
   · rw [List.getElem?_append_right (by omega)] at p
     rw [List.getElem?_append_right (by simp; omega)] at q
     have p':=List.mem_replicate.1 (List.mem_of_getElem? p)
     have q':=List.mem_replicate.1 (List.mem_of_getElem? q)
     rw [p'.2,q'.2]
     exact .tup rfl (by simp)⟩,mem_nil hz,⟨[],.nil,.nil,by simp⟩,⟨rfl,fun _ _ _ h _=>by cases h⟩,.bot⟩
 rw [henter]
 exact ⟨.returned v,w',fr,⟨v,rfl,r3⟩,s,r1,r2⟩
theorem Kd {f : FuncId} {fn : Func} {c : Code} {first args cap : List AV} {len sz : Nat} {cells : List AV} (hf : P.funcs[f]? = some fn) (hname : (fn.name == "runtime.NumGoroutine") = false) (hb : fn.body = some c)
    (h : PureO0 P f (first ++ args ++ cap) len sz cells) : PureO P (.clos f first cap) args len sz cells := by
  intro Z w cf cargs hz hcf ha
  cases hcf with
  | @clos _ _ _ _ fa ca hl h1 hl' h2 =>
    refine ⟨{ target := .fn (.func f) ca, args := fa ++ cargs }, f, fa ++ cargs ++ ca, rfl, ?_, ?_⟩
    · have := Go.Proofs.enters_of (P := P) hf hname hb (fa ++ cargs ++ ca) w
      simpa [invoke] using this
    · refine h Z w _ hz ⟨by have := ha.1; simp at this; simp [hl, hl', this], fun i x y p q => ?_⟩
      have hal : args.length = cargs.size := by simpa using ha.1
      simp only [Array.toList_append] at q
      rw [List.append_assoc] at p q
      by_cases i1 : i < first.length
      · rw [List.getElem?_append_left i1] at p
        rw [List.getElem?_append_left (by simpa [← hl] using i1)] at q
        exact h1 i x y p (by simpa using q)
      · rw [List.getElem?_append_right (by omega)] at p
        rw [List.getElem?_append_right (by simp; omega)] at q
        have e1 : fa.toList.length = first.length := by simp [hl]
        rw [e1] at q
        by_cases i2 : i - first.length < args.length
        · rw [List.getElem?_append_left i2] at p
          rw [List.getElem?_append_left (by simpa [← hal] using i2)] at q
          exact ha.2 _ x y p q
        · rw [List.getElem?_append_right (by omega)] at p
          rw [List.getElem?_append_right (by simp; omega)] at q
          have e2 : cargs.toList.length = args.length := by simp [hal]
          rw [e2] at q
          exact h2 _ x y p (by simpa using q)

/-- A slice over a flat block of scalars,or none. -/
def newO (blks:List Blk) (sz:Nat):List AV→Option (Nat × List AV × List Prop)
 | [.nilSl]=>some (0,[],[])
 | [.sl k g 0 len sz']=>(match blks[k]? with
  | some b=>(match b.live && b.flat && b.sz != 0 && b.sz == sz && sz' == sz with
   | true=>some (len,b.cells,[g=b.gen,∀ x ∈ b.cells,Xt x=true])
   | false=>none)
  | none=>none)
 | _=>none
def endO (P:Program) (fn:Func) (n:Nat) (sz:Nat) (K:List Item) (st:St) (evs:List EV):Option (Nat × List AV × List Prop) :=
 match walk P n K st evs with
 | some (K',st',evs',o1) =>
  (match isEnd K',resA P st' fn.results.toList evs' with
  | true,some (vs,_,o2) =>
   (match newO st'.blks sz vs with
   | some (len,cells,o3)=>some (len,cells,o1++(o2++o3))
   | none=>none)
  | _,_=>none)
 | none=>none
theorem newO_sound {Z Z0 M:Nat→Prop} {w0 w:World} {C:Ctx} {blks:List Blk} (hm:Mem Z0 M w0 C Z blks w) (hnm:∀ b,¬ M b) {sz len:Nat} {cells:List AV} {vs:List AV} {c:Value} {o:List Prop} (h:newO blks sz vs=some (len,cells,o)) (ho:AllP o) (hv:VR Z w C (tupA vs) c):NewSl w0 w c len sz cells:=by
 unfold newO at h
 split at h
 · simp only [Option.some.injEq,Prod.mk.injEq] at h
   obtain ⟨rfl,rfl,rfl⟩:=h
   have hv:VR Z w C .nilSl c:=hv
   cases hv
   exact .inl ⟨rfl,rfl,none,rfl⟩
 · rename_i k g len' sz'
   split at h
   · rename_i b hb
     split at h
     · rename_i hlb
       simp only [Option.some.injEq,Prod.mk.injEq] at h
       obtain ⟨rfl,rfl,rfl⟩:=h
       simp only [Bool.and_eq_true,bne_iff_ne,ne_eq,beq_iff_eq] at hlb
       obtain ⟨⟨⟨⟨hl,hf⟩,hz⟩,hbz⟩,hsz'⟩:=hlb
       subst hsz'
       have hv:VR Z w C (.sl k g 0 len' sz') c:=hv
       have hok:=yr hm hb ho.1 hv
       obtain ⟨hk,hblk⟩:=hm.blk k b hb hl
       have hs:=hok
       unfold SlOk at hs
       cases hβ:C.β k with
       | absent=>simp [hβ] at hs
       | unborn =>
        simp only [hβ] at hs hblk
        obtain ⟨h1,a,rfl⟩:=hs
        exact .inl ⟨h1,hblk,a,rfl⟩
       | loc blk o =>
        simp only [hβ] at hs hblk
        obtain ⟨a,cp,rfl,h1,h2,arr,e,h3,h4⟩:=hs
        obtain ⟨arr',e',h5,h6,h7⟩:=hblk.cells hz
        rw [h3] at h5
        simp only [Option.some.injEq,Obj.cells.injEq] at h5
        obtain ⟨rfl,rfl,-⟩:=h5
        have hown:=(hm.own k blk o hβ).2.2
        refine .inr ⟨blk,o,a,cp,arr,e,rfl,h1,by simpa using h2,hown.resolve_left (hnm blk),h3,by simpa using h4,h6,fun i c hi=>⟨hk i c hi,?_⟩⟩
        obtain ⟨u,q1,q2⟩:=h7 i c hi
        exact ⟨u,q1,fun Z C=>Yy (ho.2.1 c (List.mem_of_getElem? hi)) q2⟩
     · cases h
   · cases h
 · cases h
theorem KZ {n:Nat} {f:FuncId} {fn:Func} {evs:List EV} {len sz len':Nat} {cells cells':List AV} {obs:List Prop} (hE:PureOE P f len sz cells E) (hf:P.funcs[f]?=some fn) (hmx:P.follows .mixedOrders=true)
 (h:endO P fn n sz K st evs=some (len',cells',obs)) (ho:AllP obs) (hl:len'=len) (hc:cells'=cells):G P E K st:=by
 subst hl hc
 unfold endO at h
 split at h
 · rename_i K' st' evs' o1 h1
   split at h
   · rename_i vs evs2 o2 hK h2
     split at h
     · rename_i l2 c2 o3 h3
       simp only [Option.some.injEq,Prod.mk.injEq] at h
       obtain ⟨rfl,rfl,rfl⟩:=h
       obtain ⟨a1,a2⟩:=Qm.1 ho
       obtain ⟨a2,a3⟩:=Qm.1 a2
       have hfn:=hE.fn
       refine QL hE.kind hmx h1 a1 (G_end (Post:=fun v w'=>NewSl E.w0 w' v l2 sz c2∧Fr E.w0 (fun _=>False) w') hE.ro hE.kind hE.df (by rw [hfn]; exact hf) (by rw [hE.fin,hfn]) h2 a2 (fun C Z w v hm hv _=>⟨newO_sound hm hE.nm h3 a3 hv,?_⟩) (Wp hK))
       have:=hm.frame
       exact ⟨this.os,this.tape,this.output,this.size,fun b hb _=>this.same b hb (hE.nm b)⟩
     · cases h
   · cases h
 · cases h
end
/-- A function that gives back a fresh slice,called with nothing of the caller's. -/
theorem WC {P:Program} {fv:AV} {args:List AV} {len sz:Nat} {cells:List AV} (h:PureO P fv args len sz cells) (h1:Xx fv=true) (h2:noRefs args=true) (hz:sz ≠ 0) :
 QO P fv args [] (.sl 0 0 0 len sz) [⟨true,0,sz,true,cells,true⟩]:=by
 intro Z w C cf cargs hm hcf hca
 obtain ⟨d,f,as',r1,r2,r3⟩:=h Z w cf cargs hm.zlt (hcf.ctx h1) ⟨hca.1,fun i c v p q=>(hca.2 i c v p q).ctx (QP h2 p)⟩
 refine ⟨d,f,as',r1,r2,r3.mono ?_⟩
 rintro e w' ⟨v,rfl,hv,hfr⟩
 obtain ⟨C',Z',q1,q2,q3,q4⟩:=Ko (idx:=0) hm.push rfl hfr hv hz
 exact ⟨v,C',Z',rfl,Base.refl.next q1 q2,q3,q4⟩
end Ax
namespace Ax
open Go
theorem VW {P:Program} {fv fv':AV} {args args':List AV} {bs:List Blk} {len sz:Nat} {cells:List AV} {o1 o2:List Prop} (hf:(frz 8 fv).run (bs[·]?)=some (fv',o1)) (h1:AllP o1)
 (ha:(frzL (frz 8) args).run (bs[·]?)=some (args',o2)) (h2:AllP o2) (hp:PureO P fv' args' len sz cells) (hz:sz ≠ 0):QO P fv args bs (.sl bs.length 0 0 len sz) (bs++[⟨true,0,sz,true,cells,true⟩]):=by
 intro Z w C cf cargs hm hcf hca
 obtain ⟨d,f,as',r1,r2,r3⟩:=hp (ZL C Z) w cf cargs (fun b hz=>by
  rcases hz with hz | ⟨k,o,hb⟩
  · exact hm.zlt b hz
  · exact (hm.own k b o hb).1) (XX hm hf h1 hcf) (Vm hm ha h2 hca)
 refine ⟨d,f,as',r1,r2,r3.mono ?_⟩
 rintro e w' ⟨v,rfl,hv,hfr⟩
 obtain ⟨C',Z',q1,q2,q3,q4⟩:=Ko (idx:=bs.length) hm.push (by simp) hfr hv hz
 refine ⟨v,C',Z',rfl,Base.refl.next q1 q2,?_,q4⟩
 have e:(Eff.new ⟨true,0,sz,true,cells,true⟩ (fun k=>AV.sl k 0 0 len sz)).blks bs.length (bs++[dead])=bs++[⟨true,0,sz,true,cells,true⟩]:=by simp [Eff.blks]
 rw [← e]; exact q3
end Ax
namespace Go.Proofs.Ytemklbioijmjiaa
open Go Ax
open Go.Proofs
theorem Qg:Try.prog.follows .mixedOrders=true:=by kernel_rfl
structure Pt where
 x:Int
 y:Int
 z:Int
structure Mot where
 top:Int
 ease:Int
 jerk:Int
def within (n lo hi:Int):Bool:=decide (lo≤n) && decide (n≤hi)
def Qbv (p:Pt):Bool:=within p.x (-10000) 10000 && within p.y (-10000) 10000 && within p.z (-10000) 10000
def ease (m:Mot) (fails:Bool):Int:=bif fails then m.jerk else m.ease
def arm (a b p:Pt):Int:=(b.x - a.x)*(p.y - a.y) - (b.y - a.y)*(p.x - a.x)
end Go.Proofs.Ytemklbioijmjiaa
namespace Go.Proofs.Ytemklbioijmjiaa
open Go Ax
open Go.Proofs
def validP (l:List Pt):Bool:=within l.length 3 60 && !l.any (fun p=>!Qbv p)
end Go.Proofs.Ytemklbioijmjiaa
namespace Go.Proofs.Ytemklbioijmjiaa
open Go Ax
open Go.Proofs
structure Chg where
 phase:Int
 before:Int
 after:Int
end Go.Proofs.Ytemklbioijmjiaa
namespace Go.Proofs.Ytemklbioijmjiaa
open Go Ax
open Go.Proofs
structure Rg where
 seats:List (List Pt)
 feet:List Pt
 frame:Int
 c:Pt
 empty:Int
 full:Int
def linesOf (f:List Pt):List (Pt × Pt):=(List.range' 0 f.length).map fun i=>(f.getD i ⟨0,0,0⟩,f.getD ((i+1) % f.length) ⟨0,0,0⟩)
def phasesOf (r:Rg):Int:=match r.seats.getLast? with
 | some s=>s.length
 | none=>1
end Go.Proofs.Ytemklbioijmjiaa
namespace Go.Proofs.Ytemklbioijmjiaa
open Go Ax
open Go.Proofs
structure RgOk (r:Rg) (n:Nat):Prop where
 seats:r.seats.length≤20
 each:∀ s ∈ r.seats,s.length=n∧validP s=true
 feet0:3≤r.feet.length
 feet1:r.feet.length≤8
 foot:∀ p ∈ r.feet,Qbv p=true
 center:Qbv r.c=true
 frame0:0≤r.frame
 frame1:r.frame≤1000000
 empty0:0≤r.empty
 empty1:r.empty≤r.full
 full1:r.full≤1000000
end Go.Proofs.Ytemklbioijmjiaa
namespace Go.Proofs.Ytemklbioijmjiaa
open Go Ax
open Go.Proofs
def lineAt (r:Rg) (v:Nat):Pt × Pt:=(linesOf r.feet).getD v (⟨0,0,0⟩,⟨0,0,0⟩)
section
variable {L:List (Nat × Nat)} {yv:Value} {Y:Option Nat→Sd} {cont:Nat→Bool} {e:Option Nat} {r:Rg} {nn:Nat}
end
end Go.Proofs.Ytemklbioijmjiaa
namespace Go.Proofs.Ytemklbioijmjiaa
open Go Ax
open Go.Proofs
def footAt (r:Rg) (k:Nat):Pt:=r.feet.getD k ⟨0,0,0⟩
def badF (r:Rg) (i k:Nat):Bool:=((k:Int) != (i:Int)) && (((k:Int) != Int.tmod ((i:Int)+1) (r.feet.length:Int)) && decide (arm (lineAt r i).1 (lineAt r i).2 (footAt r k)≤0))
def convR (r:Rg) (i:Nat):Nat→Nat→Bool
 | _,0=>true
 | k,d+1=>!badF r i k && convR r i (k+1) d
def convP (r:Rg):Nat→Nat→Bool
 | _,0=>true
 | i,d+1=>convR r i 0 r.feet.length && convP r (i+1) d
def convexV (r:Rg):Bool:=convP r 0 r.feet.length
structure FeetOk (r:Rg):Prop where
 feet0:3≤r.feet.length
 feet1:r.feet.length≤8
 foot:∀ p ∈ r.feet,Qbv p=true
end Go.Proofs.Ytemklbioijmjiaa
namespace Go.Proofs.Ytemklbioijmjiaa
open Go Ax
open Go.Proofs
structure RigSmall (r:Rg):Prop where
 seats:r.seats.length≤1000
 feet:r.feet.length≤1000
 each:∀ s ∈ r.seats,s.length≤1000
end Go.Proofs.Ytemklbioijmjiaa
namespace Go.Proofs.Ytemklbioijmjiaa
open Go Ax
open Go.Proofs
def phN (r:Rg):Nat:=(phasesOf r).toNat
structure RigMade (r:Rg):Prop where
 ok:RgOk r (phN r)
 ph:phasesOf r=(phN r:Nat)
 le:phN r≤60
 pos:1≤phN r
 conv:convexV r=true
end Go.Proofs.Ytemklbioijmjiaa
namespace Go.Proofs.Ytemklbioijmjiaa
open Go Ax
open Go.Proofs
/-! ### CheckRig,Moment,Bears,Least -/
/-! ### Least -/
end Go.Proofs.Ytemklbioijmjiaa
namespace Go.Proofs.Ytemklbioijmjiaa
open Go Ax
open Go.Proofs
/-! ### the plain law of Least -/
end Go.Proofs.Ytemklbioijmjiaa

namespace Go.Proofs.Ytemklbioijmjiaa
open Go Ax
open Go.Proofs
structure BPart where
 w:Int
 m:Int
 pins:Int
 needs:List Int
structure BKit where
 parts:List BPart
 crane:Int
 vans:List (List Int)
structure Yard where
 k:BKit
 above:List (List Int)
 below:List (List Int)
structure KitSmall (k:BKit):Prop where
 parts:k.parts.length≤20
 needs:∀ p ∈ k.parts,p.needs.length≤9223372036854775807
 vans:k.vans.length≤10
 van:∀ v ∈ k.vans,v.length≤9223372036854775807
/-! ### What can be put up -/
def InN (n:Nat) (l:List Int):Prop:=∀ x ∈ l,0≤x∧x<(n:Int)
structure YardOk (y:Yard):Prop where
 n:y.k.parts.length≤16
 needs:∀ p ∈ y.k.parts,InN y.k.parts.length p.needs∧p.needs.length≤1000
 alen:y.above.length=y.k.parts.length
 above:∀ l ∈ y.above,InN y.k.parts.length l∧l.length≤1000
def idxG {α:Type} (p:α→Bool) (l:List α):Int:=match l.findIdx? p with
 | some i=>(i:Int)
 | none=>-1
theorem YJ {α:Type} (p:α→Bool) (l:List α):∀ (d i:Nat),i+d=l.length→(∀ j x,j<i→l[j]?=some x→p x=false)→∀ (Q:Nat→Prop),(∀ i,i<l.length→(∀ x,l[i]?=some x→(p x=true→idxG p l=i))→(∀ x,l[i]?=some x→p x=false→Q (i+1))→Q i) →
 ((∀ x ∈ l,p x=false)→idxG p l=-1→Q l.length)→Q i:=by
 intro d
 induction d with
 | zero =>
  intro i hi hp Q h1 h2
  have:i=l.length:=by omega
  subst this
  have hall:∀ x ∈ l,p x=false:=fun x hx=>by
   obtain ⟨j,hj⟩:=List.getElem?_of_mem hx
   exact hp j x (List.getElem?_eq_some_iff.1 hj).1 hj
  exact h2 hall (by simp only [idxG]; rw [List.findIdx?_eq_none_iff.2 hall])
 | succ d ih =>
  intro i hi hp Q h1 h2
  refine h1 i (by omega) (fun x hx hpx=>?_) (fun x hx hpx=>ih (i+1) (by omega) (fun j y hj hy=>?_) Q h1 h2)
  · have:l.findIdx? p=some i:=by
     rw [List.findIdx?_eq_some_iff_getElem]
     have hlt:=(List.getElem?_eq_some_iff.1 hx).1
     have he:=(List.getElem?_eq_some_iff.1 hx).2
     refine ⟨hlt,by rw [he]; exact hpx,fun j hj=>?_⟩
     have:=hp j _ hj (List.getElem?_eq_getElem (by omega))
     simp [this]
    simp only [idxG,this]
  · rcases Nat.lt_or_ge j i with h | h
    · exact hp j y h hy
    · have:j=i:=by omega
      subst this
      rw [hx] at hy; cases hy; exact hpx
theorem qh {α:Type} (p:α→Bool) (l:List α):decide (idxG p l≥0)=l.any p:=by
 cases h:l.findIdx? p with
 | none =>
  have e:idxG p l=-1:=by simp only [idxG,h]
  rw [e]
  rw [List.findIdx?_eq_none_iff] at h
  rw [show l.any p=false from by simpa using fun x hx=>by simpa using h x hx]; rfl
 | some i =>
  have e:idxG p l=(i:Int):=by simp only [idxG,h]
  rw [e]
  have:=List.findIdx?_eq_some_iff_getElem.1 h
  obtain ⟨h1,h2,-⟩:=this
  have:l.any p=true:=by rw [List.any_eq_true]; exact ⟨l[i],List.getElem_mem _,h2⟩
  rw [this]; simp
def Qa (n lo hi:Int):Bool:=decide (n≥lo) && decide (n≤hi)
theorem QI {n lo hi:Int}:Qa n lo hi=true ↔ lo≤n∧n≤hi:=by
 simp only [Qa,Bool.and_eq_true,decide_eq_true_eq,ge_iff_le]
theorem XQ {α:Type} {l:List α} {i:Int} (d:α) (h:0≤i∧i<(l.length:Int)):l[Int.toNat i]?=some (l.getD (Int.toNat i) d):=by
 have:Int.toNat i<l.length:=by omega
 simp [List.getD,this]
end Go.Proofs.Ytemklbioijmjiaa
namespace Go.Proofs.Ytemklbioijmjiaa
open Go Ax
open Go.Proofs
/-! ### Stacking -/
structure StSt where
 many:Nat
 lies:List Int
 above:List (List Int)
 below:List (List Int)
/-! ### Which kits are right -/
/-- How many parts lie on the lorries so far. -/
def ones (l:List Int):Nat:=l.countP fun x=>decide (x > 0)
theorem f171b:Try.f171.body=some (Qd Try.prog 171):=by kernel_rfl
theorem QbQ (l:(List Int)) {E:Env} {res:AV} {bs2:List Blk} (hE:LentE Try.prog 171 [] res bs2 E) (ho:AllP [l.length ≠ 0,false=false,0=0,0=0,(0+l.length)≤2147483648,((rowI l).drop 0).take (l.length*1)=(rowI l),(rowI l).length=(l.length*1),noRefs (rowI l)=true])
 (hr:(.sl 0 1 0 (0+l.length) 1)=res) (hb:[⟨true,1,1,true,(rowI l),true⟩]=bs2):G Try.prog E [.code (Qd Try.prog 171)] ⟨[.rsl (rowI l) 0 l.length]++unds (Try.f171.ntmps - 1),[]⟩ :=
 Qr (n:=400) (live:=[2]) (m:=1) (evs:=[.b false,.cs (rowI l)]) (obs:=_) hE (hE.nogh0 _) Try.func171 Qg (by kernel_rfl) ho hr hb
theorem f171nW (l:(List Int)) {E:Env} {rv:Unit} {l2:List Int} (hE:LentE Try.prog 171 [] (.sl 0 1 0 l2.length 1) [⟨true,1,1,true,(rowI l2),true⟩] E)
 (h:(l.length ≠ 0∧((0+l.length)≤2147483648∧l2=l))):G Try.prog E [.code (Qd Try.prog 171)] ⟨[.rsl (rowI l) 0 l.length]++unds (Try.f171.ntmps - 1),[]⟩:=by
 obtain ⟨q0_0,h⟩:=h
 obtain ⟨h1,h⟩:=h
 have qe0:=h
 exact QbQ l hE ⟨q0_0,rfl,rfl,rfl,h1,(by exact QM cI (fun _=>rfl) l),(by exact QC cI (fun _=>rfl) l),(by exact QV cI (fun _=>rfl) l),trivial⟩ (by rw [qe0]; rw [(show (0+l.length)=l.length from by simp)]; try rfl) (by rw [qe0]; all_goals (first | rfl | (simp only [List.length_set]; done) | (simp only [List.length_set]; rfl) | (simp only [List.length_set,List.length_replicate]; done)))
theorem Yw (l:List Int):∀ x ∈ rowI l,Xt x=true:=fun x hx=>by
 simp only [rowI,List.mem_flatMap] at hx
 obtain ⟨a,-,ha⟩:=hx
 simp only [cI,List.mem_singleton] at ha
 subst ha; rfl
theorem clone_ok (l:List Int) (h:l ≠ []∧l.length≤2147483648):Lent Try.prog 171 [.rsl (rowI l) 0 l.length] [] (.sl 0 1 0 l.length 1) [⟨true,1,1,true,(rowI l),true⟩]:=YX Try.func171 f171b fun E hE =>
 f171nW l (rv:=()) hE ⟨fun e=>h.1 (List.length_eq_zero_iff.1 e),by omega,rfl⟩
end Go.Proofs.Ytemklbioijmjiaa
namespace Go.Proofs.Ytemklbioijmjiaa
open Go Ax
open Go.Proofs
theorem and_mask {y:Int} (h:0≤y∧y<4294967296):bits .and .u64 y 4294967295=y:=by
 obtain ⟨n,rfl⟩:=Int.eq_ofNat_of_zero_le h.1
 have h1:=bits_and_u64_nat n 4294967295 (by omega) (by omega)
 have h2:n &&& 4294967295=n:=by
  have:=Nat.and_two_pow_sub_one_eq_mod n 32
  rw [show (2:Nat) ^ 32 - 1=4294967295 from rfl,show (2:Nat) ^ 32=4294967296 from rfl] at this
  rw [this]; exact Nat.mod_eq_of_lt (by omega)
 rw [h2] at h1
 exact h1
theorem inU {n:Int} (h:0≤n∧n≤18446744073709551615):InR .u64 n:=by
 have e1:IntKind.u64.min=0:=rfl
 have e2:IntKind.u64.max=18446744073709551615:=rfl
 unfold InR
 exact ⟨by rw [e1]; omega,by rw [e2]; omega⟩
theorem div32 {y:Int} (h:0≤y∧y<4294967296):y / 2 ^ (Int.toNat 32)=0:=by
 show y / 4294967296=0
 omega
theorem f194b:Try.f194.body=some (Qd Try.prog 194):=by kernel_rfl
theorem u194 {a c k:List AV} {r:AV} (h:Pure Try.prog 194 (a++c++k) r):Qi Try.prog (.clos 194 a k) c r:=Qk Try.func194 (by kernel_rfl) f194b h
theorem p194_start_0 (y:Int) {E:Env} {res:AV} (hE:Qh Try.prog 194 res E) (ho:AllP [(0:Int)≤32∧32≤((IntKind.bits .u64:Nat):Int),(0:Int)≤32∧32≤((IntKind.bits .u64:Nat):Int),InR .u64 (1*(bits .and .u64 y 4294967295)),InR .u64 (0*(bits .and .u64 y 4294967295)),(0:Int)≤32∧32≤((IntKind.bits .u64:Nat):Int),InR .u64 ((0*(bits .and .u64 y 4294967295))+((1*(bits .and .u64 y 4294967295)) / 2 ^ (Int.toNat 32))),(0:Int)≤32∧32≤((IntKind.bits .u64:Nat):Int),InR .u64 (1*(y / 2 ^ (Int.toNat 32))),InR .u64 ((bits .and .u64 ((0*(bits .and .u64 y 4294967295))+((1*(bits .and .u64 y 4294967295)) / 2 ^ (Int.toNat 32))) 4294967295)+(1*(y / 2 ^ (Int.toNat 32)))),InR .u64 (0*(y / 2 ^ (Int.toNat 32))),InR .u64 ((0*(y / 2 ^ (Int.toNat 32)))+(((0*(bits .and .u64 y 4294967295))+((1*(bits .and .u64 y 4294967295)) / 2 ^ (Int.toNat 32))) / 2 ^ (Int.toNat 32))),(0:Int)≤32∧32≤((IntKind.bits .u64:Nat):Int),InR .u64 (((0*(y / 2 ^ (Int.toNat 32)))+(((0*(bits .and .u64 y 4294967295))+((1*(bits .and .u64 y 4294967295)) / 2 ^ (Int.toNat 32))) / 2 ^ (Int.toNat 32)))+(((bits .and .u64 ((0*(bits .and .u64 y 4294967295))+((1*(bits .and .u64 y 4294967295)) / 2 ^ (Int.toNat 32))) 4294967295)+(1*(y / 2 ^ (Int.toNat 32)))) / 2 ^ (Int.toNat 32))),InR .u64 (1*y)])
 (hr:AvLe (.tup [.int .u64 (((0*(y / 2 ^ (Int.toNat 32)))+(((0*(bits .and .u64 y 4294967295))+((1*(bits .and .u64 y 4294967295)) / 2 ^ (Int.toNat 32))) / 2 ^ (Int.toNat 32)))+(((bits .and .u64 ((0*(bits .and .u64 y 4294967295))+((1*(bits .and .u64 y 4294967295)) / 2 ^ (Int.toNat 32))) 4294967295)+(1*(y / 2 ^ (Int.toNat 32)))) / 2 ^ (Int.toNat 32))),.int .u64 (1*y)]) res):G Try.prog E [.code (Qd Try.prog 194)] ⟨[.int .u64 1,.int .u64 y]++unds (Try.f194.ntmps - 2),[]⟩ :=
 Qf (n:=400) (evs:=[]) (obs:=_) hE Try.func194 Qg (by kernel_rfl) ho hr
theorem f194W (y:Int) {E:Env} {rv:(Int × Int)} (hE:Qh Try.prog 194 (.tup [.int .u64 rv.1,.int .u64 rv.2]) E)
 (h:(InR .u64 (1*(bits .and .u64 y 4294967295))∧(InR .u64 (0*(bits .and .u64 y 4294967295))∧(InR .u64 ((0*(bits .and .u64 y 4294967295))+((1*(bits .and .u64 y 4294967295)) / 2 ^ (Int.toNat 32)))∧(InR .u64 (1*(y / 2 ^ (Int.toNat 32)))∧(InR .u64 ((bits .and .u64 ((0*(bits .and .u64 y 4294967295))+((1*(bits .and .u64 y 4294967295)) / 2 ^ (Int.toNat 32))) 4294967295)+(1*(y / 2 ^ (Int.toNat 32))))∧(InR .u64 (0*(y / 2 ^ (Int.toNat 32)))∧(InR .u64 ((0*(y / 2 ^ (Int.toNat 32)))+(((0*(bits .and .u64 y 4294967295))+((1*(bits .and .u64 y 4294967295)) / 2 ^ (Int.toNat 32))) / 2 ^ (Int.toNat 32)))∧(InR .u64 (((0*(y / 2 ^ (Int.toNat 32)))+(((0*(bits .and .u64 y 4294967295))+((1*(bits .and .u64 y 4294967295)) / 2 ^ (Int.toNat 32))) / 2 ^ (Int.toNat 32)))+(((bits .and .u64 ((0*(bits .and .u64 y 4294967295))+((1*(bits .and .u64 y 4294967295)) / 2 ^ (Int.toNat 32))) 4294967295)+(1*(y / 2 ^ (Int.toNat 32)))) / 2 ^ (Int.toNat 32)))∧(InR .u64 (1*y)∧rv=((((0*(y / 2 ^ (Int.toNat 32)))+(((0*(bits .and .u64 y 4294967295))+((1*(bits .and .u64 y 4294967295)) / 2 ^ (Int.toNat 32))) / 2 ^ (Int.toNat 32)))+(((bits .and .u64 ((0*(bits .and .u64 y 4294967295))+((1*(bits .and .u64 y 4294967295)) / 2 ^ (Int.toNat 32))) 4294967295)+(1*(y / 2 ^ (Int.toNat 32)))) / 2 ^ (Int.toNat 32))),(1*y)))))))))))):G Try.prog E [.code (Qd Try.prog 194)] ⟨[.int .u64 1,.int .u64 y]++unds (Try.f194.ntmps - 2),[]⟩:=by
 obtain ⟨q2_0,h⟩:=h
 obtain ⟨q3_0,h⟩:=h
 obtain ⟨q5_0,h⟩:=h
 obtain ⟨q7_0,h⟩:=h
 obtain ⟨q8_0,h⟩:=h
 obtain ⟨q9_0,h⟩:=h
 obtain ⟨q10_0,h⟩:=h
 obtain ⟨q12_0,h⟩:=h
 obtain ⟨q13_0,h⟩:=h
 exact p194_start_0 y hE ⟨(⟨by decide,by decide⟩),(⟨by decide,by decide⟩),q2_0,q3_0,(⟨by decide,by decide⟩),q5_0,(⟨by decide,by decide⟩),q7_0,q8_0,q9_0,q10_0,(⟨by decide,by decide⟩),q12_0,q13_0,trivial⟩ (AvLe.of_eq (by rw [h]; try rfl))
theorem mul64_ok (y:Int) (h:0≤y∧y<4294967296):Pure Try.prog 194 [.int .u64 1,.int .u64 y] (.tup [.int .u64 0,.int .u64 y]):=Qy Try.func194 f194b fun E hE=>by
 have d0:(0:Int) / 2 ^ (Int.toNat 32)=0:=rfl
 have a0:=and_mask (y:=0) (by omega)
 refine f194W y (rv:=(0,y)) hE ?_
 rw [and_mask h]
 simp only [Int.one_mul,Int.zero_mul,Int.zero_add,div32 h,Int.add_zero,a0,d0]
 exact ⟨inU (by omega),inU (by omega),inU (by omega),inU (by omega),inU (by omega),inU (by omega),inU (by omega),inU (by omega),inU (by omega),trivial⟩
theorem f130b:Try.f130.body=some (Qd Try.prog 130):=by kernel_rfl
theorem u130 {a c k:List AV} {r:AV} (h:Pure Try.prog 130 (a++c++k) r):Qi Try.prog (.clos 130 a k) c r:=Qk Try.func130 (by kernel_rfl) f130b h
theorem p130_start_0 (y:Int) {E:Env} {res:AV} (hE:Qh Try.prog 130 res E) (ho:AllP [false=false,Qi Try.prog (.clos 194 [] []) [.int .u64 1,.int .u64 y] (.tup [.int .u64 0,.int .u64 y])])
 (hr:AvLe (.tup [.int .u64 0,.int .u64 y]) res):G Try.prog E [.code (Qd Try.prog 130)] ⟨[.int .u64 1,.int .u64 y]++unds (Try.f130.ntmps - 2),[]⟩ :=
 Qf (n:=400) (evs:=[.b false,.v (.tup [.int .u64 0,.int .u64 y])]) (obs:=_) hE Try.func130 Qg (by kernel_rfl) ho hr
theorem f130W (y:Int) {E:Env} {rv:(Int × Int)} (hE:Qh Try.prog 130 (.tup [.int .u64 rv.1,.int .u64 rv.2]) E)
 (h:((0≤y∧y<4294967296)∧rv=(0,y))):G Try.prog E [.code (Qd Try.prog 130)] ⟨[.int .u64 1,.int .u64 y]++unds (Try.f130.ntmps - 2),[]⟩:=by
 obtain ⟨h1,h⟩:=h
 exact p130_start_0 y hE ⟨rfl,(u194 (mul64_ok y h1)),trivial⟩ (AvLe.of_eq (by rw [h]; try rfl))
theorem mul_ok (y:Int) (h:0≤y∧y<4294967296):Pure Try.prog 130 [.int .u64 1,.int .u64 y] (.tup [.int .u64 0,.int .u64 y]):=Qy Try.func130 f130b fun E hE=>f130W y (rv:=(0,y)) hE ⟨h,rfl⟩
theorem f55b:Try.f55.body=some (Qd Try.prog 55):=by kernel_rfl
def f55K0 (P:Program):List Item:=kAt 400 [.code (Qd P 55)] [.b false,.b false,.stop]
def f55S0 (n:Int) (v:Int) (v0:List Int) (n1:Nat):St:=⟨(jj 7 ([.sl 0 0 0 v0.length 1,.int .i64 (n1:Int)]++Js 39)),[⟨true,0,1,true,(rowI v0),true⟩]⟩
def f55G0 (E:Env) (n:Int) (v:Int) (v0:List Int) (n1:Nat):Prop:=G Try.prog E (f55K0 Try.prog) (f55S0 n v v0 n1 )
theorem p55_start_2 (n:Int) (v:Int) {E:Env} {rv:AV} {bs2:List Blk} (hE:LentE Try.prog 55 [] rv bs2 E) (ho:AllP [(decide (n<0))=false,InR .u64 1,InR .u64 n,Qi Try.prog (.clos 130 [] []) [.int .u64 1,.int .u64 n] (.tup [.int .u64 0,.int .u64 n]),false=false,(decide (n > 9223372036854775807))=false,InR .i64 n,0≤n∧n≤n∧n≤2147483648,(0+(Nat.min 1 (Int.toNat n))*1)≤((List.replicate (Int.toNat n) ([.int .i64 0]:List AV)).flatten).length,(Nat.min 1 (Int.toNat n)) ≠ 0,0=0,(([.int .i64 v]).drop 0).take ((Nat.min 1 (Int.toNat n))*1)=(rowI ((([v]:List Int).drop 0).take (Nat.min 1 (Int.toNat n)))),(rowI ((([v]:List Int).drop 0).take (Nat.min 1 (Int.toNat n)))).length=(Nat.min 1 (Int.toNat n))*1,noRefs (rowI ((([v]:List Int).drop 0).take (Nat.min 1 (Int.toNat n))))=true])
 (hg:G Try.prog E (f55K0 Try.prog) ⟨(jj 7 ([.sl 0 0 0 (Int.toNat n) 1,.int .i64 (((Nat.min 1 (Int.toNat n)):Nat):Int)]++Js 39)),[⟨true,0,1,true,(Qu ((List.replicate (Int.toNat n) ([.int .i64 0]:List AV)).flatten) 0 (rowI ((([v]:List Int).drop 0).take (Nat.min 1 (Int.toNat n))))),true⟩]⟩):G Try.prog E [.code (Qd Try.prog 55)] ⟨[.rsl [.int .i64 v] 0 1,.int .i64 n]++unds (Try.f55.ntmps - 2),[]⟩ :=
 Qe (n:=400) (ds:=[]) (cs:=[]) (live:=[7,8]) (m:=1) (evs:=[.b false,.v (.tup [.int .u64 0,.int .u64 n]),.b false,.b false,.cs (rowI ((([v]:List Int).drop 0).take (Nat.min 1 (Int.toNat n)))),.stop]) (obs:=_) hE.kind (hE.nogh0 _) Qg (by kernel_rfl) ho hg
theorem f55W (n:Int) (v:Int) {E:Env} {rv:Unit} {l2:List Int} (hE:LentE Try.prog 55 [] (.sl 0 0 0 l2.length 1) [⟨true,0,1,true,(rowI l2),true⟩] E)
 (h:((n<0→False)∧(¬ (n<0)→(InR .u64 n∧((0≤n∧n<4294967296)∧((n > 9223372036854775807→False)∧(¬ (n > 9223372036854775807)→((I6 (n))∧((0≤n∧n≤2147483648)∧(0+(Nat.min 1 (Int.toNat n))≤(List.replicate (Int.toNat n) (0:Int)).length∧((Nat.min 1 (Int.toNat n)) ≠ 0∧(0+(Nat.min 1 (Int.toNat n))≤([v]:List Int).length∧f55G0 E n v (Wy (List.replicate (Int.toNat n) (0:Int)) 0 ((([v]:List Int).drop 0).take (Nat.min 1 (Int.toNat n)))) (Nat.min 1 (Int.toNat n)))))))))))))):G Try.prog E [.code (Qd Try.prog 55)] ⟨[.rsl [.int .i64 v] 0 1,.int .i64 n]++unds (Try.f55.ntmps - 2),[]⟩:=by
 rcases bft (decide (n<0)) with hc0 | hc0
 · have h:=h.1 (odt hc0)
   exact h.elim
 · have h:=h.2 (odf hc0)
   obtain ⟨q2_1,h⟩:=h
   obtain ⟨h1,h⟩:=h
   rcases bft (decide (n > 9223372036854775807)) with hc1 | hc1
   · have h:=h.1 (odt hc1)
     exact h.elim
   · have h:=h.2 (odf hc1)
     obtain ⟨q6_2,h⟩:=h
     obtain ⟨h2,h⟩:=h
     obtain ⟨h3,h⟩:=h
     obtain ⟨h4,h⟩:=h
     obtain ⟨h5,h⟩:=h
     refine p55_start_2 n v hE ⟨hc0,(⟨by decide,by decide⟩),q2_1,(u130 (mul_ok n h1)),rfl,hc1,q6_2,⟨h2.1,by omega,h2.2⟩,(by rw [(show (List.replicate (Int.toNat n) ([.int .i64 0]:List AV)).flatten=rowI (List.replicate (Int.toNat n) (0:Int)) from Qby cI _ _)]; exact qr cI (s:=1) (fun _=>rfl) h3 (by first | rfl | omega | simp)),h4,rfl,(by rw [(show [.int .i64 v]=rowI ([v]:List Int) from rfl)]; exact yJ cI (s:=1) (fun _=>rfl) _ (by first | rfl | omega | simp)),(yL cI (s:=1) (fun _=>rfl) h5),(QV cI (fun _=>rfl) _),trivial⟩ ?_
     have h:=h
     simp only [f55G0,f55S0,List.length_set,List.length_replicate,Xd] at h
     rw [(show (List.replicate (Int.toNat n) ([.int .i64 0]:List AV)).flatten=rowI (List.replicate (Int.toNat n) (0:Int)) from Qby cI _ _)]; rw [(show Qu (rowI (List.replicate (Int.toNat n) (0:Int))) 0 (rowI ((([v]:List Int).drop 0).take (Nat.min 1 (Int.toNat n))))=rowI (Wy (List.replicate (Int.toNat n) (0:Int)) 0 ((([v]:List Int).drop 0).take (Nat.min 1 (Int.toNat n)))) from yK cI (s:=1) (fun _=>rfl) h3 h5 (by first | rfl | omega | simp))]
     exact h
theorem p55_0_0 (n:Int) (v:Int) (v0:List Int) (n1:Nat) {E:Env} {rv:AV} {bs2:List Blk} (hE:LentE Try.prog 55 [] rv bs2 E) (ho:AllP [0=0,(decide ((n1:Int)<(v0.length:Int)))=true,(Int.toNat (n1:Int))≤v0.length,v0.length≤v0.length,0≤(n1:Int),0=0,0≤(Int.toNat (n1:Int)),(Int.toNat (n1:Int))≤v0.length,0≤(n1:Int),0=0,((0+((Int.toNat (n1:Int))*1))+(Nat.min (Int.toNat (n1:Int)) (v0.length - (Int.toNat (n1:Int))))*1)≤(rowI v0).length,(Nat.min (Int.toNat (n1:Int)) (v0.length - (Int.toNat (n1:Int)))) ≠ 0,0=0,0=0,((rowI v0).drop 0).take ((Nat.min (Int.toNat (n1:Int)) (v0.length - (Int.toNat (n1:Int))))*1)=(rowI ((v0.drop 0).take (Nat.min (Int.toNat (n1:Int)) (v0.length - (Int.toNat (n1:Int)))))),(rowI ((v0.drop 0).take (Nat.min (Int.toNat (n1:Int)) (v0.length - (Int.toNat (n1:Int)))))).length=(Nat.min (Int.toNat (n1:Int)) (v0.length - (Int.toNat (n1:Int))))*1,noRefs (rowI ((v0.drop 0).take (Nat.min (Int.toNat (n1:Int)) (v0.length - (Int.toNat (n1:Int))))))=true,InR .i64 ((n1:Int)+(((Nat.min (Int.toNat (n1:Int)) (v0.length - (Int.toNat (n1:Int)))):Nat):Int))])
 (hg:G Try.prog E (f55K0 Try.prog) ⟨(jj 7 ([.sl 0 0 0 v0.length 1,.int .i64 ((n1:Int)+(((Nat.min (Int.toNat (n1:Int)) (v0.length - (Int.toNat (n1:Int)))):Nat):Int))]++Js 39)),[⟨true,0,1,true,(Qu (rowI v0) (0+((Int.toNat (n1:Int))*1)) (rowI ((v0.drop 0).take (Nat.min (Int.toNat (n1:Int)) (v0.length - (Int.toNat (n1:Int))))))),true⟩]⟩):G Try.prog E (f55K0 Try.prog) (f55S0 n v v0 n1 ) :=
 Qe (n:=400) (ds:=[]) (cs:=[]) (live:=[7,8]) (m:=1) (evs:=[.b true,.cs (rowI ((v0.drop 0).take (Nat.min (Int.toNat (n1:Int)) (v0.length - (Int.toNat (n1:Int)))))),.stop]) (obs:=_) hE.kind (hE.nogh0 _) Qg (by kernel_rfl) ho hg
theorem p55_0_1 (n:Int) (v:Int) (v0:List Int) (n1:Nat) {E:Env} {res:AV} {bs2:List Blk} (hE:LentE Try.prog 55 [] res bs2 E) (ho:AllP [0=0,(decide ((n1:Int)<(v0.length:Int)))=false])
 (hr:(.sl 0 0 0 v0.length 1)=res) (hb:[⟨true,0,1,true,(rowI v0),true⟩]=bs2):G Try.prog E (f55K0 Try.prog) (f55S0 n v v0 n1 ) :=
 Qr (n:=400) (live:=[4]) (m:=1) (evs:=[.b false]) (obs:=_) hE (hE.nogh0 _) Try.func55 Qg (by kernel_rfl) ho hr hb
theorem f55W0 (n:Int) (v:Int) (v0:List Int) (n1:Nat) {E:Env} {rv:Unit} {l2:List Int} (hE:LentE Try.prog 55 [] (.sl 0 0 0 l2.length 1) [⟨true,0,1,true,(rowI l2),true⟩] E)
 (h:(((n1:Int)<(v0.length:Int)→((Int.toNat (n1:Int))≤v0.length∧((Int.toNat (n1:Int))≤v0.length∧((Int.toNat (n1:Int))+(Nat.min (Int.toNat (n1:Int)) (v0.length - (Int.toNat (n1:Int))))≤v0.length∧((Nat.min (Int.toNat (n1:Int)) (v0.length - (Int.toNat (n1:Int)))) ≠ 0∧(0+(Nat.min (Int.toNat (n1:Int)) (v0.length - (Int.toNat (n1:Int))))≤v0.length∧((I6 ((n1:Int)+(((Nat.min (Int.toNat (n1:Int)) (v0.length - (Int.toNat (n1:Int)))):Nat):Int)))∧f55G0 E n v (Wy v0 (Int.toNat (n1:Int)) ((v0.drop 0).take (Nat.min (Int.toNat (n1:Int)) (v0.length - (Int.toNat (n1:Int)))))) (n1+(Nat.min (Int.toNat (n1:Int)) (v0.length - (Int.toNat (n1:Int))))))))))))∧(¬ ((n1:Int)<(v0.length:Int))→l2=v0))):f55G0 E n v v0 n1:=by
 rcases bft (decide ((n1:Int)<(v0.length:Int))) with hc0 | hc0
 · have h:=h.1 (odt hc0)
   obtain ⟨q2_1,h⟩:=h
   obtain ⟨q7_1,h⟩:=h
   obtain ⟨h1,h⟩:=h
   obtain ⟨h2,h⟩:=h
   obtain ⟨h3,h⟩:=h
   obtain ⟨q17_1,h⟩:=h
   refine p55_0_0 n v v0 n1 hE ⟨rfl,hc0,q2_1,(Nat.le_refl _),(by omega),rfl,(Nat.zero_le _),q7_1,(by omega),rfl,(by exact qr cI (s:=1) (fun _=>rfl) h1 (by first | rfl | omega | simp)),h2,rfl,rfl,(by exact yJ cI (s:=1) (fun _=>rfl) _ (by first | rfl | omega | simp)),(yL cI (s:=1) (fun _=>rfl) h3),(QV cI (fun _=>rfl) _),q17_1,trivial⟩ ?_
   have h:=h
   simp only [f55G0,f55S0,List.length_set,Xd] at h
   rw [(show Qu (rowI v0) (0+((Int.toNat (n1:Int))*1)) (rowI ((v0.drop 0).take (Nat.min (Int.toNat (n1:Int)) (v0.length - (Int.toNat (n1:Int))))))=rowI (Wy v0 (Int.toNat (n1:Int)) ((v0.drop 0).take (Nat.min (Int.toNat (n1:Int)) (v0.length - (Int.toNat (n1:Int)))))) from yK cI (s:=1) (fun _=>rfl) h1 h3 (by first | rfl | omega | simp))]
   exact h
 · have h:=h.2 (odf hc0)
   have qe0:=h
   exact p55_0_1 n v v0 n1 hE ⟨rfl,hc0,trivial⟩ (by rw [qe0]; try rfl) (by rw [qe0]; all_goals (first | rfl | (simp only [List.length_set]; done) | (simp only [List.length_set]; rfl) | (simp only [List.length_set,List.length_replicate]; done)))
theorem VP (v n:Int) (h:1≤n∧n≤2147483648):Lent Try.prog 55 [.rsl [.int .i64 v] 0 1,.int .i64 n] [] (.sl 0 0 0 (List.replicate (Int.toNat n) v).length 1) [⟨true,0,1,true,rowI (List.replicate (Int.toNat n) v),true⟩]:=YX Try.func55 f55b fun E hE=>by
 have key:∀ (d:Nat) (v0:List Int) (k:Nat),v0.length=Int.toNat n→1≤k→k≤v0.length→v0.length - k≤d→(∀ i,i<k→v0[i]?=some v)→f55G0 E n v v0 k:=by
  intro d
  induction d with
  | zero =>
   intro v0 k hl h1 h2 hd hv
   refine f55W0 n v v0 k (rv:=()) hE ⟨fun h=>by omega,fun _=>?_⟩
   refine (List.ext_getElem? fun i=>?_).symm
   by_cases hi:i<Int.toNat n
   · rw [hv i (by omega),List.getElem?_replicate,if_pos hi]
   · rw [List.getElem?_eq_none (by omega),List.getElem?_eq_none (by simp; omega)]
  | succ d ih =>
   intro v0 k hl h1 h2 hd hv
   refine f55W0 n v v0 k (rv:=()) hE ⟨fun hk=>?_,fun _=>?_⟩
   · have e0:Int.toNat (k:Int)=k:=by omega
     rw [e0,List.drop_zero]
     have hm:Nat.min k (v0.length - k)≤k:=Nat.min_le_left _ _
     have hm2:Nat.min k (v0.length - k)≤v0.length - k:=Nat.min_le_right _ _
     have hm0:Nat.min k (v0.length - k) ≠ 0:=by
      intro h0
      have h0':min k (v0.length - k)=0:=h0
      omega
     generalize Nat.min k (v0.length - k)=m at hm hm2 hm0
     refine ⟨h2,h2,by omega,hm0,by omega,by omega,?_⟩
     have hlt:(v0.take m).length=m:=by rw [List.length_take]; omega
     refine ih _ (k+m) (by rw [Xd]; exact hl) (by omega) (by rw [Xd]; omega) (by rw [Xd]; omega) (fun i hi=>?_)
     rw [We (by rw [hlt]; omega),hlt]
     split
     · rw [List.getElem?_take,if_pos (by omega)]; exact hv _ (by omega)
     · exact hv _ (by omega)
   · refine (List.ext_getElem? fun i=>?_).symm
     by_cases hi:i<Int.toNat n
     · rw [hv i (by omega),List.getElem?_replicate,if_pos hi]
     · rw [List.getElem?_eq_none (by omega),List.getElem?_eq_none (by simp; omega)]
 have e1:Nat.min 1 (Int.toNat n)=1:=by
  have:min 1 (Int.toNat n)=1:=by omega
  exact this
 refine f55W n v (rv:=()) hE ⟨fun h=>by omega,fun _=>⟨inU (by omega),by omega,fun h=>by omega,fun _=>⟨by omega,by omega,?_⟩⟩⟩
 rw [e1]
 refine ⟨by simp; omega,by omega,by simp,?_⟩
 refine key (Int.toNat n) _ 1 (by rw [Xd,List.length_replicate]) (by omega) (by rw [Xd,List.length_replicate]; omega) (by rw [Xd,List.length_replicate]; omega) (fun i hi=>?_)
 have:i=0:=by omega
 subst this
 rw [We (by simp; omega)]
 simp
end Go.Proofs.Ytemklbioijmjiaa
namespace Go.Proofs.Ytemklbioijmjiaa
open Go Ax
open Go.Proofs
structure Bndl where
 tokens:Int
 price:Int
def cBd (t:Bndl):List AV:=[.int .i64 t.tokens,.int .i64 t.price]
def Ym (l:List Bndl):List AV:=l.flatMap cBd
structure Fair where
 purses:Int
 boxes:Int
 stock:List Int
 cash:List Int
 bundles:List Bndl
 refund:Int
 band:Int
 hours:Int
def outB (lo hi:Int) (n:Int):Bool:=!Qa n lo hi
theorem f115b:Try.f115.body=some (Qd Try.prog 115):=by kernel_rfl
theorem u115 {a c k:List AV} {r:AV} (h:Pure Try.prog 115 (a++c++k) r):Qi Try.prog (.clos 115 a k) c r:=Qk Try.func115 (by kernel_rfl) f115b h
theorem p115_start_0 (n:Int) (lo:Int) (hi:Int) {E:Env} {res:AV} (hE:Qh Try.prog 115 res E) (ho:AllP [(decide (n≥lo))=true])
 (hr:AvLe (.bool (decide (n≤hi))) res):G Try.prog E [.code (Qd Try.prog 115)] ⟨[.int .i64 n,.int .i64 lo,.int .i64 hi]++unds (Try.f115.ntmps - 3),[]⟩ :=
 Qf (n:=400) (evs:=[.b true]) (obs:=_) hE Try.func115 Qg (by kernel_rfl) ho hr
theorem p115_start_1 (n:Int) (lo:Int) (hi:Int) {E:Env} {res:AV} (hE:Qh Try.prog 115 res E) (ho:AllP [(decide (n≥lo))=false])
 (hr:AvLe (.bool false) res):G Try.prog E [.code (Qd Try.prog 115)] ⟨[.int .i64 n,.int .i64 lo,.int .i64 hi]++unds (Try.f115.ntmps - 3),[]⟩ :=
 Qf (n:=400) (evs:=[.b false]) (obs:=_) hE Try.func115 Qg (by kernel_rfl) ho hr
theorem f115W (n:Int) (lo:Int) (hi:Int) {E:Env} {rv:Bool} (hE:Qh Try.prog 115 (.bool rv) E)
 (h:((n≥lo→rv=(decide (n≤hi)))∧(¬ (n≥lo)→rv=false))):G Try.prog E [.code (Qd Try.prog 115)] ⟨[.int .i64 n,.int .i64 lo,.int .i64 hi]++unds (Try.f115.ntmps - 3),[]⟩:=by
 rcases bft (decide (n≥lo)) with hc0 | hc0
 · have h:=h.1 (odt hc0)
   exact p115_start_0 n lo hi hE ⟨hc0,trivial⟩ (AvLe.of_eq (by rw [h]; try rfl))
 · have h:=h.2 (odf hc0)
   exact p115_start_1 n lo hi hE ⟨hc0,trivial⟩ (AvLe.of_eq (by rw [h]; try rfl))
theorem Qn (n lo hi:Int):Pure Try.prog 115 [.int .i64 n,.int .i64 lo,.int .i64 hi] (.bool (Qa n lo hi)):=Qy Try.func115 f115b fun E hE=>by
 refine f115W n lo hi hE ⟨fun h=>by simp [Qa,h],fun h=>by simp [Qa,h]⟩
theorem f183b:Try.f183.body=some (Qd Try.prog 183):=by kernel_rfl
theorem u183 {a c k:List AV} {r:AV} (h:Pure Try.prog 183 (a++c++k) r):Qi Try.prog (.clos 183 a k) c r:=Qk Try.func183 (by kernel_rfl) f183b h
theorem p183_start_0 (n:Int) (lo hi:Int) {E:Env} {res:AV} (hE:Qh Try.prog 183 res E) (ho:AllP [Qi Try.prog (.clos 115 [] []) [.int .i64 n,.int .i64 lo,.int .i64 hi] (.bool (Qa n lo hi))])
 (hr:AvLe (.bool (!(Qa n lo hi))) res):G Try.prog E [.code (Qd Try.prog 183)] ⟨[.int .i64 n,.rptr [.int .i64 lo] 0,.rptr [.int .i64 hi] 0]++unds (Try.f183.ntmps - 3),[]⟩ :=
 Qf (n:=400) (evs:=[.v (.bool (Qa n lo hi))]) (obs:=_) hE Try.func183 Qg (by kernel_rfl) ho hr
theorem f183W (n:Int) (lo hi:Int) {E:Env} {rv:Bool} (hE:Qh Try.prog 183 (.bool rv) E)
 (h:rv=(!(Qa n lo hi))):G Try.prog E [.code (Qd Try.prog 183)] ⟨[.int .i64 n,.rptr [.int .i64 lo] 0,.rptr [.int .i64 hi] 0]++unds (Try.f183.ntmps - 3),[]⟩:=by
 exact p183_start_0 n lo hi hE ⟨(u115 (Qn n lo hi)),trivial⟩ (AvLe.of_eq (by rw [h]; try rfl))
theorem f182b:Try.f182.body=some (Qd Try.prog 182):=by kernel_rfl
theorem u182 {a c k:List AV} {r:AV} (h:Pure Try.prog 182 (a++c++k) r):Qi Try.prog (.clos 182 a k) c r:=Qk Try.func182 (by kernel_rfl) f182b h
theorem p182_start_0 (lo:Int) (hi:Int) {E:Env} {res:AV} (hE:Qh Try.prog 182 res E) (ho:AllP [])
 (hr:AvLe (.clos 183 [] [.rptr [.int .i64 lo] 0,.rptr [.int .i64 hi] 0]) res):G Try.prog E [.code (Qd Try.prog 182)] ⟨[.int .i64 lo,.int .i64 hi]++unds (Try.f182.ntmps - 2),[]⟩ :=
 Qf (n:=400) (evs:=[]) (obs:=_) hE Try.func182 Qg (by kernel_rfl) ho hr
theorem f182W (lo:Int) (hi:Int) {E:Env} {rv:AV} (hE:Qh Try.prog 182 rv E)
 (h:rv=(.clos 183 [] [.rptr [.int .i64 lo] 0,.rptr [.int .i64 hi] 0])):G Try.prog E [.code (Qd Try.prog 182)] ⟨[.int .i64 lo,.int .i64 hi]++unds (Try.f182.ntmps - 2),[]⟩:=by
 exact p182_start_0 lo hi hE trivial (AvLe.of_eq (by rw [h]; try rfl))
theorem out1_ok (n lo hi:Int):Pure Try.prog 183 [.int .i64 n,.rptr [.int .i64 lo] 0,.rptr [.int .i64 hi] 0] (.bool (outB lo hi n)):=Qy Try.func183 f183b fun E hE=>f183W n lo hi (rv:=outB lo hi n) hE rfl
theorem Vj (lo hi:Int):Pure Try.prog 182 [.int .i64 lo,.int .i64 hi] (.clos 183 [] [.rptr [.int .i64 lo] 0,.rptr [.int .i64 hi] 0]):=Qy Try.func182 f182b fun E hE=>f182W lo hi (rv:=.clos 183 [] [.rptr [.int .i64 lo] 0,.rptr [.int .i64 hi] 0]) hE rfl
theorem f59ob:Try.f59.body=some (Qd Try.prog 59):=by kernel_rfl
def QaR (P:Program):List Item:=kAt 400 [.code (Qd P 59)] [.stop]
def f59oS0 (l:(List Int)) (lo hi:Int) (i:Nat):St:=⟨([.rsl (rowI l) 0 l.length,.clos 183 [] [.rptr [.int .i64 lo] 0,.rptr [.int .i64 hi] 0]]++jj 5 ([.int .i64 (l.length:Int),.int .i64 (i:Int)]++Js 10)),[]⟩
def f59oG0 (E:Env) (l:(List Int)) (lo hi:Int) (i:Nat):Prop:=G Try.prog E (QaR Try.prog) (f59oS0 l lo hi i )
abbrev z59o_1 (lo:Int) (hi:Int):List AV:=[.rptr [.int .i64 lo] 0,.rptr [.int .i64 hi] 0]
theorem p59o_start_0 (l:(List Int)) (lo hi:Int) {E:Env} {rv:AV} (hE:Qh Try.prog 59 rv E) (ho:AllP [])
 (hg:G Try.prog E (QaR Try.prog) ⟨([.rsl (rowI l) 0 l.length,.clos 183 [] (z59o_1 lo hi)]++jj 5 ([.int .i64 (l.length:Int),.int .i64 0]++Js 10)),[]⟩):G Try.prog E [.code (Qd Try.prog 59)] ⟨[.rsl (rowI l) 0 l.length,.clos 183 [] (z59o_1 lo hi)]++unds (Try.f59.ntmps - 2),[]⟩ :=
 Qe (n:=400) (ds:=[]) (cs:=[]) (live:=[0,1,7,8]) (m:=0) (evs:=[.stop]) (obs:=_) hE.2.1 (hE.nogh _) Qg (by kernel_rfl) ho hg
theorem f59oW (l:(List Int)) (lo hi:Int) {E:Env} {rv:Int} (hE:Qh Try.prog 59 (.int .i64 rv) E)
 (h:f59oG0 E l lo hi 0):G Try.prog E [.code (Qd Try.prog 59)] ⟨[.rsl (rowI l) 0 l.length,.clos 183 [] [.rptr [.int .i64 lo] 0,.rptr [.int .i64 hi] 0]]++unds (Try.f59.ntmps - 2),[]⟩:=by
 exact p59o_start_0 l lo hi hE trivial h
theorem p59o_0_0 (l:(List Int)) (lo hi:Int) (i:Nat) (e:Int) {E:Env} {res:AV} (hE:Qh Try.prog 59 res E) (ho:AllP [(decide ((i:Int)<(l.length:Int)))=true,0≤(i:Int)∧(i:Int)<(l.length:Int),((rowI l).drop (0+(Int.toNat (i:Int))*1)).take 1=[.int .i64 e],Qi Try.prog (.clos 183 [] (z59o_1 lo hi)) [.int .i64 e] (.bool (outB lo hi e)),(outB lo hi e)=true])
 (hr:AvLe (.int .i64 (i:Int)) res):G Try.prog E (QaR Try.prog) (f59oS0 l lo hi i ) :=
 Qf (n:=400) (evs:=[.b true,.ld (.int .i64 e),.v (.bool (outB lo hi e)),.b true]) (obs:=_) hE Try.func59 Qg (by kernel_rfl) ho hr
theorem p59o_0_1 (l:(List Int)) (lo hi:Int) (i:Nat) (e:Int) {E:Env} {rv:AV} (hE:Qh Try.prog 59 rv E) (ho:AllP [(decide ((i:Int)<(l.length:Int)))=true,0≤(i:Int)∧(i:Int)<(l.length:Int),((rowI l).drop (0+(Int.toNat (i:Int))*1)).take 1=[.int .i64 e],Qi Try.prog (.clos 183 [] (z59o_1 lo hi)) [.int .i64 e] (.bool (outB lo hi e)),(outB lo hi e)=false,InR .i64 ((i:Int)+1)])
 (hg:G Try.prog E (QaR Try.prog) ⟨([.rsl (rowI l) 0 l.length,.clos 183 [] (z59o_1 lo hi)]++jj 5 ([.int .i64 (l.length:Int),.int .i64 ((i:Int)+1)]++Js 10)),[]⟩):G Try.prog E (QaR Try.prog) (f59oS0 l lo hi i ) :=
 Qe (n:=400) (ds:=[]) (cs:=[]) (live:=[0,1,7,8]) (m:=0) (evs:=[.b true,.ld (.int .i64 e),.v (.bool (outB lo hi e)),.b false,.stop]) (obs:=_) hE.2.1 (hE.nogh _) Qg (by kernel_rfl) ho hg
theorem p59o_0_2 (l:(List Int)) (lo hi:Int) (i:Nat) {E:Env} {res:AV} (hE:Qh Try.prog 59 res E) (ho:AllP [(decide ((i:Int)<(l.length:Int)))=false])
 (hr:AvLe (.int .i64 (-1)) res):G Try.prog E (QaR Try.prog) (f59oS0 l lo hi i ) :=
 Qf (n:=400) (evs:=[.b false]) (obs:=_) hE Try.func59 Qg (by kernel_rfl) ho hr
theorem f59oW0 (l:(List Int)) (lo hi:Int) (i:Nat) {E:Env} {rv:Int} (hE:Qh Try.prog 59 (.int .i64 rv) E)
 (h:(((i:Int)<(l.length:Int)→(∃ e:Int,l[i]?=some e∧(((outB lo hi e)=true→rv=(i:Int))∧((outB lo hi e)=false→((I6 ((i:Int)+1))∧f59oG0 E l lo hi (i+1))))))∧(¬ ((i:Int)<(l.length:Int))→rv=(-1)))):f59oG0 E l lo hi i:=by
 rcases bft (decide ((i:Int)<(l.length:Int))) with hc0 | hc0
 · have h:=h.1 (odt hc0)
   obtain ⟨e,h1,h⟩:=h
   rcases bft (outB lo hi e) with hc1 | hc1
   · have h:=h.1 hc1
     exact p59o_0_0 l lo hi i e hE ⟨hc0,(Qs h1),(rp cI 1 0 1 h1),(u183 (out1_ok e lo hi)),hc1,trivial⟩ (AvLe.of_eq (by rw [h]; try rfl))
   · have h:=h.2 hc1
     obtain ⟨q6_2,h⟩:=h
     exact p59o_0_1 l lo hi i e hE ⟨hc0,(Qs h1),(rp cI 1 0 1 h1),(u183 (out1_ok e lo hi)),hc1,q6_2,trivial⟩ h
 · have h:=h.2 (odf hc0)
   exact p59o_0_2 l lo hi i hE ⟨hc0,trivial⟩ (AvLe.of_eq (by rw [h]; try rfl))
theorem idxOut_ok (l:List Int) (lo hi:Int) (h:l.length≤9223372036854775807):Pure Try.prog 59 [.rsl (rowI l) 0 l.length,.clos 183 [] [.rptr [.int .i64 lo] 0,.rptr [.int .i64 hi] 0]] (.int .i64 (idxG (outB lo hi) l)):=Qy Try.func59 f59ob fun E hE=>by
 have hl:=h
 refine f59oW l lo hi (rv:=idxG (outB lo hi) l) hE (YJ (outB lo hi) l l.length 0 (by omega) (fun j x hj=>by omega) (fun i=>f59oG0 E l lo hi i) (fun i hi' h1 h2=>?_) (fun _ h2=>?_))
 · have hx:l[i]?=some l[i]:=List.getElem?_eq_getElem hi'
   have hm:=List.mem_of_getElem? hx
   exact f59oW0 l lo hi i (rv:=idxG (outB lo hi) l) hE ⟨fun _=>⟨_,hx,fun hp=>h1 _ hx (by simpa using hp),fun hp=>⟨by omega,h2 _ hx (by simpa using hp)⟩⟩,fun h=>by omega⟩
 · exact f59oW0 l lo hi _ (rv:=idxG (outB lo hi) l) hE ⟨fun h=>by omega,fun _=>h2⟩
theorem qk:Try.f76.body=some (Qd Try.prog 76):=by kernel_rfl
theorem p76o_start_0 (l:(List Int)) (lo hi:Int) {E:Env} {res:AV} (hE:Qh Try.prog 76 res E) (ho:AllP [Qi Try.prog (.clos 59 [] []) [.rsl (rowI l) 0 l.length,.clos 183 [] [.rptr [.int .i64 lo] 0,.rptr [.int .i64 hi] 0]] (.int .i64 (idxG (outB lo hi) l))])
 (hr:AvLe (.bool (decide ((idxG (outB lo hi) l)≥0))) res):G Try.prog E [.code (Qd Try.prog 76)] ⟨[.rsl (rowI l) 0 l.length,.clos 183 [] [.rptr [.int .i64 lo] 0,.rptr [.int .i64 hi] 0]]++unds (Try.f76.ntmps - 2),[]⟩ :=
 Qf (n:=400) (evs:=[.v (.int .i64 (idxG (outB lo hi) l))]) (obs:=_) hE Try.func76 Qg (by kernel_rfl) ho hr
theorem f76oW (l:(List Int)) (lo hi:Int) {E:Env} {rv:Bool} (hE:Qh Try.prog 76 (.bool rv) E)
 (h:((l.length≤9223372036854775807)∧rv=(decide ((idxG (outB lo hi) l)≥0)))):G Try.prog E [.code (Qd Try.prog 76)] ⟨[.rsl (rowI l) 0 l.length,.clos 183 [] [.rptr [.int .i64 lo] 0,.rptr [.int .i64 hi] 0]]++unds (Try.f76.ntmps - 2),[]⟩:=by
 obtain ⟨h1,h⟩:=h
 exact p76o_start_0 l lo hi hE ⟨(Qk Try.func59 (by kernel_rfl) f59ob (idxOut_ok l lo hi h1)),trivial⟩ (AvLe.of_eq (by rw [h]; try rfl))
theorem Xu (l:List Int) (lo hi:Int) (h:l.length≤9223372036854775807):Pure Try.prog 76 [.rsl (rowI l) 0 l.length,.clos 183 [] [.rptr [.int .i64 lo] 0,.rptr [.int .i64 hi] 0]] (.bool (l.any (outB lo hi))):=Qy Try.func76 qk fun E hE =>
 f76oW l lo hi (rv:=l.any (outB lo hi)) hE ⟨h,(qh _ _).symm⟩
theorem f185b:Try.f185.body=some (Qd Try.prog 185):=by kernel_rfl
theorem u185 {a c k:List AV} {r:AV} (h:Pure Try.prog 185 (a++c++k) r):Qi Try.prog (.clos 185 a k) c r:=Qk Try.func185 (by kernel_rfl) f185b h
abbrev z185_1 (b:Bndl) (f:Fair):List AV:=[.agg [.int .i64 b.tokens,.int .i64 b.price],.rptr [.int .i64 f.purses,.int .i64 f.boxes,.rsl (rowI f.stock) 0 f.stock.length,.rsl (rowI f.cash) 0 f.cash.length,.rsl (Ym f.bundles) 0 f.bundles.length,.int .i64 f.refund,.int .i64 f.band,.int .i64 f.hours] 0]
theorem p185_start_0 (b:Bndl) (f:Fair) {E:Env} {res:AV} (hE:Qh Try.prog 185 res E) (ho:AllP [Qi Try.prog (.clos 115 [] []) [.int .i64 b.tokens,.int .i64 1,.int .i64 1000] (.bool (Qa b.tokens 1 1000)),(!(Qa b.tokens 1 1000))=true,true=true])
 (hr:AvLe (.bool true) res):G Try.prog E [.code (Qd Try.prog 185)] ⟨(z185_1 b f)++unds (Try.f185.ntmps - 2),[]⟩ :=
 Qf (n:=400) (evs:=[.v (.bool (Qa b.tokens 1 1000)),.b true,.b true]) (obs:=_) hE Try.func185 Qg (by kernel_rfl) ho hr
theorem p185_start_1 (b:Bndl) (f:Fair) {E:Env} {res:AV} (hE:Qh Try.prog 185 res E) (ho:AllP [Qi Try.prog (.clos 115 [] []) [.int .i64 b.tokens,.int .i64 1,.int .i64 1000] (.bool (Qa b.tokens 1 1000)),(!(Qa b.tokens 1 1000))=false,Qi Try.prog (.clos 115 [] []) [.int .i64 b.price,.int .i64 1,.int .i64 1000000] (.bool (Qa b.price 1 1000000)),(!(Qa b.price 1 1000000))=true])
 (hr:AvLe (.bool true) res):G Try.prog E [.code (Qd Try.prog 185)] ⟨(z185_1 b f)++unds (Try.f185.ntmps - 2),[]⟩ :=
 Qf (n:=400) (evs:=[.v (.bool (Qa b.tokens 1 1000)),.b false,.v (.bool (Qa b.price 1 1000000)),.b true]) (obs:=_) hE Try.func185 Qg (by kernel_rfl) ho hr
theorem p185_start_2 (b:Bndl) (f:Fair) {E:Env} {res:AV} (hE:Qh Try.prog 185 res E) (ho:AllP [Qi Try.prog (.clos 115 [] []) [.int .i64 b.tokens,.int .i64 1,.int .i64 1000] (.bool (Qa b.tokens 1 1000)),(!(Qa b.tokens 1 1000))=false,Qi Try.prog (.clos 115 [] []) [.int .i64 b.price,.int .i64 1,.int .i64 1000000] (.bool (Qa b.price 1 1000000)),(!(Qa b.price 1 1000000))=false,InR .i64 (f.refund*b.tokens)])
 (hr:AvLe (.bool (decide ((f.refund*b.tokens) > b.price))) res):G Try.prog E [.code (Qd Try.prog 185)] ⟨(z185_1 b f)++unds (Try.f185.ntmps - 2),[]⟩ :=
 Qf (n:=400) (evs:=[.v (.bool (Qa b.tokens 1 1000)),.b false,.v (.bool (Qa b.price 1 1000000)),.b false]) (obs:=_) hE Try.func185 Qg (by kernel_rfl) ho hr
theorem f185W (b:Bndl) (f:Fair) {E:Env} {rv:Bool} (hE:Qh Try.prog 185 (.bool rv) E)
 (h:(((Qa b.tokens 1 1000)=false→rv=true)∧((Qa b.tokens 1 1000)=true→(((Qa b.price 1 1000000)=false→rv=true)∧((Qa b.price 1 1000000)=true→((I6 (f.refund*b.tokens))∧rv=(decide ((f.refund*b.tokens) > b.price)))))))):G Try.prog E [.code (Qd Try.prog 185)] ⟨[.agg [.int .i64 b.tokens,.int .i64 b.price],.rptr [.int .i64 f.purses,.int .i64 f.boxes,.rsl (rowI f.stock) 0 f.stock.length,.rsl (rowI f.cash) 0 f.cash.length,.rsl (Ym f.bundles) 0 f.bundles.length,.int .i64 f.refund,.int .i64 f.band,.int .i64 f.hours] 0]++unds (Try.f185.ntmps - 2),[]⟩:=by
 rcases bft (!(Qa b.tokens 1 1000)) with hc0 | hc0
 · have h:=h.1 (bnT hc0)
   exact p185_start_0 b f hE ⟨(u115 (Qn b.tokens 1 1000)),hc0,rfl,trivial⟩ (AvLe.of_eq (by rw [h]; try rfl))
 · have h:=h.2 (bnF hc0)
   rcases bft (!(Qa b.price 1 1000000)) with hc1 | hc1
   · have h:=h.1 (bnT hc1)
     exact p185_start_1 b f hE ⟨(u115 (Qn b.tokens 1 1000)),hc0,(u115 (Qn b.price 1 1000000)),hc1,trivial⟩ (AvLe.of_eq (by rw [h]; try rfl))
   · have h:=h.2 (bnF hc1)
     obtain ⟨q4_2,h⟩:=h
     exact p185_start_2 b f hE ⟨(u115 (Qn b.tokens 1 1000)),hc0,(u115 (Qn b.price 1 1000000)),hc1,q4_2,trivial⟩ (AvLe.of_eq (by rw [h]; try rfl))
/-- A bundle that is not right. -/
def badB (f:Fair) (b:Bndl):Bool:=if Qa b.tokens 1 1000=true then (if Qa b.price 1 1000000=true then decide (f.refund*b.tokens > b.price) else true) else true
theorem badB_ok (b:Bndl) (f:Fair) (h:0≤f.refund∧f.refund≤1000):Pure Try.prog 185 [.agg [.int .i64 b.tokens,.int .i64 b.price],.rptr [.int .i64 f.purses,.int .i64 f.boxes,.rsl (rowI f.stock) 0 f.stock.length,.rsl (rowI f.cash) 0 f.cash.length,.rsl (Ym f.bundles) 0 f.bundles.length,.int .i64 f.refund,.int .i64 f.band,.int .i64 f.hours] 0] (.bool (badB f b)):=Qy Try.func185 f185b fun E hE=>by
 refine f185W b f (rv:=badB f b) hE ⟨fun h1=>?_,fun h1=>⟨fun h2=>?_,fun h2=>⟨?_,?_⟩⟩⟩
 · unfold badB; rw [h1]; rfl
 · unfold badB; rw [h1,h2]; rfl
 · have h3:=QI.1 h1
   have m1:=Int.mul_le_mul h.2 h3.2 (by omega) (by omega)
   have m2:=Int.mul_nonneg h.1 (show 0≤b.tokens by omega)
   omega
 · unfold badB; rw [h1,h2]; rfl
theorem f240bb:Try.f240.body=some (Qd Try.prog 240):=by kernel_rfl
def qO (P:Program):List Item:=kAt 400 [.code (Qd P 240)] [.stop]
def QcA (l:(List Bndl)) (f:Fair) (i:Nat):St:=⟨([.rsl (Ym l) 0 l.length,.clos 185 [] [.rptr [.int .i64 f.purses,.int .i64 f.boxes,.rsl (rowI f.stock) 0 f.stock.length,.rsl (rowI f.cash) 0 f.cash.length,.rsl (Ym f.bundles) 0 f.bundles.length,.int .i64 f.refund,.int .i64 f.band,.int .i64 f.hours] 0]]++jj 5 ([.int .i64 (l.length:Int),.int .i64 (i:Int)]++Js 10)),[]⟩
def QcB (E:Env) (l:(List Bndl)) (f:Fair) (i:Nat):Prop:=G Try.prog E (qO Try.prog) (QcA l f i )
abbrev yR (f:Fair):List AV:=[.rptr [.int .i64 f.purses,.int .i64 f.boxes,.rsl (rowI f.stock) 0 f.stock.length,.rsl (rowI f.cash) 0 f.cash.length,.rsl (Ym f.bundles) 0 f.bundles.length,.int .i64 f.refund,.int .i64 f.band,.int .i64 f.hours] 0]
theorem QbN (l:(List Bndl)) (f:Fair) {E:Env} {rv:AV} (hE:Qh Try.prog 240 rv E) (ho:AllP [])
 (hg:G Try.prog E (qO Try.prog) ⟨([.rsl (Ym l) 0 l.length,.clos 185 [] (yR f)]++jj 5 ([.int .i64 (l.length:Int),.int .i64 0]++Js 10)),[]⟩):G Try.prog E [.code (Qd Try.prog 240)] ⟨[.rsl (Ym l) 0 l.length,.clos 185 [] (yR f)]++unds (Try.f240.ntmps - 2),[]⟩ :=
 Qe (n:=400) (ds:=[]) (cs:=[]) (live:=[0,1,7,8]) (m:=0) (evs:=[.stop]) (obs:=_) hE.2.1 (hE.nogh _) Qg (by kernel_rfl) ho hg
theorem f240bW (l:(List Bndl)) (f:Fair) {E:Env} {rv:Int} (hE:Qh Try.prog 240 (.int .i64 rv) E)
 (h:QcB E l f 0):G Try.prog E [.code (Qd Try.prog 240)] ⟨[.rsl (Ym l) 0 l.length,.clos 185 [] [.rptr [.int .i64 f.purses,.int .i64 f.boxes,.rsl (rowI f.stock) 0 f.stock.length,.rsl (rowI f.cash) 0 f.cash.length,.rsl (Ym f.bundles) 0 f.bundles.length,.int .i64 f.refund,.int .i64 f.band,.int .i64 f.hours] 0]]++unds (Try.f240.ntmps - 2),[]⟩:=by
 exact QbN l f hE trivial h
theorem p240b_0_0 (l:(List Bndl)) (f:Fair) (i:Nat) (be:Bndl) {E:Env} {res:AV} (hE:Qh Try.prog 240 res E) (ho:AllP [(decide ((i:Int)<(l.length:Int)))=true,0≤(i:Int)∧(i:Int)<(l.length:Int),((Ym l).drop (0+(Int.toNat (i:Int))*2)).take 2=[.int .i64 be.tokens,.int .i64 be.price],Qi Try.prog (.clos 185 [] (yR f)) [.agg [.int .i64 be.tokens,.int .i64 be.price]] (.bool (badB f be)),(badB f be)=true])
 (hr:AvLe (.int .i64 (i:Int)) res):G Try.prog E (qO Try.prog) (QcA l f i ) :=
 Qf (n:=400) (evs:=[.b true,.ld (.agg [.int .i64 be.tokens,.int .i64 be.price]),.v (.bool (badB f be)),.b true]) (obs:=_) hE Try.func240 Qg (by kernel_rfl) ho hr
theorem p240b_0_1 (l:(List Bndl)) (f:Fair) (i:Nat) (be:Bndl) {E:Env} {rv:AV} (hE:Qh Try.prog 240 rv E) (ho:AllP [(decide ((i:Int)<(l.length:Int)))=true,0≤(i:Int)∧(i:Int)<(l.length:Int),((Ym l).drop (0+(Int.toNat (i:Int))*2)).take 2=[.int .i64 be.tokens,.int .i64 be.price],Qi Try.prog (.clos 185 [] (yR f)) [.agg [.int .i64 be.tokens,.int .i64 be.price]] (.bool (badB f be)),(badB f be)=false,InR .i64 ((i:Int)+1)])
 (hg:G Try.prog E (qO Try.prog) ⟨([.rsl (Ym l) 0 l.length,.clos 185 [] (yR f)]++jj 5 ([.int .i64 (l.length:Int),.int .i64 ((i:Int)+1)]++Js 10)),[]⟩):G Try.prog E (qO Try.prog) (QcA l f i ) :=
 Qe (n:=400) (ds:=[]) (cs:=[]) (live:=[0,1,7,8]) (m:=0) (evs:=[.b true,.ld (.agg [.int .i64 be.tokens,.int .i64 be.price]),.v (.bool (badB f be)),.b false,.stop]) (obs:=_) hE.2.1 (hE.nogh _) Qg (by kernel_rfl) ho hg
theorem p240b_0_2 (l:(List Bndl)) (f:Fair) (i:Nat) {E:Env} {res:AV} (hE:Qh Try.prog 240 res E) (ho:AllP [(decide ((i:Int)<(l.length:Int)))=false])
 (hr:AvLe (.int .i64 (-1)) res):G Try.prog E (qO Try.prog) (QcA l f i ) :=
 Qf (n:=400) (evs:=[.b false]) (obs:=_) hE Try.func240 Qg (by kernel_rfl) ho hr
theorem f240bW0 (l:(List Bndl)) (f:Fair) (i:Nat) {E:Env} {rv:Int} (hE:Qh Try.prog 240 (.int .i64 rv) E)
 (h:(((i:Int)<(l.length:Int)→(∃ be:Bndl,l[i]?=some be∧((0≤f.refund∧f.refund≤1000)∧(((badB f be)=true→rv=(i:Int))∧((badB f be)=false→((I6 ((i:Int)+1))∧QcB E l f (i+1)))))))∧(¬ ((i:Int)<(l.length:Int))→rv=(-1)))):QcB E l f i:=by
 rcases bft (decide ((i:Int)<(l.length:Int))) with hc0 | hc0
 · have h:=h.1 (odt hc0)
   obtain ⟨be,h1,h⟩:=h
   obtain ⟨h2,h⟩:=h
   rcases bft (badB f be) with hc1 | hc1
   · have h:=h.1 hc1
     exact p240b_0_0 l f i be hE ⟨hc0,(Qs h1),(rp cBd 2 0 2 h1),(u185 (badB_ok be f h2)),hc1,trivial⟩ (AvLe.of_eq (by rw [h]; try rfl))
   · have h:=h.2 hc1
     obtain ⟨q6_2,h⟩:=h
     exact p240b_0_1 l f i be hE ⟨hc0,(Qs h1),(rp cBd 2 0 2 h1),(u185 (badB_ok be f h2)),hc1,q6_2,trivial⟩ h
 · have h:=h.2 (odf hc0)
   exact p240b_0_2 l f i hE ⟨hc0,trivial⟩ (AvLe.of_eq (by rw [h]; try rfl))
theorem idxBad_ok (l:List Bndl) (f:Fair) (h:(∀ x ∈ l,0≤f.refund∧f.refund≤1000)∧l.length≤9223372036854775807):Pure Try.prog 240 [.rsl (Ym l) 0 l.length,.clos 185 [] [.rptr [.int .i64 f.purses,.int .i64 f.boxes,.rsl (rowI f.stock) 0 f.stock.length,.rsl (rowI f.cash) 0 f.cash.length,.rsl (Ym f.bundles) 0 f.bundles.length,.int .i64 f.refund,.int .i64 f.band,.int .i64 f.hours] 0]] (.int .i64 (idxG (badB f) l)):=Qy Try.func240 f240bb fun E hE=>by
 have hl:=h.2
 refine f240bW l f (rv:=idxG (badB f) l) hE (YJ (badB f) l l.length 0 (by omega) (fun j x hj=>by omega) (fun i=>QcB E l f i) (fun i hi' h1 h2=>?_) (fun _ h2=>?_))
 · have hx:l[i]?=some l[i]:=List.getElem?_eq_getElem hi'
   have hm:=List.mem_of_getElem? hx
   exact f240bW0 l f i (rv:=idxG (badB f) l) hE ⟨fun _=>⟨_,hx,h.1 _ hm,fun hp=>h1 _ hx (by simpa using hp),fun hp=>⟨by omega,h2 _ hx (by simpa using hp)⟩⟩,fun h=>by omega⟩
 · exact f240bW0 l f _ (rv:=idxG (badB f) l) hE ⟨fun h=>by omega,fun _=>h2⟩
theorem f184bb:Try.f184.body=some (Qd Try.prog 184):=by kernel_rfl
abbrev z184b_1 (l:(List Bndl)) (f:Fair):List AV:=[.rsl (Ym l) 0 l.length,.clos 185 [] [.rptr [.int .i64 f.purses,.int .i64 f.boxes,.rsl (rowI f.stock) 0 f.stock.length,.rsl (rowI f.cash) 0 f.cash.length,.rsl (Ym f.bundles) 0 f.bundles.length,.int .i64 f.refund,.int .i64 f.band,.int .i64 f.hours] 0]]
theorem QbP (l:(List Bndl)) (f:Fair) {E:Env} {res:AV} (hE:Qh Try.prog 184 res E) (ho:AllP [Qi Try.prog (.clos 240 [] []) (z184b_1 l f) (.int .i64 (idxG (badB f) l))])
 (hr:AvLe (.bool (decide ((idxG (badB f) l)≥0))) res):G Try.prog E [.code (Qd Try.prog 184)] ⟨(z184b_1 l f)++unds (Try.f184.ntmps - 2),[]⟩ :=
 Qf (n:=400) (evs:=[.v (.int .i64 (idxG (badB f) l))]) (obs:=_) hE Try.func184 Qg (by kernel_rfl) ho hr
theorem f184bW (l:(List Bndl)) (f:Fair) {E:Env} {rv:Bool} (hE:Qh Try.prog 184 (.bool rv) E)
 (h:(((∀ x ∈ l,0≤f.refund∧f.refund≤1000)∧l.length≤9223372036854775807)∧rv=(decide ((idxG (badB f) l)≥0)))):G Try.prog E [.code (Qd Try.prog 184)] ⟨[.rsl (Ym l) 0 l.length,.clos 185 [] [.rptr [.int .i64 f.purses,.int .i64 f.boxes,.rsl (rowI f.stock) 0 f.stock.length,.rsl (rowI f.cash) 0 f.cash.length,.rsl (Ym f.bundles) 0 f.bundles.length,.int .i64 f.refund,.int .i64 f.band,.int .i64 f.hours] 0]]++unds (Try.f184.ntmps - 2),[]⟩:=by
 obtain ⟨h1,h⟩:=h
 exact QbP l f hE ⟨(Qk Try.func240 (by kernel_rfl) f240bb (idxBad_ok l f h1)),trivial⟩ (AvLe.of_eq (by rw [h]; try rfl))
theorem anyBad_ok (l:List Bndl) (f:Fair) (h:(∀ x ∈ l,0≤f.refund∧f.refund≤1000)∧l.length≤9223372036854775807):Pure Try.prog 184 [.rsl (Ym l) 0 l.length,.clos 185 [] [.rptr [.int .i64 f.purses,.int .i64 f.boxes,.rsl (rowI f.stock) 0 f.stock.length,.rsl (rowI f.cash) 0 f.cash.length,.rsl (Ym f.bundles) 0 f.bundles.length,.int .i64 f.refund,.int .i64 f.band,.int .i64 f.hours] 0]] (.bool (l.any (badB f))):=Qy Try.func184 f184bb fun E hE =>
 f184bW l f (rv:=l.any (badB f)) hE ⟨h,(qh _ _).symm⟩
theorem f114b:Try.f114.body=some (Qd Try.prog 114):=by kernel_rfl
theorem u114 {a c k:List AV} {r:AV} (h:Pure Try.prog 114 (a++c++k) r):Qi Try.prog (.clos 114 a k) c r:=Qk Try.func114 (by kernel_rfl) f114b h
abbrev YU (f:Fair):List AV:=[.int .i64 f.purses,.int .i64 f.boxes,.rsl (rowI f.stock) 0 f.stock.length,.rsl (rowI f.cash) 0 f.cash.length,.rsl (Ym f.bundles) 0 f.bundles.length,.int .i64 f.refund,.int .i64 f.band,.int .i64 f.hours]
abbrev YE:List AV:=[.rptr [.int .i64 0] 0,.rptr [.int .i64 100000] 0]
abbrev Vh:List AV:=[.rptr [.int .i64 0] 0,.rptr [.int .i64 1000000] 0]
abbrev VD (f:Fair):List AV:=[.int .i64 (f.stock.length:Int),.int .i64 1,.int .i64 8]
abbrev yU (f:Fair):List AV:=[.rsl (rowI f.stock) 0 f.stock.length,.clos 183 [] YE]
abbrev Qax (f:Fair):List AV:=[.rsl (rowI f.cash) 0 f.cash.length,.clos 183 [] Vh]
abbrev z114_7 (f:Fair):List AV:=[.int .i64 f.refund,.int .i64 0,.int .i64 1000]
abbrev z114_8 (f:Fair):List AV:=[.int .i64 f.band,.int .i64 0,.int .i64 1000000]
theorem p114_start_0 (f:Fair) {E:Env} {res:AV} (hE:Qh Try.prog 114 res E) (ho:AllP [Qi Try.prog (.clos 115 [] []) (VD f) (.bool (Qa (f.stock.length:Int) 1 8)),(!(Qa (f.stock.length:Int) 1 8))=true,true=true,true=true,true=true,true=true,true=true,true=true,true=true,true=true,true=true,true=true])
 (hr:AvLe (.int .i64 10) res):G Try.prog E [.code (Qd Try.prog 114)] ⟨[.agg (YU f)]++unds (Try.f114.ntmps - 1),[]⟩ :=
 Qf (n:=400) (evs:=[.v (.bool (Qa (f.stock.length:Int) 1 8)),.b true,.b true,.b true,.b true,.b true,.b true,.b true,.b true,.b true,.b true,.b true]) (obs:=_) hE Try.func114 Qg (by kernel_rfl) ho hr
theorem p114_start_1 (f:Fair) {E:Env} {res:AV} (hE:Qh Try.prog 114 res E) (ho:AllP [Qi Try.prog (.clos 115 [] []) (VD f) (.bool (Qa (f.stock.length:Int) 1 8)),(!(Qa (f.stock.length:Int) 1 8))=false,((f.cash.length:Int) != (f.stock.length:Int))=true,true=true,true=true,true=true,true=true,true=true,true=true,true=true,true=true,true=true])
 (hr:AvLe (.int .i64 10) res):G Try.prog E [.code (Qd Try.prog 114)] ⟨[.agg (YU f)]++unds (Try.f114.ntmps - 1),[]⟩ :=
 Qf (n:=400) (evs:=[.v (.bool (Qa (f.stock.length:Int) 1 8)),.b false,.b true,.b true,.b true,.b true,.b true,.b true,.b true,.b true,.b true,.b true]) (obs:=_) hE Try.func114 Qg (by kernel_rfl) ho hr
theorem p114_start_2 (f:Fair) {E:Env} {res:AV} (hE:Qh Try.prog 114 res E) (ho:AllP [Qi Try.prog (.clos 115 [] []) (VD f) (.bool (Qa (f.stock.length:Int) 1 8)),(!(Qa (f.stock.length:Int) 1 8))=false,((f.cash.length:Int) != (f.stock.length:Int))=false,Qi Try.prog (.clos 115 [] []) [.int .i64 f.purses,.int .i64 0,.int .i64 20] (.bool (Qa f.purses 0 20)),(!(Qa f.purses 0 20))=true,true=true,true=true,true=true,true=true,true=true,true=true,true=true,true=true])
 (hr:AvLe (.int .i64 10) res):G Try.prog E [.code (Qd Try.prog 114)] ⟨[.agg (YU f)]++unds (Try.f114.ntmps - 1),[]⟩ :=
 Qf (n:=400) (evs:=[.v (.bool (Qa (f.stock.length:Int) 1 8)),.b false,.b false,.v (.bool (Qa f.purses 0 20)),.b true,.b true,.b true,.b true,.b true,.b true,.b true,.b true,.b true]) (obs:=_) hE Try.func114 Qg (by kernel_rfl) ho hr
theorem p114_start_3 (f:Fair) {E:Env} {res:AV} (hE:Qh Try.prog 114 res E) (ho:AllP [Qi Try.prog (.clos 115 [] []) (VD f) (.bool (Qa (f.stock.length:Int) 1 8)),(!(Qa (f.stock.length:Int) 1 8))=false,((f.cash.length:Int) != (f.stock.length:Int))=false,Qi Try.prog (.clos 115 [] []) [.int .i64 f.purses,.int .i64 0,.int .i64 20] (.bool (Qa f.purses 0 20)),(!(Qa f.purses 0 20))=false,Qi Try.prog (.clos 115 [] []) [.int .i64 f.boxes,.int .i64 0,.int .i64 12] (.bool (Qa f.boxes 0 12)),(!(Qa f.boxes 0 12))=true,true=true,true=true,true=true,true=true,true=true,true=true,true=true])
 (hr:AvLe (.int .i64 10) res):G Try.prog E [.code (Qd Try.prog 114)] ⟨[.agg (YU f)]++unds (Try.f114.ntmps - 1),[]⟩ :=
 Qf (n:=400) (evs:=[.v (.bool (Qa (f.stock.length:Int) 1 8)),.b false,.b false,.v (.bool (Qa f.purses 0 20)),.b false,.v (.bool (Qa f.boxes 0 12)),.b true,.b true,.b true,.b true,.b true,.b true,.b true,.b true]) (obs:=_) hE Try.func114 Qg (by kernel_rfl) ho hr
theorem p114_start_4 (f:Fair) {E:Env} {res:AV} (hE:Qh Try.prog 114 res E) (ho:AllP [Qi Try.prog (.clos 115 [] []) (VD f) (.bool (Qa (f.stock.length:Int) 1 8)),(!(Qa (f.stock.length:Int) 1 8))=false,((f.cash.length:Int) != (f.stock.length:Int))=false,Qi Try.prog (.clos 115 [] []) [.int .i64 f.purses,.int .i64 0,.int .i64 20] (.bool (Qa f.purses 0 20)),(!(Qa f.purses 0 20))=false,Qi Try.prog (.clos 115 [] []) [.int .i64 f.boxes,.int .i64 0,.int .i64 12] (.bool (Qa f.boxes 0 12)),(!(Qa f.boxes 0 12))=false,(decide ((f.bundles.length:Int) > 6))=true,true=true,true=true,true=true,true=true,true=true,true=true])
 (hr:AvLe (.int .i64 10) res):G Try.prog E [.code (Qd Try.prog 114)] ⟨[.agg (YU f)]++unds (Try.f114.ntmps - 1),[]⟩ :=
 Qf (n:=400) (evs:=[.v (.bool (Qa (f.stock.length:Int) 1 8)),.b false,.b false,.v (.bool (Qa f.purses 0 20)),.b false,.v (.bool (Qa f.boxes 0 12)),.b false,.b true,.b true,.b true,.b true,.b true,.b true,.b true]) (obs:=_) hE Try.func114 Qg (by kernel_rfl) ho hr
theorem p114_start_5 (f:Fair) {E:Env} {res:AV} (hE:Qh Try.prog 114 res E) (ho:AllP [Qi Try.prog (.clos 115 [] []) (VD f) (.bool (Qa (f.stock.length:Int) 1 8)),(!(Qa (f.stock.length:Int) 1 8))=false,((f.cash.length:Int) != (f.stock.length:Int))=false,Qi Try.prog (.clos 115 [] []) [.int .i64 f.purses,.int .i64 0,.int .i64 20] (.bool (Qa f.purses 0 20)),(!(Qa f.purses 0 20))=false,Qi Try.prog (.clos 115 [] []) [.int .i64 f.boxes,.int .i64 0,.int .i64 12] (.bool (Qa f.boxes 0 12)),(!(Qa f.boxes 0 12))=false,(decide ((f.bundles.length:Int) > 6))=false,Qi Try.prog (.clos 182 [] []) [.int .i64 0,.int .i64 100000] (.clos 183 [] YE),Qi Try.prog (.clos 76 [] []) (yU f) (.bool (f.stock.any (outB 0 100000))),(f.stock.any (outB 0 100000))=true,true=true,true=true,true=true,true=true,true=true])
 (hr:AvLe (.int .i64 10) res):G Try.prog E [.code (Qd Try.prog 114)] ⟨[.agg (YU f)]++unds (Try.f114.ntmps - 1),[]⟩ :=
 Qf (n:=400) (evs:=[.v (.bool (Qa (f.stock.length:Int) 1 8)),.b false,.b false,.v (.bool (Qa f.purses 0 20)),.b false,.v (.bool (Qa f.boxes 0 12)),.b false,.b false,.v (.clos 183 [] YE),.v (.bool (f.stock.any (outB 0 100000))),.b true,.b true,.b true,.b true,.b true,.b true]) (obs:=_) hE Try.func114 Qg (by kernel_rfl) ho hr
theorem p114_start_6 (f:Fair) {E:Env} {res:AV} (hE:Qh Try.prog 114 res E) (ho:AllP [Qi Try.prog (.clos 115 [] []) (VD f) (.bool (Qa (f.stock.length:Int) 1 8)),(!(Qa (f.stock.length:Int) 1 8))=false,((f.cash.length:Int) != (f.stock.length:Int))=false,Qi Try.prog (.clos 115 [] []) [.int .i64 f.purses,.int .i64 0,.int .i64 20] (.bool (Qa f.purses 0 20)),(!(Qa f.purses 0 20))=false,Qi Try.prog (.clos 115 [] []) [.int .i64 f.boxes,.int .i64 0,.int .i64 12] (.bool (Qa f.boxes 0 12)),(!(Qa f.boxes 0 12))=false,(decide ((f.bundles.length:Int) > 6))=false,Qi Try.prog (.clos 182 [] []) [.int .i64 0,.int .i64 100000] (.clos 183 [] YE),Qi Try.prog (.clos 76 [] []) (yU f) (.bool (f.stock.any (outB 0 100000))),(f.stock.any (outB 0 100000))=false,Qi Try.prog (.clos 182 [] []) [.int .i64 0,.int .i64 1000000] (.clos 183 [] Vh),Qi Try.prog (.clos 76 [] []) (Qax f) (.bool (f.cash.any (outB 0 1000000))),(f.cash.any (outB 0 1000000))=true,true=true,true=true,true=true,true=true])
 (hr:AvLe (.int .i64 10) res):G Try.prog E [.code (Qd Try.prog 114)] ⟨[.agg (YU f)]++unds (Try.f114.ntmps - 1),[]⟩ :=
 Qf (n:=400) (evs:=[.v (.bool (Qa (f.stock.length:Int) 1 8)),.b false,.b false,.v (.bool (Qa f.purses 0 20)),.b false,.v (.bool (Qa f.boxes 0 12)),.b false,.b false,.v (.clos 183 [] YE),.v (.bool (f.stock.any (outB 0 100000))),.b false,.v (.clos 183 [] Vh),.v (.bool (f.cash.any (outB 0 1000000))),.b true,.b true,.b true,.b true,.b true]) (obs:=_) hE Try.func114 Qg (by kernel_rfl) ho hr
theorem p114_start_7 (f:Fair) {E:Env} {res:AV} (hE:Qh Try.prog 114 res E) (ho:AllP [Qi Try.prog (.clos 115 [] []) (VD f) (.bool (Qa (f.stock.length:Int) 1 8)),(!(Qa (f.stock.length:Int) 1 8))=false,((f.cash.length:Int) != (f.stock.length:Int))=false,Qi Try.prog (.clos 115 [] []) [.int .i64 f.purses,.int .i64 0,.int .i64 20] (.bool (Qa f.purses 0 20)),(!(Qa f.purses 0 20))=false,Qi Try.prog (.clos 115 [] []) [.int .i64 f.boxes,.int .i64 0,.int .i64 12] (.bool (Qa f.boxes 0 12)),(!(Qa f.boxes 0 12))=false,(decide ((f.bundles.length:Int) > 6))=false,Qi Try.prog (.clos 182 [] []) [.int .i64 0,.int .i64 100000] (.clos 183 [] YE),Qi Try.prog (.clos 76 [] []) (yU f) (.bool (f.stock.any (outB 0 100000))),(f.stock.any (outB 0 100000))=false,Qi Try.prog (.clos 182 [] []) [.int .i64 0,.int .i64 1000000] (.clos 183 [] Vh),Qi Try.prog (.clos 76 [] []) (Qax f) (.bool (f.cash.any (outB 0 1000000))),(f.cash.any (outB 0 1000000))=false,Qi Try.prog (.clos 115 [] []) (z114_7 f) (.bool (Qa f.refund 0 1000)),(!(Qa f.refund 0 1000))=true,true=true,true=true,true=true])
 (hr:AvLe (.int .i64 10) res):G Try.prog E [.code (Qd Try.prog 114)] ⟨[.agg (YU f)]++unds (Try.f114.ntmps - 1),[]⟩ :=
 Qf (n:=400) (evs:=[.v (.bool (Qa (f.stock.length:Int) 1 8)),.b false,.b false,.v (.bool (Qa f.purses 0 20)),.b false,.v (.bool (Qa f.boxes 0 12)),.b false,.b false,.v (.clos 183 [] YE),.v (.bool (f.stock.any (outB 0 100000))),.b false,.v (.clos 183 [] Vh),.v (.bool (f.cash.any (outB 0 1000000))),.b false,.v (.bool (Qa f.refund 0 1000)),.b true,.b true,.b true,.b true]) (obs:=_) hE Try.func114 Qg (by kernel_rfl) ho hr
theorem p114_start_8 (f:Fair) {E:Env} {res:AV} (hE:Qh Try.prog 114 res E) (ho:AllP [Qi Try.prog (.clos 115 [] []) (VD f) (.bool (Qa (f.stock.length:Int) 1 8)),(!(Qa (f.stock.length:Int) 1 8))=false,((f.cash.length:Int) != (f.stock.length:Int))=false,Qi Try.prog (.clos 115 [] []) [.int .i64 f.purses,.int .i64 0,.int .i64 20] (.bool (Qa f.purses 0 20)),(!(Qa f.purses 0 20))=false,Qi Try.prog (.clos 115 [] []) [.int .i64 f.boxes,.int .i64 0,.int .i64 12] (.bool (Qa f.boxes 0 12)),(!(Qa f.boxes 0 12))=false,(decide ((f.bundles.length:Int) > 6))=false,Qi Try.prog (.clos 182 [] []) [.int .i64 0,.int .i64 100000] (.clos 183 [] YE),Qi Try.prog (.clos 76 [] []) (yU f) (.bool (f.stock.any (outB 0 100000))),(f.stock.any (outB 0 100000))=false,Qi Try.prog (.clos 182 [] []) [.int .i64 0,.int .i64 1000000] (.clos 183 [] Vh),Qi Try.prog (.clos 76 [] []) (Qax f) (.bool (f.cash.any (outB 0 1000000))),(f.cash.any (outB 0 1000000))=false,Qi Try.prog (.clos 115 [] []) (z114_7 f) (.bool (Qa f.refund 0 1000)),(!(Qa f.refund 0 1000))=false,Qi Try.prog (.clos 115 [] []) (z114_8 f) (.bool (Qa f.band 0 1000000)),(!(Qa f.band 0 1000000))=true,true=true,true=true])
 (hr:AvLe (.int .i64 10) res):G Try.prog E [.code (Qd Try.prog 114)] ⟨[.agg (YU f)]++unds (Try.f114.ntmps - 1),[]⟩ :=
 Qf (n:=400) (evs:=[.v (.bool (Qa (f.stock.length:Int) 1 8)),.b false,.b false,.v (.bool (Qa f.purses 0 20)),.b false,.v (.bool (Qa f.boxes 0 12)),.b false,.b false,.v (.clos 183 [] YE),.v (.bool (f.stock.any (outB 0 100000))),.b false,.v (.clos 183 [] Vh),.v (.bool (f.cash.any (outB 0 1000000))),.b false,.v (.bool (Qa f.refund 0 1000)),.b false,.v (.bool (Qa f.band 0 1000000)),.b true,.b true,.b true]) (obs:=_) hE Try.func114 Qg (by kernel_rfl) ho hr
theorem p114_start_9 (f:Fair) {E:Env} {res:AV} (hE:Qh Try.prog 114 res E) (ho:AllP [Qi Try.prog (.clos 115 [] []) (VD f) (.bool (Qa (f.stock.length:Int) 1 8)),(!(Qa (f.stock.length:Int) 1 8))=false,((f.cash.length:Int) != (f.stock.length:Int))=false,Qi Try.prog (.clos 115 [] []) [.int .i64 f.purses,.int .i64 0,.int .i64 20] (.bool (Qa f.purses 0 20)),(!(Qa f.purses 0 20))=false,Qi Try.prog (.clos 115 [] []) [.int .i64 f.boxes,.int .i64 0,.int .i64 12] (.bool (Qa f.boxes 0 12)),(!(Qa f.boxes 0 12))=false,(decide ((f.bundles.length:Int) > 6))=false,Qi Try.prog (.clos 182 [] []) [.int .i64 0,.int .i64 100000] (.clos 183 [] YE),Qi Try.prog (.clos 76 [] []) (yU f) (.bool (f.stock.any (outB 0 100000))),(f.stock.any (outB 0 100000))=false,Qi Try.prog (.clos 182 [] []) [.int .i64 0,.int .i64 1000000] (.clos 183 [] Vh),Qi Try.prog (.clos 76 [] []) (Qax f) (.bool (f.cash.any (outB 0 1000000))),(f.cash.any (outB 0 1000000))=false,Qi Try.prog (.clos 115 [] []) (z114_7 f) (.bool (Qa f.refund 0 1000)),(!(Qa f.refund 0 1000))=false,Qi Try.prog (.clos 115 [] []) (z114_8 f) (.bool (Qa f.band 0 1000000)),(!(Qa f.band 0 1000000))=false,Qi Try.prog (.clos 115 [] []) [.int .i64 f.hours,.int .i64 1,.int .i64 1440] (.bool (Qa f.hours 1 1440)),(!(Qa f.hours 1 1440))=true,true=true])
 (hr:AvLe (.int .i64 10) res):G Try.prog E [.code (Qd Try.prog 114)] ⟨[.agg (YU f)]++unds (Try.f114.ntmps - 1),[]⟩ :=
 Qf (n:=400) (evs:=[.v (.bool (Qa (f.stock.length:Int) 1 8)),.b false,.b false,.v (.bool (Qa f.purses 0 20)),.b false,.v (.bool (Qa f.boxes 0 12)),.b false,.b false,.v (.clos 183 [] YE),.v (.bool (f.stock.any (outB 0 100000))),.b false,.v (.clos 183 [] Vh),.v (.bool (f.cash.any (outB 0 1000000))),.b false,.v (.bool (Qa f.refund 0 1000)),.b false,.v (.bool (Qa f.band 0 1000000)),.b false,.v (.bool (Qa f.hours 1 1440)),.b true,.b true]) (obs:=_) hE Try.func114 Qg (by kernel_rfl) ho hr
theorem QbZ (f:Fair) {E:Env} {res:AV} (hE:Qh Try.prog 114 res E) (ho:AllP [Qi Try.prog (.clos 115 [] []) (VD f) (.bool (Qa (f.stock.length:Int) 1 8)),(!(Qa (f.stock.length:Int) 1 8))=false,((f.cash.length:Int) != (f.stock.length:Int))=false,Qi Try.prog (.clos 115 [] []) [.int .i64 f.purses,.int .i64 0,.int .i64 20] (.bool (Qa f.purses 0 20)),(!(Qa f.purses 0 20))=false,Qi Try.prog (.clos 115 [] []) [.int .i64 f.boxes,.int .i64 0,.int .i64 12] (.bool (Qa f.boxes 0 12)),(!(Qa f.boxes 0 12))=false,(decide ((f.bundles.length:Int) > 6))=false,Qi Try.prog (.clos 182 [] []) [.int .i64 0,.int .i64 100000] (.clos 183 [] YE),Qi Try.prog (.clos 76 [] []) (yU f) (.bool (f.stock.any (outB 0 100000))),(f.stock.any (outB 0 100000))=false,Qi Try.prog (.clos 182 [] []) [.int .i64 0,.int .i64 1000000] (.clos 183 [] Vh),Qi Try.prog (.clos 76 [] []) (Qax f) (.bool (f.cash.any (outB 0 1000000))),(f.cash.any (outB 0 1000000))=false,Qi Try.prog (.clos 115 [] []) (z114_7 f) (.bool (Qa f.refund 0 1000)),(!(Qa f.refund 0 1000))=false,Qi Try.prog (.clos 115 [] []) (z114_8 f) (.bool (Qa f.band 0 1000000)),(!(Qa f.band 0 1000000))=false,Qi Try.prog (.clos 115 [] []) [.int .i64 f.hours,.int .i64 1,.int .i64 1440] (.bool (Qa f.hours 1 1440)),(!(Qa f.hours 1 1440))=false,Qi Try.prog (.clos 184 [] []) [.rsl (Ym f.bundles) 0 f.bundles.length,.clos 185 [] [.rptr (YU f) 0]] (.bool (f.bundles.any (badB f))),(f.bundles.any (badB f))=true])
 (hr:AvLe (.int .i64 10) res):G Try.prog E [.code (Qd Try.prog 114)] ⟨[.agg (YU f)]++unds (Try.f114.ntmps - 1),[]⟩ :=
 Qf (n:=400) (evs:=[.v (.bool (Qa (f.stock.length:Int) 1 8)),.b false,.b false,.v (.bool (Qa f.purses 0 20)),.b false,.v (.bool (Qa f.boxes 0 12)),.b false,.b false,.v (.clos 183 [] YE),.v (.bool (f.stock.any (outB 0 100000))),.b false,.v (.clos 183 [] Vh),.v (.bool (f.cash.any (outB 0 1000000))),.b false,.v (.bool (Qa f.refund 0 1000)),.b false,.v (.bool (Qa f.band 0 1000000)),.b false,.v (.bool (Qa f.hours 1 1440)),.b false,.v (.bool (f.bundles.any (badB f))),.b true]) (obs:=_) hE Try.func114 Qg (by kernel_rfl) ho hr
theorem QbY (f:Fair) {E:Env} {res:AV} (hE:Qh Try.prog 114 res E) (ho:AllP [Qi Try.prog (.clos 115 [] []) (VD f) (.bool (Qa (f.stock.length:Int) 1 8)),(!(Qa (f.stock.length:Int) 1 8))=false,((f.cash.length:Int) != (f.stock.length:Int))=false,Qi Try.prog (.clos 115 [] []) [.int .i64 f.purses,.int .i64 0,.int .i64 20] (.bool (Qa f.purses 0 20)),(!(Qa f.purses 0 20))=false,Qi Try.prog (.clos 115 [] []) [.int .i64 f.boxes,.int .i64 0,.int .i64 12] (.bool (Qa f.boxes 0 12)),(!(Qa f.boxes 0 12))=false,(decide ((f.bundles.length:Int) > 6))=false,Qi Try.prog (.clos 182 [] []) [.int .i64 0,.int .i64 100000] (.clos 183 [] YE),Qi Try.prog (.clos 76 [] []) (yU f) (.bool (f.stock.any (outB 0 100000))),(f.stock.any (outB 0 100000))=false,Qi Try.prog (.clos 182 [] []) [.int .i64 0,.int .i64 1000000] (.clos 183 [] Vh),Qi Try.prog (.clos 76 [] []) (Qax f) (.bool (f.cash.any (outB 0 1000000))),(f.cash.any (outB 0 1000000))=false,Qi Try.prog (.clos 115 [] []) (z114_7 f) (.bool (Qa f.refund 0 1000)),(!(Qa f.refund 0 1000))=false,Qi Try.prog (.clos 115 [] []) (z114_8 f) (.bool (Qa f.band 0 1000000)),(!(Qa f.band 0 1000000))=false,Qi Try.prog (.clos 115 [] []) [.int .i64 f.hours,.int .i64 1,.int .i64 1440] (.bool (Qa f.hours 1 1440)),(!(Qa f.hours 1 1440))=false,Qi Try.prog (.clos 184 [] []) [.rsl (Ym f.bundles) 0 f.bundles.length,.clos 185 [] [.rptr (YU f) 0]] (.bool (f.bundles.any (badB f))),(f.bundles.any (badB f))=false])
 (hr:AvLe (.int .i64 0) res):G Try.prog E [.code (Qd Try.prog 114)] ⟨[.agg (YU f)]++unds (Try.f114.ntmps - 1),[]⟩ :=
 Qf (n:=400) (evs:=[.v (.bool (Qa (f.stock.length:Int) 1 8)),.b false,.b false,.v (.bool (Qa f.purses 0 20)),.b false,.v (.bool (Qa f.boxes 0 12)),.b false,.b false,.v (.clos 183 [] YE),.v (.bool (f.stock.any (outB 0 100000))),.b false,.v (.clos 183 [] Vh),.v (.bool (f.cash.any (outB 0 1000000))),.b false,.v (.bool (Qa f.refund 0 1000)),.b false,.v (.bool (Qa f.band 0 1000000)),.b false,.v (.bool (Qa f.hours 1 1440)),.b false,.v (.bool (f.bundles.any (badB f))),.b false]) (obs:=_) hE Try.func114 Qg (by kernel_rfl) ho hr
theorem f114W (f:Fair) {E:Env} {rv:Int} (hE:Qh Try.prog 114 (.int .i64 rv) E)
 (h:(((Qa (f.stock.length:Int) 1 8)=false→rv=10)∧((Qa (f.stock.length:Int) 1 8)=true→((¬ ((f.cash.length:Int)=(f.stock.length:Int))→rv=10)∧((f.cash.length:Int)=(f.stock.length:Int)→(((Qa f.purses 0 20)=false→rv=10)∧((Qa f.purses 0 20)=true→(((Qa f.boxes 0 12)=false→rv=10)∧((Qa f.boxes 0 12)=true→(((f.bundles.length:Int) > 6→rv=10)∧(¬ ((f.bundles.length:Int) > 6)→((f.stock.length≤9223372036854775807)∧(((f.stock.any (outB 0 100000))=true→rv=10)∧((f.stock.any (outB 0 100000))=false→((f.cash.length≤9223372036854775807)∧(((f.cash.any (outB 0 1000000))=true→rv=10)∧((f.cash.any (outB 0 1000000))=false→(((Qa f.refund 0 1000)=false→rv=10)∧((Qa f.refund 0 1000)=true→(((Qa f.band 0 1000000)=false→rv=10)∧((Qa f.band 0 1000000)=true→(((Qa f.hours 1 1440)=false→rv=10)∧((Qa f.hours 1 1440)=true→(((∀ x ∈ f.bundles,0≤f.refund∧f.refund≤1000)∧f.bundles.length≤9223372036854775807)∧(((f.bundles.any (badB f))=true→rv=10)∧((f.bundles.any (badB f))=false→rv=0)))))))))))))))))))))))))):G Try.prog E [.code (Qd Try.prog 114)] ⟨[.agg [.int .i64 f.purses,.int .i64 f.boxes,.rsl (rowI f.stock) 0 f.stock.length,.rsl (rowI f.cash) 0 f.cash.length,.rsl (Ym f.bundles) 0 f.bundles.length,.int .i64 f.refund,.int .i64 f.band,.int .i64 f.hours]]++unds (Try.f114.ntmps - 1),[]⟩:=by
 rcases bft (!(Qa (f.stock.length:Int) 1 8)) with hc0 | hc0
 · have h:=h.1 (bnT hc0)
   exact p114_start_0 f hE ⟨(u115 (Qn (f.stock.length:Int) 1 8)),hc0,rfl,rfl,rfl,rfl,rfl,rfl,rfl,rfl,rfl,rfl,trivial⟩ (AvLe.of_eq (by rw [h]; try rfl))
 · have h:=h.2 (bnF hc0)
   rcases bft ((f.cash.length:Int) != (f.stock.length:Int)) with hc1 | hc1
   · have h:=h.1 (bneT hc1)
     exact p114_start_1 f hE ⟨(u115 (Qn (f.stock.length:Int) 1 8)),hc0,hc1,rfl,rfl,rfl,rfl,rfl,rfl,rfl,rfl,rfl,trivial⟩ (AvLe.of_eq (by rw [h]; try rfl))
   · have h:=h.2 (bneF hc1)
     rcases bft (!(Qa f.purses 0 20)) with hc2 | hc2
     · have h:=h.1 (bnT hc2)
       exact p114_start_2 f hE ⟨(u115 (Qn (f.stock.length:Int) 1 8)),hc0,hc1,(u115 (Qn f.purses 0 20)),hc2,rfl,rfl,rfl,rfl,rfl,rfl,rfl,rfl,trivial⟩ (AvLe.of_eq (by rw [h]; try rfl))
     · have h:=h.2 (bnF hc2)
       rcases bft (!(Qa f.boxes 0 12)) with hc3 | hc3
       · have h:=h.1 (bnT hc3)
         exact p114_start_3 f hE ⟨(u115 (Qn (f.stock.length:Int) 1 8)),hc0,hc1,(u115 (Qn f.purses 0 20)),hc2,(u115 (Qn f.boxes 0 12)),hc3,rfl,rfl,rfl,rfl,rfl,rfl,rfl,trivial⟩ (AvLe.of_eq (by rw [h]; try rfl))
       · have h:=h.2 (bnF hc3)
         rcases bft (decide ((f.bundles.length:Int) > 6)) with hc4 | hc4
         · have h:=h.1 (odt hc4)
           exact p114_start_4 f hE ⟨(u115 (Qn (f.stock.length:Int) 1 8)),hc0,hc1,(u115 (Qn f.purses 0 20)),hc2,(u115 (Qn f.boxes 0 12)),hc3,hc4,rfl,rfl,rfl,rfl,rfl,rfl,trivial⟩ (AvLe.of_eq (by rw [h]; try rfl))
         · have h:=h.2 (odf hc4)
           obtain ⟨h1,h⟩:=h
           rcases bft (f.stock.any (outB 0 100000)) with hc5 | hc5
           · have h:=h.1 hc5
             exact p114_start_5 f hE ⟨(u115 (Qn (f.stock.length:Int) 1 8)),hc0,hc1,(u115 (Qn f.purses 0 20)),hc2,(u115 (Qn f.boxes 0 12)),hc3,hc4,(u182 (Vj 0 100000)),(Qk Try.func76 (by kernel_rfl) qk (Xu f.stock 0 100000 h1)),hc5,rfl,rfl,rfl,rfl,rfl,trivial⟩ (AvLe.of_eq (by rw [h]; try rfl))
           · have h:=h.2 hc5
             obtain ⟨h2,h⟩:=h
             rcases bft (f.cash.any (outB 0 1000000)) with hc6 | hc6
             · have h:=h.1 hc6
               exact p114_start_6 f hE ⟨(u115 (Qn (f.stock.length:Int) 1 8)),hc0,hc1,(u115 (Qn f.purses 0 20)),hc2,(u115 (Qn f.boxes 0 12)),hc3,hc4,(u182 (Vj 0 100000)),(Qk Try.func76 (by kernel_rfl) qk (Xu f.stock 0 100000 h1)),hc5,(u182 (Vj 0 1000000)),(Qk Try.func76 (by kernel_rfl) qk (Xu f.cash 0 1000000 h2)),hc6,rfl,rfl,rfl,rfl,trivial⟩ (AvLe.of_eq (by rw [h]; try rfl))
             · have h:=h.2 hc6
               rcases bft (!(Qa f.refund 0 1000)) with hc7 | hc7
               · have h:=h.1 (bnT hc7)
                 exact p114_start_7 f hE ⟨(u115 (Qn (f.stock.length:Int) 1 8)),hc0,hc1,(u115 (Qn f.purses 0 20)),hc2,(u115 (Qn f.boxes 0 12)),hc3,hc4,(u182 (Vj 0 100000)),(Qk Try.func76 (by kernel_rfl) qk (Xu f.stock 0 100000 h1)),hc5,(u182 (Vj 0 1000000)),(Qk Try.func76 (by kernel_rfl) qk (Xu f.cash 0 1000000 h2)),hc6,(u115 (Qn f.refund 0 1000)),hc7,rfl,rfl,rfl,trivial⟩ (AvLe.of_eq (by rw [h]; try rfl))
               · have h:=h.2 (bnF hc7)
                 rcases bft (!(Qa f.band 0 1000000)) with hc8 | hc8
                 · have h:=h.1 (bnT hc8)
                   exact p114_start_8 f hE ⟨(u115 (Qn (f.stock.length:Int) 1 8)),hc0,hc1,(u115 (Qn f.purses 0 20)),hc2,(u115 (Qn f.boxes 0 12)),hc3,hc4,(u182 (Vj 0 100000)),(Qk Try.func76 (by kernel_rfl) qk (Xu f.stock 0 100000 h1)),hc5,(u182 (Vj 0 1000000)),(Qk Try.func76 (by kernel_rfl) qk (Xu f.cash 0 1000000 h2)),hc6,(u115 (Qn f.refund 0 1000)),hc7,(u115 (Qn f.band 0 1000000)),hc8,rfl,rfl,trivial⟩ (AvLe.of_eq (by rw [h]; try rfl))
                 · have h:=h.2 (bnF hc8)
                   rcases bft (!(Qa f.hours 1 1440)) with hc9 | hc9
                   · have h:=h.1 (bnT hc9)
                     exact p114_start_9 f hE ⟨(u115 (Qn (f.stock.length:Int) 1 8)),hc0,hc1,(u115 (Qn f.purses 0 20)),hc2,(u115 (Qn f.boxes 0 12)),hc3,hc4,(u182 (Vj 0 100000)),(Qk Try.func76 (by kernel_rfl) qk (Xu f.stock 0 100000 h1)),hc5,(u182 (Vj 0 1000000)),(Qk Try.func76 (by kernel_rfl) qk (Xu f.cash 0 1000000 h2)),hc6,(u115 (Qn f.refund 0 1000)),hc7,(u115 (Qn f.band 0 1000000)),hc8,(u115 (Qn f.hours 1 1440)),hc9,rfl,trivial⟩ (AvLe.of_eq (by rw [h]; try rfl))
                   · have h:=h.2 (bnF hc9)
                     obtain ⟨h3,h⟩:=h
                     rcases bft (f.bundles.any (badB f)) with hc10 | hc10
                     · have h:=h.1 hc10
                       exact QbZ f hE ⟨(u115 (Qn (f.stock.length:Int) 1 8)),hc0,hc1,(u115 (Qn f.purses 0 20)),hc2,(u115 (Qn f.boxes 0 12)),hc3,hc4,(u182 (Vj 0 100000)),(Qk Try.func76 (by kernel_rfl) qk (Xu f.stock 0 100000 h1)),hc5,(u182 (Vj 0 1000000)),(Qk Try.func76 (by kernel_rfl) qk (Xu f.cash 0 1000000 h2)),hc6,(u115 (Qn f.refund 0 1000)),hc7,(u115 (Qn f.band 0 1000000)),hc8,(u115 (Qn f.hours 1 1440)),hc9,(Qk Try.func184 (by kernel_rfl) f184bb (anyBad_ok f.bundles f h3)),hc10,trivial⟩ (AvLe.of_eq (by rw [h]; try rfl))
                     · have h:=h.2 hc10
                       exact QbY f hE ⟨(u115 (Qn (f.stock.length:Int) 1 8)),hc0,hc1,(u115 (Qn f.purses 0 20)),hc2,(u115 (Qn f.boxes 0 12)),hc3,hc4,(u182 (Vj 0 100000)),(Qk Try.func76 (by kernel_rfl) qk (Xu f.stock 0 100000 h1)),hc5,(u182 (Vj 0 1000000)),(Qk Try.func76 (by kernel_rfl) qk (Xu f.cash 0 1000000 h2)),hc6,(u115 (Qn f.refund 0 1000)),hc7,(u115 (Qn f.band 0 1000000)),hc8,(u115 (Qn f.hours 1 1440)),hc9,(Qk Try.func184 (by kernel_rfl) f184bb (anyBad_ok f.bundles f h3)),hc10,trivial⟩ (AvLe.of_eq (by rw [h]; try rfl))
def YZ (f:Fair):Bool:=Qa f.stock.length 1 8 && (decide (f.cash.length=f.stock.length) && (Qa f.purses 0 20 && (Qa f.boxes 0 12 && (decide (f.bundles.length≤6) && (!(f.stock.any (outB 0 100000)) && (!(f.cash.any (outB 0 1000000)) && (Qa f.refund 0 1000 && (Qa f.band 0 1000000 && (Qa f.hours 1 1440 && !(f.bundles.any (badB f)))))))))))
def Vn (f:Fair):Int:=if YZ f=true then 0 else 10
structure FairSmall (f:Fair):Prop where
 stock:f.stock.length≤1000
 cash:f.cash.length≤1000
 bundles:f.bundles.length≤1000
theorem XH {f:Fair} (h:YZ f=false):Vn f=10:=by unfold Vn; rw [if_neg (by rw [h]; exact Bool.false_ne_true)]
theorem yV (f:Fair) (hs:FairSmall f):Pure Try.prog 114 [.agg [.int .i64 f.purses,.int .i64 f.boxes,.rsl (rowI f.stock) 0 f.stock.length,.rsl (rowI f.cash) 0 f.cash.length,.rsl (Ym f.bundles) 0 f.bundles.length,.int .i64 f.refund,.int .i64 f.band,.int .i64 f.hours]] (.int .i64 (Vn f)):=Qy Try.func114 f114b fun E hE=>by
 have s1:=hs.stock
 have s2:=hs.cash
 have s3:=hs.bundles
 refine f114W f (rv:=Vn f) hE ⟨fun h1=>XH ?_,fun h1=>⟨fun h2=>XH ?_,fun h2=>⟨fun h3=>XH ?_,fun h3=>⟨fun h4=>XH ?_,fun h4=>⟨fun h5=>XH ?_,fun h5=>⟨by omega,fun h6=>XH ?_,fun h6=>⟨by omega,fun h7=>XH ?_,fun h7=>⟨fun h8=>XH ?_,fun h8=>⟨fun h9=>XH ?_,fun h9=>⟨fun h10=>XH ?_,fun h10=>⟨⟨fun x _=>?_,by omega⟩,fun h11=>XH ?_,fun h11=>?_⟩⟩⟩⟩⟩⟩⟩⟩⟩⟩⟩
 · unfold YZ; rw [h1]; rfl
 · unfold YZ; rw [decide_eq_false (show ¬ f.cash.length=f.stock.length by omega),Bool.false_and,Bool.and_false]
 · unfold YZ; rw [h3]; simp
 · unfold YZ; rw [h4]; simp
 · unfold YZ; rw [decide_eq_false (show ¬ f.bundles.length≤6 by omega)]; simp
 · unfold YZ; rw [h6]; simp
 · unfold YZ; rw [h7]; simp
 · unfold YZ; rw [h8]; simp
 · unfold YZ; rw [h9]; simp
 · unfold YZ; rw [h10]; simp
 · exact QI.1 h8
 · unfold YZ; rw [h11]; simp
 · unfold Vn
   rw [if_pos]
   unfold YZ
   rw [h1,h3,h4,h6,h7,h8,h9,h10,h11,decide_eq_true (show f.cash.length=f.stock.length by omega),decide_eq_true (show f.bundles.length≤6 by omega)]; rfl
end Go.Proofs.Ytemklbioijmjiaa
namespace Go.Proofs.Ytemklbioijmjiaa
open Go Ax
open Go.Proofs
abbrev NN:Int:=1152921504606846976
/-- The prices so far. -/
def LP (f:Nat→Int) (j:Nat):List Int:=(List.range 1008).map fun i=>if i<j then f i else NN
theorem Qbm {f:Nat→Int} {j:Nat}:(LP f j).length=1008:=by simp [LP]
theorem Vb {f:Nat→Int} {j i:Nat} (h:i<1008):(LP f j)[i]?=some (if i<j then f i else NN):=by
 unfold LP; rw [List.getElem?_map,List.getElem?_range h]; rfl
theorem LP_set {f:Nat→Int} {j:Nat} (h:j<1008):(LP f j).set j (f j)=LP f (j+1):=by
 refine List.ext_getElem? fun i=>?_
 by_cases hi:i<1008
 · rw [Vb hi]
   by_cases e:j=i
   · subst e
     rw [List.getElem?_set_self (by rw [Qbm]; omega),if_pos (by omega)]
   · rw [List.getElem?_set_ne e,Vb hi]
     by_cases c:i<j
     · rw [if_pos c,if_pos (by omega)]
     · rw [if_neg c,if_neg (by omega)]
 · rw [List.getElem?_eq_none (by rw [List.length_set,Qbm]; omega),List.getElem?_eq_none (by rw [Qbm]; omega)]
theorem LP_zero {f:Nat→Int}:List.replicate 1008 NN=LP f 0:=by
 refine List.ext_getElem? fun i=>?_
 by_cases hi:i<1008
 · rw [Vb hi,List.getElem?_replicate,if_pos hi,if_neg (by omega)]
 · rw [List.getElem?_eq_none (by simp; omega),List.getElem?_eq_none (by rw [Qbm]; omega)]
def c1 (t:Nat):Int:=if t % 6=0 then 1000*((t / 6:Nat):Int) else NN
def c0 (t:Nat):Int:=1000*((t / 6:Nat):Int)+200*((t % 6:Nat):Int)
def r2:List Int:=(List.replicate 1008 NN).set 0 0
theorem r2_get {j:Nat} (h:j<1008):r2[j]?=some (if j=0 then 0 else NN):=by
 unfold r2
 by_cases e:j=0
 · subst e; rw [List.getElem?_set_self (by simp),if_pos rfl]
 · rw [List.getElem?_set_ne (by omega),List.getElem?_replicate,if_pos h,if_neg e]
theorem qs {t:Nat} (h:t<1008) (h6:t % 6=0):c1 t=1000*((t / 6:Nat):Int)∧0≤c1 t∧c1 t≤200000:=by
 unfold c1; rw [if_pos h6]; omega
theorem Qae {t:Nat} (h6:¬ t % 6=0):c1 t=NN:=by unfold c1; rw [if_neg h6]
theorem c0_bd {t:Nat} (h:t<1008):0≤c0 t∧c0 t≤200000:=by unfold c0; omega
theorem c0_step {j:Nat} (h0:1≤j) (h:j<1008):iMin (c1 j) (c0 (j - 1)+200)=c0 j:=by
 unfold iMin
 by_cases h6:j % 6=0
 · obtain ⟨e,-,-⟩:=qs h h6
   rw [e]
   unfold c0
   rw [if_neg (by omega)]; omega
 · rw [Qae h6]
   unfold c0 NN
   rw [if_pos (by omega)]; omega
theorem c1_step {j:Nat} (h0:6≤j) (h:j<1008) (h6:(j - 6) % 6=0):iMin NN (c1 (j - 6)+1000)=c1 j:=by
 obtain ⟨e,-,-⟩:=qs (t:=j - 6) (by omega) h6
 obtain ⟨e',-,-⟩:=qs (t:=j) (by omega) (by omega)
 rw [e,e']
 unfold iMin NN
 rw [if_pos (by omega)]; omega
theorem f186b:Try.f186.body=some (Qd Try.prog 186):=by kernel_rfl
theorem u186 {a c k:List AV} {r:AV} (h:Pure Try.prog 186 (a++c++k) r):Qi Try.prog (.clos 186 a k) c r:=Qk Try.func186 (by kernel_rfl) f186b h
def qn (P:Program):List Item:=kAt 400 [.code (Qd P 186)] [.b true,.b true,.b true,.b false,.b true,.b false,.b true,.stop]
def yi (v4:List Int) (v6:List Int) (j:Nat) (v2:List Int) (g4:Nat) (g6:Nat) (g2:Nat):St:=⟨([.rsl [.int .i64 1,.int .i64 200,.int .i64 6,.int .i64 1000] 0 2,.int .i64 7,J,J,J,J,.int .i64 1007,.sl 0 0 0 3 1,J,.int .i64 0]++jj 43 ([.int .i64 (((List.replicate (Int.toNat (1008:Int)) (1152921504606846976:Int)).length:Nat):Int),.int .i64 (j:Int)]++Js 163)),[⟨true,0,1,false,[.sl 2 g2 0 v2.length 1,.sl 4 g4 0 v4.length 1,.sl 6 g6 0 v6.length 1],true⟩,⟨false,1,1,true,[],false⟩,⟨true,g2,1,true,(rowI v2),true⟩,⟨false,1,1,true,[],false⟩,⟨true,g4,1,true,(rowI v4),true⟩,⟨false,1,1,true,[],false⟩,⟨true,g6,1,true,(rowI v6),true⟩]⟩
def Qbc (E:Env) (v4:List Int) (v6:List Int) (j:Nat) (v2:List Int):Prop:=∀ g4 g6 g2:Nat,G Try.prog E (qn Try.prog) (yi v4 v6 j v2 g4 g6 g2)
def yj (P:Program):List Item:=kAt 400 [.code (Qd P 186)] [.b true,.b true,.b true,.b false,.b true,.b false,.b true,.b false,.b false,.stop]
def f186S3 (v2:List Int) (v4:List Int) (v6:List Int) (t:Nat) (tokens:Nat) (g2:Nat) (g4:Nat) (g6:Nat):St:=⟨([.rsl [.int .i64 1,.int .i64 200,.int .i64 6,.int .i64 1000] 0 2]++jj 5 ([.int .i64 1007,.sl 0 0 0 3 1,J,J,J,J,.int .i64 (tokens:Int),.int .i64 (t:Int)]++Js 204)),[⟨true,0,1,false,[.sl 2 g2 0 v2.length 1,.sl 4 g4 0 v4.length 1,.sl 6 g6 0 v6.length 1],true⟩,⟨false,1,1,true,[],false⟩,⟨true,g2,1,true,(rowI v2),true⟩,⟨false,1,1,true,[],false⟩,⟨true,g4,1,true,(rowI v4),true⟩,⟨false,1,1,true,[],false⟩,⟨true,g6,1,true,(rowI v6),true⟩]⟩
def f186G3 (E:Env) (v2:List Int) (v4:List Int) (v6:List Int) (t:Nat) (tokens:Nat):Prop:=∀ g2 g4 g6:Nat,G Try.prog E (yj Try.prog) (f186S3 v2 v4 v6 t tokens g2 g4 g6)
def KQ (P:Program):List Item:=kAt 400 [.code (Qd P 186)] [.b true,.b true,.b true,.b false,.b true,.b false,.b true,.b false,.b false,.b false,.b false,.b true,.stop]
def f186S5 (price:Int) (tokens:Int) (left:Int) (v2:List Int) (v4:List Int) (v6:List Int) (v7_0:Nat) (g2:Nat) (g4:Nat) (g6:Nat):St:=⟨([J,J,J,J,.sl 7 0 0 2 1,.int .i64 price,J,.sl 0 0 0 3 1,J,J,J,J,.int .i64 tokens,J,.int .i64 0,.ptr 8 0 0,.int .i64 left]++jj 133 ([.rsl [.int .i64 1,.int .i64 200,.int .i64 6,.int .i64 1000] 0 2,.int .i64 2,.int .i64 0]++Js 65)),[⟨true,0,1,false,[.sl 2 g2 0 v2.length 1,.sl 4 g4 0 v4.length 1,.sl 6 g6 0 v6.length 1],true⟩,⟨false,1,1,true,[],false⟩,⟨true,g2,1,true,(rowI v2),true⟩,⟨false,1,1,true,[],false⟩,⟨true,g4,1,true,(rowI v4),true⟩,⟨false,1,1,true,[],false⟩,⟨true,g6,1,true,(rowI v6),true⟩,⟨true,0,1,true,[.int .i64 (v7_0:Int),.int .i64 0],true⟩,⟨true,0,1,true,[.int .i64 1,.int .i64 200],false⟩]⟩
def f186G5 (E:Env) (price:Int) (tokens:Int) (left:Int) (v2:List Int) (v4:List Int) (v6:List Int) (v7_0:Nat):Prop:=∀ g2 g4 g6:Nat,G Try.prog E (KQ Try.prog) (f186S5 price tokens left v2 v4 v6 v7_0 g2 g4 g6)
def Ya (P:Program):List Item:=kAt 400 [.code (Qd P 186)] [.b true,.b true,.b true,.b false,.b true,.stop]
def XY (v6:List Int) (j:Nat) (v4:List Int) (g6:Nat) (g4:Nat):St:=⟨([.rsl [.int .i64 1,.int .i64 200,.int .i64 6,.int .i64 1000] 0 2,.int .i64 7,J,J,J,J,.int .i64 1007,.sl 0 0 0 3 1,J,.int .i64 1]++jj 43 ([.int .i64 (((List.replicate (Int.toNat (1008:Int)) (1152921504606846976:Int)).length:Nat):Int),.int .i64 (j:Int)]++Js 163)),[⟨true,0,1,false,[.sl 2 0 0 ((List.replicate (Int.toNat (1008:Int)) (1152921504606846976:Int)).length) 1,.sl 4 g4 0 v4.length 1,.sl 6 g6 0 v6.length 1],true⟩,⟨false,1,1,true,[],false⟩,⟨true,0,1,true,(rowI (List.replicate (Int.toNat (1008:Int)) (1152921504606846976:Int))),true⟩,⟨false,1,1,true,[],false⟩,⟨true,g4,1,true,(rowI v4),true⟩,⟨false,1,1,true,[],false⟩,⟨true,g6,1,true,(rowI v6),true⟩]⟩
def Vp (E:Env) (v6:List Int) (j:Nat) (v4:List Int):Prop:=∀ g6 g4:Nat,G Try.prog E (Ya Try.prog) (XY v6 j v4 g6 g4)
def XZ (P:Program):List Item:=kAt 400 [.code (Qd P 186)] [.b true,.b true,.b true,.b false,.b true,.b false,.b true,.b false,.b false,.b false,.b false,.b true,.b false,.b true,.stop]
def Wb (price:Int) (tokens:Int) (left:Int) (v2:List Int) (v4:List Int) (v6:List Int) (v7_0:Nat) (v7_1:Nat) (g2:Nat) (g4:Nat) (g6:Nat):St:=⟨([J,J,J,J,.sl 7 0 0 2 1,.int .i64 price,J,.sl 0 0 0 3 1,J,J,J,J,.int .i64 tokens,J,.int .i64 1,.ptr 9 0 0,.int .i64 left]++jj 133 ([.rsl [.int .i64 1,.int .i64 200,.int .i64 6,.int .i64 1000] 0 2,.int .i64 2,.int .i64 1]++Js 65)),[⟨true,0,1,false,[.sl 2 g2 0 v2.length 1,.sl 4 g4 0 v4.length 1,.sl 6 g6 0 v6.length 1],true⟩,⟨false,1,1,true,[],false⟩,⟨true,g2,1,true,(rowI v2),true⟩,⟨false,1,1,true,[],false⟩,⟨true,g4,1,true,(rowI v4),true⟩,⟨false,1,1,true,[],false⟩,⟨true,g6,1,true,(rowI v6),true⟩,⟨true,0,1,true,[.int .i64 (v7_0:Int),.int .i64 (v7_1:Int)],true⟩,⟨true,0,1,true,[.int .i64 1,.int .i64 200],false⟩,⟨true,0,1,true,[.int .i64 6,.int .i64 1000],false⟩]⟩
def YL (E:Env) (price:Int) (tokens:Int) (left:Int) (v2:List Int) (v4:List Int) (v6:List Int) (v7_0:Nat) (v7_1:Nat):Prop:=∀ g2 g4 g6:Nat,G Try.prog E (XZ Try.prog) (Wb price tokens left v2 v4 v6 v7_0 v7_1 g2 g4 g6)
abbrev Qau (g2:Nat) (v2:List Int) (g4:Nat) (v4:List Int) (g6:Nat) (v6:List Int):List AV:=[.sl 2 g2 0 v2.length 1,.sl 4 g4 0 v4.length 1,.sl 6 g6 0 v6.length 1]
abbrev z186_1 (g2:Nat) (v2:List Int) (g4:Nat) (v4:List Int) (g6:Nat) (v6:List Int) (v7_0:Nat):List Blk:=[⟨true,0,1,false,(Qau g2 v2 g4 v4 g6 v6),true⟩,⟨false,1,1,true,[],false⟩,⟨true,g2,1,true,(rowI v2),true⟩,⟨false,1,1,true,[],false⟩,⟨true,g4,1,true,(rowI v4),true⟩,⟨false,1,1,true,[],false⟩,⟨true,g6,1,true,(rowI v6),true⟩,⟨true,0,1,true,[.int .i64 (v7_0:Int),.int .i64 0],true⟩,⟨true,0,1,true,[.int .i64 1,.int .i64 200],false⟩,⟨true,0,1,true,[.int .i64 6,.int .i64 1000],false⟩]
abbrev VK:List AV:=[.int .i64 1,.int .i64 200,.int .i64 6,.int .i64 1000]
abbrev z186_3 (g2:Nat) (v2:List Int) (g4:Nat) (v4:List Int) (g6:Nat) (v6:List Int):List Blk:=[⟨true,0,1,false,(Qau g2 v2 g4 v4 g6 v6),true⟩,⟨false,1,1,true,[],false⟩,⟨true,g2,1,true,(rowI v2),true⟩,⟨false,1,1,true,[],false⟩,⟨true,g4,1,true,(rowI v4),true⟩,⟨false,1,1,true,[],false⟩,⟨true,g6,1,true,(rowI v6),true⟩]
abbrev z186_4:List AV:=[.rsl VK 0 2,.int .i64 2,.int .i64 1]++Js 65
theorem p186_start_0 (e:Int) {E:Env} {rv:AV} (hE:Qh Try.prog 186 rv E) (ho:AllP [InR .i64 1007,InR .i64 3,(0:Int)≤3∧(3:Int)≤3∧(3:Int)≤2147483648,0=0,true=true,(∀ k,slOf 0 k (.sl k 0 0 1 1)=true),InR .i64 1008,QO Try.prog (.clos 55 [] []) [.rsl [.int .i64 1152921504606846976] 0 1,.int .i64 1008] [] (.sl 0 0 0 ((List.replicate (Int.toNat (1008:Int)) (1152921504606846976:Int)).length) 1) [⟨true,0,1,true,(rowI (List.replicate (Int.toNat (1008:Int)) (1152921504606846976:Int))),true⟩],(0:Int)≤0∧(0:Int)<((3:Nat):Int),0=0,1≤3,0=0,InR .i64 1,true=true,(∀ k,slOf 0 k (.sl k 0 0 1 1)=true),InR .i64 1008,QO Try.prog (.clos 55 [] []) [.rsl [.int .i64 1152921504606846976] 0 1,.int .i64 1008] [] (.sl 0 0 0 ((List.replicate (Int.toNat (1008:Int)) (1152921504606846976:Int)).length) 1) [⟨true,0,1,true,(rowI (List.replicate (Int.toNat (1008:Int)) (1152921504606846976:Int))),true⟩],(0:Int)≤1∧(1:Int)<((3:Nat):Int),0=0,2≤3,0=0,InR .i64 2,true=true,(∀ k,slOf 0 k (.sl k 0 0 1 1)=true),InR .i64 1008,QO Try.prog (.clos 55 [] []) [.rsl [.int .i64 1152921504606846976] 0 1,.int .i64 1008] [] (.sl 0 0 0 ((List.replicate (Int.toNat (1008:Int)) (1152921504606846976:Int)).length) 1) [⟨true,0,1,true,(rowI (List.replicate (Int.toNat (1008:Int)) (1152921504606846976:Int))),true⟩],(0:Int)≤2∧(2:Int)<((3:Nat):Int),0=0,3≤3,0=0,InR .i64 3,false=false,(0:Int)≤2∧(2:Int)<((3:Nat):Int),0=0,0=0,(0:Int)≤0∧(0:Int)<(((List.replicate (Int.toNat (1008:Int)) (1152921504606846976:Int)).length:Nat):Int),0=0,((0+0*1)+1)≤(rowI (List.replicate (Int.toNat (1008:Int)) (1152921504606846976:Int))).length,0=0,InR .i64 1,true=true,(0:Int)≤1∧(1:Int)<((3:Nat):Int),0=0,0=0,0=0])
 (hg:G Try.prog E (Ya Try.prog) ⟨([.rsl VK 0 2,.int .i64 7,J,J,J,J,.int .i64 1007,.sl 0 0 0 3 1,J,.int .i64 1]++jj 43 ([.int .i64 (((List.replicate (Int.toNat (1008:Int)) (1152921504606846976:Int)).length:Nat):Int),.int .i64 0]++Js 163)),[⟨true,0,1,false,[.sl 2 0 0 ((List.replicate (Int.toNat (1008:Int)) (1152921504606846976:Int)).length) 1,.sl 4 0 0 ((List.replicate (Int.toNat (1008:Int)) (1152921504606846976:Int)).length) 1,.sl 6 0 0 ((List.replicate (Int.toNat (1008:Int)) (1152921504606846976:Int)).length) 1],true⟩,⟨false,1,1,true,[],false⟩,⟨true,0,1,true,(rowI (List.replicate (Int.toNat (1008:Int)) (1152921504606846976:Int))),true⟩,⟨false,1,1,true,[],false⟩,⟨true,0,1,true,(rowI (List.replicate (Int.toNat (1008:Int)) (1152921504606846976:Int))),true⟩,⟨false,1,1,true,[],false⟩,⟨true,0,1,true,(Qu (rowI (List.replicate (Int.toNat (1008:Int)) (1152921504606846976:Int))) (0+0*1) [.int .i64 0]),true⟩]⟩):G Try.prog E [.code (Qd Try.prog 186)] ⟨[.rsl VK 0 2,.int .i64 7]++unds (Try.f186.ntmps - 2),[]⟩ :=
 Qe (n:=400) (ds:=[]) (cs:=[]) (live:=[0,1,6,7,9,53,54]) (m:=7) (evs:=[.b true,.vn .junk,.lent [] (.sl 0 0 0 ((List.replicate (Int.toNat (1008:Int)) (1152921504606846976:Int)).length) 1) [⟨true,0,1,true,(rowI (List.replicate (Int.toNat (1008:Int)) (1152921504606846976:Int))),true⟩],.b true,.vn .junk,.lent [] (.sl 0 0 0 ((List.replicate (Int.toNat (1008:Int)) (1152921504606846976:Int)).length) 1) [⟨true,0,1,true,(rowI (List.replicate (Int.toNat (1008:Int)) (1152921504606846976:Int))),true⟩],.b true,.vn .junk,.lent [] (.sl 0 0 0 ((List.replicate (Int.toNat (1008:Int)) (1152921504606846976:Int)).length) 1) [⟨true,0,1,true,(rowI (List.replicate (Int.toNat (1008:Int)) (1152921504606846976:Int))),true⟩],.b false,.b true,.stop]) (obs:=_) hE.2.1 (hE.nogh _) Qg (by kernel_rfl) ho hg
theorem f186W {E:Env} {rv:((List Int) × Int)} (hE:Qh Try.prog 186 (.tup [.rsl (rowI rv.1) 0 rv.1.length,.int .i64 rv.2]) E)
 (h:(((1:Int)≤(1008:Int)∧(1008:Int)≤2147483648)∧(((1:Int)≤(1008:Int)∧(1008:Int)≤2147483648)∧(((1:Int)≤(1008:Int)∧(1008:Int)≤2147483648)∧(∃ e:Int,(List.replicate (Int.toNat (1008:Int)) (1152921504606846976:Int))[0]?=some e∧Vp E ((List.replicate (Int.toNat (1008:Int)) (1152921504606846976:Int)).set 0 0) 0 (List.replicate (Int.toNat (1008:Int)) (1152921504606846976:Int))))))):G Try.prog E [.code (Qd Try.prog 186)] ⟨[.rsl [.int .i64 1,.int .i64 200,.int .i64 6,.int .i64 1000] 0 2,.int .i64 7]++unds (Try.f186.ntmps - 2),[]⟩:=by
 obtain ⟨h1,h⟩:=h
 obtain ⟨h2,h⟩:=h
 obtain ⟨h3,h⟩:=h
 obtain ⟨e,h4,h⟩:=h
 refine p186_start_0 e hE ⟨(⟨by decide,by decide⟩),(⟨by decide,by decide⟩),(⟨by decide,by decide,by decide⟩),rfl,rfl,(fun k=>by simp [slOf]),(⟨by decide,by decide⟩),(Qt Try.func55 (by kernel_rfl) f55b (VP (1152921504606846976:Int) (1008:Int) h1)),(⟨by decide,by decide⟩),rfl,(by decide),rfl,(⟨by decide,by decide⟩),rfl,(fun k=>by simp [slOf]),(⟨by decide,by decide⟩),(Qt Try.func55 (by kernel_rfl) f55b (VP (1152921504606846976:Int) (1008:Int) h2)),(⟨by decide,by decide⟩),rfl,(by decide),rfl,(⟨by decide,by decide⟩),rfl,(fun k=>by simp [slOf]),(⟨by decide,by decide⟩),(Qt Try.func55 (by kernel_rfl) f55b (VP (1152921504606846976:Int) (1008:Int) h3)),(⟨by decide,by decide⟩),rfl,(by decide),rfl,(⟨by decide,by decide⟩),rfl,(⟨by decide,by decide⟩),rfl,rfl,(Qs h4),rfl,(rf cI 1 0 1 h4),rfl,(⟨by decide,by decide⟩),rfl,(⟨by decide,by decide⟩),rfl,rfl,rfl,trivial⟩ ?_
 have h:=(h 0 0)
 simp only [XY,List.length_set] at h
 rw [(show Qu (rowI (List.replicate (Int.toNat (1008:Int)) (1152921504606846976:Int))) (0+0*1) [.int .i64 0]=rowI ((List.replicate (Int.toNat (1008:Int)) (1152921504606846976:Int)).set 0 0) from Qz cI (s:=1) (k:=0) (fun _=>rfl) h4 rfl (by first | decide | simp))]
 exact h
theorem p186_1002_0 (v6:List Int) (j:Nat) (v4:List Int) (g6:Nat) (g4:Nat) (e:Int) (e1:Int) (e2:Int) (e3:Int) {E:Env} {rv:AV} (hE:Qh Try.prog 186 rv E) (ho:AllP [(decide ((j:Int)<(((List.replicate (Int.toNat (1008:Int)) (1152921504606846976:Int)).length:Nat):Int)))=true,(0:Int)≤1∧(1:Int)<((3:Nat):Int),0=0,0=0,InR .i64 2,(0:Int)≤2∧(2:Int)<((3:Nat):Int),0=0,0=0,0≤(j:Int)∧(j:Int)<(v6.length:Int),g6=g6,g6=g6,((rowI v6).drop (0+(Int.toNat (j:Int))*1)).take 1=[.int .i64 e],0≤(j:Int)∧(j:Int)<(v4.length:Int),g4=g4,((0+(Int.toNat (j:Int))*1)+1)≤(rowI v4).length,g4=g4,(0:Int)≤1∧(1:Int)<((2:Nat):Int),InR .i64 ((j:Int) - 6),(decide (((j:Int) - 6)≥0))=true,(0:Int)≤1∧(1:Int)<((3:Nat):Int),0=0,0=0,0≤((j:Int) - 6)∧((j:Int) - 6)<(v4.length:Int),g4=g4,g4=g4,((Qu (rowI v4) (0+(Int.toNat (j:Int))*1) [.int .i64 e]).drop (0+(Int.toNat ((j:Int) - 6))*1)).take 1=[.int .i64 e2],(decide (e2<1152921504606846976))=true,(0:Int)≤1∧(1:Int)<((3:Nat):Int),0=0,0=0,(0:Int)≤1∧(1:Int)<((3:Nat):Int),0=0,0=0,0≤(j:Int)∧(j:Int)<(v4.length:Int),g4=g4,g4=g4,((Qu (rowI v4) (0+(Int.toNat (j:Int))*1) [.int .i64 e]).drop (0+(Int.toNat (j:Int))*1)).take 1=[.int .i64 e3],(0:Int)≤1∧(1:Int)<((3:Nat):Int),0=0,0=0,0≤((j:Int) - 6)∧((j:Int) - 6)<(v4.length:Int),g4=g4,g4=g4,((Qu (rowI v4) (0+(Int.toNat (j:Int))*1) [.int .i64 e]).drop (0+(Int.toNat ((j:Int) - 6))*1)).take 1=[.int .i64 e2],(0:Int)≤1∧(1:Int)<((2:Nat):Int),InR .i64 (e2+1000),0≤(j:Int)∧(j:Int)<(v4.length:Int),g4=g4,((0+(Int.toNat (j:Int))*1)+1)≤(Qu (rowI v4) (0+(Int.toNat (j:Int))*1) [.int .i64 e]).length,g4=g4,InR .i64 ((j:Int)+1)])
 (hg:G Try.prog E (Ya Try.prog) ⟨([.rsl [.int .i64 1,.int .i64 200,.int .i64 6,.int .i64 1000] 0 2,.int .i64 7,J,J,J,J,.int .i64 1007,.sl 0 0 0 3 1,J,.int .i64 1]++jj 43 ([.int .i64 (((List.replicate (Int.toNat (1008:Int)) (1152921504606846976:Int)).length:Nat):Int),.int .i64 ((j:Int)+1)]++Js 163)),[⟨true,0,1,false,[.sl 2 0 0 ((List.replicate (Int.toNat (1008:Int)) (1152921504606846976:Int)).length) 1,.sl 4 g4 0 v4.length 1,.sl 6 g6 0 v6.length 1],true⟩,⟨false,1,1,true,[],false⟩,⟨true,0,1,true,(rowI (List.replicate (Int.toNat (1008:Int)) (1152921504606846976:Int))),true⟩,⟨false,1,1,true,[],false⟩,⟨true,g4,1,true,(Qu (Qu (rowI v4) (0+(Int.toNat (j:Int))*1) [.int .i64 e]) (0+(Int.toNat (j:Int))*1) [.int .i64 (iMin e3 (e2+1000))]),true⟩,⟨false,1,1,true,[],false⟩,⟨true,g6,1,true,(rowI v6),true⟩]⟩):G Try.prog E (Ya Try.prog) (XY v6 j v4 g6 g4) :=
 Qe (n:=400) (ds:=[]) (cs:=[]) (live:=[0,1,6,7,9,53,54]) (m:=7) (evs:=[.b true,.auto,.auto,.ld (.int .i64 e),.b true,.auto,.ld (.int .i64 e2),.b true,.auto,.auto,.ld (.int .i64 e3),.auto,.ld (.int .i64 e2),.stop]) (obs:=_) hE.2.1 (hE.nogh _) Qg (by kernel_rfl) ho hg
theorem p186_1002_1 (v6:List Int) (j:Nat) (v4:List Int) (g6:Nat) (g4:Nat) (e:Int) (e1:Int) (e2:Int) {E:Env} {rv:AV} (hE:Qh Try.prog 186 rv E) (ho:AllP [(decide ((j:Int)<(((List.replicate (Int.toNat (1008:Int)) (1152921504606846976:Int)).length:Nat):Int)))=true,(0:Int)≤1∧(1:Int)<((3:Nat):Int),0=0,0=0,InR .i64 2,(0:Int)≤2∧(2:Int)<((3:Nat):Int),0=0,0=0,0≤(j:Int)∧(j:Int)<(v6.length:Int),g6=g6,g6=g6,((rowI v6).drop (0+(Int.toNat (j:Int))*1)).take 1=[.int .i64 e],0≤(j:Int)∧(j:Int)<(v4.length:Int),g4=g4,((0+(Int.toNat (j:Int))*1)+1)≤(rowI v4).length,g4=g4,(0:Int)≤1∧(1:Int)<((2:Nat):Int),InR .i64 ((j:Int) - 6),(decide (((j:Int) - 6)≥0))=true,(0:Int)≤1∧(1:Int)<((3:Nat):Int),0=0,0=0,0≤((j:Int) - 6)∧((j:Int) - 6)<(v4.length:Int),g4=g4,g4=g4,((Qu (rowI v4) (0+(Int.toNat (j:Int))*1) [.int .i64 e]).drop (0+(Int.toNat ((j:Int) - 6))*1)).take 1=[.int .i64 e2],(decide (e2<1152921504606846976))=false,InR .i64 ((j:Int)+1)])
 (hg:G Try.prog E (Ya Try.prog) ⟨([.rsl [.int .i64 1,.int .i64 200,.int .i64 6,.int .i64 1000] 0 2,.int .i64 7,J,J,J,J,.int .i64 1007,.sl 0 0 0 3 1,J,.int .i64 1]++jj 43 ([.int .i64 (((List.replicate (Int.toNat (1008:Int)) (1152921504606846976:Int)).length:Nat):Int),.int .i64 ((j:Int)+1)]++Js 163)),[⟨true,0,1,false,[.sl 2 0 0 ((List.replicate (Int.toNat (1008:Int)) (1152921504606846976:Int)).length) 1,.sl 4 g4 0 v4.length 1,.sl 6 g6 0 v6.length 1],true⟩,⟨false,1,1,true,[],false⟩,⟨true,0,1,true,(rowI (List.replicate (Int.toNat (1008:Int)) (1152921504606846976:Int))),true⟩,⟨false,1,1,true,[],false⟩,⟨true,g4,1,true,(Qu (rowI v4) (0+(Int.toNat (j:Int))*1) [.int .i64 e]),true⟩,⟨false,1,1,true,[],false⟩,⟨true,g6,1,true,(rowI v6),true⟩]⟩):G Try.prog E (Ya Try.prog) (XY v6 j v4 g6 g4) :=
 Qe (n:=400) (ds:=[]) (cs:=[]) (live:=[0,1,6,7,9,53,54]) (m:=7) (evs:=[.b true,.auto,.auto,.ld (.int .i64 e),.b true,.auto,.ld (.int .i64 e2),.b false,.stop]) (obs:=_) hE.2.1 (hE.nogh _) Qg (by kernel_rfl) ho hg
theorem p186_1002_2 (v6:List Int) (j:Nat) (v4:List Int) (g6:Nat) (g4:Nat) (e:Int) (e1:Int) {E:Env} {rv:AV} (hE:Qh Try.prog 186 rv E) (ho:AllP [(decide ((j:Int)<(((List.replicate (Int.toNat (1008:Int)) (1152921504606846976:Int)).length:Nat):Int)))=true,(0:Int)≤1∧(1:Int)<((3:Nat):Int),0=0,0=0,InR .i64 2,(0:Int)≤2∧(2:Int)<((3:Nat):Int),0=0,0=0,0≤(j:Int)∧(j:Int)<(v6.length:Int),g6=g6,g6=g6,((rowI v6).drop (0+(Int.toNat (j:Int))*1)).take 1=[.int .i64 e],0≤(j:Int)∧(j:Int)<(v4.length:Int),g4=g4,((0+(Int.toNat (j:Int))*1)+1)≤(rowI v4).length,g4=g4,(0:Int)≤1∧(1:Int)<((2:Nat):Int),InR .i64 ((j:Int) - 6),(decide (((j:Int) - 6)≥0))=false,false=false,InR .i64 ((j:Int)+1)])
 (hg:G Try.prog E (Ya Try.prog) ⟨([.rsl VK 0 2,.int .i64 7,J,J,J,J,.int .i64 1007,.sl 0 0 0 3 1,J,.int .i64 1]++jj 43 ([.int .i64 (((List.replicate (Int.toNat (1008:Int)) (1152921504606846976:Int)).length:Nat):Int),.int .i64 ((j:Int)+1)]++Js 163)),[⟨true,0,1,false,[.sl 2 0 0 ((List.replicate (Int.toNat (1008:Int)) (1152921504606846976:Int)).length) 1,.sl 4 g4 0 v4.length 1,.sl 6 g6 0 v6.length 1],true⟩,⟨false,1,1,true,[],false⟩,⟨true,0,1,true,(rowI (List.replicate (Int.toNat (1008:Int)) (1152921504606846976:Int))),true⟩,⟨false,1,1,true,[],false⟩,⟨true,g4,1,true,(Qu (rowI v4) (0+(Int.toNat (j:Int))*1) [.int .i64 e]),true⟩,⟨false,1,1,true,[],false⟩,⟨true,g6,1,true,(rowI v6),true⟩]⟩):G Try.prog E (Ya Try.prog) (XY v6 j v4 g6 g4) :=
 Qe (n:=400) (ds:=[]) (cs:=[]) (live:=[0,1,6,7,9,53,54]) (m:=7) (evs:=[.b true,.auto,.auto,.ld (.int .i64 e),.b false,.b false,.stop]) (obs:=_) hE.2.1 (hE.nogh _) Qg (by kernel_rfl) ho hg
theorem p186_1002_3 (v6:List Int) (j:Nat) (v4:List Int) (g6:Nat) (g4:Nat) {E:Env} {rv:AV} (hE:Qh Try.prog 186 rv E) (ho:AllP [(decide ((j:Int)<(((List.replicate (Int.toNat (1008:Int)) (1152921504606846976:Int)).length:Nat):Int)))=false,InR .i64 0,true=true,(0:Int)≤0∧(0:Int)<((3:Nat):Int),0=0,0=0,0=0])
 (hg:G Try.prog E (qn Try.prog) ⟨([.rsl VK 0 2,.int .i64 7,J,J,J,J,.int .i64 1007,.sl 0 0 0 3 1,J,.int .i64 0]++jj 43 ([.int .i64 (((List.replicate (Int.toNat (1008:Int)) (1152921504606846976:Int)).length:Nat):Int),.int .i64 0]++Js 163)),[⟨true,0,1,false,[.sl 2 0 0 ((List.replicate (Int.toNat (1008:Int)) (1152921504606846976:Int)).length) 1,.sl 4 g4 0 v4.length 1,.sl 6 g6 0 v6.length 1],true⟩,⟨false,1,1,true,[],false⟩,⟨true,0,1,true,(rowI (List.replicate (Int.toNat (1008:Int)) (1152921504606846976:Int))),true⟩,⟨false,1,1,true,[],false⟩,⟨true,g4,1,true,(rowI v4),true⟩,⟨false,1,1,true,[],false⟩,⟨true,g6,1,true,(rowI v6),true⟩]⟩):G Try.prog E (Ya Try.prog) (XY v6 j v4 g6 g4) :=
 Qe (n:=400) (ds:=[]) (cs:=[]) (live:=[0,1,6,7,9,53,54]) (m:=7) (evs:=[.b false,.b true,.stop]) (obs:=_) hE.2.1 (hE.nogh _) Qg (by kernel_rfl) ho hg
theorem f186W1002 (v6:List Int) (j:Nat) (v4:List Int) {E:Env} {rv:((List Int) × Int)} (hE:Qh Try.prog 186 (.tup [.rsl (rowI rv.1) 0 rv.1.length,.int .i64 rv.2]) E)
 (h:(((j:Int)<(((List.replicate (Int.toNat (1008:Int)) (1152921504606846976:Int)).length:Nat):Int)→(∃ e:Int,v6[j]?=some e∧(∃ e1:Int,v4[j]?=some e1∧((I6 ((j:Int) - 6))∧((((j:Int) - 6)≥0→(0≤((j:Int) - 6)∧(∃ e2:Int,(v4.set j e)[Int.toNat ((j:Int) - 6)]?=some e2∧((e2<1152921504606846976→(∃ e3:Int,(v4.set j e)[j]?=some e3∧((I6 (e2+1000))∧((I6 ((j:Int)+1))∧Vp E v6 (j+1) ((v4.set j e).set j (iMin e3 (e2+1000)))))))∧(¬ (e2<1152921504606846976)→((I6 ((j:Int)+1))∧Vp E v6 (j+1) (v4.set j e)))))))∧(¬ (((j:Int) - 6)≥0)→((I6 ((j:Int)+1))∧Vp E v6 (j+1) (v4.set j e))))))))∧(¬ ((j:Int)<(((List.replicate (Int.toNat (1008:Int)) (1152921504606846976:Int)).length:Nat):Int))→Qbc E v4 v6 0 (List.replicate (Int.toNat (1008:Int)) (1152921504606846976:Int))))):Vp E v6 j v4:=by
 intro g6 g4
 rcases bft (decide ((j:Int)<(((List.replicate (Int.toNat (1008:Int)) (1152921504606846976:Int)).length:Nat):Int))) with hc0 | hc0
 · have h:=h.1 (odt hc0)
   obtain ⟨e,h1,h⟩:=h
   obtain ⟨e1,h2,h⟩:=h
   obtain ⟨q19_1,h⟩:=h
   rcases bft (decide (((j:Int) - 6)≥0)) with hc1 | hc1
   · have h:=h.1 (odt hc1)
     obtain ⟨h4,h⟩:=h
     obtain ⟨e2,h3,h⟩:=h
     rcases bft (decide (e2<1152921504606846976)) with hc2 | hc2
     · have h:=h.1 (odt hc2)
       obtain ⟨e3,h5,h⟩:=h
       obtain ⟨q49_3,h⟩:=h
       obtain ⟨q54_3,h⟩:=h
       refine p186_1002_0 v6 j v4 g6 g4 e e1 e2 e3 hE ⟨hc0,(⟨by decide,by decide⟩),rfl,rfl,(⟨by decide,by decide⟩),(⟨by decide,by decide⟩),rfl,rfl,(Qs h1),rfl,rfl,(rp cI 1 0 1 h1),(Qs h2),rfl,(rf cI 1 0 1 h2),rfl,(⟨by decide,by decide⟩),q19_1,hc1,(⟨by decide,by decide⟩),rfl,rfl,(by have hx:=Qj h4 h3; simpa using hx),rfl,rfl,(by rw [(show Qu (rowI v4) (0+(Int.toNat (j:Int))*1) [.int .i64 e]=rowI (v4.set j e) from Qz cI (s:=1) (k:=0) (fun _=>rfl) h2 rfl (by first | decide | simp))]; exact rp cI 1 0 1 h3),hc2,(⟨by decide,by decide⟩),rfl,rfl,(⟨by decide,by decide⟩),rfl,rfl,(by have hx:=Qs h5; simpa using hx),rfl,rfl,(by rw [(show Qu (rowI v4) (0+(Int.toNat (j:Int))*1) [.int .i64 e]=rowI (v4.set j e) from Qz cI (s:=1) (k:=0) (fun _=>rfl) h2 rfl (by first | decide | simp))]; exact rp cI 1 0 1 h5),(⟨by decide,by decide⟩),rfl,rfl,(by have hx:=Qj h4 h3; simpa using hx),rfl,rfl,(by rw [(show Qu (rowI v4) (0+(Int.toNat (j:Int))*1) [.int .i64 e]=rowI (v4.set j e) from Qz cI (s:=1) (k:=0) (fun _=>rfl) h2 rfl (by first | decide | simp))]; exact rp cI 1 0 1 h3),(⟨by decide,by decide⟩),q49_3,(by have hx:=Qs h5; simpa using hx),rfl,(by rw [(show Qu (rowI v4) (0+(Int.toNat (j:Int))*1) [.int .i64 e]=rowI (v4.set j e) from Qz cI (s:=1) (k:=0) (fun _=>rfl) h2 rfl (by first | decide | simp))]; exact rf cI 1 0 1 h5),rfl,q54_3,trivial⟩ ?_
       have h:=(h g6 g4)
       simp only [XY,List.length_set] at h
       rw [(show Qu (rowI v4) (0+(Int.toNat (j:Int))*1) [.int .i64 e]=rowI (v4.set j e) from Qz cI (s:=1) (k:=0) (fun _=>rfl) h2 rfl (by first | decide | simp))]; rw [(show Qu (rowI (v4.set j e)) (0+(Int.toNat (j:Int))*1) [.int .i64 (iMin e3 (e2+1000))]=rowI ((v4.set j e).set j (iMin e3 (e2+1000))) from Qz cI (s:=1) (k:=0) (fun _=>rfl) h5 rfl (by first | decide | simp))]
       exact h
     · have h:=h.2 (odf hc2)
       obtain ⟨q30_3,h⟩:=h
       refine p186_1002_1 v6 j v4 g6 g4 e e1 e2 hE ⟨hc0,(⟨by decide,by decide⟩),rfl,rfl,(⟨by decide,by decide⟩),(⟨by decide,by decide⟩),rfl,rfl,(Qs h1),rfl,rfl,(rp cI 1 0 1 h1),(Qs h2),rfl,(rf cI 1 0 1 h2),rfl,(⟨by decide,by decide⟩),q19_1,hc1,(⟨by decide,by decide⟩),rfl,rfl,(by have hx:=Qj h4 h3; simpa using hx),rfl,rfl,(by rw [(show Qu (rowI v4) (0+(Int.toNat (j:Int))*1) [.int .i64 e]=rowI (v4.set j e) from Qz cI (s:=1) (k:=0) (fun _=>rfl) h2 rfl (by first | decide | simp))]; exact rp cI 1 0 1 h3),hc2,q30_3,trivial⟩ ?_
       have h:=(h g6 g4)
       simp only [XY,List.length_set] at h
       rw [(show Qu (rowI v4) (0+(Int.toNat (j:Int))*1) [.int .i64 e]=rowI (v4.set j e) from Qz cI (s:=1) (k:=0) (fun _=>rfl) h2 rfl (by first | decide | simp))]
       exact h
   · have h:=h.2 (odf hc1)
     obtain ⟨q22_2,h⟩:=h
     refine p186_1002_2 v6 j v4 g6 g4 e e1 hE ⟨hc0,(⟨by decide,by decide⟩),rfl,rfl,(⟨by decide,by decide⟩),(⟨by decide,by decide⟩),rfl,rfl,(Qs h1),rfl,rfl,(rp cI 1 0 1 h1),(Qs h2),rfl,(rf cI 1 0 1 h2),rfl,(⟨by decide,by decide⟩),q19_1,hc1,rfl,q22_2,trivial⟩ ?_
     have h:=(h g6 g4)
     simp only [XY,List.length_set] at h
     rw [(show Qu (rowI v4) (0+(Int.toNat (j:Int))*1) [.int .i64 e]=rowI (v4.set j e) from Qz cI (s:=1) (k:=0) (fun _=>rfl) h2 rfl (by first | decide | simp))]
     exact h
 · have h:=h.2 (odf hc0)
   exact p186_1002_3 v6 j v4 g6 g4 hE ⟨hc0,(⟨by decide,by decide⟩),rfl,(⟨by decide,by decide⟩),rfl,rfl,rfl,trivial⟩ (h g4 g6 0)
theorem p186_1005_0 (price:Int) (tokens:Int) (left:Int) (v2:List Int) (v4:List Int) (v6:List Int) (v7_0:Nat) (v7_1:Nat) (g2:Nat) (g4:Nat) (g6:Nat) (e:Int) {E:Env} {rv:AV} (hE:Qh Try.prog 186 rv E) (ho:AllP [(decide (tokens≥6))=true,(0:Int)≤1∧(1:Int)<((3:Nat):Int),0=0,0=0,InR .i64 (tokens - 6),0≤(tokens - 6)∧(tokens - 6)<(v4.length:Int),g4=g4,g4=g4,((rowI v4).drop (0+(Int.toNat (tokens - 6))*1)).take 1=[.int .i64 e],(decide (e<1152921504606846976))=true,(0:Int)≤1∧(1:Int)<((3:Nat):Int),0=0,0=0,InR .i64 (tokens - 6),0≤(tokens - 6)∧(tokens - 6)<(v4.length:Int),g4=g4,g4=g4,((rowI v4).drop (0+(Int.toNat (tokens - 6))*1)).take 1=[.int .i64 e],InR .i64 (e+1000),((e+1000) == left)=true,InR .i64 (tokens - 6),(0:Int)≤1∧(1:Int)<((2:Nat):Int),0=0,0=0,InR .i64 ((v7_1:Int)+1),(0:Int)≤1∧(1:Int)<((2:Nat):Int),0=0,2≤2,0=0,(0:Int)≤1∧(1:Int)<((3:Nat):Int),0=0,0=0,0≤(tokens - 6)∧(tokens - 6)<(v4.length:Int),g4=g4,g4=g4,((rowI v4).drop (0+(Int.toNat (tokens - 6))*1)).take 1=[.int .i64 e]])
 (hg:G Try.prog E (XZ Try.prog) ⟨([J,J,J,J,.sl 7 0 0 2 1,.int .i64 price,J,.sl 0 0 0 3 1,J,J,J,J,.int .i64 (tokens - 6),J,.int .i64 1,.ptr 9 0 0,.int .i64 e]++jj 133 z186_4),[⟨true,0,1,false,(Qau g2 v2 g4 v4 g6 v6),true⟩,⟨false,1,1,true,[],false⟩,⟨true,g2,1,true,(rowI v2),true⟩,⟨false,1,1,true,[],false⟩,⟨true,g4,1,true,(rowI v4),true⟩,⟨false,1,1,true,[],false⟩,⟨true,g6,1,true,(rowI v6),true⟩,⟨true,0,1,true,[.int .i64 (v7_0:Int),.int .i64 ((v7_1:Int)+1)],true⟩,⟨true,0,1,true,[.int .i64 1,.int .i64 200],false⟩,⟨true,0,1,true,[.int .i64 6,.int .i64 1000],false⟩]⟩):G Try.prog E (XZ Try.prog) (Wb price tokens left v2 v4 v6 v7_0 v7_1 g2 g4 g6) :=
 Qe (n:=400) (ds:=[]) (cs:=[]) (live:=[4,5,7,12,14,15,16,150,151,152]) (m:=10) (evs:=[.b true,.auto,.auto,.ld (.int .i64 e),.b true,.auto,.auto,.ld (.int .i64 e),.b true,.auto,.auto,.auto,.ld (.int .i64 e),.stop]) (obs:=_) hE.2.1 (hE.nogh _) Qg (by kernel_rfl) ho hg
theorem p186_1005_1 (price:Int) (tokens:Int) (left:Int) (v2:List Int) (v4:List Int) (v6:List Int) (v7_0:Nat) (v7_1:Nat) (g2:Nat) (g4:Nat) (g6:Nat) (e:Int) {E:Env} {res:AV} (hE:Qh Try.prog 186 res E) (ho:AllP [(decide (tokens≥6))=true,(0:Int)≤1∧(1:Int)<((3:Nat):Int),0=0,0=0,InR .i64 (tokens - 6),0≤(tokens - 6)∧(tokens - 6)<(v4.length:Int),g4=g4,g4=g4,((rowI v4).drop (0+(Int.toNat (tokens - 6))*1)).take 1=[.int .i64 e],(decide (e<1152921504606846976))=true,(0:Int)≤1∧(1:Int)<((3:Nat):Int),0=0,0=0,InR .i64 (tokens - 6),0≤(tokens - 6)∧(tokens - 6)<(v4.length:Int),g4=g4,g4=g4,((rowI v4).drop (0+(Int.toNat (tokens - 6))*1)).take 1=[.int .i64 e],InR .i64 (e+1000),((e+1000) == left)=false,InR .i64 2,false=false,0=0])
 (hr:AvLe (.tup [.rsl [.int .i64 (v7_0:Int),.int .i64 (v7_1:Int)] 0 2,.int .i64 price]) res):G Try.prog E (XZ Try.prog) (Wb price tokens left v2 v4 v6 v7_0 v7_1 g2 g4 g6) :=
 Qf (n:=400) (evs:=[.b true,.auto,.auto,.ld (.int .i64 e),.b true,.auto,.auto,.ld (.int .i64 e),.b false,.b false]) (obs:=_) hE Try.func186 Qg (by kernel_rfl) ho hr
theorem p186_1005_2 (price:Int) (tokens:Int) (left:Int) (v2:List Int) (v4:List Int) (v6:List Int) (v7_0:Nat) (v7_1:Nat) (g2:Nat) (g4:Nat) (g6:Nat) (e:Int) {E:Env} {res:AV} (hE:Qh Try.prog 186 res E) (ho:AllP [(decide (tokens≥6))=true,(0:Int)≤1∧(1:Int)<((3:Nat):Int),0=0,0=0,InR .i64 (tokens - 6),0≤(tokens - 6)∧(tokens - 6)<(v4.length:Int),g4=g4,g4=g4,((rowI v4).drop (0+(Int.toNat (tokens - 6))*1)).take 1=[.int .i64 e],(decide (e<1152921504606846976))=false,false=false,InR .i64 2,false=false,0=0])
 (hr:AvLe (.tup [.rsl [.int .i64 (v7_0:Int),.int .i64 (v7_1:Int)] 0 2,.int .i64 price]) res):G Try.prog E (XZ Try.prog) (Wb price tokens left v2 v4 v6 v7_0 v7_1 g2 g4 g6) :=
 Qf (n:=400) (evs:=[.b true,.auto,.auto,.ld (.int .i64 e),.b false,.b false,.b false]) (obs:=_) hE Try.func186 Qg (by kernel_rfl) ho hr
theorem p186_1005_3 (price:Int) (tokens:Int) (left:Int) (v2:List Int) (v4:List Int) (v6:List Int) (v7_0:Nat) (v7_1:Nat) (g2:Nat) (g4:Nat) (g6:Nat) {E:Env} {res:AV} (hE:Qh Try.prog 186 res E) (ho:AllP [(decide (tokens≥6))=false,false=false,false=false,InR .i64 2,false=false,0=0])
 (hr:AvLe (.tup [.rsl [.int .i64 (v7_0:Int),.int .i64 (v7_1:Int)] 0 2,.int .i64 price]) res):G Try.prog E (XZ Try.prog) (Wb price tokens left v2 v4 v6 v7_0 v7_1 g2 g4 g6) :=
 Qf (n:=400) (evs:=[.b false,.b false,.b false,.b false]) (obs:=_) hE Try.func186 Qg (by kernel_rfl) ho hr
theorem f186W1005 (price:Int) (tokens:Int) (left:Int) (v2:List Int) (v4:List Int) (v6:List Int) (v7_0:Nat) (v7_1:Nat) {E:Env} {rv:((List Int) × Int)} (hE:Qh Try.prog 186 (.tup [.rsl (rowI rv.1) 0 rv.1.length,.int .i64 rv.2]) E)
 (h:((tokens≥6→((I6 (tokens - 6))∧(0≤(tokens - 6)∧(∃ e:Int,v4[Int.toNat (tokens - 6)]?=some e∧((e<1152921504606846976→((I6 (tokens - 6))∧((I6 (e+1000))∧(((e+1000)=left→((I6 (tokens - 6))∧((I6 ((v7_1:Int)+1))∧YL E price (tokens - 6) e v2 v4 v6 v7_0 (v7_1+1))))∧(¬ ((e+1000)=left)→rv=([(v7_0:Int),(v7_1:Int)],price))))))∧(¬ (e<1152921504606846976)→rv=([(v7_0:Int),(v7_1:Int)],price)))))))∧(¬ (tokens≥6)→rv=([(v7_0:Int),(v7_1:Int)],price)))):YL E price tokens left v2 v4 v6 v7_0 v7_1:=by
 intro g2 g4 g6
 rcases bft (decide (tokens≥6)) with hc0 | hc0
 · have h:=h.1 (odt hc0)
   obtain ⟨q4_1,h⟩:=h
   obtain ⟨h2,h⟩:=h
   obtain ⟨e,h1,h⟩:=h
   rcases bft (decide (e<1152921504606846976)) with hc1 | hc1
   · have h:=h.1 (odt hc1)
     obtain ⟨q14_2,h⟩:=h
     obtain ⟨q19_2,h⟩:=h
     rcases bft ((e+1000) == left) with hc2 | hc2
     · have h:=h.1 (eq_of_beq hc2)
       obtain ⟨q21_3,h⟩:=h
       obtain ⟨q25_3,h⟩:=h
       exact p186_1005_0 price tokens left v2 v4 v6 v7_0 v7_1 g2 g4 g6 e hE ⟨hc0,(⟨by decide,by decide⟩),rfl,rfl,q4_1,(Qj h2 h1),rfl,rfl,(rp cI 1 0 1 h1),hc1,(⟨by decide,by decide⟩),rfl,rfl,q14_2,(Qj h2 h1),rfl,rfl,(rp cI 1 0 1 h1),q19_2,hc2,q21_3,(⟨by decide,by decide⟩),rfl,rfl,q25_3,(⟨by decide,by decide⟩),rfl,(by decide),rfl,(⟨by decide,by decide⟩),rfl,rfl,(Qj h2 h1),rfl,rfl,(rp cI 1 0 1 h1),trivial⟩ (h g2 g4 g6)
     · have h:=h.2 (ne_of_beq_false hc2)
       exact p186_1005_1 price tokens left v2 v4 v6 v7_0 v7_1 g2 g4 g6 e hE ⟨hc0,(⟨by decide,by decide⟩),rfl,rfl,q4_1,(Qj h2 h1),rfl,rfl,(rp cI 1 0 1 h1),hc1,(⟨by decide,by decide⟩),rfl,rfl,q14_2,(Qj h2 h1),rfl,rfl,(rp cI 1 0 1 h1),q19_2,hc2,(⟨by decide,by decide⟩),rfl,rfl,trivial⟩ (AvLe.of_eq (by rw [h]; try rfl))
   · have h:=h.2 (odf hc1)
     exact p186_1005_2 price tokens left v2 v4 v6 v7_0 v7_1 g2 g4 g6 e hE ⟨hc0,(⟨by decide,by decide⟩),rfl,rfl,q4_1,(Qj h2 h1),rfl,rfl,(rp cI 1 0 1 h1),hc1,rfl,(⟨by decide,by decide⟩),rfl,rfl,trivial⟩ (AvLe.of_eq (by rw [h]; try rfl))
 · have h:=h.2 (odf hc0)
   exact p186_1005_3 price tokens left v2 v4 v6 v7_0 v7_1 g2 g4 g6 hE ⟨hc0,rfl,rfl,(⟨by decide,by decide⟩),rfl,rfl,trivial⟩ (AvLe.of_eq (by rw [h]; try rfl))
theorem p186_2_0 (v4:List Int) (v6:List Int) (j:Nat) (v2:List Int) (g4:Nat) (g6:Nat) (g2:Nat) (e:Int) (e1:Int) (e2:Int) (e3:Int) {E:Env} {rv:AV} (hE:Qh Try.prog 186 rv E) (ho:AllP [(decide ((j:Int)<(((List.replicate (Int.toNat (1008:Int)) (1152921504606846976:Int)).length:Nat):Int)))=true,(0:Int)≤0∧(0:Int)<((3:Nat):Int),0=0,0=0,InR .i64 1,(0:Int)≤1∧(1:Int)<((3:Nat):Int),0=0,0=0,0≤(j:Int)∧(j:Int)<(v4.length:Int),g4=g4,g4=g4,((rowI v4).drop (0+(Int.toNat (j:Int))*1)).take 1=[.int .i64 e],0≤(j:Int)∧(j:Int)<(v2.length:Int),g2=g2,((0+(Int.toNat (j:Int))*1)+1)≤(rowI v2).length,g2=g2,(0:Int)≤0∧(0:Int)<((2:Nat):Int),InR .i64 ((j:Int) - 1),(decide (((j:Int) - 1)≥0))=true,(0:Int)≤0∧(0:Int)<((3:Nat):Int),0=0,0=0,0≤((j:Int) - 1)∧((j:Int) - 1)<(v2.length:Int),g2=g2,g2=g2,((Qu (rowI v2) (0+(Int.toNat (j:Int))*1) [.int .i64 e]).drop (0+(Int.toNat ((j:Int) - 1))*1)).take 1=[.int .i64 e2],(decide (e2<1152921504606846976))=true,(0:Int)≤0∧(0:Int)<((3:Nat):Int),0=0,0=0,(0:Int)≤0∧(0:Int)<((3:Nat):Int),0=0,0=0,0≤(j:Int)∧(j:Int)<(v2.length:Int),g2=g2,g2=g2,((Qu (rowI v2) (0+(Int.toNat (j:Int))*1) [.int .i64 e]).drop (0+(Int.toNat (j:Int))*1)).take 1=[.int .i64 e3],(0:Int)≤0∧(0:Int)<((3:Nat):Int),0=0,0=0,0≤((j:Int) - 1)∧((j:Int) - 1)<(v2.length:Int),g2=g2,g2=g2,((Qu (rowI v2) (0+(Int.toNat (j:Int))*1) [.int .i64 e]).drop (0+(Int.toNat ((j:Int) - 1))*1)).take 1=[.int .i64 e2],(0:Int)≤0∧(0:Int)<((2:Nat):Int),InR .i64 (e2+200),0≤(j:Int)∧(j:Int)<(v2.length:Int),g2=g2,((0+(Int.toNat (j:Int))*1)+1)≤(Qu (rowI v2) (0+(Int.toNat (j:Int))*1) [.int .i64 e]).length,g2=g2,InR .i64 ((j:Int)+1)])
 (hg:G Try.prog E (qn Try.prog) ⟨([.rsl [.int .i64 1,.int .i64 200,.int .i64 6,.int .i64 1000] 0 2,.int .i64 7,J,J,J,J,.int .i64 1007,.sl 0 0 0 3 1,J,.int .i64 0]++jj 43 ([.int .i64 (((List.replicate (Int.toNat (1008:Int)) (1152921504606846976:Int)).length:Nat):Int),.int .i64 ((j:Int)+1)]++Js 163)),[⟨true,0,1,false,[.sl 2 g2 0 v2.length 1,.sl 4 g4 0 v4.length 1,.sl 6 g6 0 v6.length 1],true⟩,⟨false,1,1,true,[],false⟩,⟨true,g2,1,true,(Qu (Qu (rowI v2) (0+(Int.toNat (j:Int))*1) [.int .i64 e]) (0+(Int.toNat (j:Int))*1) [.int .i64 (iMin e3 (e2+200))]),true⟩,⟨false,1,1,true,[],false⟩,⟨true,g4,1,true,(rowI v4),true⟩,⟨false,1,1,true,[],false⟩,⟨true,g6,1,true,(rowI v6),true⟩]⟩):G Try.prog E (qn Try.prog) (yi v4 v6 j v2 g4 g6 g2) :=
 Qe (n:=400) (ds:=[]) (cs:=[]) (live:=[0,1,6,7,9,53,54]) (m:=7) (evs:=[.b true,.auto,.auto,.ld (.int .i64 e),.b true,.auto,.ld (.int .i64 e2),.b true,.auto,.auto,.ld (.int .i64 e3),.auto,.ld (.int .i64 e2),.stop]) (obs:=_) hE.2.1 (hE.nogh _) Qg (by kernel_rfl) ho hg
theorem p186_2_1 (v4:List Int) (v6:List Int) (j:Nat) (v2:List Int) (g4:Nat) (g6:Nat) (g2:Nat) (e:Int) (e1:Int) (e2:Int) {E:Env} {rv:AV} (hE:Qh Try.prog 186 rv E) (ho:AllP [(decide ((j:Int)<(((List.replicate (Int.toNat (1008:Int)) (1152921504606846976:Int)).length:Nat):Int)))=true,(0:Int)≤0∧(0:Int)<((3:Nat):Int),0=0,0=0,InR .i64 1,(0:Int)≤1∧(1:Int)<((3:Nat):Int),0=0,0=0,0≤(j:Int)∧(j:Int)<(v4.length:Int),g4=g4,g4=g4,((rowI v4).drop (0+(Int.toNat (j:Int))*1)).take 1=[.int .i64 e],0≤(j:Int)∧(j:Int)<(v2.length:Int),g2=g2,((0+(Int.toNat (j:Int))*1)+1)≤(rowI v2).length,g2=g2,(0:Int)≤0∧(0:Int)<((2:Nat):Int),InR .i64 ((j:Int) - 1),(decide (((j:Int) - 1)≥0))=true,(0:Int)≤0∧(0:Int)<((3:Nat):Int),0=0,0=0,0≤((j:Int) - 1)∧((j:Int) - 1)<(v2.length:Int),g2=g2,g2=g2,((Qu (rowI v2) (0+(Int.toNat (j:Int))*1) [.int .i64 e]).drop (0+(Int.toNat ((j:Int) - 1))*1)).take 1=[.int .i64 e2],(decide (e2<1152921504606846976))=false,InR .i64 ((j:Int)+1)])
 (hg:G Try.prog E (qn Try.prog) ⟨([.rsl [.int .i64 1,.int .i64 200,.int .i64 6,.int .i64 1000] 0 2,.int .i64 7,J,J,J,J,.int .i64 1007,.sl 0 0 0 3 1,J,.int .i64 0]++jj 43 ([.int .i64 (((List.replicate (Int.toNat (1008:Int)) (1152921504606846976:Int)).length:Nat):Int),.int .i64 ((j:Int)+1)]++Js 163)),[⟨true,0,1,false,[.sl 2 g2 0 v2.length 1,.sl 4 g4 0 v4.length 1,.sl 6 g6 0 v6.length 1],true⟩,⟨false,1,1,true,[],false⟩,⟨true,g2,1,true,(Qu (rowI v2) (0+(Int.toNat (j:Int))*1) [.int .i64 e]),true⟩,⟨false,1,1,true,[],false⟩,⟨true,g4,1,true,(rowI v4),true⟩,⟨false,1,1,true,[],false⟩,⟨true,g6,1,true,(rowI v6),true⟩]⟩):G Try.prog E (qn Try.prog) (yi v4 v6 j v2 g4 g6 g2) :=
 Qe (n:=400) (ds:=[]) (cs:=[]) (live:=[0,1,6,7,9,53,54]) (m:=7) (evs:=[.b true,.auto,.auto,.ld (.int .i64 e),.b true,.auto,.ld (.int .i64 e2),.b false,.stop]) (obs:=_) hE.2.1 (hE.nogh _) Qg (by kernel_rfl) ho hg
theorem p186_2_2 (v4:List Int) (v6:List Int) (j:Nat) (v2:List Int) (g4:Nat) (g6:Nat) (g2:Nat) (e:Int) (e1:Int) {E:Env} {rv:AV} (hE:Qh Try.prog 186 rv E) (ho:AllP [(decide ((j:Int)<(((List.replicate (Int.toNat (1008:Int)) (1152921504606846976:Int)).length:Nat):Int)))=true,(0:Int)≤0∧(0:Int)<((3:Nat):Int),0=0,0=0,InR .i64 1,(0:Int)≤1∧(1:Int)<((3:Nat):Int),0=0,0=0,0≤(j:Int)∧(j:Int)<(v4.length:Int),g4=g4,g4=g4,((rowI v4).drop (0+(Int.toNat (j:Int))*1)).take 1=[.int .i64 e],0≤(j:Int)∧(j:Int)<(v2.length:Int),g2=g2,((0+(Int.toNat (j:Int))*1)+1)≤(rowI v2).length,g2=g2,(0:Int)≤0∧(0:Int)<((2:Nat):Int),InR .i64 ((j:Int) - 1),(decide (((j:Int) - 1)≥0))=false,false=false,InR .i64 ((j:Int)+1)])
 (hg:G Try.prog E (qn Try.prog) ⟨([.rsl VK 0 2,.int .i64 7,J,J,J,J,.int .i64 1007,.sl 0 0 0 3 1,J,.int .i64 0]++jj 43 ([.int .i64 (((List.replicate (Int.toNat (1008:Int)) (1152921504606846976:Int)).length:Nat):Int),.int .i64 ((j:Int)+1)]++Js 163)),[⟨true,0,1,false,(Qau g2 v2 g4 v4 g6 v6),true⟩,⟨false,1,1,true,[],false⟩,⟨true,g2,1,true,(Qu (rowI v2) (0+(Int.toNat (j:Int))*1) [.int .i64 e]),true⟩,⟨false,1,1,true,[],false⟩,⟨true,g4,1,true,(rowI v4),true⟩,⟨false,1,1,true,[],false⟩,⟨true,g6,1,true,(rowI v6),true⟩]⟩):G Try.prog E (qn Try.prog) (yi v4 v6 j v2 g4 g6 g2) :=
 Qe (n:=400) (ds:=[]) (cs:=[]) (live:=[0,1,6,7,9,53,54]) (m:=7) (evs:=[.b true,.auto,.auto,.ld (.int .i64 e),.b false,.b false,.stop]) (obs:=_) hE.2.1 (hE.nogh _) Qg (by kernel_rfl) ho hg
theorem p186_2_3 (v4:List Int) (v6:List Int) (j:Nat) (v2:List Int) (g4:Nat) (g6:Nat) (g2:Nat) {E:Env} {rv:AV} (hE:Qh Try.prog 186 rv E) (ho:AllP [(decide ((j:Int)<(((List.replicate (Int.toNat (1008:Int)) (1152921504606846976:Int)).length:Nat):Int)))=false,InR .i64 (-1),false=false])
 (hg:G Try.prog E (yj Try.prog) ⟨([.rsl VK 0 2]++jj 5 ([.int .i64 1007,.sl 0 0 0 3 1,J,J,J,J,.int .i64 7,.int .i64 7]++Js 204)),(z186_3 g2 v2 g4 v4 g6 v6)⟩):G Try.prog E (qn Try.prog) (yi v4 v6 j v2 g4 g6 g2) :=
 Qe (n:=400) (ds:=[]) (cs:=[]) (live:=[0,6,7,12,13]) (m:=7) (evs:=[.b false,.b false,.stop]) (obs:=_) hE.2.1 (hE.nogh _) Qg (by kernel_rfl) ho hg
theorem f186W2 (v4:List Int) (v6:List Int) (j:Nat) (v2:List Int) {E:Env} {rv:((List Int) × Int)} (hE:Qh Try.prog 186 (.tup [.rsl (rowI rv.1) 0 rv.1.length,.int .i64 rv.2]) E)
 (h:(((j:Int)<(((List.replicate (Int.toNat (1008:Int)) (1152921504606846976:Int)).length:Nat):Int)→(∃ e:Int,v4[j]?=some e∧(∃ e1:Int,v2[j]?=some e1∧((I6 ((j:Int) - 1))∧((((j:Int) - 1)≥0→(0≤((j:Int) - 1)∧(∃ e2:Int,(v2.set j e)[Int.toNat ((j:Int) - 1)]?=some e2∧((e2<1152921504606846976→(∃ e3:Int,(v2.set j e)[j]?=some e3∧((I6 (e2+200))∧((I6 ((j:Int)+1))∧Qbc E v4 v6 (j+1) ((v2.set j e).set j (iMin e3 (e2+200)))))))∧(¬ (e2<1152921504606846976)→((I6 ((j:Int)+1))∧Qbc E v4 v6 (j+1) (v2.set j e)))))))∧(¬ (((j:Int) - 1)≥0)→((I6 ((j:Int)+1))∧Qbc E v4 v6 (j+1) (v2.set j e))))))))∧(¬ ((j:Int)<(((List.replicate (Int.toNat (1008:Int)) (1152921504606846976:Int)).length:Nat):Int))→f186G3 E v2 v4 v6 7 7))):Qbc E v4 v6 j v2:=by
 intro g4 g6 g2
 rcases bft (decide ((j:Int)<(((List.replicate (Int.toNat (1008:Int)) (1152921504606846976:Int)).length:Nat):Int))) with hc0 | hc0
 · have h:=h.1 (odt hc0)
   obtain ⟨e,h1,h⟩:=h
   obtain ⟨e1,h2,h⟩:=h
   obtain ⟨q19_1,h⟩:=h
   rcases bft (decide (((j:Int) - 1)≥0)) with hc1 | hc1
   · have h:=h.1 (odt hc1)
     obtain ⟨h4,h⟩:=h
     obtain ⟨e2,h3,h⟩:=h
     rcases bft (decide (e2<1152921504606846976)) with hc2 | hc2
     · have h:=h.1 (odt hc2)
       obtain ⟨e3,h5,h⟩:=h
       obtain ⟨q49_3,h⟩:=h
       obtain ⟨q54_3,h⟩:=h
       refine p186_2_0 v4 v6 j v2 g4 g6 g2 e e1 e2 e3 hE ⟨hc0,(⟨by decide,by decide⟩),rfl,rfl,(⟨by decide,by decide⟩),(⟨by decide,by decide⟩),rfl,rfl,(Qs h1),rfl,rfl,(rp cI 1 0 1 h1),(Qs h2),rfl,(rf cI 1 0 1 h2),rfl,(⟨by decide,by decide⟩),q19_1,hc1,(⟨by decide,by decide⟩),rfl,rfl,(by have hx:=Qj h4 h3; simpa using hx),rfl,rfl,(by rw [(show Qu (rowI v2) (0+(Int.toNat (j:Int))*1) [.int .i64 e]=rowI (v2.set j e) from Qz cI (s:=1) (k:=0) (fun _=>rfl) h2 rfl (by first | decide | simp))]; exact rp cI 1 0 1 h3),hc2,(⟨by decide,by decide⟩),rfl,rfl,(⟨by decide,by decide⟩),rfl,rfl,(by have hx:=Qs h5; simpa using hx),rfl,rfl,(by rw [(show Qu (rowI v2) (0+(Int.toNat (j:Int))*1) [.int .i64 e]=rowI (v2.set j e) from Qz cI (s:=1) (k:=0) (fun _=>rfl) h2 rfl (by first | decide | simp))]; exact rp cI 1 0 1 h5),(⟨by decide,by decide⟩),rfl,rfl,(by have hx:=Qj h4 h3; simpa using hx),rfl,rfl,(by rw [(show Qu (rowI v2) (0+(Int.toNat (j:Int))*1) [.int .i64 e]=rowI (v2.set j e) from Qz cI (s:=1) (k:=0) (fun _=>rfl) h2 rfl (by first | decide | simp))]; exact rp cI 1 0 1 h3),(⟨by decide,by decide⟩),q49_3,(by have hx:=Qs h5; simpa using hx),rfl,(by rw [(show Qu (rowI v2) (0+(Int.toNat (j:Int))*1) [.int .i64 e]=rowI (v2.set j e) from Qz cI (s:=1) (k:=0) (fun _=>rfl) h2 rfl (by first | decide | simp))]; exact rf cI 1 0 1 h5),rfl,q54_3,trivial⟩ ?_
       have h:=(h g4 g6 g2)
       simp only [yi,List.length_set] at h
       rw [(show Qu (rowI v2) (0+(Int.toNat (j:Int))*1) [.int .i64 e]=rowI (v2.set j e) from Qz cI (s:=1) (k:=0) (fun _=>rfl) h2 rfl (by first | decide | simp))]; rw [(show Qu (rowI (v2.set j e)) (0+(Int.toNat (j:Int))*1) [.int .i64 (iMin e3 (e2+200))]=rowI ((v2.set j e).set j (iMin e3 (e2+200))) from Qz cI (s:=1) (k:=0) (fun _=>rfl) h5 rfl (by first | decide | simp))]
       exact h
     · have h:=h.2 (odf hc2)
       obtain ⟨q30_3,h⟩:=h
       refine p186_2_1 v4 v6 j v2 g4 g6 g2 e e1 e2 hE ⟨hc0,(⟨by decide,by decide⟩),rfl,rfl,(⟨by decide,by decide⟩),(⟨by decide,by decide⟩),rfl,rfl,(Qs h1),rfl,rfl,(rp cI 1 0 1 h1),(Qs h2),rfl,(rf cI 1 0 1 h2),rfl,(⟨by decide,by decide⟩),q19_1,hc1,(⟨by decide,by decide⟩),rfl,rfl,(by have hx:=Qj h4 h3; simpa using hx),rfl,rfl,(by rw [(show Qu (rowI v2) (0+(Int.toNat (j:Int))*1) [.int .i64 e]=rowI (v2.set j e) from Qz cI (s:=1) (k:=0) (fun _=>rfl) h2 rfl (by first | decide | simp))]; exact rp cI 1 0 1 h3),hc2,q30_3,trivial⟩ ?_
       have h:=(h g4 g6 g2)
       simp only [yi,List.length_set] at h
       rw [(show Qu (rowI v2) (0+(Int.toNat (j:Int))*1) [.int .i64 e]=rowI (v2.set j e) from Qz cI (s:=1) (k:=0) (fun _=>rfl) h2 rfl (by first | decide | simp))]
       exact h
   · have h:=h.2 (odf hc1)
     obtain ⟨q22_2,h⟩:=h
     refine p186_2_2 v4 v6 j v2 g4 g6 g2 e e1 hE ⟨hc0,(⟨by decide,by decide⟩),rfl,rfl,(⟨by decide,by decide⟩),(⟨by decide,by decide⟩),rfl,rfl,(Qs h1),rfl,rfl,(rp cI 1 0 1 h1),(Qs h2),rfl,(rf cI 1 0 1 h2),rfl,(⟨by decide,by decide⟩),q19_1,hc1,rfl,q22_2,trivial⟩ ?_
     have h:=(h g4 g6 g2)
     simp only [yi,List.length_set] at h
     rw [(show Qu (rowI v2) (0+(Int.toNat (j:Int))*1) [.int .i64 e]=rowI (v2.set j e) from Qz cI (s:=1) (k:=0) (fun _=>rfl) h2 rfl (by first | decide | simp))]
     exact h
 · have h:=h.2 (odf hc0)
   exact p186_2_3 v4 v6 j v2 g4 g6 g2 hE ⟨hc0,(⟨by decide,by decide⟩),rfl,trivial⟩ (h g2 g4 g6)
theorem p186_3_0 (v2:List Int) (v4:List Int) (v6:List Int) (t:Nat) (tokens:Nat) (g2:Nat) (g4:Nat) (g6:Nat) (e:Int) (e1:Int) {E:Env} {rv:AV} (hE:Qh Try.prog 186 rv E) (ho:AllP [(decide ((t:Int)≤1007))=true,(0:Int)≤0∧(0:Int)<((3:Nat):Int),0=0,0=0,0≤(t:Int)∧(t:Int)<(v2.length:Int),g2=g2,g2=g2,((rowI v2).drop (0+(Int.toNat (t:Int))*1)).take 1=[.int .i64 e],(0:Int)≤0∧(0:Int)<((3:Nat):Int),0=0,0=0,0≤(tokens:Int)∧(tokens:Int)<(v2.length:Int),g2=g2,g2=g2,((rowI v2).drop (0+(Int.toNat (tokens:Int))*1)).take 1=[.int .i64 e1],(decide (e<e1))=true,InR .i64 ((t:Int)+1)])
 (hg:G Try.prog E (yj Try.prog) ⟨([.rsl VK 0 2]++jj 5 ([.int .i64 1007,.sl 0 0 0 3 1,J,J,J,J,.int .i64 (t:Int),.int .i64 ((t:Int)+1)]++Js 204)),(z186_3 g2 v2 g4 v4 g6 v6)⟩):G Try.prog E (yj Try.prog) (f186S3 v2 v4 v6 t tokens g2 g4 g6) :=
 Qe (n:=400) (ds:=[]) (cs:=[]) (live:=[0,6,7,12,13]) (m:=7) (evs:=[.b true,.auto,.ld (.int .i64 e),.auto,.ld (.int .i64 e1),.b true,.stop]) (obs:=_) hE.2.1 (hE.nogh _) Qg (by kernel_rfl) ho hg
theorem p186_3_1 (v2:List Int) (v4:List Int) (v6:List Int) (t:Nat) (tokens:Nat) (g2:Nat) (g4:Nat) (g6:Nat) (e:Int) (e1:Int) {E:Env} {rv:AV} (hE:Qh Try.prog 186 rv E) (ho:AllP [(decide ((t:Int)≤1007))=true,(0:Int)≤0∧(0:Int)<((3:Nat):Int),0=0,0=0,0≤(t:Int)∧(t:Int)<(v2.length:Int),g2=g2,g2=g2,((rowI v2).drop (0+(Int.toNat (t:Int))*1)).take 1=[.int .i64 e],(0:Int)≤0∧(0:Int)<((3:Nat):Int),0=0,0=0,0≤(tokens:Int)∧(tokens:Int)<(v2.length:Int),g2=g2,g2=g2,((rowI v2).drop (0+(Int.toNat (tokens:Int))*1)).take 1=[.int .i64 e1],(decide (e<e1))=false,InR .i64 ((t:Int)+1)])
 (hg:G Try.prog E (yj Try.prog) ⟨([.rsl VK 0 2]++jj 5 ([.int .i64 1007,.sl 0 0 0 3 1,J,J,J,J,.int .i64 (tokens:Int),.int .i64 ((t:Int)+1)]++Js 204)),(z186_3 g2 v2 g4 v4 g6 v6)⟩):G Try.prog E (yj Try.prog) (f186S3 v2 v4 v6 t tokens g2 g4 g6) :=
 Qe (n:=400) (ds:=[]) (cs:=[]) (live:=[0,6,7,12,13]) (m:=7) (evs:=[.b true,.auto,.ld (.int .i64 e),.auto,.ld (.int .i64 e1),.b false,.stop]) (obs:=_) hE.2.1 (hE.nogh _) Qg (by kernel_rfl) ho hg
theorem p186_3_2 (v2:List Int) (v4:List Int) (v6:List Int) (t:Nat) (tokens:Nat) (g2:Nat) (g4:Nat) (g6:Nat) (e:Int) {E:Env} {res:AV} (hE:Qh Try.prog 186 res E) (ho:AllP [(decide ((t:Int)≤1007))=false,(0:Int)≤0∧(0:Int)<((3:Nat):Int),0=0,0=0,0≤(tokens:Int)∧(tokens:Int)<(v2.length:Int),g2=g2,g2=g2,((rowI v2).drop (0+(Int.toNat (tokens:Int))*1)).take 1=[.int .i64 e],(e == 1152921504606846976)=true])
 (hr:AvLe (.tup [.nilSl,.int .i64 0]) res):G Try.prog E (yj Try.prog) (f186S3 v2 v4 v6 t tokens g2 g4 g6) :=
 Qf (n:=400) (evs:=[.b false,.auto,.ld (.int .i64 e),.b true]) (obs:=_) hE Try.func186 Qg (by kernel_rfl) ho hr
theorem p186_3_3 (v2:List Int) (v4:List Int) (v6:List Int) (t:Nat) (tokens:Nat) (g2:Nat) (g4:Nat) (g6:Nat) (e:Int) {E:Env} {rv:AV} (hE:Qh Try.prog 186 rv E) (ho:AllP [(decide ((t:Int)≤1007))=false,(0:Int)≤0∧(0:Int)<((3:Nat):Int),0=0,0=0,0≤(tokens:Int)∧(tokens:Int)<(v2.length:Int),g2=g2,g2=g2,((rowI v2).drop (0+(Int.toNat (tokens:Int))*1)).take 1=[.int .i64 e],(e == 1152921504606846976)=false,(0:Int)≤2∧(2:Int)≤2∧(2:Int)≤2147483648,true=true,(0:Int)≤0∧(0:Int)<((2:Nat):Int),2≤2,(0:Int)≤0∧(0:Int)<((3:Nat):Int),0=0,0=0,0≤(tokens:Int)∧(tokens:Int)<(v2.length:Int),g2=g2,g2=g2,((rowI v2).drop (0+(Int.toNat (tokens:Int))*1)).take 1=[.int .i64 e]])
 (hg:G Try.prog E (KQ Try.prog) ⟨([J,J,J,J,.sl 7 0 0 2 1,.int .i64 e,J,.sl 0 0 0 3 1,J,J,J,J,.int .i64 (tokens:Int),J,.int .i64 0,.ptr 8 0 0,.int .i64 e]++jj 133 ([.rsl VK 0 2,.int .i64 2,.int .i64 0]++Js 65)),[⟨true,0,1,false,(Qau g2 v2 g4 v4 g6 v6),true⟩,⟨false,1,1,true,[],false⟩,⟨true,g2,1,true,(rowI v2),true⟩,⟨false,1,1,true,[],false⟩,⟨true,g4,1,true,(rowI v4),true⟩,⟨false,1,1,true,[],false⟩,⟨true,g6,1,true,(rowI v6),true⟩,⟨true,0,1,true,[.int .i64 0,.int .i64 0],true⟩,⟨true,0,1,true,[.int .i64 1,.int .i64 200],false⟩]⟩):G Try.prog E (yj Try.prog) (f186S3 v2 v4 v6 t tokens g2 g4 g6) :=
 Qe (n:=400) (ds:=[]) (cs:=[]) (live:=[4,5,7,12,14,15,16,150,151,152]) (m:=9) (evs:=[.b false,.auto,.ld (.int .i64 e),.b false,.b true,.auto,.auto,.ld (.int .i64 e),.stop]) (obs:=_) hE.2.1 (hE.nogh _) Qg (by kernel_rfl) ho hg
theorem f186W3 (v2:List Int) (v4:List Int) (v6:List Int) (t:Nat) (tokens:Nat) {E:Env} {rv:((List Int) × Int)} (hE:Qh Try.prog 186 (.tup [.rsl (rowI rv.1) 0 rv.1.length,.int .i64 rv.2]) E)
 (h:(((t:Int)≤1007→(∃ e:Int,v2[t]?=some e∧(∃ e1:Int,v2[tokens]?=some e1∧((e<e1→((I6 ((t:Int)+1))∧f186G3 E v2 v4 v6 (t+1) t))∧(¬ (e<e1)→((I6 ((t:Int)+1))∧f186G3 E v2 v4 v6 (t+1) tokens))))))∧(¬ ((t:Int)≤1007)→(∃ e:Int,v2[tokens]?=some e∧((e=1152921504606846976→rv=(([]:List Int),0))∧(¬ (e=1152921504606846976)→f186G5 E e (tokens:Int) e v2 v4 v6 0)))))):f186G3 E v2 v4 v6 t tokens:=by
 intro g2 g4 g6
 rcases bft (decide ((t:Int)≤1007)) with hc0 | hc0
 · have h:=h.1 (odt hc0)
   obtain ⟨e,h1,h⟩:=h
   obtain ⟨e1,h2,h⟩:=h
   rcases bft (decide (e<e1)) with hc1 | hc1
   · have h:=h.1 (odt hc1)
     obtain ⟨q18_2,h⟩:=h
     exact p186_3_0 v2 v4 v6 t tokens g2 g4 g6 e e1 hE ⟨hc0,(⟨by decide,by decide⟩),rfl,rfl,(Qs h1),rfl,rfl,(rp cI 1 0 1 h1),(⟨by decide,by decide⟩),rfl,rfl,(Qs h2),rfl,rfl,(rp cI 1 0 1 h2),hc1,q18_2,trivial⟩ (h g2 g4 g6)
   · have h:=h.2 (odf hc1)
     obtain ⟨q18_2,h⟩:=h
     exact p186_3_1 v2 v4 v6 t tokens g2 g4 g6 e e1 hE ⟨hc0,(⟨by decide,by decide⟩),rfl,rfl,(Qs h1),rfl,rfl,(rp cI 1 0 1 h1),(⟨by decide,by decide⟩),rfl,rfl,(Qs h2),rfl,rfl,(rp cI 1 0 1 h2),hc1,q18_2,trivial⟩ (h g2 g4 g6)
 · have h:=h.2 (odf hc0)
   obtain ⟨e,h1,h⟩:=h
   rcases bft (e == 1152921504606846976) with hc1 | hc1
   · have h:=h.1 (eq_of_beq hc1)
     exact p186_3_2 v2 v4 v6 t tokens g2 g4 g6 e hE ⟨hc0,(⟨by decide,by decide⟩),rfl,rfl,(Qs h1),rfl,rfl,(rp cI 1 0 1 h1),hc1,trivial⟩ (by rw [h]; exact (yc ⟨qe,⟨AvLe.of_eq rfl,trivial⟩⟩))
   · have h:=h.2 (ne_of_beq_false hc1)
     exact p186_3_3 v2 v4 v6 t tokens g2 g4 g6 e hE ⟨hc0,(⟨by decide,by decide⟩),rfl,rfl,(Qs h1),rfl,rfl,(rp cI 1 0 1 h1),hc1,(⟨by decide,by decide,by decide⟩),rfl,(⟨by decide,by decide⟩),(by decide),(⟨by decide,by decide⟩),rfl,rfl,(Qs h1),rfl,rfl,(rp cI 1 0 1 h1),trivial⟩ (h g2 g4 g6)
theorem p186_5_0 (price:Int) (tokens:Int) (left:Int) (v2:List Int) (v4:List Int) (v6:List Int) (v7_0:Nat) (g2:Nat) (g4:Nat) (g6:Nat) (e:Int) {E:Env} {rv:AV} (hE:Qh Try.prog 186 rv E) (ho:AllP [(decide (tokens≥1))=true,(0:Int)≤0∧(0:Int)<((3:Nat):Int),0=0,0=0,InR .i64 (tokens - 1),0≤(tokens - 1)∧(tokens - 1)<(v2.length:Int),g2=g2,g2=g2,((rowI v2).drop (0+(Int.toNat (tokens - 1))*1)).take 1=[.int .i64 e],(decide (e<1152921504606846976))=true,(0:Int)≤0∧(0:Int)<((3:Nat):Int),0=0,0=0,InR .i64 (tokens - 1),0≤(tokens - 1)∧(tokens - 1)<(v2.length:Int),g2=g2,g2=g2,((rowI v2).drop (0+(Int.toNat (tokens - 1))*1)).take 1=[.int .i64 e],InR .i64 (e+200),((e+200) == left)=true,InR .i64 (tokens - 1),(0:Int)≤0∧(0:Int)<((2:Nat):Int),0=0,0=0,InR .i64 ((v7_0:Int)+1),(0:Int)≤0∧(0:Int)<((2:Nat):Int),0=0,1≤2,0=0,(0:Int)≤0∧(0:Int)<((3:Nat):Int),0=0,0=0,0≤(tokens - 1)∧(tokens - 1)<(v2.length:Int),g2=g2,g2=g2,((rowI v2).drop (0+(Int.toNat (tokens - 1))*1)).take 1=[.int .i64 e]])
 (hg:G Try.prog E (KQ Try.prog) ⟨([J,J,J,J,.sl 7 0 0 2 1,.int .i64 price,J,.sl 0 0 0 3 1,J,J,J,J,.int .i64 (tokens - 1),J,.int .i64 0,.ptr 8 0 0,.int .i64 e]++jj 133 ([.rsl VK 0 2,.int .i64 2,.int .i64 0]++Js 65)),[⟨true,0,1,false,(Qau g2 v2 g4 v4 g6 v6),true⟩,⟨false,1,1,true,[],false⟩,⟨true,g2,1,true,(rowI v2),true⟩,⟨false,1,1,true,[],false⟩,⟨true,g4,1,true,(rowI v4),true⟩,⟨false,1,1,true,[],false⟩,⟨true,g6,1,true,(rowI v6),true⟩,⟨true,0,1,true,[.int .i64 ((v7_0:Int)+1),.int .i64 0],true⟩,⟨true,0,1,true,[.int .i64 1,.int .i64 200],false⟩]⟩):G Try.prog E (KQ Try.prog) (f186S5 price tokens left v2 v4 v6 v7_0 g2 g4 g6) :=
 Qe (n:=400) (ds:=[]) (cs:=[]) (live:=[4,5,7,12,14,15,16,150,151,152]) (m:=9) (evs:=[.b true,.auto,.auto,.ld (.int .i64 e),.b true,.auto,.auto,.ld (.int .i64 e),.b true,.auto,.auto,.auto,.ld (.int .i64 e),.stop]) (obs:=_) hE.2.1 (hE.nogh _) Qg (by kernel_rfl) ho hg
theorem p186_5_1 (price:Int) (tokens:Int) (left:Int) (v2:List Int) (v4:List Int) (v6:List Int) (v7_0:Nat) (g2:Nat) (g4:Nat) (g6:Nat) (e:Int) (e1:Int) {E:Env} {rv:AV} (hE:Qh Try.prog 186 rv E) (ho:AllP [(decide (tokens≥1))=true,(0:Int)≤0∧(0:Int)<((3:Nat):Int),0=0,0=0,InR .i64 (tokens - 1),0≤(tokens - 1)∧(tokens - 1)<(v2.length:Int),g2=g2,g2=g2,((rowI v2).drop (0+(Int.toNat (tokens - 1))*1)).take 1=[.int .i64 e],(decide (e<1152921504606846976))=true,(0:Int)≤0∧(0:Int)<((3:Nat):Int),0=0,0=0,InR .i64 (tokens - 1),0≤(tokens - 1)∧(tokens - 1)<(v2.length:Int),g2=g2,g2=g2,((rowI v2).drop (0+(Int.toNat (tokens - 1))*1)).take 1=[.int .i64 e],InR .i64 (e+200),((e+200) == left)=false,InR .i64 1,true=true,(0:Int)≤1∧(1:Int)<((2:Nat):Int),2≤2,(0:Int)≤1∧(1:Int)<((3:Nat):Int),0=0,0=0,0≤tokens∧tokens<(v4.length:Int),g4=g4,g4=g4,((rowI v4).drop (0+(Int.toNat tokens)*1)).take 1=[.int .i64 e1]])
 (hg:G Try.prog E (XZ Try.prog) ⟨([J,J,J,J,.sl 7 0 0 2 1,.int .i64 price,J,.sl 0 0 0 3 1,J,J,J,J,.int .i64 tokens,J,.int .i64 1,.ptr 9 0 0,.int .i64 e1]++jj 133 z186_4),(z186_1 g2 v2 g4 v4 g6 v6 v7_0)⟩):G Try.prog E (KQ Try.prog) (f186S5 price tokens left v2 v4 v6 v7_0 g2 g4 g6) :=
 Qe (n:=400) (ds:=[]) (cs:=[]) (live:=[4,5,7,12,14,15,16,150,151,152]) (m:=10) (evs:=[.b true,.auto,.auto,.ld (.int .i64 e),.b true,.auto,.auto,.ld (.int .i64 e),.b false,.b true,.auto,.auto,.ld (.int .i64 e1),.stop]) (obs:=_) hE.2.1 (hE.nogh _) Qg (by kernel_rfl) ho hg
theorem p186_5_2 (price:Int) (tokens:Int) (left:Int) (v2:List Int) (v4:List Int) (v6:List Int) (v7_0:Nat) (g2:Nat) (g4:Nat) (g6:Nat) (e:Int) (e1:Int) {E:Env} {rv:AV} (hE:Qh Try.prog 186 rv E) (ho:AllP [(decide (tokens≥1))=true,(0:Int)≤0∧(0:Int)<((3:Nat):Int),0=0,0=0,InR .i64 (tokens - 1),0≤(tokens - 1)∧(tokens - 1)<(v2.length:Int),g2=g2,g2=g2,((rowI v2).drop (0+(Int.toNat (tokens - 1))*1)).take 1=[.int .i64 e],(decide (e<1152921504606846976))=false,false=false,InR .i64 1,true=true,(0:Int)≤1∧(1:Int)<((2:Nat):Int),2≤2,(0:Int)≤1∧(1:Int)<((3:Nat):Int),0=0,0=0,0≤tokens∧tokens<(v4.length:Int),g4=g4,g4=g4,((rowI v4).drop (0+(Int.toNat tokens)*1)).take 1=[.int .i64 e1]])
 (hg:G Try.prog E (XZ Try.prog) ⟨([J,J,J,J,.sl 7 0 0 2 1,.int .i64 price,J,.sl 0 0 0 3 1,J,J,J,J,.int .i64 tokens,J,.int .i64 1,.ptr 9 0 0,.int .i64 e1]++jj 133 z186_4),(z186_1 g2 v2 g4 v4 g6 v6 v7_0)⟩):G Try.prog E (KQ Try.prog) (f186S5 price tokens left v2 v4 v6 v7_0 g2 g4 g6) :=
 Qe (n:=400) (ds:=[]) (cs:=[]) (live:=[4,5,7,12,14,15,16,150,151,152]) (m:=10) (evs:=[.b true,.auto,.auto,.ld (.int .i64 e),.b false,.b false,.b true,.auto,.auto,.ld (.int .i64 e1),.stop]) (obs:=_) hE.2.1 (hE.nogh _) Qg (by kernel_rfl) ho hg
theorem p186_5_3 (price:Int) (tokens:Int) (left:Int) (v2:List Int) (v4:List Int) (v6:List Int) (v7_0:Nat) (g2:Nat) (g4:Nat) (g6:Nat) (e:Int) {E:Env} {rv:AV} (hE:Qh Try.prog 186 rv E) (ho:AllP [(decide (tokens≥1))=false,false=false,false=false,InR .i64 1,true=true,(0:Int)≤1∧(1:Int)<((2:Nat):Int),2≤2,(0:Int)≤1∧(1:Int)<((3:Nat):Int),0=0,0=0,0≤tokens∧tokens<(v4.length:Int),g4=g4,g4=g4,((rowI v4).drop (0+(Int.toNat tokens)*1)).take 1=[.int .i64 e]])
 (hg:G Try.prog E (XZ Try.prog) ⟨([J,J,J,J,.sl 7 0 0 2 1,.int .i64 price,J,.sl 0 0 0 3 1,J,J,J,J,.int .i64 tokens,J,.int .i64 1,.ptr 9 0 0,.int .i64 e]++jj 133 z186_4),(z186_1 g2 v2 g4 v4 g6 v6 v7_0)⟩):G Try.prog E (KQ Try.prog) (f186S5 price tokens left v2 v4 v6 v7_0 g2 g4 g6) :=
 Qe (n:=400) (ds:=[]) (cs:=[]) (live:=[4,5,7,12,14,15,16,150,151,152]) (m:=10) (evs:=[.b false,.b false,.b false,.b true,.auto,.auto,.ld (.int .i64 e),.stop]) (obs:=_) hE.2.1 (hE.nogh _) Qg (by kernel_rfl) ho hg
theorem f186W5 (price:Int) (tokens:Int) (left:Int) (v2:List Int) (v4:List Int) (v6:List Int) (v7_0:Nat) {E:Env} {rv:((List Int) × Int)} (hE:Qh Try.prog 186 (.tup [.rsl (rowI rv.1) 0 rv.1.length,.int .i64 rv.2]) E)
 (h:((tokens≥1→((I6 (tokens - 1))∧(0≤(tokens - 1)∧(∃ e:Int,v2[Int.toNat (tokens - 1)]?=some e∧((e<1152921504606846976→((I6 (tokens - 1))∧((I6 (e+200))∧(((e+200)=left→((I6 (tokens - 1))∧((I6 ((v7_0:Int)+1))∧f186G5 E price (tokens - 1) e v2 v4 v6 (v7_0+1))))∧(¬ ((e+200)=left)→(0≤tokens∧(∃ e1:Int,v4[Int.toNat tokens]?=some e1∧YL E price tokens e1 v2 v4 v6 v7_0 0)))))))∧(¬ (e<1152921504606846976)→(0≤tokens∧(∃ e1:Int,v4[Int.toNat tokens]?=some e1∧YL E price tokens e1 v2 v4 v6 v7_0 0))))))))∧(¬ (tokens≥1)→(0≤tokens∧(∃ e:Int,v4[Int.toNat tokens]?=some e∧YL E price tokens e v2 v4 v6 v7_0 0))))):f186G5 E price tokens left v2 v4 v6 v7_0:=by
 intro g2 g4 g6
 rcases bft (decide (tokens≥1)) with hc0 | hc0
 · have h:=h.1 (odt hc0)
   obtain ⟨q4_1,h⟩:=h
   obtain ⟨h2,h⟩:=h
   obtain ⟨e,h1,h⟩:=h
   rcases bft (decide (e<1152921504606846976)) with hc1 | hc1
   · have h:=h.1 (odt hc1)
     obtain ⟨q14_2,h⟩:=h
     obtain ⟨q19_2,h⟩:=h
     rcases bft ((e+200) == left) with hc2 | hc2
     · have h:=h.1 (eq_of_beq hc2)
       obtain ⟨q21_3,h⟩:=h
       obtain ⟨q25_3,h⟩:=h
       exact p186_5_0 price tokens left v2 v4 v6 v7_0 g2 g4 g6 e hE ⟨hc0,(⟨by decide,by decide⟩),rfl,rfl,q4_1,(Qj h2 h1),rfl,rfl,(rp cI 1 0 1 h1),hc1,(⟨by decide,by decide⟩),rfl,rfl,q14_2,(Qj h2 h1),rfl,rfl,(rp cI 1 0 1 h1),q19_2,hc2,q21_3,(⟨by decide,by decide⟩),rfl,rfl,q25_3,(⟨by decide,by decide⟩),rfl,(by decide),rfl,(⟨by decide,by decide⟩),rfl,rfl,(Qj h2 h1),rfl,rfl,(rp cI 1 0 1 h1),trivial⟩ (h g2 g4 g6)
     · have h:=h.2 (ne_of_beq_false hc2)
       obtain ⟨h4,h⟩:=h
       obtain ⟨e1,h3,h⟩:=h
       exact p186_5_1 price tokens left v2 v4 v6 v7_0 g2 g4 g6 e e1 hE ⟨hc0,(⟨by decide,by decide⟩),rfl,rfl,q4_1,(Qj h2 h1),rfl,rfl,(rp cI 1 0 1 h1),hc1,(⟨by decide,by decide⟩),rfl,rfl,q14_2,(Qj h2 h1),rfl,rfl,(rp cI 1 0 1 h1),q19_2,hc2,(⟨by decide,by decide⟩),rfl,(⟨by decide,by decide⟩),(by decide),(⟨by decide,by decide⟩),rfl,rfl,(Qj h4 h3),rfl,rfl,(rp cI 1 0 1 h3),trivial⟩ (h g2 g4 g6)
   · have h:=h.2 (odf hc1)
     obtain ⟨h4,h⟩:=h
     obtain ⟨e1,h3,h⟩:=h
     exact p186_5_2 price tokens left v2 v4 v6 v7_0 g2 g4 g6 e e1 hE ⟨hc0,(⟨by decide,by decide⟩),rfl,rfl,q4_1,(Qj h2 h1),rfl,rfl,(rp cI 1 0 1 h1),hc1,rfl,(⟨by decide,by decide⟩),rfl,(⟨by decide,by decide⟩),(by decide),(⟨by decide,by decide⟩),rfl,rfl,(Qj h4 h3),rfl,rfl,(rp cI 1 0 1 h3),trivial⟩ (h g2 g4 g6)
 · have h:=h.2 (odf hc0)
   obtain ⟨h2,h⟩:=h
   obtain ⟨e,h1,h⟩:=h
   exact p186_5_3 price tokens left v2 v4 v6 v7_0 g2 g4 g6 e hE ⟨hc0,rfl,rfl,(⟨by decide,by decide⟩),rfl,(⟨by decide,by decide⟩),(by decide),(⟨by decide,by decide⟩),rfl,rfl,(Qj h2 h1),rfl,rfl,(rp cI 1 0 1 h1),trivial⟩ (h g2 g4 g6)
theorem buy_ok:Pure Try.prog 186 [.rsl [.int .i64 1,.int .i64 200,.int .i64 6,.int .i64 1000] 0 2,.int .i64 7] (.tup [.rsl (rowI [1,1]) 0 2,.int .i64 1200]):=Qy Try.func186 f186b fun E hE=>by
 have hl:(List.replicate (Int.toNat (1008:Int)) (1152921504606846976:Int)).length=1008:=by rw [List.length_replicate]; rfl
 -- the last loops
 have e5:YL E 1200 0 0 (LP c0 1008) (LP c1 1008) r2 1 1:=f186W1005 1200 0 0 _ _ _ 1 1 (rv:=([1,1],1200)) hE ⟨fun h=>by omega,fun _=>rfl⟩
 have a0:(LP c1 1008)[0]?=some 0:=Vb (by omega)
 have a6:(LP c1 1008)[6]?=some 1000:=Vb (by omega)
 have b6:(LP c0 1008)[6]?=some 1000:=Vb (by omega)
 have b5:(LP c0 1008)[5]?=some 1000:=Vb (by omega)
 have b7:(LP c0 1008)[7]?=some 1200:=Vb (by omega)
 have e4:YL E 1200 6 1000 (LP c0 1008) (LP c1 1008) r2 1 0:=f186W1005 1200 6 1000 _ _ _ 1 0 (rv:=([1,1],1200)) hE
  ⟨fun _=>⟨by omega,by omega,0,a0,fun _=>⟨by omega,by omega,fun _=>⟨by omega,by omega,e5⟩,fun h=>absurd rfl h⟩,fun h=>absurd (by omega) h⟩,fun h=>absurd (by omega) h⟩
 have e3:f186G5 E 1200 6 1000 (LP c0 1008) (LP c1 1008) r2 1:=f186W5 1200 6 1000 _ _ _ 1 (rv:=([1,1],1200)) hE
  ⟨fun _=>⟨by omega,by omega,1000,b5,fun _=>⟨by omega,by omega,fun h=>absurd h (by omega),fun _=>⟨by omega,1000,a6,e4⟩⟩,fun h=>absurd (by omega) h⟩,fun h=>absurd (by omega) h⟩
 have e2:f186G5 E 1200 7 1200 (LP c0 1008) (LP c1 1008) r2 0:=f186W5 1200 7 1200 _ _ _ 0 (rv:=([1,1],1200)) hE
  ⟨fun _=>⟨by omega,by omega,1000,b6,fun _=>⟨by omega,by omega,fun _=>⟨by omega,by omega,e3⟩,fun h=>absurd rfl h⟩,fun h=>absurd (by omega) h⟩,fun h=>absurd (by omega) h⟩
 -- the least price
 have l3:∀ (d t:Nat),t+d=1008→7≤t→f186G3 E (LP c0 1008) (LP c1 1008) r2 t 7:=by
  intro d
  induction d with
  | zero =>
   intro t ht h7
   exact f186W3 _ _ _ t 7 (rv:=([1,1],1200)) hE ⟨fun h=>by omega,fun _=>⟨1200,b7,fun h=>absurd h (by omega),fun _=>e2⟩⟩
  | succ d ih =>
   intro t ht h7
   have hg:(LP c0 1008)[t]?=some (c0 t):=by rw [Vb (by omega),if_pos (by omega)]
   have hge:¬ c0 t<1200:=by unfold c0; omega
   exact f186W3 _ _ _ t 7 (rv:=([1,1],1200)) hE ⟨fun _=>⟨_,hg,1200,b7,fun h=>absurd h hge,fun _=>⟨by omega,ih (t+1) (by omega) (by omega)⟩⟩,fun h=>by omega⟩
 -- the rows
 have l2:∀ (d j:Nat),j+d=1008→Qbc E (LP c1 1008) r2 j (LP c0 j):=by
  intro d
  induction d with
  | zero =>
   intro j hj
   have ej:j=1008:=by omega
   subst ej
   exact f186W2 _ _ _ _ (rv:=([1,1],1200)) hE ⟨fun h=>by rw [hl] at h; omega,fun _=>l3 1001 7 (by omega) (by omega)⟩
  | succ d ih =>
   intro j hj
   have g1:(LP c1 1008)[j]?=some (c1 j):=by rw [Vb (by omega),if_pos (by omega)]
   have g2:(LP c0 j)[j]?=some NN:=by rw [Vb (by omega),if_neg (by omega)]
   have nx:=ih (j+1) (by omega)
   rw [← LP_set (f:=c0) (j:=j) (by omega)] at nx
   refine f186W2 _ _ j _ (rv:=([1,1],1200)) hE ⟨fun _=>⟨_,g1,_,g2,by omega,fun h1=>?_,fun h1=>⟨by omega,?_⟩⟩,fun h=>by rw [hl] at h; omega⟩
   · have ej:Int.toNat ((j:Int) - 1)=j - 1:=by omega
     have bd:=c0_bd (t:=j - 1) (by omega)
     have g3:((LP c0 j).set j (c1 j))[Int.toNat ((j:Int) - 1)]?=some (c0 (j - 1)):=by rw [ej,List.getElem?_set_ne (by omega),Vb (by omega),if_pos (by omega)]
     have g4:((LP c0 j).set j (c1 j))[j]?=some (c1 j):=List.getElem?_set_self (by rw [Qbm]; omega)
     refine ⟨by omega,_,g3,fun _=>⟨_,g4,by omega,by omega,?_⟩,fun h=>absurd (by omega) h⟩
     rw [List.set_set,c0_step (by omega) (by omega)]
     exact nx
   · have e0:j=0:=by omega
     subst e0
     exact nx
 have l1:∀ (d j:Nat),j+d=1008→Vp E r2 j (LP c1 j):=by
  intro d
  induction d with
  | zero =>
   intro j hj
   have ej:j=1008:=by omega
   subst ej
   refine f186W1002 _ _ _ (rv:=([1,1],1200)) hE ⟨fun h=>by rw [hl] at h; omega,fun _=>?_⟩
   have:=l2 1008 0 (by omega)
   rw [← LP_zero] at this
   exact this
  | succ d ih =>
   intro j hj
   have g1:=r2_get (j:=j) (by omega)
   have g2:(LP c1 j)[j]?=some NN:=by rw [Vb (by omega),if_neg (by omega)]
   have nx:=ih (j+1) (by omega)
   rw [← LP_set (f:=c1) (j:=j) (by omega)] at nx
   refine f186W1002 _ j _ (rv:=([1,1],1200)) hE ⟨fun _=>⟨_,g1,_,g2,by omega,fun h1=>?_,fun h1=>⟨by omega,?_⟩⟩,fun h=>by rw [hl] at h; omega⟩
   · have ej:Int.toNat ((j:Int) - 6)=j - 6:=by omega
     rw [if_neg (show ¬ j=0 by omega)]
     have g3:((LP c1 j).set j NN)[Int.toNat ((j:Int) - 6)]?=some (c1 (j - 6)):=by rw [ej,List.getElem?_set_ne (by omega),Vb (by omega),if_pos (by omega)]
     have g4:((LP c1 j).set j NN)[j]?=some NN:=List.getElem?_set_self (by rw [Qbm]; omega)
     refine ⟨by omega,_,g3,fun h2=>⟨_,g4,?_,by omega,?_⟩,fun h2=>⟨by omega,?_⟩⟩
     · by_cases h6:(j - 6) % 6=0
       · have:=qs (t:=j - 6) (by omega) h6
         omega
       · rw [Qae h6] at h2
         exact absurd h2 (by decide)
     · have h6:(j - 6) % 6=0:=Decidable.byContradiction fun h6=>by
        rw [Qae h6] at h2
        exact absurd h2 (by decide)
       rw [List.set_set,c1_step (by omega) (by omega) h6]
       exact nx
     · have h6:¬ j % 6=0:=fun h6=>by
        have:=qs (t:=j - 6) (by omega) (by omega)
        omega
       rw [Qae h6] at nx
       exact nx
   · by_cases e0:j=0
     · subst e0
       exact nx
     · rw [if_neg e0]
       have h6:¬ j % 6=0:=by omega
       rw [Qae h6] at nx
       exact nx
 have z:(List.replicate (Int.toNat (1008:Int)) (1152921504606846976:Int))[0]?=some NN:=by rw [List.getElem?_replicate,if_pos (by decide)]
 have fin:=l1 1008 0 (by omega)
 rw [← LP_zero] at fin
 exact f186W (rv:=([1,1],1200)) hE ⟨by omega,by omega,by omega,NN,z,fin⟩
end Go.Proofs.Ytemklbioijmjiaa
namespace Go.Proofs.Ytemklbioijmjiaa
open Go Ax
open Go.Proofs
def exF:Fair:=⟨0,0,[5],[0],[⟨1,200⟩,⟨6,1000⟩],0,0,1⟩
theorem f116b:Try.f116.body=some (Qd Try.prog 116):=by kernel_rfl
theorem u116 {a c k:List AV} {r:AV} (h:Pure Try.prog 116 (a++c++k) r):Qi Try.prog (.clos 116 a k) c r:=Qk Try.func116 (by kernel_rfl) f116b h
theorem p116_start_0 {E:Env} {res:AV} (hE:Qh Try.prog 116 res E) (ho:AllP [Qi Try.prog (.clos 186 [] []) [.rsl [.int .i64 1,.int .i64 200,.int .i64 6,.int .i64 1000] 0 2,.int .i64 7] (.tup [.rsl (rowI [1,1]) 0 2,.int .i64 1200]),2 ≠ 0,false=false])
 (hr:AvLe (.tup [.rsl (rowI [1,1]) 0 2,.int .i64 1200,.int .i64 0]) res):G Try.prog E [.code (Qd Try.prog 116)] ⟨[.agg [.int .i64 0,.int .i64 0,.rsl [.int .i64 5] 0 1,.rsl [.int .i64 0] 0 1,.rsl [.int .i64 1,.int .i64 200,.int .i64 6,.int .i64 1000] 0 2,.int .i64 0,.int .i64 0,.int .i64 1],.int .i64 7]++unds (Try.f116.ntmps - 2),[]⟩ :=
 Qf (n:=400) (evs:=[.v (.tup [.rsl (rowI [1,1]) 0 2,.int .i64 1200]),.b false]) (obs:=_) hE Try.func116 Qg (by kernel_rfl) ho hr
theorem f116W {E:Env} {rv:((List Int) × Int × Int)} (hE:Qh Try.prog 116 (.tup [.rsl (rowI rv.1) 0 rv.1.length,.int .i64 rv.2.1,.int .i64 rv.2.2]) E)
 (h:rv=((([1,1]:List Int).take 2),1200,0)):G Try.prog E [.code (Qd Try.prog 116)] ⟨[.agg [.int .i64 0,.int .i64 0,.rsl [.int .i64 5] 0 1,.rsl [.int .i64 0] 0 1,.rsl [.int .i64 1,.int .i64 200,.int .i64 6,.int .i64 1000] 0 2,.int .i64 0,.int .i64 0,.int .i64 1],.int .i64 7]++unds (Try.f116.ntmps - 2),[]⟩:=by
 exact p116_start_0 hE ⟨(u186 buy_ok),(by decide),rfl,trivial⟩ (AvLe.of_eq (by rw [h]; rw [(show AV.rsl (rowI [1,1]) 0 2=AV.rsl (rowI ([1,1]:List Int)) 0 ([1,1]:List Int).length from by rw [show 2=([1,1]:List Int).length from by simp]; try rfl)]; try rfl))
theorem bought_ok:Pure Try.prog 116 [.agg [.int .i64 0,.int .i64 0,.rsl [.int .i64 5] 0 1,.rsl [.int .i64 0] 0 1,.rsl [.int .i64 1,.int .i64 200,.int .i64 6,.int .i64 1000] 0 2,.int .i64 0,.int .i64 0,.int .i64 1],.int .i64 7] (.tup [.rsl (rowI [1,1]) 0 2,.int .i64 1200,.int .i64 0]):=Qy Try.func116 f116b fun E hE=>f116W (rv:=([1,1],1200,0)) hE rfl
theorem f48b:Try.f48.body=some (Qd Try.prog 48):=by kernel_rfl
theorem u48 {a c k:List AV} {r:AV} (h:Pure Try.prog 48 (a++c++k) r):Qi Try.prog (.clos 48 a k) c r:=Qk Try.func48 (by kernel_rfl) f48b h
abbrev z48_1:List AV:=[.int .i64 0,.int .i64 0,.rsl [.int .i64 5] 0 1,.rsl [.int .i64 0] 0 1,.rsl [.int .i64 1,.int .i64 200,.int .i64 6,.int .i64 1000] 0 2,.int .i64 0,.int .i64 0,.int .i64 1]
theorem p48_start_0 {E:Env} {res:AV} (hE:Qh Try.prog 48 res E) (ho:AllP [Qi Try.prog (.clos 114 [] []) [.agg z48_1] (.int .i64 (Vn exF)),((Vn exF) != 0)=true])
 (hr:AvLe (.tup [.nilSl,.int .i64 0,.int .i64 (Vn exF)]) res):G Try.prog E [.code (Qd Try.prog 48)] ⟨[.agg z48_1,.int .i64 7]++unds (Try.f48.ntmps - 2),[]⟩ :=
 Qf (n:=400) (evs:=[.v (.int .i64 (Vn exF)),.b true]) (obs:=_) hE Try.func48 Qg (by kernel_rfl) ho hr
theorem p48_start_1 {E:Env} {res:AV} (hE:Qh Try.prog 48 res E) (ho:AllP [Qi Try.prog (.clos 114 [] []) [.agg z48_1] (.int .i64 (Vn exF)),((Vn exF) != 0)=false,Qi Try.prog (.clos 115 [] []) [.int .i64 7,.int .i64 0,.int .i64 1000] (.bool (Qa 7 0 1000)),(!(Qa 7 0 1000))=true])
 (hr:AvLe (.tup [.nilSl,.int .i64 0,.int .i64 1]) res):G Try.prog E [.code (Qd Try.prog 48)] ⟨[.agg z48_1,.int .i64 7]++unds (Try.f48.ntmps - 2),[]⟩ :=
 Qf (n:=400) (evs:=[.v (.int .i64 (Vn exF)),.b false,.v (.bool (Qa 7 0 1000)),.b true]) (obs:=_) hE Try.func48 Qg (by kernel_rfl) ho hr
theorem p48_start_2 {E:Env} {res:AV} (hE:Qh Try.prog 48 res E) (ho:AllP [Qi Try.prog (.clos 114 [] []) [.agg [.int .i64 0,.int .i64 0,.rsl [.int .i64 5] 0 1,.rsl [.int .i64 0] 0 1,.rsl [.int .i64 1,.int .i64 200,.int .i64 6,.int .i64 1000] 0 2,.int .i64 0,.int .i64 0,.int .i64 1]] (.int .i64 (Vn exF)),((Vn exF) != 0)=false,Qi Try.prog (.clos 115 [] []) [.int .i64 7,.int .i64 0,.int .i64 1000] (.bool (Qa 7 0 1000)),(!(Qa 7 0 1000))=false,Qi Try.prog (.clos 116 [] []) [.agg [.int .i64 0,.int .i64 0,.rsl [.int .i64 5] 0 1,.rsl [.int .i64 0] 0 1,.rsl [.int .i64 1,.int .i64 200,.int .i64 6,.int .i64 1000] 0 2,.int .i64 0,.int .i64 0,.int .i64 1],.int .i64 7] (.tup [.rsl (rowI [1,1]) 0 2,.int .i64 1200,.int .i64 0])])
 (hr:AvLe (.tup [.rsl (rowI [1,1]) 0 2,.int .i64 1200,.int .i64 0]) res):G Try.prog E [.code (Qd Try.prog 48)] ⟨[.agg [.int .i64 0,.int .i64 0,.rsl [.int .i64 5] 0 1,.rsl [.int .i64 0] 0 1,.rsl [.int .i64 1,.int .i64 200,.int .i64 6,.int .i64 1000] 0 2,.int .i64 0,.int .i64 0,.int .i64 1],.int .i64 7]++unds (Try.f48.ntmps - 2),[]⟩ :=
 Qf (n:=400) (evs:=[.v (.int .i64 (Vn exF)),.b false,.v (.bool (Qa 7 0 1000)),.b false,.v (.tup [.rsl (rowI [1,1]) 0 2,.int .i64 1200,.int .i64 0])]) (obs:=_) hE Try.func48 Qg (by kernel_rfl) ho hr
theorem f48W {E:Env} {rv:((List Int) × Int × Int)} (hE:Qh Try.prog 48 (.tup [.rsl (rowI rv.1) 0 rv.1.length,.int .i64 rv.2.1,.int .i64 rv.2.2]) E)
 (h:((¬ ((Vn exF)=0)→rv=(([]:List Int),0,(Vn exF)))∧((Vn exF)=0→(((Qa 7 0 1000)=false→rv=(([]:List Int),0,1))∧((Qa 7 0 1000)=true→rv=((([1,1]:List Int).take 2),1200,0)))))):G Try.prog E [.code (Qd Try.prog 48)] ⟨[.agg [.int .i64 0,.int .i64 0,.rsl [.int .i64 5] 0 1,.rsl [.int .i64 0] 0 1,.rsl [.int .i64 1,.int .i64 200,.int .i64 6,.int .i64 1000] 0 2,.int .i64 0,.int .i64 0,.int .i64 1],.int .i64 7]++unds (Try.f48.ntmps - 2),[]⟩:=by
 rcases bft ((Vn exF) != 0) with hc0 | hc0
 · have h:=h.1 (bneT hc0)
   exact p48_start_0 hE ⟨(u114 (yV exF ⟨by decide,by decide,by decide⟩)),hc0,trivial⟩ (by rw [h]; exact (yc ⟨qe,⟨AvLe.of_eq rfl,⟨AvLe.of_eq rfl,trivial⟩⟩⟩))
 · have h:=h.2 (bneF hc0)
   rcases bft (!(Qa 7 0 1000)) with hc1 | hc1
   · have h:=h.1 (bnT hc1)
     exact p48_start_1 hE ⟨(u114 (yV exF ⟨by decide,by decide,by decide⟩)),hc0,(u115 (Qn 7 0 1000)),hc1,trivial⟩ (by rw [h]; exact (yc ⟨qe,⟨AvLe.of_eq rfl,⟨AvLe.of_eq rfl,trivial⟩⟩⟩))
   · have h:=h.2 (bnF hc1)
     exact p48_start_2 hE ⟨(u114 (yV exF ⟨by decide,by decide,by decide⟩)),hc0,(u115 (Qn 7 0 1000)),hc1,(u116 bought_ok),trivial⟩ (AvLe.of_eq (by rw [h]; rw [(show AV.rsl (rowI [1,1]) 0 2=AV.rsl (rowI ([1,1]:List Int)) 0 ([1,1]:List Int).length from by rw [show 2=([1,1]:List Int).length from by simp]; try rfl)]; try rfl))
theorem exF_ok:Vn exF=0:=by decide
theorem Buy_ok:Pure Try.prog 48 [.agg [.int .i64 0,.int .i64 0,.rsl [.int .i64 5] 0 1,.rsl [.int .i64 0] 0 1,.rsl [.int .i64 1,.int .i64 200,.int .i64 6,.int .i64 1000] 0 2,.int .i64 0,.int .i64 0,.int .i64 1],.int .i64 7] (.tup [.rsl (rowI [1,1]) 0 2,.int .i64 1200,.int .i64 0]):=Qy Try.func48 f48b fun E hE=>f48W (rv:=([1,1],1200,0)) hE ⟨fun h=>absurd exF_ok h,fun _=>⟨fun h=>absurd h (by decide),fun _=>rfl⟩⟩
theorem f31b:Try.f31.body=some (Qd Try.prog 31):=by kernel_rfl
theorem u31 {a c k:List AV} {r:AV} (h:Pure Try.prog 31 (a++c++k) r):Qi Try.prog (.clos 31 a k) c r:=Qk Try.func31 (by kernel_rfl) f31b h
def f31K0 (P:Program):List Item:=kAt 400 [.code (Qd P 31)] [.b false,.stop]
def f31S0 (a:(List Int)) (b:(List Int)) (i:Nat):St:=⟨([.rsl (rowI a) 0 a.length,.rsl (rowI b) 0 b.length,J,J,J,.int .i64 (i:Int)]++Js 20),[]⟩
def f31G0 (E:Env) (a:(List Int)) (b:(List Int)) (i:Nat):Prop:=G Try.prog E (f31K0 Try.prog) (f31S0 a b i )
theorem p31_start_0 (a:(List Int)) (b:(List Int)) {E:Env} {res:AV} (hE:Qh Try.prog 31 res E) (ho:AllP [((a.length:Int) != (b.length:Int))=true])
 (hr:AvLe (.bool false) res):G Try.prog E [.code (Qd Try.prog 31)] ⟨[.rsl (rowI a) 0 a.length,.rsl (rowI b) 0 b.length]++unds (Try.f31.ntmps - 2),[]⟩ :=
 Qf (n:=400) (evs:=[.b true]) (obs:=_) hE Try.func31 Qg (by kernel_rfl) ho hr
theorem p31_start_1 (a:(List Int)) (b:(List Int)) {E:Env} {rv:AV} (hE:Qh Try.prog 31 rv E) (ho:AllP [((a.length:Int) != (b.length:Int))=false])
 (hg:G Try.prog E (f31K0 Try.prog) ⟨([.rsl (rowI a) 0 a.length,.rsl (rowI b) 0 b.length,J,J,J,.int .i64 0]++Js 20),[]⟩):G Try.prog E [.code (Qd Try.prog 31)] ⟨[.rsl (rowI a) 0 a.length,.rsl (rowI b) 0 b.length]++unds (Try.f31.ntmps - 2),[]⟩ :=
 Qe (n:=400) (ds:=[]) (cs:=[]) (live:=[0,1,5]) (m:=0) (evs:=[.b false,.stop]) (obs:=_) hE.2.1 (hE.nogh _) Qg (by kernel_rfl) ho hg
theorem f31W (a:(List Int)) (b:(List Int)) {E:Env} {rv:Bool} (hE:Qh Try.prog 31 (.bool rv) E)
 (h:((¬ ((a.length:Int)=(b.length:Int))→rv=false)∧((a.length:Int)=(b.length:Int)→f31G0 E a b 0))):G Try.prog E [.code (Qd Try.prog 31)] ⟨[.rsl (rowI a) 0 a.length,.rsl (rowI b) 0 b.length]++unds (Try.f31.ntmps - 2),[]⟩:=by
 rcases bft ((a.length:Int) != (b.length:Int)) with hc0 | hc0
 · have h:=h.1 (bneT hc0)
   exact p31_start_0 a b hE ⟨hc0,trivial⟩ (AvLe.of_eq (by rw [h]; try rfl))
 · have h:=h.2 (bneF hc0)
   exact p31_start_1 a b hE ⟨hc0,trivial⟩ h
theorem p31_0_0 (a:(List Int)) (b:(List Int)) (i:Nat) (e:Int) (e1:Int) {E:Env} {res:AV} (hE:Qh Try.prog 31 res E) (ho:AllP [(decide ((i:Int)<(a.length:Int)))=true,0≤(i:Int)∧(i:Int)<(a.length:Int),((rowI a).drop (0+(Int.toNat (i:Int))*1)).take 1=[.int .i64 e],0≤(i:Int)∧(i:Int)<(b.length:Int),((rowI b).drop (0+(Int.toNat (i:Int))*1)).take 1=[.int .i64 e1],(e != e1)=true])
 (hr:AvLe (.bool false) res):G Try.prog E (f31K0 Try.prog) (f31S0 a b i ) :=
 Qf (n:=400) (evs:=[.b true,.ld (.int .i64 e),.ld (.int .i64 e1),.b true]) (obs:=_) hE Try.func31 Qg (by kernel_rfl) ho hr
theorem p31_0_1 (a:(List Int)) (b:(List Int)) (i:Nat) (e:Int) (e1:Int) {E:Env} {rv:AV} (hE:Qh Try.prog 31 rv E) (ho:AllP [(decide ((i:Int)<(a.length:Int)))=true,0≤(i:Int)∧(i:Int)<(a.length:Int),((rowI a).drop (0+(Int.toNat (i:Int))*1)).take 1=[.int .i64 e],0≤(i:Int)∧(i:Int)<(b.length:Int),((rowI b).drop (0+(Int.toNat (i:Int))*1)).take 1=[.int .i64 e1],(e != e1)=false,InR .i64 ((i:Int)+1)])
 (hg:G Try.prog E (f31K0 Try.prog) ⟨([.rsl (rowI a) 0 a.length,.rsl (rowI b) 0 b.length,J,J,J,.int .i64 ((i:Int)+1)]++Js 20),[]⟩):G Try.prog E (f31K0 Try.prog) (f31S0 a b i ) :=
 Qe (n:=400) (ds:=[]) (cs:=[]) (live:=[0,1,5]) (m:=0) (evs:=[.b true,.ld (.int .i64 e),.ld (.int .i64 e1),.b false,.stop]) (obs:=_) hE.2.1 (hE.nogh _) Qg (by kernel_rfl) ho hg
theorem p31_0_2 (a:(List Int)) (b:(List Int)) (i:Nat) {E:Env} {res:AV} (hE:Qh Try.prog 31 res E) (ho:AllP [(decide ((i:Int)<(a.length:Int)))=false])
 (hr:AvLe (.bool true) res):G Try.prog E (f31K0 Try.prog) (f31S0 a b i ) :=
 Qf (n:=400) (evs:=[.b false]) (obs:=_) hE Try.func31 Qg (by kernel_rfl) ho hr
theorem f31W0 (a:(List Int)) (b:(List Int)) (i:Nat) {E:Env} {rv:Bool} (hE:Qh Try.prog 31 (.bool rv) E)
 (h:(((i:Int)<(a.length:Int)→(∃ e:Int,a[i]?=some e∧(∃ e1:Int,b[i]?=some e1∧((¬ (e=e1)→rv=false)∧(e=e1→((I6 ((i:Int)+1))∧f31G0 E a b (i+1)))))))∧(¬ ((i:Int)<(a.length:Int))→rv=true))):f31G0 E a b i:=by
 rcases bft (decide ((i:Int)<(a.length:Int))) with hc0 | hc0
 · have h:=h.1 (odt hc0)
   obtain ⟨e,h1,h⟩:=h
   obtain ⟨e1,h2,h⟩:=h
   rcases bft (e != e1) with hc1 | hc1
   · have h:=h.1 (bneT hc1)
     exact p31_0_0 a b i e e1 hE ⟨hc0,(Qs h1),(rp cI 1 0 1 h1),(Qs h2),(rp cI 1 0 1 h2),hc1,trivial⟩ (AvLe.of_eq (by rw [h]; try rfl))
   · have h:=h.2 (bneF hc1)
     obtain ⟨q8_2,h⟩:=h
     exact p31_0_1 a b i e e1 hE ⟨hc0,(Qs h1),(rp cI 1 0 1 h1),(Qs h2),(rp cI 1 0 1 h2),hc1,q8_2,trivial⟩ h
 · have h:=h.2 (odf hc0)
   exact p31_0_2 a b i hE ⟨hc0,trivial⟩ (AvLe.of_eq (by rw [h]; try rfl))
theorem tsame_ok (a b:List Int) (h:a=b∧a.length≤1000000):Pure Try.prog 31 [.rsl (rowI a) 0 a.length,.rsl (rowI b) 0 b.length] (.bool true):=Qy Try.func31 f31b fun E hE=>by
 obtain ⟨rfl,hl⟩:=h
 have key:∀ (d i:Nat),i+d=a.length→f31G0 E a a i:=by
  intro d
  induction d with
  | zero=>intro i hi; exact f31W0 a a i (rv:=true) hE ⟨fun h=>by omega,fun _=>rfl⟩
  | succ d ih =>
   intro i hi
   have hx:a[i]?=some (a[i]'(by omega)):=List.getElem?_eq_getElem (by omega)
   exact f31W0 a a i (rv:=true) hE ⟨fun _=>⟨_,hx,_,hx,fun h=>absurd rfl h,fun _=>⟨by omega,ih (i+1) (by omega)⟩⟩,fun h=>by omega⟩
 exact f31W a a (rv:=true) hE ⟨fun h=>absurd rfl h,fun _=>key a.length 0 (by omega)⟩
theorem f13b:Try.f13.body=some (Qd Try.prog 13):=by kernel_rfl
theorem u13 {a c k:List AV} {r:AV} (h:Pure Try.prog 13 (a++c++k) r):Qi Try.prog (.clos 13 a k) c r:=Qk Try.func13 (by kernel_rfl) f13b h
theorem p13_start_0 {E:Env} {res:AV} (hE:Qh Try.prog 13 res E) (ho:AllP [8≤8,QO Try.prog (.clos 48 [] []) [.agg [.int .i64 0,.int .i64 0,.sl 0 0 0 1 1,.sl 1 0 0 1 1,.sl 2 0 0 2 2,.int .i64 0,.int .i64 0,.int .i64 1],.int .i64 7] [⟨true,0,1,true,[.int .i64 5],true⟩,⟨true,0,1,true,[.int .i64 0],true⟩,⟨true,0,2,true,[.int .i64 1,.int .i64 200,.int .i64 6,.int .i64 1000],true⟩] (.tup [.rsl (rowI [1,1]) 0 2,.int .i64 1200,.int .i64 0]) [⟨false,1,1,true,[],false⟩,⟨false,1,1,true,[],false⟩,⟨false,1,2,true,[],false⟩],true=true,true=true,Qi Try.prog (.clos 31 [] []) [.rsl (rowI [1,1]) 0 2,.rsl [.int .i64 1,.int .i64 1] 0 2] (.bool true),0=0])
 (hr:AvLe (.bool true) res):G Try.prog E [.code (Qd Try.prog 13)] ⟨[]++unds (Try.f13.ntmps - 0),[]⟩ :=
 Qf (n:=400) (evs:=[.lent [0,1,2] (.tup [.rsl (rowI [1,1]) 0 2,.int .i64 1200,.int .i64 0]) [⟨false,1,1,true,[],false⟩,⟨false,1,1,true,[],false⟩,⟨false,1,2,true,[],false⟩],.b true,.b true,.v (.bool true)]) (obs:=_) hE Try.func13 Qg (by kernel_rfl) ho hr
theorem f13W {E:Env} {rv:Bool} (hE:Qh Try.prog 13 (.bool rv) E)
 (h:(((([1,1]:List Int).take 2)=([1,1])∧(([1,1]:List Int).take 2).length≤1000000)∧rv=true)):G Try.prog E [.code (Qd Try.prog 13)] ⟨[]++unds (Try.f13.ntmps - 0),[]⟩:=by
 obtain ⟨h1,h⟩:=h
 exact p13_start_0 hE ⟨(by decide),(Xb (fv':=.clos 48 [] []) (args':=[.agg [.int .i64 0,.int .i64 0,.rsl [.int .i64 5] 0 1,.rsl [.int .i64 0] 0 1,.rsl [.int .i64 1,.int .i64 200,.int .i64 6,.int .i64 1000] 0 2,.int .i64 0,.int .i64 0,.int .i64 1],.int .i64 7]) (o1:=[]) (o2:=[0=0,0=0,0=0]) (by kernel_rfl) trivial (by kernel_rfl) ⟨rfl,rfl,rfl,trivial⟩ (u48 Buy_ok)),rfl,rfl,(Qi.le (args:=[.rsl (rowI (([1,1]:List Int).take 2)) 0 ((([1,1]:List Int).take 2).length),.rsl (rowI ([1,1])) 0 (([1,1]).length)]) (u31 (tsame_ok (([1,1]:List Int).take 2) ([1,1]) h1)) ⟨(by exact rsl_take cI (s:=1) (fun _=>rfl) (by first | omega | decide | simp)),⟨AvLe.of_eq rfl,trivial⟩⟩),rfl,trivial⟩ (AvLe.of_eq (by rw [h]; try rfl))
theorem YO:Pure Try.prog 13 [] (.bool true):=Qy Try.func13 f13b fun E hE=>f13W (rv:=true) hE ⟨⟨rfl,by decide⟩,rfl⟩
end Go.Proofs.Ytemklbioijmjiaa
namespace Go.Proofs.Ytemklbioijmjiaa
open Go Ax
open Go.Proofs
structure Gd where
 w:Int
 h:Int
 cells:List Int
 hts:List Int
structure Sit where
 cell:Int
 turned:Bool
def cSit (t:Sit):List AV:=[.int .i64 t.cell,.bool t.turned]
def Qb (l:List Sit):List AV:=l.flatMap cSit
structure GdSmall (g:Gd):Prop where
 cells:g.cells.length≤100
 hts:g.hts.length≤100
def XR (g:Gd):Bool:=Qa g.w 1 8 && (Qa g.h 1 8 && (decide ((g.cells.length:Int)=g.w*g.h) && (decide (g.hts.length=g.cells.length) && (!(g.cells.any (outB 0 3)) && !(g.hts.any (outB 0 100))))))
def takenL (g:Gd):List Int:=List.replicate (Int.toNat (g.cells.length:Int)) (-1:Int)
theorem gnd_dims {g:Gd} (h1:Qa g.w 1 8=true) (h2:Qa g.h 1 8=true):1≤g.w*g.h∧g.w*g.h≤64:=by
 have a:=QI.1 h1
 have b:=QI.1 h2
 have m1:=Int.mul_le_mul a.2 b.2 (by omega) (by omega)
 have m2:=Int.mul_le_mul a.1 b.1 (by omega) (by omega)
 omega
theorem XF {g:Gd} (h:XR g=true):1≤g.cells.length∧g.cells.length≤64:=by
 simp only [XR,Bool.and_eq_true,decide_eq_true_eq] at h
 have:=gnd_dims h.1 h.2.1
 omega
theorem f129b:Try.f129.body=some (Qd Try.prog 129):=by kernel_rfl
theorem u129 {a c k:List AV} {r:AV} (h:Pure Try.prog 129 (a++c++k) r):Qi Try.prog (.clos 129 a k) c r:=Qk Try.func129 (by kernel_rfl) f129b h
theorem p129_start_0 (n:Int) (lo:Int) (hi:Int) {E:Env} {res:AV} (hE:Qh Try.prog 129 res E) (ho:AllP [(decide (n≥lo))=true])
 (hr:AvLe (.bool (decide (n≤hi))) res):G Try.prog E [.code (Qd Try.prog 129)] ⟨[.int .i64 n,.int .i64 lo,.int .i64 hi]++unds (Try.f129.ntmps - 3),[]⟩ :=
 Qf (n:=400) (evs:=[.b true]) (obs:=_) hE Try.func129 Qg (by kernel_rfl) ho hr
theorem p129_start_1 (n:Int) (lo:Int) (hi:Int) {E:Env} {res:AV} (hE:Qh Try.prog 129 res E) (ho:AllP [(decide (n≥lo))=false])
 (hr:AvLe (.bool false) res):G Try.prog E [.code (Qd Try.prog 129)] ⟨[.int .i64 n,.int .i64 lo,.int .i64 hi]++unds (Try.f129.ntmps - 3),[]⟩ :=
 Qf (n:=400) (evs:=[.b false]) (obs:=_) hE Try.func129 Qg (by kernel_rfl) ho hr
theorem f129W (n:Int) (lo:Int) (hi:Int) {E:Env} {rv:Bool} (hE:Qh Try.prog 129 (.bool rv) E)
 (h:((n≥lo→rv=(decide (n≤hi)))∧(¬ (n≥lo)→rv=false))):G Try.prog E [.code (Qd Try.prog 129)] ⟨[.int .i64 n,.int .i64 lo,.int .i64 hi]++unds (Try.f129.ntmps - 3),[]⟩:=by
 rcases bft (decide (n≥lo)) with hc0 | hc0
 · have h:=h.1 (odt hc0)
   exact p129_start_0 n lo hi hE ⟨hc0,trivial⟩ (AvLe.of_eq (by rw [h]; try rfl))
 · have h:=h.2 (odf hc0)
   exact p129_start_1 n lo hi hE ⟨hc0,trivial⟩ (AvLe.of_eq (by rw [h]; try rfl))
theorem Qq (n lo hi:Int):Pure Try.prog 129 [.int .i64 n,.int .i64 lo,.int .i64 hi] (.bool (Qa n lo hi)):=Qy Try.func129 f129b fun E hE=>by
 refine f129W n lo hi hE ⟨fun h=>by simp [Qa,h],fun h=>by simp [Qa,h]⟩
theorem f264b:Try.f264.body=some (Qd Try.prog 264):=by kernel_rfl
theorem u264 {a c k:List AV} {r:AV} (h:Pure Try.prog 264 (a++c++k) r):Qi Try.prog (.clos 264 a k) c r:=Qk Try.func264 (by kernel_rfl) f264b h
theorem p264_start_0 (n:Int) {E:Env} {res:AV} (hE:Qh Try.prog 264 res E) (ho:AllP [Qi Try.prog (.clos 129 [] []) [.int .i64 n,.int .i64 0,.int .i64 3] (.bool (Qa n 0 3))])
 (hr:AvLe (.bool (!(Qa n 0 3))) res):G Try.prog E [.code (Qd Try.prog 264)] ⟨[.int .i64 n]++unds (Try.f264.ntmps - 1),[]⟩ :=
 Qf (n:=400) (evs:=[.v (.bool (Qa n 0 3))]) (obs:=_) hE Try.func264 Qg (by kernel_rfl) ho hr
theorem f264W (n:Int) {E:Env} {rv:Bool} (hE:Qh Try.prog 264 (.bool rv) E)
 (h:rv=(!(Qa n 0 3))):G Try.prog E [.code (Qd Try.prog 264)] ⟨[.int .i64 n]++unds (Try.f264.ntmps - 1),[]⟩:=by
 exact p264_start_0 n hE ⟨(u129 (Qq n 0 3)),trivial⟩ (AvLe.of_eq (by rw [h]; try rfl))
theorem gr1_ok (n:Int):Pure Try.prog 264 [.int .i64 n] (.bool (outB 0 3 n)):=Qy Try.func264 f264b fun E hE=>f264W n (rv:=outB 0 3 n) hE rfl
theorem f59g3b:Try.f59.body=some (Qd Try.prog 59):=by kernel_rfl
def qM (P:Program):List Item:=kAt 400 [.code (Qd P 59)] [.stop]
def Qcx (l:(List Int)) (i:Nat):St:=⟨([.rsl (rowI l) 0 l.length,.clos 264 [] []]++jj 5 ([.int .i64 (l.length:Int),.int .i64 (i:Int)]++Js 10)),[]⟩
def Qcy (E:Env) (l:(List Int)) (i:Nat):Prop:=G Try.prog E (qM Try.prog) (Qcx l i )
theorem QbG (l:(List Int)) {E:Env} {rv:AV} (hE:Qh Try.prog 59 rv E) (ho:AllP [])
 (hg:G Try.prog E (qM Try.prog) ⟨([.rsl (rowI l) 0 l.length,.clos 264 [] []]++jj 5 ([.int .i64 (l.length:Int),.int .i64 0]++Js 10)),[]⟩):G Try.prog E [.code (Qd Try.prog 59)] ⟨[.rsl (rowI l) 0 l.length,.clos 264 [] []]++unds (Try.f59.ntmps - 2),[]⟩ :=
 Qe (n:=400) (ds:=[]) (cs:=[]) (live:=[0,1,7,8]) (m:=0) (evs:=[.stop]) (obs:=_) hE.2.1 (hE.nogh _) Qg (by kernel_rfl) ho hg
theorem f59g3W (l:(List Int)) {E:Env} {rv:Int} (hE:Qh Try.prog 59 (.int .i64 rv) E)
 (h:Qcy E l 0):G Try.prog E [.code (Qd Try.prog 59)] ⟨[.rsl (rowI l) 0 l.length,.clos 264 [] []]++unds (Try.f59.ntmps - 2),[]⟩:=by
 exact QbG l hE trivial h
theorem p59g3_0_0 (l:(List Int)) (i:Nat) (e:Int) {E:Env} {res:AV} (hE:Qh Try.prog 59 res E) (ho:AllP [(decide ((i:Int)<(l.length:Int)))=true,0≤(i:Int)∧(i:Int)<(l.length:Int),((rowI l).drop (0+(Int.toNat (i:Int))*1)).take 1=[.int .i64 e],Qi Try.prog (.clos 264 [] []) [.int .i64 e] (.bool (outB 0 3 e)),(outB 0 3 e)=true])
 (hr:AvLe (.int .i64 (i:Int)) res):G Try.prog E (qM Try.prog) (Qcx l i ) :=
 Qf (n:=400) (evs:=[.b true,.ld (.int .i64 e),.v (.bool (outB 0 3 e)),.b true]) (obs:=_) hE Try.func59 Qg (by kernel_rfl) ho hr
theorem p59g3_0_1 (l:(List Int)) (i:Nat) (e:Int) {E:Env} {rv:AV} (hE:Qh Try.prog 59 rv E) (ho:AllP [(decide ((i:Int)<(l.length:Int)))=true,0≤(i:Int)∧(i:Int)<(l.length:Int),((rowI l).drop (0+(Int.toNat (i:Int))*1)).take 1=[.int .i64 e],Qi Try.prog (.clos 264 [] []) [.int .i64 e] (.bool (outB 0 3 e)),(outB 0 3 e)=false,InR .i64 ((i:Int)+1)])
 (hg:G Try.prog E (qM Try.prog) ⟨([.rsl (rowI l) 0 l.length,.clos 264 [] []]++jj 5 ([.int .i64 (l.length:Int),.int .i64 ((i:Int)+1)]++Js 10)),[]⟩):G Try.prog E (qM Try.prog) (Qcx l i ) :=
 Qe (n:=400) (ds:=[]) (cs:=[]) (live:=[0,1,7,8]) (m:=0) (evs:=[.b true,.ld (.int .i64 e),.v (.bool (outB 0 3 e)),.b false,.stop]) (obs:=_) hE.2.1 (hE.nogh _) Qg (by kernel_rfl) ho hg
theorem p59g3_0_2 (l:(List Int)) (i:Nat) {E:Env} {res:AV} (hE:Qh Try.prog 59 res E) (ho:AllP [(decide ((i:Int)<(l.length:Int)))=false])
 (hr:AvLe (.int .i64 (-1)) res):G Try.prog E (qM Try.prog) (Qcx l i ) :=
 Qf (n:=400) (evs:=[.b false]) (obs:=_) hE Try.func59 Qg (by kernel_rfl) ho hr
theorem f59g3W0 (l:(List Int)) (i:Nat) {E:Env} {rv:Int} (hE:Qh Try.prog 59 (.int .i64 rv) E)
 (h:(((i:Int)<(l.length:Int)→(∃ e:Int,l[i]?=some e∧(((outB 0 3 e)=true→rv=(i:Int))∧((outB 0 3 e)=false→((I6 ((i:Int)+1))∧Qcy E l (i+1))))))∧(¬ ((i:Int)<(l.length:Int))→rv=(-1)))):Qcy E l i:=by
 rcases bft (decide ((i:Int)<(l.length:Int))) with hc0 | hc0
 · have h:=h.1 (odt hc0)
   obtain ⟨e,h1,h⟩:=h
   rcases bft (outB 0 3 e) with hc1 | hc1
   · have h:=h.1 hc1
     exact p59g3_0_0 l i e hE ⟨hc0,(Qs h1),(rp cI 1 0 1 h1),(u264 (gr1_ok e)),hc1,trivial⟩ (AvLe.of_eq (by rw [h]; try rfl))
   · have h:=h.2 hc1
     obtain ⟨q6_2,h⟩:=h
     exact p59g3_0_1 l i e hE ⟨hc0,(Qs h1),(rp cI 1 0 1 h1),(u264 (gr1_ok e)),hc1,q6_2,trivial⟩ h
 · have h:=h.2 (odf hc0)
   exact p59g3_0_2 l i hE ⟨hc0,trivial⟩ (AvLe.of_eq (by rw [h]; try rfl))
theorem idxGr3_ok (l:List Int) (h:l.length≤9223372036854775807):Pure Try.prog 59 [.rsl (rowI l) 0 l.length,.clos 264 [] []] (.int .i64 (idxG (outB 0 3) l)):=Qy Try.func59 f59g3b fun E hE=>by
 have hl:=h
 refine f59g3W l (rv:=idxG (outB 0 3) l) hE (YJ (outB 0 3) l l.length 0 (by omega) (fun j x hj=>by omega) (fun i=>Qcy E l i) (fun i hi' h1 h2=>?_) (fun _ h2=>?_))
 · have hx:l[i]?=some l[i]:=List.getElem?_eq_getElem hi'
   have hm:=List.mem_of_getElem? hx
   exact f59g3W0 l i (rv:=idxG (outB 0 3) l) hE ⟨fun _=>⟨_,hx,fun hp=>h1 _ hx (by simpa using hp),fun hp=>⟨by omega,h2 _ hx (by simpa using hp)⟩⟩,fun h=>by omega⟩
 · exact f59g3W0 l _ (rv:=idxG (outB 0 3) l) hE ⟨fun h=>by omega,fun _=>h2⟩
theorem f76g3b:Try.f76.body=some (Qd Try.prog 76):=by kernel_rfl
theorem QbD (l:(List Int)) {E:Env} {res:AV} (hE:Qh Try.prog 76 res E) (ho:AllP [Qi Try.prog (.clos 59 [] []) [.rsl (rowI l) 0 l.length,.clos 264 [] []] (.int .i64 (idxG (outB 0 3) l))])
 (hr:AvLe (.bool (decide ((idxG (outB 0 3) l)≥0))) res):G Try.prog E [.code (Qd Try.prog 76)] ⟨[.rsl (rowI l) 0 l.length,.clos 264 [] []]++unds (Try.f76.ntmps - 2),[]⟩ :=
 Qf (n:=400) (evs:=[.v (.int .i64 (idxG (outB 0 3) l))]) (obs:=_) hE Try.func76 Qg (by kernel_rfl) ho hr
theorem f76g3W (l:(List Int)) {E:Env} {rv:Bool} (hE:Qh Try.prog 76 (.bool rv) E)
 (h:((l.length≤9223372036854775807)∧rv=(decide ((idxG (outB 0 3) l)≥0)))):G Try.prog E [.code (Qd Try.prog 76)] ⟨[.rsl (rowI l) 0 l.length,.clos 264 [] []]++unds (Try.f76.ntmps - 2),[]⟩:=by
 obtain ⟨h1,h⟩:=h
 exact QbD l hE ⟨(Qk Try.func59 (by kernel_rfl) f59g3b (idxGr3_ok l h1)),trivial⟩ (AvLe.of_eq (by rw [h]; try rfl))
theorem anyGr3_ok (l:List Int) (h:l.length≤9223372036854775807):Pure Try.prog 76 [.rsl (rowI l) 0 l.length,.clos 264 [] []] (.bool (l.any (outB 0 3))):=Qy Try.func76 f76g3b fun E hE =>
 f76g3W l (rv:=l.any (outB 0 3)) hE ⟨h,(qh _ _).symm⟩
theorem f265b:Try.f265.body=some (Qd Try.prog 265):=by kernel_rfl
theorem u265 {a c k:List AV} {r:AV} (h:Pure Try.prog 265 (a++c++k) r):Qi Try.prog (.clos 265 a k) c r:=Qk Try.func265 (by kernel_rfl) f265b h
theorem p265_start_0 (n:Int) {E:Env} {res:AV} (hE:Qh Try.prog 265 res E) (ho:AllP [Qi Try.prog (.clos 129 [] []) [.int .i64 n,.int .i64 0,.int .i64 100] (.bool (Qa n 0 100))])
 (hr:AvLe (.bool (!(Qa n 0 100))) res):G Try.prog E [.code (Qd Try.prog 265)] ⟨[.int .i64 n]++unds (Try.f265.ntmps - 1),[]⟩ :=
 Qf (n:=400) (evs:=[.v (.bool (Qa n 0 100))]) (obs:=_) hE Try.func265 Qg (by kernel_rfl) ho hr
theorem f265W (n:Int) {E:Env} {rv:Bool} (hE:Qh Try.prog 265 (.bool rv) E)
 (h:rv=(!(Qa n 0 100))):G Try.prog E [.code (Qd Try.prog 265)] ⟨[.int .i64 n]++unds (Try.f265.ntmps - 1),[]⟩:=by
 exact p265_start_0 n hE ⟨(u129 (Qq n 0 100)),trivial⟩ (AvLe.of_eq (by rw [h]; try rfl))
theorem gr2_ok (n:Int):Pure Try.prog 265 [.int .i64 n] (.bool (outB 0 100 n)):=Qy Try.func265 f265b fun E hE=>f265W n (rv:=outB 0 100 n) hE rfl
theorem f59g100b:Try.f59.body=some (Qd Try.prog 59):=by kernel_rfl
def Vo (P:Program):List Item:=kAt 400 [.code (Qd P 59)] [.stop]
def ql (l:(List Int)) (i:Nat):St:=⟨([.rsl (rowI l) 0 l.length,.clos 265 [] []]++jj 5 ([.int .i64 (l.length:Int),.int .i64 (i:Int)]++Js 10)),[]⟩
def qm (E:Env) (l:(List Int)) (i:Nat):Prop:=G Try.prog E (Vo Try.prog) (ql l i )
theorem Ki (l:(List Int)) {E:Env} {rv:AV} (hE:Qh Try.prog 59 rv E) (ho:AllP [])
 (hg:G Try.prog E (Vo Try.prog) ⟨([.rsl (rowI l) 0 l.length,.clos 265 [] []]++jj 5 ([.int .i64 (l.length:Int),.int .i64 0]++Js 10)),[]⟩):G Try.prog E [.code (Qd Try.prog 59)] ⟨[.rsl (rowI l) 0 l.length,.clos 265 [] []]++unds (Try.f59.ntmps - 2),[]⟩ :=
 Qe (n:=400) (ds:=[]) (cs:=[]) (live:=[0,1,7,8]) (m:=0) (evs:=[.stop]) (obs:=_) hE.2.1 (hE.nogh _) Qg (by kernel_rfl) ho hg
theorem f59g100W (l:(List Int)) {E:Env} {rv:Int} (hE:Qh Try.prog 59 (.int .i64 rv) E)
 (h:qm E l 0):G Try.prog E [.code (Qd Try.prog 59)] ⟨[.rsl (rowI l) 0 l.length,.clos 265 [] []]++unds (Try.f59.ntmps - 2),[]⟩:=by
 exact Ki l hE trivial h
theorem p59g100_0_0 (l:(List Int)) (i:Nat) (e:Int) {E:Env} {res:AV} (hE:Qh Try.prog 59 res E) (ho:AllP [(decide ((i:Int)<(l.length:Int)))=true,0≤(i:Int)∧(i:Int)<(l.length:Int),((rowI l).drop (0+(Int.toNat (i:Int))*1)).take 1=[.int .i64 e],Qi Try.prog (.clos 265 [] []) [.int .i64 e] (.bool (outB 0 100 e)),(outB 0 100 e)=true])
 (hr:AvLe (.int .i64 (i:Int)) res):G Try.prog E (Vo Try.prog) (ql l i ) :=
 Qf (n:=400) (evs:=[.b true,.ld (.int .i64 e),.v (.bool (outB 0 100 e)),.b true]) (obs:=_) hE Try.func59 Qg (by kernel_rfl) ho hr
theorem p59g100_0_1 (l:(List Int)) (i:Nat) (e:Int) {E:Env} {rv:AV} (hE:Qh Try.prog 59 rv E) (ho:AllP [(decide ((i:Int)<(l.length:Int)))=true,0≤(i:Int)∧(i:Int)<(l.length:Int),((rowI l).drop (0+(Int.toNat (i:Int))*1)).take 1=[.int .i64 e],Qi Try.prog (.clos 265 [] []) [.int .i64 e] (.bool (outB 0 100 e)),(outB 0 100 e)=false,InR .i64 ((i:Int)+1)])
 (hg:G Try.prog E (Vo Try.prog) ⟨([.rsl (rowI l) 0 l.length,.clos 265 [] []]++jj 5 ([.int .i64 (l.length:Int),.int .i64 ((i:Int)+1)]++Js 10)),[]⟩):G Try.prog E (Vo Try.prog) (ql l i ) :=
 Qe (n:=400) (ds:=[]) (cs:=[]) (live:=[0,1,7,8]) (m:=0) (evs:=[.b true,.ld (.int .i64 e),.v (.bool (outB 0 100 e)),.b false,.stop]) (obs:=_) hE.2.1 (hE.nogh _) Qg (by kernel_rfl) ho hg
theorem p59g100_0_2 (l:(List Int)) (i:Nat) {E:Env} {res:AV} (hE:Qh Try.prog 59 res E) (ho:AllP [(decide ((i:Int)<(l.length:Int)))=false])
 (hr:AvLe (.int .i64 (-1)) res):G Try.prog E (Vo Try.prog) (ql l i ) :=
 Qf (n:=400) (evs:=[.b false]) (obs:=_) hE Try.func59 Qg (by kernel_rfl) ho hr
theorem f59g100W0 (l:(List Int)) (i:Nat) {E:Env} {rv:Int} (hE:Qh Try.prog 59 (.int .i64 rv) E)
 (h:(((i:Int)<(l.length:Int)→(∃ e:Int,l[i]?=some e∧(((outB 0 100 e)=true→rv=(i:Int))∧((outB 0 100 e)=false→((I6 ((i:Int)+1))∧qm E l (i+1))))))∧(¬ ((i:Int)<(l.length:Int))→rv=(-1)))):qm E l i:=by
 rcases bft (decide ((i:Int)<(l.length:Int))) with hc0 | hc0
 · have h:=h.1 (odt hc0)
   obtain ⟨e,h1,h⟩:=h
   rcases bft (outB 0 100 e) with hc1 | hc1
   · have h:=h.1 hc1
     exact p59g100_0_0 l i e hE ⟨hc0,(Qs h1),(rp cI 1 0 1 h1),(u265 (gr2_ok e)),hc1,trivial⟩ (AvLe.of_eq (by rw [h]; try rfl))
   · have h:=h.2 hc1
     obtain ⟨q6_2,h⟩:=h
     exact p59g100_0_1 l i e hE ⟨hc0,(Qs h1),(rp cI 1 0 1 h1),(u265 (gr2_ok e)),hc1,q6_2,trivial⟩ h
 · have h:=h.2 (odf hc0)
   exact p59g100_0_2 l i hE ⟨hc0,trivial⟩ (AvLe.of_eq (by rw [h]; try rfl))
theorem idxGr100_ok (l:List Int) (h:l.length≤9223372036854775807):Pure Try.prog 59 [.rsl (rowI l) 0 l.length,.clos 265 [] []] (.int .i64 (idxG (outB 0 100) l)):=Qy Try.func59 f59g100b fun E hE=>by
 have hl:=h
 refine f59g100W l (rv:=idxG (outB 0 100) l) hE (YJ (outB 0 100) l l.length 0 (by omega) (fun j x hj=>by omega) (fun i=>qm E l i) (fun i hi' h1 h2=>?_) (fun _ h2=>?_))
 · have hx:l[i]?=some l[i]:=List.getElem?_eq_getElem hi'
   have hm:=List.mem_of_getElem? hx
   exact f59g100W0 l i (rv:=idxG (outB 0 100) l) hE ⟨fun _=>⟨_,hx,fun hp=>h1 _ hx (by simpa using hp),fun hp=>⟨by omega,h2 _ hx (by simpa using hp)⟩⟩,fun h=>by omega⟩
 · exact f59g100W0 l _ (rv:=idxG (outB 0 100) l) hE ⟨fun h=>by omega,fun _=>h2⟩
theorem f76g100b:Try.f76.body=some (Qd Try.prog 76):=by kernel_rfl
theorem Kh (l:(List Int)) {E:Env} {res:AV} (hE:Qh Try.prog 76 res E) (ho:AllP [Qi Try.prog (.clos 59 [] []) [.rsl (rowI l) 0 l.length,.clos 265 [] []] (.int .i64 (idxG (outB 0 100) l))])
 (hr:AvLe (.bool (decide ((idxG (outB 0 100) l)≥0))) res):G Try.prog E [.code (Qd Try.prog 76)] ⟨[.rsl (rowI l) 0 l.length,.clos 265 [] []]++unds (Try.f76.ntmps - 2),[]⟩ :=
 Qf (n:=400) (evs:=[.v (.int .i64 (idxG (outB 0 100) l))]) (obs:=_) hE Try.func76 Qg (by kernel_rfl) ho hr
theorem f76g100W (l:(List Int)) {E:Env} {rv:Bool} (hE:Qh Try.prog 76 (.bool rv) E)
 (h:((l.length≤9223372036854775807)∧rv=(decide ((idxG (outB 0 100) l)≥0)))):G Try.prog E [.code (Qd Try.prog 76)] ⟨[.rsl (rowI l) 0 l.length,.clos 265 [] []]++unds (Try.f76.ntmps - 2),[]⟩:=by
 obtain ⟨h1,h⟩:=h
 exact Kh l hE ⟨(Qk Try.func59 (by kernel_rfl) f59g100b (idxGr100_ok l h1)),trivial⟩ (AvLe.of_eq (by rw [h]; try rfl))
theorem anyGr100_ok (l:List Int) (h:l.length≤9223372036854775807):Pure Try.prog 76 [.rsl (rowI l) 0 l.length,.clos 265 [] []] (.bool (l.any (outB 0 100))):=Qy Try.func76 f76g100b fun E hE =>
 f76g100W l (rv:=l.any (outB 0 100)) hE ⟨h,(qh _ _).symm⟩
theorem f221b:Try.f221.body=some (Qd Try.prog 221):=by kernel_rfl
theorem u221 {a c k:List AV} {r:AV} (h:Pure Try.prog 221 (a++c++k) r):Qi Try.prog (.clos 221 a k) c r:=Qk Try.func221 (by kernel_rfl) f221b h
abbrev Qat (g:Gd):List AV:=[.agg [.int .i64 g.w,.int .i64 g.h,.rsl (rowI g.cells) 0 g.cells.length,.rsl (rowI g.hts) 0 g.hts.length]]
theorem p221_start_0 (g:Gd) {E:Env} {res:AV} (hE:Qh Try.prog 221 res E) (ho:AllP [Qi Try.prog (.clos 129 [] []) [.int .i64 g.w,.int .i64 1,.int .i64 8] (.bool (Qa g.w 1 8)),(!(Qa g.w 1 8))=true,true=true,true=true,true=true])
 (hr:AvLe (.bool false) res):G Try.prog E [.code (Qd Try.prog 221)] ⟨(Qat g)++unds (Try.f221.ntmps - 1),[]⟩ :=
 Qf (n:=400) (evs:=[.v (.bool (Qa g.w 1 8)),.b true,.b true,.b true,.b true]) (obs:=_) hE Try.func221 Qg (by kernel_rfl) ho hr
theorem p221_start_1 (g:Gd) {E:Env} {res:AV} (hE:Qh Try.prog 221 res E) (ho:AllP [Qi Try.prog (.clos 129 [] []) [.int .i64 g.w,.int .i64 1,.int .i64 8] (.bool (Qa g.w 1 8)),(!(Qa g.w 1 8))=false,Qi Try.prog (.clos 129 [] []) [.int .i64 g.h,.int .i64 1,.int .i64 8] (.bool (Qa g.h 1 8)),(!(Qa g.h 1 8))=true,true=true,true=true])
 (hr:AvLe (.bool false) res):G Try.prog E [.code (Qd Try.prog 221)] ⟨(Qat g)++unds (Try.f221.ntmps - 1),[]⟩ :=
 Qf (n:=400) (evs:=[.v (.bool (Qa g.w 1 8)),.b false,.v (.bool (Qa g.h 1 8)),.b true,.b true,.b true]) (obs:=_) hE Try.func221 Qg (by kernel_rfl) ho hr
theorem p221_start_2 (g:Gd) {E:Env} {res:AV} (hE:Qh Try.prog 221 res E) (ho:AllP [Qi Try.prog (.clos 129 [] []) [.int .i64 g.w,.int .i64 1,.int .i64 8] (.bool (Qa g.w 1 8)),(!(Qa g.w 1 8))=false,Qi Try.prog (.clos 129 [] []) [.int .i64 g.h,.int .i64 1,.int .i64 8] (.bool (Qa g.h 1 8)),(!(Qa g.h 1 8))=false,InR .i64 (g.w*g.h),((g.cells.length:Int) != (g.w*g.h))=true,true=true])
 (hr:AvLe (.bool false) res):G Try.prog E [.code (Qd Try.prog 221)] ⟨(Qat g)++unds (Try.f221.ntmps - 1),[]⟩ :=
 Qf (n:=400) (evs:=[.v (.bool (Qa g.w 1 8)),.b false,.v (.bool (Qa g.h 1 8)),.b false,.b true,.b true]) (obs:=_) hE Try.func221 Qg (by kernel_rfl) ho hr
theorem p221_start_3 (g:Gd) {E:Env} {res:AV} (hE:Qh Try.prog 221 res E) (ho:AllP [Qi Try.prog (.clos 129 [] []) [.int .i64 g.w,.int .i64 1,.int .i64 8] (.bool (Qa g.w 1 8)),(!(Qa g.w 1 8))=false,Qi Try.prog (.clos 129 [] []) [.int .i64 g.h,.int .i64 1,.int .i64 8] (.bool (Qa g.h 1 8)),(!(Qa g.h 1 8))=false,InR .i64 (g.w*g.h),((g.cells.length:Int) != (g.w*g.h))=false,((g.hts.length:Int) != (g.cells.length:Int))=true])
 (hr:AvLe (.bool false) res):G Try.prog E [.code (Qd Try.prog 221)] ⟨(Qat g)++unds (Try.f221.ntmps - 1),[]⟩ :=
 Qf (n:=400) (evs:=[.v (.bool (Qa g.w 1 8)),.b false,.v (.bool (Qa g.h 1 8)),.b false,.b false,.b true]) (obs:=_) hE Try.func221 Qg (by kernel_rfl) ho hr
theorem p221_start_4 (g:Gd) {E:Env} {res:AV} (hE:Qh Try.prog 221 res E) (ho:AllP [Qi Try.prog (.clos 129 [] []) [.int .i64 g.w,.int .i64 1,.int .i64 8] (.bool (Qa g.w 1 8)),(!(Qa g.w 1 8))=false,Qi Try.prog (.clos 129 [] []) [.int .i64 g.h,.int .i64 1,.int .i64 8] (.bool (Qa g.h 1 8)),(!(Qa g.h 1 8))=false,InR .i64 (g.w*g.h),((g.cells.length:Int) != (g.w*g.h))=false,((g.hts.length:Int) != (g.cells.length:Int))=false,Qi Try.prog (.clos 76 [] []) [.rsl (rowI g.cells) 0 g.cells.length,.clos 264 [] []] (.bool (g.cells.any (outB 0 3))),(!(g.cells.any (outB 0 3)))=true,Qi Try.prog (.clos 76 [] []) [.rsl (rowI g.hts) 0 g.hts.length,.clos 265 [] []] (.bool (g.hts.any (outB 0 100)))])
 (hr:AvLe (.bool (!(g.hts.any (outB 0 100)))) res):G Try.prog E [.code (Qd Try.prog 221)] ⟨(Qat g)++unds (Try.f221.ntmps - 1),[]⟩ :=
 Qf (n:=400) (evs:=[.v (.bool (Qa g.w 1 8)),.b false,.v (.bool (Qa g.h 1 8)),.b false,.b false,.b false,.v (.bool (g.cells.any (outB 0 3))),.b true,.v (.bool (g.hts.any (outB 0 100)))]) (obs:=_) hE Try.func221 Qg (by kernel_rfl) ho hr
theorem p221_start_5 (g:Gd) {E:Env} {res:AV} (hE:Qh Try.prog 221 res E) (ho:AllP [Qi Try.prog (.clos 129 [] []) [.int .i64 g.w,.int .i64 1,.int .i64 8] (.bool (Qa g.w 1 8)),(!(Qa g.w 1 8))=false,Qi Try.prog (.clos 129 [] []) [.int .i64 g.h,.int .i64 1,.int .i64 8] (.bool (Qa g.h 1 8)),(!(Qa g.h 1 8))=false,InR .i64 (g.w*g.h),((g.cells.length:Int) != (g.w*g.h))=false,((g.hts.length:Int) != (g.cells.length:Int))=false,Qi Try.prog (.clos 76 [] []) [.rsl (rowI g.cells) 0 g.cells.length,.clos 264 [] []] (.bool (g.cells.any (outB 0 3))),(!(g.cells.any (outB 0 3)))=false])
 (hr:AvLe (.bool false) res):G Try.prog E [.code (Qd Try.prog 221)] ⟨(Qat g)++unds (Try.f221.ntmps - 1),[]⟩ :=
 Qf (n:=400) (evs:=[.v (.bool (Qa g.w 1 8)),.b false,.v (.bool (Qa g.h 1 8)),.b false,.b false,.b false,.v (.bool (g.cells.any (outB 0 3))),.b false]) (obs:=_) hE Try.func221 Qg (by kernel_rfl) ho hr
theorem f221W (g:Gd) {E:Env} {rv:Bool} (hE:Qh Try.prog 221 (.bool rv) E)
 (h:(((Qa g.w 1 8)=false→rv=false)∧((Qa g.w 1 8)=true→(((Qa g.h 1 8)=false→rv=false)∧((Qa g.h 1 8)=true→((I6 (g.w*g.h))∧((¬ ((g.cells.length:Int)=(g.w*g.h))→rv=false)∧((g.cells.length:Int)=(g.w*g.h)→((¬ ((g.hts.length:Int)=(g.cells.length:Int))→rv=false)∧((g.hts.length:Int)=(g.cells.length:Int)→((g.cells.length≤9223372036854775807)∧(((g.cells.any (outB 0 3))=false→((g.hts.length≤9223372036854775807)∧rv=(!(g.hts.any (outB 0 100)))))∧((g.cells.any (outB 0 3))=true→rv=false))))))))))))):G Try.prog E [.code (Qd Try.prog 221)] ⟨[.agg [.int .i64 g.w,.int .i64 g.h,.rsl (rowI g.cells) 0 g.cells.length,.rsl (rowI g.hts) 0 g.hts.length]]++unds (Try.f221.ntmps - 1),[]⟩:=by
 rcases bft (!(Qa g.w 1 8)) with hc0 | hc0
 · have h:=h.1 (bnT hc0)
   exact p221_start_0 g hE ⟨(u129 (Qq g.w 1 8)),hc0,rfl,rfl,rfl,trivial⟩ (AvLe.of_eq (by rw [h]; try rfl))
 · have h:=h.2 (bnF hc0)
   rcases bft (!(Qa g.h 1 8)) with hc1 | hc1
   · have h:=h.1 (bnT hc1)
     exact p221_start_1 g hE ⟨(u129 (Qq g.w 1 8)),hc0,(u129 (Qq g.h 1 8)),hc1,rfl,rfl,trivial⟩ (AvLe.of_eq (by rw [h]; try rfl))
   · have h:=h.2 (bnF hc1)
     obtain ⟨q4_2,h⟩:=h
     rcases bft ((g.cells.length:Int) != (g.w*g.h)) with hc2 | hc2
     · have h:=h.1 (bneT hc2)
       exact p221_start_2 g hE ⟨(u129 (Qq g.w 1 8)),hc0,(u129 (Qq g.h 1 8)),hc1,q4_2,hc2,rfl,trivial⟩ (AvLe.of_eq (by rw [h]; try rfl))
     · have h:=h.2 (bneF hc2)
       rcases bft ((g.hts.length:Int) != (g.cells.length:Int)) with hc3 | hc3
       · have h:=h.1 (bneT hc3)
         exact p221_start_3 g hE ⟨(u129 (Qq g.w 1 8)),hc0,(u129 (Qq g.h 1 8)),hc1,q4_2,hc2,hc3,trivial⟩ (AvLe.of_eq (by rw [h]; try rfl))
       · have h:=h.2 (bneF hc3)
         obtain ⟨h1,h⟩:=h
         rcases bft (!(g.cells.any (outB 0 3))) with hc4 | hc4
         · have h:=h.1 (bnT hc4)
           obtain ⟨h2,h⟩:=h
           exact p221_start_4 g hE ⟨(u129 (Qq g.w 1 8)),hc0,(u129 (Qq g.h 1 8)),hc1,q4_2,hc2,hc3,(Qk Try.func76 (by kernel_rfl) f76g3b (anyGr3_ok g.cells h1)),hc4,(Qk Try.func76 (by kernel_rfl) f76g100b (anyGr100_ok g.hts h2)),trivial⟩ (AvLe.of_eq (by rw [h]; try rfl))
         · have h:=h.2 (bnF hc4)
           exact p221_start_5 g hE ⟨(u129 (Qq g.w 1 8)),hc0,(u129 (Qq g.h 1 8)),hc1,q4_2,hc2,hc3,(Qk Try.func76 (by kernel_rfl) f76g3b (anyGr3_ok g.cells h1)),hc4,trivial⟩ (AvLe.of_eq (by rw [h]; try rfl))
theorem Vy (g:Gd) (hs:GdSmall g):Pure Try.prog 221 [.agg [.int .i64 g.w,.int .i64 g.h,.rsl (rowI g.cells) 0 g.cells.length,.rsl (rowI g.hts) 0 g.hts.length]] (.bool (XR g)):=Qy Try.func221 f221b fun E hE=>by
 have s1:=hs.cells
 have s2:=hs.hts
 refine f221W g (rv:=XR g) hE ⟨fun h1=>?_,fun h1=>⟨fun h2=>?_,fun h2=>⟨?_,fun h3=>?_,fun h3=>⟨fun h4=>?_,fun h4=>⟨by omega,fun h5=>⟨by omega,?_⟩,fun h5=>?_⟩⟩⟩⟩⟩
 · unfold XR; rw [h1]; rfl
 · unfold XR; rw [h2]; simp
 · have:=gnd_dims h1 h2
   exact ⟨by omega,by omega⟩
 · unfold XR; rw [decide_eq_false h3]; simp
 · unfold XR; rw [decide_eq_false (show ¬ g.hts.length=g.cells.length by omega)]; simp
 · unfold XR; rw [h1,h2,decide_eq_true h3,decide_eq_true (show g.hts.length=g.cells.length by omega),h5]; simp
 · unfold XR; rw [h5]; simp
theorem f225b:Try.f225.body=some (Qd Try.prog 225):=by kernel_rfl
def f225K0 (P:Program):List Item:=kAt 400 [.code (Qd P 225)] [.b false,.b false,.stop]
def f225S0:St:=⟨(jj 7 ([.sl 0 0 0 0 2,.int .i64 0]++Js 39)),[⟨true,0,2,true,[],true⟩]⟩
def f225G0 (E:Env):Prop:=G Try.prog E (f225K0 Try.prog) (f225S0 )
theorem p225_start_0 {E:Env} {rv:AV} {bs2:List Blk} (hE:LentE Try.prog 225 [] rv bs2 E) (ho:AllP [false=false,InR .u64 1,InR .u64 0,Qi Try.prog (.clos 130 [] []) [.int .u64 1,.int .u64 0] (.tup [.int .u64 0,.int .u64 0]),false=false,false=false,InR .i64 0,(0:Int)≤0∧(0:Int)≤0∧(0:Int)≤2147483648,Nat.min 1 0=0,0=0])
 (hg:G Try.prog E (f225K0 Try.prog) ⟨(jj 7 ([.sl 0 0 0 0 2,.int .i64 0]++Js 39)),[⟨true,0,2,true,[],true⟩]⟩):G Try.prog E [.code (Qd Try.prog 225)] ⟨[.rsl [.int .i64 (-1),.bool false] 0 1,.int .i64 0]++unds (Try.f225.ntmps - 2),[]⟩ :=
 Qe (n:=400) (ds:=[]) (cs:=[]) (live:=[7,8]) (m:=1) (evs:=[.b false,.v (.tup [.int .u64 0,.int .u64 0]),.b false,.b false,.mnone,.stop]) (obs:=_) hE.kind (hE.nogh0 _) Qg (by kernel_rfl) ho hg
theorem f225W {E:Env} {rv:Unit} {l2:List Sit} (hE:LentE Try.prog 225 [] (.sl 0 0 0 l2.length 2) [⟨true,0,2,true,(Qb l2),true⟩] E)
 (h:(((0:Int)≤(0:Int)∧(0:Int)<4294967296)∧(Nat.min 1 0=0∧f225G0 E ))):G Try.prog E [.code (Qd Try.prog 225)] ⟨[.rsl [.int .i64 (-1),.bool false] 0 1,.int .i64 0]++unds (Try.f225.ntmps - 2),[]⟩:=by
 obtain ⟨h1,h⟩:=h
 obtain ⟨h2,h⟩:=h
 exact p225_start_0 hE ⟨rfl,(⟨by decide,by decide⟩),(⟨by decide,by decide⟩),(u130 (mul_ok (0:Int) h1)),rfl,rfl,(⟨by decide,by decide⟩),(⟨by decide,by decide,by decide⟩),h2,rfl,trivial⟩ h
theorem p225_0_0 {E:Env} {res:AV} {bs2:List Blk} (hE:LentE Try.prog 225 [] res bs2 E) (ho:AllP [0=0,false=false])
 (hr:(.sl 0 0 0 0 2)=res) (hb:[⟨true,0,2,true,[],true⟩]=bs2):G Try.prog E (f225K0 Try.prog) (f225S0 ) :=
 Qr (n:=400) (live:=[4]) (m:=1) (evs:=[.b false]) (obs:=_) hE (hE.nogh0 _) Try.func225 Qg (by kernel_rfl) ho hr hb
theorem f225W0 {E:Env} {rv:Unit} {l2:List Sit} (hE:LentE Try.prog 225 [] (.sl 0 0 0 l2.length 2) [⟨true,0,2,true,(Qb l2),true⟩] E)
 (h:l2=[]):f225G0 E:=by
 have qe0:=h
 exact p225_0_0 hE ⟨rfl,rfl,trivial⟩ (by rw [qe0]; try rfl) (by rw [qe0]; all_goals (first | rfl | (simp only [List.length_set]; done) | (simp only [List.length_set]; rfl) | (simp only [List.length_set,List.length_replicate]; done)))
theorem noSites:Lent Try.prog 225 [.rsl [.int .i64 (-1),.bool false] 0 1,.int .i64 0] [] (.sl 0 0 0 ([]:List Sit).length 2) [⟨true,0,2,true,Qb [],true⟩]:=YX Try.func225 f225b fun E hE=>f225W (rv:=()) hE ⟨⟨by omega,by omega⟩,rfl,f225W0 (rv:=()) hE rfl⟩
theorem f128b:Try.f128.body=some (Qd Try.prog 128):=by kernel_rfl
theorem u128 {a c k:List AV} {r:AV} (h:Pure Try.prog 128 (a++c++k) r):Qi Try.prog (.clos 128 a k) c r:=Qk Try.func128 (by kernel_rfl) f128b h
theorem p128_start_0 (c:Int) (g:Gd) {E:Env} {res:AV} (hE:Qh Try.prog 128 res E) (ho:AllP [InR .i64 ((g.cells.length:Int) - 1),Qi Try.prog (.clos 129 [] []) [.int .i64 c,.int .i64 0,.int .i64 ((g.cells.length:Int) - 1)] (.bool (Qa c 0 ((g.cells.length:Int) - 1)))])
 (hr:AvLe (.bool (!(Qa c 0 ((g.cells.length:Int) - 1)))) res):G Try.prog E [.code (Qd Try.prog 128)] ⟨[.int .i64 c,.rptr [.int .i64 g.w,.int .i64 g.h,.rsl (rowI g.cells) 0 g.cells.length,.rsl (rowI g.hts) 0 g.hts.length] 0]++unds (Try.f128.ntmps - 2),[]⟩ :=
 Qf (n:=400) (evs:=[.v (.bool (Qa c 0 ((g.cells.length:Int) - 1)))]) (obs:=_) hE Try.func128 Qg (by kernel_rfl) ho hr
theorem f128W (c:Int) (g:Gd) {E:Env} {rv:Bool} (hE:Qh Try.prog 128 (.bool rv) E)
 (h:((I6 ((g.cells.length:Int) - 1))∧rv=(!(Qa c 0 ((g.cells.length:Int) - 1))))):G Try.prog E [.code (Qd Try.prog 128)] ⟨[.int .i64 c,.rptr [.int .i64 g.w,.int .i64 g.h,.rsl (rowI g.cells) 0 g.cells.length,.rsl (rowI g.hts) 0 g.hts.length] 0]++unds (Try.f128.ntmps - 2),[]⟩:=by
 obtain ⟨q0_0,h⟩:=h
 exact p128_start_0 c g hE ⟨q0_0,(u129 (Qq c 0 ((g.cells.length:Int) - 1))),trivial⟩ (AvLe.of_eq (by rw [h]; try rfl))
/-- A cell that is not on the ground. -/
def offG (g:Gd) (c:Int):Bool:=outB 0 ((g.cells.length:Int) - 1) c
theorem offG_ok (c:Int) (g:Gd) (h:g.cells.length≤100):Pure Try.prog 128 [.int .i64 c,.rptr [.int .i64 g.w,.int .i64 g.h,.rsl (rowI g.cells) 0 g.cells.length,.rsl (rowI g.hts) 0 g.hts.length] 0] (.bool (offG g c)):=Qy Try.func128 f128b fun E hE=>by
 refine f128W c g (rv:=offG g c) hE ⟨⟨by omega,by omega⟩,rfl⟩
theorem f59wcb:Try.f59.body=some (Qd Try.prog 59):=by kernel_rfl
def qK (P:Program):List Item:=kAt 400 [.code (Qd P 59)] [.stop]
def Qct (l:(List Int)) (g:Gd) (i:Nat):St:=⟨([.rsl (rowI l) 0 l.length,.clos 128 [] [.rptr [.int .i64 g.w,.int .i64 g.h,.rsl (rowI g.cells) 0 g.cells.length,.rsl (rowI g.hts) 0 g.hts.length] 0]]++jj 5 ([.int .i64 (l.length:Int),.int .i64 (i:Int)]++Js 10)),[]⟩
def Qcu (E:Env) (l:(List Int)) (g:Gd) (i:Nat):Prop:=G Try.prog E (qK Try.prog) (Qct l g i )
abbrev yO (g:Gd):List AV:=[.rptr [.int .i64 g.w,.int .i64 g.h,.rsl (rowI g.cells) 0 g.cells.length,.rsl (rowI g.hts) 0 g.hts.length] 0]
theorem QbE (l:(List Int)) (g:Gd) {E:Env} {rv:AV} (hE:Qh Try.prog 59 rv E) (ho:AllP [])
 (hg:G Try.prog E (qK Try.prog) ⟨([.rsl (rowI l) 0 l.length,.clos 128 [] (yO g)]++jj 5 ([.int .i64 (l.length:Int),.int .i64 0]++Js 10)),[]⟩):G Try.prog E [.code (Qd Try.prog 59)] ⟨[.rsl (rowI l) 0 l.length,.clos 128 [] (yO g)]++unds (Try.f59.ntmps - 2),[]⟩ :=
 Qe (n:=400) (ds:=[]) (cs:=[]) (live:=[0,1,7,8]) (m:=0) (evs:=[.stop]) (obs:=_) hE.2.1 (hE.nogh _) Qg (by kernel_rfl) ho hg
theorem f59wcW (l:(List Int)) (g:Gd) {E:Env} {rv:Int} (hE:Qh Try.prog 59 (.int .i64 rv) E)
 (h:Qcu E l g 0):G Try.prog E [.code (Qd Try.prog 59)] ⟨[.rsl (rowI l) 0 l.length,.clos 128 [] [.rptr [.int .i64 g.w,.int .i64 g.h,.rsl (rowI g.cells) 0 g.cells.length,.rsl (rowI g.hts) 0 g.hts.length] 0]]++unds (Try.f59.ntmps - 2),[]⟩:=by
 exact QbE l g hE trivial h
theorem p59wc_0_0 (l:(List Int)) (g:Gd) (i:Nat) (e:Int) {E:Env} {res:AV} (hE:Qh Try.prog 59 res E) (ho:AllP [(decide ((i:Int)<(l.length:Int)))=true,0≤(i:Int)∧(i:Int)<(l.length:Int),((rowI l).drop (0+(Int.toNat (i:Int))*1)).take 1=[.int .i64 e],Qi Try.prog (.clos 128 [] (yO g)) [.int .i64 e] (.bool (offG g e)),(offG g e)=true])
 (hr:AvLe (.int .i64 (i:Int)) res):G Try.prog E (qK Try.prog) (Qct l g i ) :=
 Qf (n:=400) (evs:=[.b true,.ld (.int .i64 e),.v (.bool (offG g e)),.b true]) (obs:=_) hE Try.func59 Qg (by kernel_rfl) ho hr
theorem p59wc_0_1 (l:(List Int)) (g:Gd) (i:Nat) (e:Int) {E:Env} {rv:AV} (hE:Qh Try.prog 59 rv E) (ho:AllP [(decide ((i:Int)<(l.length:Int)))=true,0≤(i:Int)∧(i:Int)<(l.length:Int),((rowI l).drop (0+(Int.toNat (i:Int))*1)).take 1=[.int .i64 e],Qi Try.prog (.clos 128 [] (yO g)) [.int .i64 e] (.bool (offG g e)),(offG g e)=false,InR .i64 ((i:Int)+1)])
 (hg:G Try.prog E (qK Try.prog) ⟨([.rsl (rowI l) 0 l.length,.clos 128 [] (yO g)]++jj 5 ([.int .i64 (l.length:Int),.int .i64 ((i:Int)+1)]++Js 10)),[]⟩):G Try.prog E (qK Try.prog) (Qct l g i ) :=
 Qe (n:=400) (ds:=[]) (cs:=[]) (live:=[0,1,7,8]) (m:=0) (evs:=[.b true,.ld (.int .i64 e),.v (.bool (offG g e)),.b false,.stop]) (obs:=_) hE.2.1 (hE.nogh _) Qg (by kernel_rfl) ho hg
theorem p59wc_0_2 (l:(List Int)) (g:Gd) (i:Nat) {E:Env} {res:AV} (hE:Qh Try.prog 59 res E) (ho:AllP [(decide ((i:Int)<(l.length:Int)))=false])
 (hr:AvLe (.int .i64 (-1)) res):G Try.prog E (qK Try.prog) (Qct l g i ) :=
 Qf (n:=400) (evs:=[.b false]) (obs:=_) hE Try.func59 Qg (by kernel_rfl) ho hr
theorem f59wcW0 (l:(List Int)) (g:Gd) (i:Nat) {E:Env} {rv:Int} (hE:Qh Try.prog 59 (.int .i64 rv) E)
 (h:(((i:Int)<(l.length:Int)→(∃ e:Int,l[i]?=some e∧((g.cells.length≤100)∧(((offG g e)=true→rv=(i:Int))∧((offG g e)=false→((I6 ((i:Int)+1))∧Qcu E l g (i+1)))))))∧(¬ ((i:Int)<(l.length:Int))→rv=(-1)))):Qcu E l g i:=by
 rcases bft (decide ((i:Int)<(l.length:Int))) with hc0 | hc0
 · have h:=h.1 (odt hc0)
   obtain ⟨e,h1,h⟩:=h
   obtain ⟨h2,h⟩:=h
   rcases bft (offG g e) with hc1 | hc1
   · have h:=h.1 hc1
     exact p59wc_0_0 l g i e hE ⟨hc0,(Qs h1),(rp cI 1 0 1 h1),(u128 (offG_ok e g h2)),hc1,trivial⟩ (AvLe.of_eq (by rw [h]; try rfl))
   · have h:=h.2 hc1
     obtain ⟨q6_2,h⟩:=h
     exact p59wc_0_1 l g i e hE ⟨hc0,(Qs h1),(rp cI 1 0 1 h1),(u128 (offG_ok e g h2)),hc1,q6_2,trivial⟩ h
 · have h:=h.2 (odf hc0)
   exact p59wc_0_2 l g i hE ⟨hc0,trivial⟩ (AvLe.of_eq (by rw [h]; try rfl))
theorem idxOff_ok (l:List Int) (g:Gd) (h:(∀ x ∈ l,g.cells.length≤100)∧l.length≤9223372036854775807):Pure Try.prog 59 [.rsl (rowI l) 0 l.length,.clos 128 [] [.rptr [.int .i64 g.w,.int .i64 g.h,.rsl (rowI g.cells) 0 g.cells.length,.rsl (rowI g.hts) 0 g.hts.length] 0]] (.int .i64 (idxG (offG g) l)):=Qy Try.func59 f59wcb fun E hE=>by
 have hl:=h.2
 refine f59wcW l g (rv:=idxG (offG g) l) hE (YJ (offG g) l l.length 0 (by omega) (fun j x hj=>by omega) (fun i=>Qcu E l g i) (fun i hi' h1 h2=>?_) (fun _ h2=>?_))
 · have hx:l[i]?=some l[i]:=List.getElem?_eq_getElem hi'
   have hm:=List.mem_of_getElem? hx
   exact f59wcW0 l g i (rv:=idxG (offG g) l) hE ⟨fun _=>⟨_,hx,h.1 _ hm,fun hp=>h1 _ hx (by simpa using hp),fun hp=>⟨by omega,h2 _ hx (by simpa using hp)⟩⟩,fun h=>by omega⟩
 · exact f59wcW0 l g _ (rv:=idxG (offG g) l) hE ⟨fun h=>by omega,fun _=>h2⟩
theorem f76wcb:Try.f76.body=some (Qd Try.prog 76):=by kernel_rfl
abbrev z76wc_1 (l:(List Int)) (g:Gd):List AV:=[.rsl (rowI l) 0 l.length,.clos 128 [] [.rptr [.int .i64 g.w,.int .i64 g.h,.rsl (rowI g.cells) 0 g.cells.length,.rsl (rowI g.hts) 0 g.hts.length] 0]]
theorem QbC (l:(List Int)) (g:Gd) {E:Env} {res:AV} (hE:Qh Try.prog 76 res E) (ho:AllP [Qi Try.prog (.clos 59 [] []) (z76wc_1 l g) (.int .i64 (idxG (offG g) l))])
 (hr:AvLe (.bool (decide ((idxG (offG g) l)≥0))) res):G Try.prog E [.code (Qd Try.prog 76)] ⟨(z76wc_1 l g)++unds (Try.f76.ntmps - 2),[]⟩ :=
 Qf (n:=400) (evs:=[.v (.int .i64 (idxG (offG g) l))]) (obs:=_) hE Try.func76 Qg (by kernel_rfl) ho hr
theorem f76wcW (l:(List Int)) (g:Gd) {E:Env} {rv:Bool} (hE:Qh Try.prog 76 (.bool rv) E)
 (h:(((∀ x ∈ l,g.cells.length≤100)∧l.length≤9223372036854775807)∧rv=(decide ((idxG (offG g) l)≥0)))):G Try.prog E [.code (Qd Try.prog 76)] ⟨[.rsl (rowI l) 0 l.length,.clos 128 [] [.rptr [.int .i64 g.w,.int .i64 g.h,.rsl (rowI g.cells) 0 g.cells.length,.rsl (rowI g.hts) 0 g.hts.length] 0]]++unds (Try.f76.ntmps - 2),[]⟩:=by
 obtain ⟨h1,h⟩:=h
 exact QbC l g hE ⟨(Qk Try.func59 (by kernel_rfl) f59wcb (idxOff_ok l g h1)),trivial⟩ (AvLe.of_eq (by rw [h]; try rfl))
theorem anyOff_ok (l:List Int) (g:Gd) (h:(∀ x ∈ l,g.cells.length≤100)∧l.length≤9223372036854775807):Pure Try.prog 76 [.rsl (rowI l) 0 l.length,.clos 128 [] [.rptr [.int .i64 g.w,.int .i64 g.h,.rsl (rowI g.cells) 0 g.cells.length,.rsl (rowI g.hts) 0 g.hts.length] 0]] (.bool (l.any (offG g))):=Qy Try.func76 f76wcb fun E hE =>
 f76wcW l g (rv:=l.any (offG g)) hE ⟨h,(qh _ _).symm⟩
end Go.Proofs.Ytemklbioijmjiaa
namespace Go.Proofs.Ytemklbioijmjiaa
open Go Ax
open Go.Proofs
def Va (g:Gd) (c:Int):Int:=g.cells.getD c.toNat 0
def htAt (g:Gd) (c:Int):Int:=g.hts.getD c.toNat 0
def Ql (g:Gd) (c:Int):List Int :=
 (if 0<Int.tdiv c g.w then [c - g.w] else [])++(if 0<Int.tmod c g.w then [c - 1] else [])++(if Int.tmod c g.w<g.w - 1 then [c+1] else [])++(if Int.tdiv c g.w<g.h - 1 then [c+g.w] else [])
structure OnG (g:Gd) (c:Int):Prop where
 ok:XR g=true
 lo:0≤c
 hi:c<(g.cells.length:Int)
structure GndP (g:Gd):Prop where
 w1:1≤g.w
 w8:g.w≤8
 h1:1≤g.h
 h8:g.h≤8
 len:(g.cells.length:Int)=g.w*g.h
 hl:g.hts.length=g.cells.length
 kind:∀ x ∈ g.cells,0≤x∧x≤3
 hts:∀ x ∈ g.hts,0≤x∧x≤100
theorem Qck {g:Gd} (h:XR g=true):GndP g:=by
 simp only [XR,Bool.and_eq_true,decide_eq_true_eq,Bool.not_eq_true',List.any_eq_false,outB,Bool.not_eq_true,Bool.not_eq_false'] at h
 obtain ⟨a,b,c,d,e,f⟩:=h
 have a':=QI.1 a
 have b':=QI.1 b
 exact ⟨a'.1,a'.2,b'.1,b'.2,c,d,fun x hx=>QI.1 (by simpa using e x hx),fun x hx=>QI.1 (by simpa using f x hx)⟩
theorem OnG.cell {g:Gd} {c:Int} (h:OnG g c):g.cells[c.toNat]?=some (Va g c):=by
 have:=h.lo; have:=h.hi
 rw [Va,List.getD_eq_getElem?_getD,List.getElem?_eq_getElem (show c.toNat<g.cells.length by omega)]; rfl
theorem OnG.ht {g:Gd} {c:Int} (h:OnG g c):g.hts[c.toNat]?=some (htAt g c):=by
 have:=h.lo; have:=h.hi; have:=(Qck h.ok).hl
 rw [htAt,List.getD_eq_getElem?_getD,List.getElem?_eq_getElem (show c.toNat<g.hts.length by omega)]; rfl
theorem OnG.tk {g:Gd} {c:Int} (h:OnG g c):(takenL g)[c.toNat]?=some (-1):=by
 have:=h.lo; have:=h.hi
 rw [takenL,List.getElem?_replicate,if_pos (by omega)]
theorem OnG.htb {g:Gd} {c:Int} (h:OnG g c):0≤htAt g c∧htAt g c≤100:=(Qck h.ok).hts _ (List.mem_of_getElem? h.ht)
theorem OnG.dims {g:Gd} {c:Int} (h:OnG g c):0≤Int.tdiv c g.w∧Int.tdiv c g.w<g.h∧0≤Int.tmod c g.w∧Int.tmod c g.w<g.w∧c=g.w*Int.tdiv c g.w+Int.tmod c g.w:=by
 have p:=Qck h.ok
 have h1:=h.lo; have h2:=h.hi; have h3:=p.w1; have h4:=p.len
 rw [Int.tdiv_eq_ediv_of_nonneg h1,Int.tmod_eq_emod_of_nonneg h1]
 refine ⟨Int.ediv_nonneg h1 (by omega),Int.ediv_lt_of_lt_mul (by omega) ?_,Int.emod_nonneg _ (by omega),Int.emod_lt_of_pos _ (by omega),?_⟩
 · rw [Int.mul_comm]; omega
 · have:=Int.mul_ediv_add_emod c g.w; omega
theorem Vr {g:Gd} {c k:Int} (h:OnG g c) (hk:k ∈ Ql g c):OnG g k:=by
 have p:=Qck h.ok
 obtain ⟨d1,d2,d3,d4,d5⟩:=h.dims
 have h1:=h.lo; have h2:=h.hi; have h3:=p.w1; have h4:=p.len
 have m1:g.w*Int.tdiv c g.w+g.w≤g.w*g.h:=by
  have:=Int.mul_le_mul_of_nonneg_left (show Int.tdiv c g.w+1≤g.h by omega) (show 0≤g.w by omega)
  rw [Int.mul_add,Int.mul_one] at this; exact this
 have m0:0≤g.w*Int.tdiv c g.w:=Int.mul_nonneg (by omega) d1
 have key:0≤k∧k<(g.cells.length:Int):=by
  simp only [Ql,List.mem_append] at hk
  rcases hk with ((hk | hk) | hk) | hk <;> split at hk <;> simp only [List.mem_singleton,List.not_mem_nil] at hk <;> subst hk
  · rename_i q
    have:=Int.mul_le_mul_of_nonneg_left (show 1≤Int.tdiv c g.w by omega) (show 0≤g.w by omega)
    omega
  · omega
  · omega
  · rename_i q
    have:=Int.mul_le_mul_of_nonneg_left (show Int.tdiv c g.w+1+1≤g.h by omega) (show 0≤g.w by omega)
    rw [Int.mul_add,Int.mul_add,Int.mul_one] at this
    omega
 exact ⟨h.ok,key.1,key.2⟩
theorem qV (g:Gd) (c:Int):(Ql g c).length≤4:=by
 simp only [Ql,List.length_append]
 split <;> split <;> split <;> split <;> simp
end Go.Proofs.Ytemklbioijmjiaa
namespace Go.Proofs.Ytemklbioijmjiaa
open Go Ax
open Go.Proofs
structure Ptc where
 wide:Int
 high:Int
 slope:Int
 years:Int
 wish:Int
def cPtc (t:Ptc):List AV:=[.int .i64 t.wide,.int .i64 t.high,.int .i64 t.slope,.int .i64 t.years,.int .i64 t.wish]
def Qc (l:List Ptc):List AV:=l.flatMap cPtc
structure Fld where
 g:Gd
 ps:List Ptc
 ss:List Sit
 tk:List Int
def QU (g:Gd) (p:Ptc):Bool:=!(Qa p.wide 1 8 && (Qa p.high 1 8 && (Qa p.slope 0 100 && (Qa p.years 0 1000 && Qa p.wish (-1) ((g.cells.length:Int) - 1)))))
def nowhere:Sit:=⟨-1,false⟩
def VG (g:Gd) (l:List Ptc):Fld:=⟨g,l,List.replicate l.length nowhere,List.replicate g.cells.length (-1)⟩
/-- The error of a ground and pitches,and where it is. -/
def Xk (g:Gd) (l:List Ptc):Int × Int:=if XR g=true then (if l.length > 8 then (0,2) else (if idxG (QU g) l≥0 then (idxG (QU g) l,41) else (0,0))) else (0,40)
theorem scal_Sit2 (l:List Sit):∀ x ∈ Qb l,Xt x=true:=fun c hc=>by
 obtain ⟨x,-,h⟩:=List.mem_flatMap.1 hc
 simp only [cSit,List.mem_cons,List.not_mem_nil,or_false] at h
 rcases h with rfl | rfl <;> rfl
theorem f224b:Try.f224.body=some (Qd Try.prog 224):=by kernel_rfl
theorem u224 {a c k:List AV} {r:AV} (h:Pure Try.prog 224 (a++c++k) r):Qi Try.prog (.clos 224 a k) c r:=Qk Try.func224 (by kernel_rfl) f224b h
abbrev z224_1 (g:Gd) (p:Ptc):List AV:=[.agg [.int .i64 g.w,.int .i64 g.h,.rsl (rowI g.cells) 0 g.cells.length,.rsl (rowI g.hts) 0 g.hts.length],.agg [.int .i64 p.wide,.int .i64 p.high,.int .i64 p.slope,.int .i64 p.years,.int .i64 p.wish]]
theorem p224_start_0 (g:Gd) (p:Ptc) {E:Env} {res:AV} (hE:Qh Try.prog 224 res E) (ho:AllP [Qi Try.prog (.clos 129 [] []) [.int .i64 p.wide,.int .i64 1,.int .i64 8] (.bool (Qa p.wide 1 8)),(Qa p.wide 1 8)=true,Qi Try.prog (.clos 129 [] []) [.int .i64 p.high,.int .i64 1,.int .i64 8] (.bool (Qa p.high 1 8)),(Qa p.high 1 8)=true,Qi Try.prog (.clos 129 [] []) [.int .i64 p.slope,.int .i64 0,.int .i64 100] (.bool (Qa p.slope 0 100)),(Qa p.slope 0 100)=true,Qi Try.prog (.clos 129 [] []) [.int .i64 p.years,.int .i64 0,.int .i64 1000] (.bool (Qa p.years 0 1000)),(Qa p.years 0 1000)=true,InR .i64 ((g.cells.length:Int) - 1),Qi Try.prog (.clos 129 [] []) [.int .i64 p.wish,.int .i64 (-1),.int .i64 ((g.cells.length:Int) - 1)] (.bool (Qa p.wish (-1) ((g.cells.length:Int) - 1)))])
 (hr:AvLe (.bool (Qa p.wish (-1) ((g.cells.length:Int) - 1))) res):G Try.prog E [.code (Qd Try.prog 224)] ⟨(z224_1 g p)++unds (Try.f224.ntmps - 2),[]⟩ :=
 Qf (n:=400) (evs:=[.v (.bool (Qa p.wide 1 8)),.b true,.v (.bool (Qa p.high 1 8)),.b true,.v (.bool (Qa p.slope 0 100)),.b true,.v (.bool (Qa p.years 0 1000)),.b true,.v (.bool (Qa p.wish (-1) ((g.cells.length:Int) - 1)))]) (obs:=_) hE Try.func224 Qg (by kernel_rfl) ho hr
theorem p224_start_1 (g:Gd) (p:Ptc) {E:Env} {res:AV} (hE:Qh Try.prog 224 res E) (ho:AllP [Qi Try.prog (.clos 129 [] []) [.int .i64 p.wide,.int .i64 1,.int .i64 8] (.bool (Qa p.wide 1 8)),(Qa p.wide 1 8)=true,Qi Try.prog (.clos 129 [] []) [.int .i64 p.high,.int .i64 1,.int .i64 8] (.bool (Qa p.high 1 8)),(Qa p.high 1 8)=true,Qi Try.prog (.clos 129 [] []) [.int .i64 p.slope,.int .i64 0,.int .i64 100] (.bool (Qa p.slope 0 100)),(Qa p.slope 0 100)=true,Qi Try.prog (.clos 129 [] []) [.int .i64 p.years,.int .i64 0,.int .i64 1000] (.bool (Qa p.years 0 1000)),(Qa p.years 0 1000)=false])
 (hr:AvLe (.bool false) res):G Try.prog E [.code (Qd Try.prog 224)] ⟨(z224_1 g p)++unds (Try.f224.ntmps - 2),[]⟩ :=
 Qf (n:=400) (evs:=[.v (.bool (Qa p.wide 1 8)),.b true,.v (.bool (Qa p.high 1 8)),.b true,.v (.bool (Qa p.slope 0 100)),.b true,.v (.bool (Qa p.years 0 1000)),.b false]) (obs:=_) hE Try.func224 Qg (by kernel_rfl) ho hr
theorem p224_start_2 (g:Gd) (p:Ptc) {E:Env} {res:AV} (hE:Qh Try.prog 224 res E) (ho:AllP [Qi Try.prog (.clos 129 [] []) [.int .i64 p.wide,.int .i64 1,.int .i64 8] (.bool (Qa p.wide 1 8)),(Qa p.wide 1 8)=true,Qi Try.prog (.clos 129 [] []) [.int .i64 p.high,.int .i64 1,.int .i64 8] (.bool (Qa p.high 1 8)),(Qa p.high 1 8)=true,Qi Try.prog (.clos 129 [] []) [.int .i64 p.slope,.int .i64 0,.int .i64 100] (.bool (Qa p.slope 0 100)),(Qa p.slope 0 100)=false,false=false])
 (hr:AvLe (.bool false) res):G Try.prog E [.code (Qd Try.prog 224)] ⟨(z224_1 g p)++unds (Try.f224.ntmps - 2),[]⟩ :=
 Qf (n:=400) (evs:=[.v (.bool (Qa p.wide 1 8)),.b true,.v (.bool (Qa p.high 1 8)),.b true,.v (.bool (Qa p.slope 0 100)),.b false,.b false]) (obs:=_) hE Try.func224 Qg (by kernel_rfl) ho hr
theorem p224_start_3 (g:Gd) (p:Ptc) {E:Env} {res:AV} (hE:Qh Try.prog 224 res E) (ho:AllP [Qi Try.prog (.clos 129 [] []) [.int .i64 p.wide,.int .i64 1,.int .i64 8] (.bool (Qa p.wide 1 8)),(Qa p.wide 1 8)=true,Qi Try.prog (.clos 129 [] []) [.int .i64 p.high,.int .i64 1,.int .i64 8] (.bool (Qa p.high 1 8)),(Qa p.high 1 8)=false,false=false,false=false])
 (hr:AvLe (.bool false) res):G Try.prog E [.code (Qd Try.prog 224)] ⟨(z224_1 g p)++unds (Try.f224.ntmps - 2),[]⟩ :=
 Qf (n:=400) (evs:=[.v (.bool (Qa p.wide 1 8)),.b true,.v (.bool (Qa p.high 1 8)),.b false,.b false,.b false]) (obs:=_) hE Try.func224 Qg (by kernel_rfl) ho hr
theorem p224_start_4 (g:Gd) (p:Ptc) {E:Env} {res:AV} (hE:Qh Try.prog 224 res E) (ho:AllP [Qi Try.prog (.clos 129 [] []) [.int .i64 p.wide,.int .i64 1,.int .i64 8] (.bool (Qa p.wide 1 8)),(Qa p.wide 1 8)=false,false=false,false=false,false=false])
 (hr:AvLe (.bool false) res):G Try.prog E [.code (Qd Try.prog 224)] ⟨(z224_1 g p)++unds (Try.f224.ntmps - 2),[]⟩ :=
 Qf (n:=400) (evs:=[.v (.bool (Qa p.wide 1 8)),.b false,.b false,.b false,.b false]) (obs:=_) hE Try.func224 Qg (by kernel_rfl) ho hr
theorem f224W (g:Gd) (p:Ptc) {E:Env} {rv:Bool} (hE:Qh Try.prog 224 (.bool rv) E)
 (h:(((Qa p.wide 1 8)=true→(((Qa p.high 1 8)=true→(((Qa p.slope 0 100)=true→(((Qa p.years 0 1000)=true→((I6 ((g.cells.length:Int) - 1))∧rv=(Qa p.wish (-1) ((g.cells.length:Int) - 1))))∧((Qa p.years 0 1000)=false→rv=false)))∧((Qa p.slope 0 100)=false→rv=false)))∧((Qa p.high 1 8)=false→rv=false)))∧((Qa p.wide 1 8)=false→rv=false))):G Try.prog E [.code (Qd Try.prog 224)] ⟨[.agg [.int .i64 g.w,.int .i64 g.h,.rsl (rowI g.cells) 0 g.cells.length,.rsl (rowI g.hts) 0 g.hts.length],.agg [.int .i64 p.wide,.int .i64 p.high,.int .i64 p.slope,.int .i64 p.years,.int .i64 p.wish]]++unds (Try.f224.ntmps - 2),[]⟩:=by
 rcases bft (Qa p.wide 1 8) with hc0 | hc0
 · have h:=h.1 hc0
   rcases bft (Qa p.high 1 8) with hc1 | hc1
   · have h:=h.1 hc1
     rcases bft (Qa p.slope 0 100) with hc2 | hc2
     · have h:=h.1 hc2
       rcases bft (Qa p.years 0 1000) with hc3 | hc3
       · have h:=h.1 hc3
         obtain ⟨q8_4,h⟩:=h
         exact p224_start_0 g p hE ⟨(u129 (Qq p.wide 1 8)),hc0,(u129 (Qq p.high 1 8)),hc1,(u129 (Qq p.slope 0 100)),hc2,(u129 (Qq p.years 0 1000)),hc3,q8_4,(u129 (Qq p.wish (-1) ((g.cells.length:Int) - 1))),trivial⟩ (AvLe.of_eq (by rw [h]; try rfl))
       · have h:=h.2 hc3
         exact p224_start_1 g p hE ⟨(u129 (Qq p.wide 1 8)),hc0,(u129 (Qq p.high 1 8)),hc1,(u129 (Qq p.slope 0 100)),hc2,(u129 (Qq p.years 0 1000)),hc3,trivial⟩ (AvLe.of_eq (by rw [h]; try rfl))
     · have h:=h.2 hc2
       exact p224_start_2 g p hE ⟨(u129 (Qq p.wide 1 8)),hc0,(u129 (Qq p.high 1 8)),hc1,(u129 (Qq p.slope 0 100)),hc2,rfl,trivial⟩ (AvLe.of_eq (by rw [h]; try rfl))
   · have h:=h.2 hc1
     exact p224_start_3 g p hE ⟨(u129 (Qq p.wide 1 8)),hc0,(u129 (Qq p.high 1 8)),hc1,rfl,rfl,trivial⟩ (AvLe.of_eq (by rw [h]; try rfl))
 · have h:=h.2 hc0
   exact p224_start_4 g p hE ⟨(u129 (Qq p.wide 1 8)),hc0,rfl,rfl,rfl,trivial⟩ (AvLe.of_eq (by rw [h]; try rfl))
theorem pitched_ok (g:Gd) (p:Ptc) (h:g.cells.length≤100):Pure Try.prog 224 [.agg [.int .i64 g.w,.int .i64 g.h,.rsl (rowI g.cells) 0 g.cells.length,.rsl (rowI g.hts) 0 g.hts.length],.agg [.int .i64 p.wide,.int .i64 p.high,.int .i64 p.slope,.int .i64 p.years,.int .i64 p.wish]] (.bool (!(QU g p))):=Qy Try.func224 f224b fun E hE=>by
 refine f224W g p (rv:=!(QU g p)) hE ⟨fun h1=>⟨fun h2=>⟨fun h3=>⟨fun h4=>⟨⟨by omega,by omega⟩,?_⟩,fun h4=>?_⟩,fun h3=>?_⟩,fun h2=>?_⟩,fun h1=>?_⟩
 all_goals (unfold QU; simp [*])
theorem f223b:Try.f223.body=some (Qd Try.prog 223):=by kernel_rfl
theorem u223 {a c k:List AV} {r:AV} (h:Pure Try.prog 223 (a++c++k) r):Qi Try.prog (.clos 223 a k) c r:=Qk Try.func223 (by kernel_rfl) f223b h
theorem p223_start_0 (p:Ptc) (g:Gd) {E:Env} {res:AV} (hE:Qh Try.prog 223 res E) (ho:AllP [Qi Try.prog (.clos 224 [] []) [.agg [.int .i64 g.w,.int .i64 g.h,.rsl (rowI g.cells) 0 g.cells.length,.rsl (rowI g.hts) 0 g.hts.length],.agg [.int .i64 p.wide,.int .i64 p.high,.int .i64 p.slope,.int .i64 p.years,.int .i64 p.wish]] (.bool (!(QU g p)))])
 (hr:AvLe (.bool (!(!(QU g p)))) res):G Try.prog E [.code (Qd Try.prog 223)] ⟨[.agg [.int .i64 p.wide,.int .i64 p.high,.int .i64 p.slope,.int .i64 p.years,.int .i64 p.wish],.rptr [.int .i64 g.w,.int .i64 g.h,.rsl (rowI g.cells) 0 g.cells.length,.rsl (rowI g.hts) 0 g.hts.length] 0]++unds (Try.f223.ntmps - 2),[]⟩ :=
 Qf (n:=400) (evs:=[.v (.bool (!(QU g p)))]) (obs:=_) hE Try.func223 Qg (by kernel_rfl) ho hr
theorem f223W (p:Ptc) (g:Gd) {E:Env} {rv:Bool} (hE:Qh Try.prog 223 (.bool rv) E)
 (h:((g.cells.length≤100)∧rv=(!(!(QU g p))))):G Try.prog E [.code (Qd Try.prog 223)] ⟨[.agg [.int .i64 p.wide,.int .i64 p.high,.int .i64 p.slope,.int .i64 p.years,.int .i64 p.wish],.rptr [.int .i64 g.w,.int .i64 g.h,.rsl (rowI g.cells) 0 g.cells.length,.rsl (rowI g.hts) 0 g.hts.length] 0]++unds (Try.f223.ntmps - 2),[]⟩:=by
 obtain ⟨h1,h⟩:=h
 exact p223_start_0 p g hE ⟨(u224 (pitched_ok g p h1)),trivial⟩ (AvLe.of_eq (by rw [h]; try rfl))
theorem badPtc_ok (p:Ptc) (g:Gd) (h:g.cells.length≤100):Pure Try.prog 223 [.agg [.int .i64 p.wide,.int .i64 p.high,.int .i64 p.slope,.int .i64 p.years,.int .i64 p.wish],.rptr [.int .i64 g.w,.int .i64 g.h,.rsl (rowI g.cells) 0 g.cells.length,.rsl (rowI g.hts) 0 g.hts.length] 0] (.bool (QU g p)):=Qy Try.func223 f223b fun E hE =>
 f223W p g (rv:=QU g p) hE ⟨h,by simp⟩
theorem f222bpb:Try.f222.body=some (Qd Try.prog 222):=by kernel_rfl
def Ws (P:Program):List Item:=kAt 400 [.code (Qd P 222)] [.stop]
def yG (l:(List Ptc)) (g:Gd) (i:Nat):St:=⟨([.rsl (Qc l) 0 l.length,.clos 223 [] [.rptr [.int .i64 g.w,.int .i64 g.h,.rsl (rowI g.cells) 0 g.cells.length,.rsl (rowI g.hts) 0 g.hts.length] 0]]++jj 5 ([.int .i64 (l.length:Int),.int .i64 (i:Int)]++Js 10)),[]⟩
def yH (E:Env) (l:(List Ptc)) (g:Gd) (i:Nat):Prop:=G Try.prog E (Ws Try.prog) (yG l g i )
abbrev Wi (pe:Ptc):List AV:=[.int .i64 pe.wide,.int .i64 pe.high,.int .i64 pe.slope,.int .i64 pe.years,.int .i64 pe.wish]
abbrev WO (g:Gd):List AV:=[.rptr [.int .i64 g.w,.int .i64 g.h,.rsl (rowI g.cells) 0 g.cells.length,.rsl (rowI g.hts) 0 g.hts.length] 0]
theorem Qan (l:(List Ptc)) (g:Gd) {E:Env} {rv:AV} (hE:Qh Try.prog 222 rv E) (ho:AllP [])
 (hg:G Try.prog E (Ws Try.prog) ⟨([.rsl (Qc l) 0 l.length,.clos 223 [] (WO g)]++jj 5 ([.int .i64 (l.length:Int),.int .i64 0]++Js 10)),[]⟩):G Try.prog E [.code (Qd Try.prog 222)] ⟨[.rsl (Qc l) 0 l.length,.clos 223 [] (WO g)]++unds (Try.f222.ntmps - 2),[]⟩ :=
 Qe (n:=400) (ds:=[]) (cs:=[]) (live:=[0,1,7,8]) (m:=0) (evs:=[.stop]) (obs:=_) hE.2.1 (hE.nogh _) Qg (by kernel_rfl) ho hg
theorem f222bpW (l:(List Ptc)) (g:Gd) {E:Env} {rv:Int} (hE:Qh Try.prog 222 (.int .i64 rv) E)
 (h:yH E l g 0):G Try.prog E [.code (Qd Try.prog 222)] ⟨[.rsl (Qc l) 0 l.length,.clos 223 [] [.rptr [.int .i64 g.w,.int .i64 g.h,.rsl (rowI g.cells) 0 g.cells.length,.rsl (rowI g.hts) 0 g.hts.length] 0]]++unds (Try.f222.ntmps - 2),[]⟩:=by
 exact Qan l g hE trivial h
theorem p222bp_0_0 (l:(List Ptc)) (g:Gd) (i:Nat) (pe:Ptc) {E:Env} {res:AV} (hE:Qh Try.prog 222 res E) (ho:AllP [(decide ((i:Int)<(l.length:Int)))=true,0≤(i:Int)∧(i:Int)<(l.length:Int),((Qc l).drop (0+(Int.toNat (i:Int))*5)).take 5=(Wi pe),Qi Try.prog (.clos 223 [] (WO g)) [.agg (Wi pe)] (.bool (QU g pe)),(QU g pe)=true])
 (hr:AvLe (.int .i64 (i:Int)) res):G Try.prog E (Ws Try.prog) (yG l g i ) :=
 Qf (n:=400) (evs:=[.b true,.ld (.agg (Wi pe)),.v (.bool (QU g pe)),.b true]) (obs:=_) hE Try.func222 Qg (by kernel_rfl) ho hr
theorem p222bp_0_1 (l:(List Ptc)) (g:Gd) (i:Nat) (pe:Ptc) {E:Env} {rv:AV} (hE:Qh Try.prog 222 rv E) (ho:AllP [(decide ((i:Int)<(l.length:Int)))=true,0≤(i:Int)∧(i:Int)<(l.length:Int),((Qc l).drop (0+(Int.toNat (i:Int))*5)).take 5=(Wi pe),Qi Try.prog (.clos 223 [] (WO g)) [.agg (Wi pe)] (.bool (QU g pe)),(QU g pe)=false,InR .i64 ((i:Int)+1)])
 (hg:G Try.prog E (Ws Try.prog) ⟨([.rsl (Qc l) 0 l.length,.clos 223 [] (WO g)]++jj 5 ([.int .i64 (l.length:Int),.int .i64 ((i:Int)+1)]++Js 10)),[]⟩):G Try.prog E (Ws Try.prog) (yG l g i ) :=
 Qe (n:=400) (ds:=[]) (cs:=[]) (live:=[0,1,7,8]) (m:=0) (evs:=[.b true,.ld (.agg (Wi pe)),.v (.bool (QU g pe)),.b false,.stop]) (obs:=_) hE.2.1 (hE.nogh _) Qg (by kernel_rfl) ho hg
theorem p222bp_0_2 (l:(List Ptc)) (g:Gd) (i:Nat) {E:Env} {res:AV} (hE:Qh Try.prog 222 res E) (ho:AllP [(decide ((i:Int)<(l.length:Int)))=false])
 (hr:AvLe (.int .i64 (-1)) res):G Try.prog E (Ws Try.prog) (yG l g i ) :=
 Qf (n:=400) (evs:=[.b false]) (obs:=_) hE Try.func222 Qg (by kernel_rfl) ho hr
theorem f222bpW0 (l:(List Ptc)) (g:Gd) (i:Nat) {E:Env} {rv:Int} (hE:Qh Try.prog 222 (.int .i64 rv) E)
 (h:(((i:Int)<(l.length:Int)→(∃ pe:Ptc,l[i]?=some pe∧((g.cells.length≤100)∧(((QU g pe)=true→rv=(i:Int))∧((QU g pe)=false→((I6 ((i:Int)+1))∧yH E l g (i+1)))))))∧(¬ ((i:Int)<(l.length:Int))→rv=(-1)))):yH E l g i:=by
 rcases bft (decide ((i:Int)<(l.length:Int))) with hc0 | hc0
 · have h:=h.1 (odt hc0)
   obtain ⟨pe,h1,h⟩:=h
   obtain ⟨h2,h⟩:=h
   rcases bft (QU g pe) with hc1 | hc1
   · have h:=h.1 hc1
     exact p222bp_0_0 l g i pe hE ⟨hc0,(Qs h1),(rp cPtc 5 0 5 h1),(u223 (badPtc_ok pe g h2)),hc1,trivial⟩ (AvLe.of_eq (by rw [h]; try rfl))
   · have h:=h.2 hc1
     obtain ⟨q6_2,h⟩:=h
     exact p222bp_0_1 l g i pe hE ⟨hc0,(Qs h1),(rp cPtc 5 0 5 h1),(u223 (badPtc_ok pe g h2)),hc1,q6_2,trivial⟩ h
 · have h:=h.2 (odf hc0)
   exact p222bp_0_2 l g i hE ⟨hc0,trivial⟩ (AvLe.of_eq (by rw [h]; try rfl))
theorem QaN (l:List Ptc) (g:Gd) (h:(∀ x ∈ l,g.cells.length≤100)∧l.length≤9223372036854775807):Pure Try.prog 222 [.rsl (Qc l) 0 l.length,.clos 223 [] [.rptr [.int .i64 g.w,.int .i64 g.h,.rsl (rowI g.cells) 0 g.cells.length,.rsl (rowI g.hts) 0 g.hts.length] 0]] (.int .i64 (idxG (QU g) l)):=Qy Try.func222 f222bpb fun E hE=>by
 have hl:=h.2
 refine f222bpW l g (rv:=idxG (QU g) l) hE (YJ (QU g) l l.length 0 (by omega) (fun j x hj=>by omega) (fun i=>yH E l g i) (fun i hi' h1 h2=>?_) (fun _ h2=>?_))
 · have hx:l[i]?=some l[i]:=List.getElem?_eq_getElem hi'
   have hm:=List.mem_of_getElem? hx
   exact f222bpW0 l g i (rv:=idxG (QU g) l) hE ⟨fun _=>⟨_,hx,h.1 _ hm,fun hp=>h1 _ hx (by simpa using hp),fun hp=>⟨by omega,h2 _ hx (by simpa using hp)⟩⟩,fun h=>by omega⟩
 · exact f222bpW0 l g _ (rv:=idxG (QU g) l) hE ⟨fun h=>by omega,fun _=>h2⟩
theorem f225qb:Try.f225.body=some (Qd Try.prog 225):=by kernel_rfl
def KO (P:Program):List Item:=kAt 400 [.code (Qd P 225)] [.b false,.b false,.stop]
def KN (n:Int) (v0:List Sit) (n1:Nat):St:=⟨(jj 7 ([.sl 0 0 0 v0.length 2,.int .i64 (n1:Int)]++Js 39)),[⟨true,0,2,true,(Qb v0),true⟩]⟩
def qP (E:Env) (n:Int) (v0:List Sit) (n1:Nat):Prop:=G Try.prog E (KO Try.prog) (KN n v0 n1 )
theorem QbO (n:Int) {E:Env} {rv:AV} {bs2:List Blk} (hE:LentE Try.prog 225 [] rv bs2 E) (ho:AllP [(decide (n<0))=false,InR .u64 1,InR .u64 n,Qi Try.prog (.clos 130 [] []) [.int .u64 1,.int .u64 n] (.tup [.int .u64 0,.int .u64 n]),false=false,(decide (n > 9223372036854775807))=false,InR .i64 n,0≤n∧n≤n∧n≤2147483648,(0+(Nat.min 1 (Int.toNat n))*2)≤((List.replicate (Int.toNat n) ([.int .i64 0,.bool false]:List AV)).flatten).length,(Nat.min 1 (Int.toNat n)) ≠ 0,0=0,(([.int .i64 (-1),.bool false]).drop 0).take ((Nat.min 1 (Int.toNat n))*2)=(Qb ((([(⟨(-1),false⟩:Sit)]:List Sit).drop 0).take (Nat.min 1 (Int.toNat n)))),(Qb ((([(⟨(-1),false⟩:Sit)]:List Sit).drop 0).take (Nat.min 1 (Int.toNat n)))).length=(Nat.min 1 (Int.toNat n))*2,noRefs (Qb ((([(⟨(-1),false⟩:Sit)]:List Sit).drop 0).take (Nat.min 1 (Int.toNat n))))=true])
 (hg:G Try.prog E (KO Try.prog) ⟨(jj 7 ([.sl 0 0 0 (Int.toNat n) 2,.int .i64 (((Nat.min 1 (Int.toNat n)):Nat):Int)]++Js 39)),[⟨true,0,2,true,(Qu ((List.replicate (Int.toNat n) ([.int .i64 0,.bool false]:List AV)).flatten) 0 (Qb ((([(⟨(-1),false⟩:Sit)]:List Sit).drop 0).take (Nat.min 1 (Int.toNat n))))),true⟩]⟩):G Try.prog E [.code (Qd Try.prog 225)] ⟨[.rsl [.int .i64 (-1),.bool false] 0 1,.int .i64 n]++unds (Try.f225.ntmps - 2),[]⟩ :=
 Qe (n:=400) (ds:=[]) (cs:=[]) (live:=[7,8]) (m:=1) (evs:=[.b false,.v (.tup [.int .u64 0,.int .u64 n]),.b false,.b false,.cs (Qb ((([(⟨(-1),false⟩:Sit)]:List Sit).drop 0).take (Nat.min 1 (Int.toNat n)))),.stop]) (obs:=_) hE.kind (hE.nogh0 _) Qg (by kernel_rfl) ho hg
theorem f225qW (n:Int) {E:Env} {rv:Unit} {l2:List Sit} (hE:LentE Try.prog 225 [] (.sl 0 0 0 l2.length 2) [⟨true,0,2,true,(Qb l2),true⟩] E)
 (h:((n<0→False)∧(¬ (n<0)→(InR .u64 n∧(((0:Int)≤(n:Int)∧(n:Int)<4294967296)∧((n > 9223372036854775807→False)∧(¬ (n > 9223372036854775807)→((I6 (n))∧((0≤n∧n≤2147483648)∧(0+(Nat.min 1 (Int.toNat n))≤(List.replicate (Int.toNat n) ((⟨0,false⟩:Sit):Sit)).length∧((Nat.min 1 (Int.toNat n)) ≠ 0∧(0+(Nat.min 1 (Int.toNat n))≤([(⟨(-1),false⟩:Sit)]:List Sit).length∧qP E n (Wy (List.replicate (Int.toNat n) ((⟨0,false⟩:Sit):Sit)) 0 ((([(⟨(-1),false⟩:Sit)]:List Sit).drop 0).take (Nat.min 1 (Int.toNat n)))) (Nat.min 1 (Int.toNat n)))))))))))))):G Try.prog E [.code (Qd Try.prog 225)] ⟨[.rsl [.int .i64 (-1),.bool false] 0 1,.int .i64 n]++unds (Try.f225.ntmps - 2),[]⟩:=by
 rcases bft (decide (n<0)) with hc0 | hc0
 · have h:=h.1 (odt hc0)
   exact h.elim
 · have h:=h.2 (odf hc0)
   obtain ⟨q2_1,h⟩:=h
   obtain ⟨h1,h⟩:=h
   rcases bft (decide (n > 9223372036854775807)) with hc1 | hc1
   · have h:=h.1 (odt hc1)
     exact h.elim
   · have h:=h.2 (odf hc1)
     obtain ⟨q6_2,h⟩:=h
     obtain ⟨h2,h⟩:=h
     obtain ⟨h3,h⟩:=h
     obtain ⟨h4,h⟩:=h
     obtain ⟨h5,h⟩:=h
     refine QbO n hE ⟨hc0,(⟨by decide,by decide⟩),q2_1,(u130 (mul_ok (n:Int) h1)),rfl,hc1,q6_2,⟨h2.1,by omega,h2.2⟩,(by rw [(show (List.replicate (Int.toNat n) ([.int .i64 0,.bool false]:List AV)).flatten=Qb (List.replicate (Int.toNat n) ((⟨0,false⟩:Sit):Sit)) from Qby cSit _ ((⟨0,false⟩:Sit):Sit))]; exact qr cSit (s:=2) (fun _=>rfl) h3 (by first | rfl | omega | simp)),h4,rfl,(by rw [(show [.int .i64 (-1),.bool false]=Qb ([(⟨(-1),false⟩:Sit)]:List Sit) from rfl)]; exact yJ cSit (s:=2) (fun _=>rfl) _ (by first | rfl | omega | simp)),(yL cSit (s:=2) (fun _=>rfl) h5),(QV cSit (fun _=>rfl) _),trivial⟩ ?_
     have h:=h
     simp only [qP,KN,List.length_set,List.length_replicate,Xd] at h
     rw [(show (List.replicate (Int.toNat n) ([.int .i64 0,.bool false]:List AV)).flatten=Qb (List.replicate (Int.toNat n) ((⟨0,false⟩:Sit):Sit)) from Qby cSit _ ((⟨0,false⟩:Sit):Sit))]; rw [(show Qu (Qb (List.replicate (Int.toNat n) ((⟨0,false⟩:Sit):Sit))) 0 (Qb ((([(⟨(-1),false⟩:Sit)]:List Sit).drop 0).take (Nat.min 1 (Int.toNat n))))=Qb (Wy (List.replicate (Int.toNat n) ((⟨0,false⟩:Sit):Sit)) 0 ((([(⟨(-1),false⟩:Sit)]:List Sit).drop 0).take (Nat.min 1 (Int.toNat n)))) from yK cSit (s:=2) (fun _=>rfl) h3 h5 (by first | rfl | omega | simp))]
     exact h
theorem p225q_0_0 (n:Int) (v0:List Sit) (n1:Nat) {E:Env} {rv:AV} {bs2:List Blk} (hE:LentE Try.prog 225 [] rv bs2 E) (ho:AllP [0=0,(decide ((n1:Int)<(v0.length:Int)))=true,(Int.toNat (n1:Int))≤v0.length,v0.length≤v0.length,0≤(n1:Int),0=0,0≤(Int.toNat (n1:Int)),(Int.toNat (n1:Int))≤v0.length,0≤(n1:Int),0=0,((0+((Int.toNat (n1:Int))*2))+(Nat.min (Int.toNat (n1:Int)) (v0.length - (Int.toNat (n1:Int))))*2)≤(Qb v0).length,(Nat.min (Int.toNat (n1:Int)) (v0.length - (Int.toNat (n1:Int)))) ≠ 0,0=0,0=0,((Qb v0).drop 0).take ((Nat.min (Int.toNat (n1:Int)) (v0.length - (Int.toNat (n1:Int))))*2)=(Qb ((v0.drop 0).take (Nat.min (Int.toNat (n1:Int)) (v0.length - (Int.toNat (n1:Int)))))),(Qb ((v0.drop 0).take (Nat.min (Int.toNat (n1:Int)) (v0.length - (Int.toNat (n1:Int)))))).length=(Nat.min (Int.toNat (n1:Int)) (v0.length - (Int.toNat (n1:Int))))*2,noRefs (Qb ((v0.drop 0).take (Nat.min (Int.toNat (n1:Int)) (v0.length - (Int.toNat (n1:Int))))))=true,InR .i64 ((n1:Int)+(((Nat.min (Int.toNat (n1:Int)) (v0.length - (Int.toNat (n1:Int)))):Nat):Int))])
 (hg:G Try.prog E (KO Try.prog) ⟨(jj 7 ([.sl 0 0 0 v0.length 2,.int .i64 ((n1:Int)+(((Nat.min (Int.toNat (n1:Int)) (v0.length - (Int.toNat (n1:Int)))):Nat):Int))]++Js 39)),[⟨true,0,2,true,(Qu (Qb v0) (0+((Int.toNat (n1:Int))*2)) (Qb ((v0.drop 0).take (Nat.min (Int.toNat (n1:Int)) (v0.length - (Int.toNat (n1:Int))))))),true⟩]⟩):G Try.prog E (KO Try.prog) (KN n v0 n1 ) :=
 Qe (n:=400) (ds:=[]) (cs:=[]) (live:=[7,8]) (m:=1) (evs:=[.b true,.cs (Qb ((v0.drop 0).take (Nat.min (Int.toNat (n1:Int)) (v0.length - (Int.toNat (n1:Int)))))),.stop]) (obs:=_) hE.kind (hE.nogh0 _) Qg (by kernel_rfl) ho hg
theorem p225q_0_1 (n:Int) (v0:List Sit) (n1:Nat) {E:Env} {res:AV} {bs2:List Blk} (hE:LentE Try.prog 225 [] res bs2 E) (ho:AllP [0=0,(decide ((n1:Int)<(v0.length:Int)))=false])
 (hr:(.sl 0 0 0 v0.length 2)=res) (hb:[⟨true,0,2,true,(Qb v0),true⟩]=bs2):G Try.prog E (KO Try.prog) (KN n v0 n1 ) :=
 Qr (n:=400) (live:=[4]) (m:=1) (evs:=[.b false]) (obs:=_) hE (hE.nogh0 _) Try.func225 Qg (by kernel_rfl) ho hr hb
theorem f225qW0 (n:Int) (v0:List Sit) (n1:Nat) {E:Env} {rv:Unit} {l2:List Sit} (hE:LentE Try.prog 225 [] (.sl 0 0 0 l2.length 2) [⟨true,0,2,true,(Qb l2),true⟩] E)
 (h:(((n1:Int)<(v0.length:Int)→((Int.toNat (n1:Int))≤v0.length∧((Int.toNat (n1:Int))≤v0.length∧((Int.toNat (n1:Int))+(Nat.min (Int.toNat (n1:Int)) (v0.length - (Int.toNat (n1:Int))))≤v0.length∧((Nat.min (Int.toNat (n1:Int)) (v0.length - (Int.toNat (n1:Int)))) ≠ 0∧(0+(Nat.min (Int.toNat (n1:Int)) (v0.length - (Int.toNat (n1:Int))))≤v0.length∧((I6 ((n1:Int)+(((Nat.min (Int.toNat (n1:Int)) (v0.length - (Int.toNat (n1:Int)))):Nat):Int)))∧qP E n (Wy v0 (Int.toNat (n1:Int)) ((v0.drop 0).take (Nat.min (Int.toNat (n1:Int)) (v0.length - (Int.toNat (n1:Int)))))) (n1+(Nat.min (Int.toNat (n1:Int)) (v0.length - (Int.toNat (n1:Int))))))))))))∧(¬ ((n1:Int)<(v0.length:Int))→l2=v0))):qP E n v0 n1:=by
 rcases bft (decide ((n1:Int)<(v0.length:Int))) with hc0 | hc0
 · have h:=h.1 (odt hc0)
   obtain ⟨q2_1,h⟩:=h
   obtain ⟨q7_1,h⟩:=h
   obtain ⟨h1,h⟩:=h
   obtain ⟨h2,h⟩:=h
   obtain ⟨h3,h⟩:=h
   obtain ⟨q17_1,h⟩:=h
   refine p225q_0_0 n v0 n1 hE ⟨rfl,hc0,q2_1,(Nat.le_refl _),(by omega),rfl,(Nat.zero_le _),q7_1,(by omega),rfl,(by exact qr cSit (s:=2) (fun _=>rfl) h1 (by first | rfl | omega | simp)),h2,rfl,rfl,(by exact yJ cSit (s:=2) (fun _=>rfl) _ (by first | rfl | omega | simp)),(yL cSit (s:=2) (fun _=>rfl) h3),(QV cSit (fun _=>rfl) _),q17_1,trivial⟩ ?_
   have h:=h
   simp only [qP,KN,List.length_set,Xd] at h
   rw [(show Qu (Qb v0) (0+((Int.toNat (n1:Int))*2)) (Qb ((v0.drop 0).take (Nat.min (Int.toNat (n1:Int)) (v0.length - (Int.toNat (n1:Int))))))=Qb (Wy v0 (Int.toNat (n1:Int)) ((v0.drop 0).take (Nat.min (Int.toNat (n1:Int)) (v0.length - (Int.toNat (n1:Int)))))) from yK cSit (s:=2) (fun _=>rfl) h1 h3 (by first | rfl | omega | simp))]
   exact h
 · have h:=h.2 (odf hc0)
   have qe0:=h
   exact p225q_0_1 n v0 n1 hE ⟨rfl,hc0,trivial⟩ (by rw [qe0]; try rfl) (by rw [qe0]; all_goals (first | rfl | (simp only [List.length_set]; done) | (simp only [List.length_set]; rfl) | (simp only [List.length_set,List.length_replicate]; done)))
theorem repeatS1 (n:Int) (h:1≤n∧n≤2147483648):Lent Try.prog 225 [.rsl [.int .i64 (-1),.bool false] 0 1,.int .i64 n] [] (.sl 0 0 0 (List.replicate (Int.toNat n) nowhere).length 2) [⟨true,0,2,true,Qb (List.replicate (Int.toNat n) nowhere),true⟩]:=YX Try.func225 f225qb fun E hE=>by
 have key:∀ (d:Nat) (v0:List Sit) (k:Nat),v0.length=Int.toNat n→1≤k→k≤v0.length→v0.length - k≤d→(∀ i,i<k→v0[i]?=some nowhere)→qP E n v0 k:=by
  intro d
  induction d with
  | zero =>
   intro v0 k hl h1 h2 hd hv
   refine f225qW0 n v0 k (rv:=()) hE ⟨fun h=>by omega,fun _=>?_⟩
   refine (List.ext_getElem? fun i=>?_).symm
   by_cases hi:i<Int.toNat n
   · rw [hv i (by omega),List.getElem?_replicate,if_pos hi]
   · rw [List.getElem?_eq_none (by omega),List.getElem?_eq_none (by simp; omega)]
  | succ d ih =>
   intro v0 k hl h1 h2 hd hv
   refine f225qW0 n v0 k (rv:=()) hE ⟨fun hk=>?_,fun _=>?_⟩
   · have e0:Int.toNat (k:Int)=k:=by omega
     rw [e0,List.drop_zero]
     have hm:Nat.min k (v0.length - k)≤k:=Nat.min_le_left _ _
     have hm2:Nat.min k (v0.length - k)≤v0.length - k:=Nat.min_le_right _ _
     have hm0:Nat.min k (v0.length - k) ≠ 0:=by
      intro h0
      have h0':min k (v0.length - k)=0:=h0
      omega
     generalize Nat.min k (v0.length - k)=m at hm hm2 hm0
     refine ⟨h2,h2,by omega,hm0,by omega,by omega,?_⟩
     have hlt:(v0.take m).length=m:=by rw [List.length_take]; omega
     refine ih _ (k+m) (by rw [Xd]; exact hl) (by omega) (by rw [Xd]; omega) (by rw [Xd]; omega) (fun i hi=>?_)
     rw [We (by rw [hlt]; omega),hlt]
     split
     · rw [List.getElem?_take,if_pos (by omega)]; exact hv _ (by omega)
     · exact hv _ (by omega)
   · refine (List.ext_getElem? fun i=>?_).symm
     by_cases hi:i<Int.toNat n
     · rw [hv i (by omega),List.getElem?_replicate,if_pos hi]
     · rw [List.getElem?_eq_none (by omega),List.getElem?_eq_none (by simp; omega)]
 have e1:Nat.min 1 (Int.toNat n)=1:=by
  have:min 1 (Int.toNat n)=1:=by omega
  exact this
 refine f225qW n (rv:=()) hE ⟨fun h=>by omega,fun _=>⟨inU (by omega),by omega,fun h=>by omega,fun _=>⟨by omega,by omega,?_⟩⟩⟩
 rw [e1]
 refine ⟨by simp; omega,by omega,by simp,?_⟩
 refine key (Int.toNat n) _ 1 (by rw [Xd,List.length_replicate]) (by omega) (by rw [Xd,List.length_replicate]; omega) (by rw [Xd,List.length_replicate]; omega) (fun i hi=>?_)
 have:i=0:=by omega
 subst this
 rw [We (by simp; omega)]
 first | (simp [nowhere]; done) | rfl
theorem repeatS_ok (n:Int) (h:0≤n∧n≤2147483648):Lent Try.prog 225 [.rsl [.int .i64 (-1),.bool false] 0 1,.int .i64 n] [] (.sl 0 0 0 (List.replicate (Int.toNat n) nowhere).length 2) [⟨true,0,2,true,Qb (List.replicate (Int.toNat n) nowhere),true⟩]:=by
 by_cases c:n=0
 · subst c; exact noSites
 · exact repeatS1 n ⟨by omega,h.2⟩
theorem f163qb:Try.f163.body=some (Qd Try.prog 163):=by kernel_rfl
abbrev YD (g:Gd):List AV:=[.int .i64 g.w,.int .i64 g.h,.rsl (rowI g.cells) 0 g.cells.length,.rsl (rowI g.hts) 0 g.hts.length]
theorem QbX (g:Gd) (l:(List Ptc)) {E:Env} {res:AV} {bs2:List Blk} (hE:LentE Try.prog 163 [] res bs2 E) (ho:AllP [Qi Try.prog (.clos 221 [] []) [.agg (YD g)] (.bool (XR g)),(!(XR g))=true])
 (hr:(.tup [.nilPtr,.int .i64 0,.int .i64 40])=res) (hb:[]=bs2):G Try.prog E [.code (Qd Try.prog 163)] ⟨[.agg (YD g),.rsl (Qc l) 0 l.length]++unds (Try.f163.ntmps - 2),[]⟩ :=
 Qr (n:=400) (live:=[4,5,6]) (m:=0) (evs:=[.v (.bool (XR g)),.b true]) (obs:=_) hE (hE.nogh0 _) Try.func163 Qg (by kernel_rfl) ho hr hb
theorem QbW (g:Gd) (l:(List Ptc)) {E:Env} {res:AV} {bs2:List Blk} (hE:LentE Try.prog 163 [] res bs2 E) (ho:AllP [Qi Try.prog (.clos 221 [] []) [.agg (YD g)] (.bool (XR g)),(!(XR g))=false,(decide ((l.length:Int) > 8))=true])
 (hr:(.tup [.nilPtr,.int .i64 0,.int .i64 2])=res) (hb:[]=bs2):G Try.prog E [.code (Qd Try.prog 163)] ⟨[.agg (YD g),.rsl (Qc l) 0 l.length]++unds (Try.f163.ntmps - 2),[]⟩ :=
 Qr (n:=400) (live:=[4,5,6]) (m:=0) (evs:=[.v (.bool (XR g)),.b false,.b true]) (obs:=_) hE (hE.nogh0 _) Try.func163 Qg (by kernel_rfl) ho hr hb
theorem QbV (g:Gd) (l:(List Ptc)) {E:Env} {res:AV} {bs2:List Blk} (hE:LentE Try.prog 163 [] res bs2 E) (ho:AllP [Qi Try.prog (.clos 221 [] []) [.agg (YD g)] (.bool (XR g)),(!(XR g))=false,(decide ((l.length:Int) > 8))=false,Qi Try.prog (.clos 222 [] []) [.rsl (Qc l) 0 l.length,.clos 223 [] [.rptr (YD g) 0]] (.int .i64 (idxG (QU g) l)),(decide ((idxG (QU g) l)≥0))=true])
 (hr:(.tup [.nilPtr,.int .i64 (idxG (QU g) l),.int .i64 41])=res) (hb:[]=bs2):G Try.prog E [.code (Qd Try.prog 163)] ⟨[.agg (YD g),.rsl (Qc l) 0 l.length]++unds (Try.f163.ntmps - 2),[]⟩ :=
 Qr (n:=400) (live:=[4,5,6]) (m:=0) (evs:=[.v (.bool (XR g)),.b false,.b false,.v (.int .i64 (idxG (QU g) l)),.b true]) (obs:=_) hE (hE.nogh0 _) Try.func163 Qg (by kernel_rfl) ho hr hb
theorem QbU (g:Gd) (l:(List Ptc)) {E:Env} {res:AV} {bs2:List Blk} (hE:LentE Try.prog 163 [] res bs2 E) (ho:AllP [Qi Try.prog (.clos 221 [] []) [.agg (YD g)] (.bool (XR g)),(!(XR g))=false,(decide ((l.length:Int) > 8))=false,Qi Try.prog (.clos 222 [] []) [.rsl (Qc l) 0 l.length,.clos 223 [] [.rptr (YD g) 0]] (.int .i64 (idxG (QU g) l)),(decide ((idxG (QU g) l)≥0))=false,PureO Try.prog (.clos 225 [] []) [.rsl [.int .i64 (-1),.bool false] 0 1,.int .i64 (l.length:Int)] ((List.replicate (Int.toNat ((l.length:Int):Int)) nowhere).length) 2 (Qb (List.replicate (Int.toNat ((l.length:Int):Int)) nowhere)),0=0,PureO Try.prog (.clos 55 [] []) [.rsl [.int .i64 (-1)] 0 1,.int .i64 (g.cells.length:Int)] ((List.replicate (Int.toNat ((g.cells.length:Int):Int)) ((-1):Int)).length) 1 (rowI (List.replicate (Int.toNat ((g.cells.length:Int):Int)) ((-1):Int))),0=0])
 (hr:(.tup [.ptr 5 0 0,.int .i64 0,.int .i64 0])=res) (hb:[⟨true,0,1,true,(YD g),false⟩,⟨true,0,2,true,[.int .i64 (-1),.bool false],true⟩,⟨true,0,2,true,(Qb (List.replicate (Int.toNat ((l.length:Int):Int)) nowhere)),true⟩,⟨true,0,1,true,[.int .i64 (-1)],true⟩,⟨true,0,1,true,(rowI (List.replicate (Int.toNat ((g.cells.length:Int):Int)) ((-1):Int))),true⟩,⟨true,0,1,false,[.int .i64 g.w,.int .i64 g.h,.rsl (rowI g.cells) 0 g.cells.length,.rsl (rowI g.hts) 0 g.hts.length,.rsl (Qc l) 0 l.length,.sl 2 0 0 ((List.replicate (Int.toNat ((l.length:Int):Int)) nowhere).length) 2,.sl 4 0 0 ((List.replicate (Int.toNat ((g.cells.length:Int):Int)) ((-1):Int)).length) 1],false⟩]=bs2):G Try.prog E [.code (Qd Try.prog 163)] ⟨[.agg (YD g),.rsl (Qc l) 0 l.length]++unds (Try.f163.ntmps - 2),[]⟩ :=
 Qr (n:=400) (live:=[4,5,6]) (m:=6) (evs:=[.v (.bool (XR g)),.b false,.b false,.v (.int .i64 (idxG (QU g) l)),.b false,.lent [] (.sl 0 0 0 ((List.replicate (Int.toNat ((l.length:Int):Int)) nowhere).length) 2) [⟨true,0,2,true,(Qb (List.replicate (Int.toNat ((l.length:Int):Int)) nowhere)),true⟩],.lent [] (.sl 0 0 0 ((List.replicate (Int.toNat ((g.cells.length:Int):Int)) ((-1):Int)).length) 1) [⟨true,0,1,true,(rowI (List.replicate (Int.toNat ((g.cells.length:Int):Int)) ((-1):Int))),true⟩]]) (obs:=_) hE (hE.nogh0 _) Try.func163 Qg (by kernel_rfl) ho hr hb
theorem f163qW (g:Gd) (l:(List Ptc)) {E:Env} {res:AV} {bs2:List Blk} (hE:LentE Try.prog 163 [] res bs2 E)
 (h:((GdSmall g)∧(((XR g)=false→((.tup [.nilPtr,.int .i64 0,.int .i64 40])=res∧[]=bs2))∧((XR g)=true→(((l.length:Int) > 8→((.tup [.nilPtr,.int .i64 0,.int .i64 2])=res∧[]=bs2))∧(¬ ((l.length:Int) > 8)→(((∀ x ∈ l,g.cells.length≤100)∧l.length≤9223372036854775807)∧(((idxG (QU g) l)≥0→((.tup [.nilPtr,.int .i64 (idxG (QU g) l),.int .i64 41])=res∧[]=bs2))∧(¬ ((idxG (QU g) l)≥0)→(((0:Int)≤((l.length:Int):Int)∧((l.length:Int):Int)≤2147483648)∧(((1:Int)≤((g.cells.length:Int):Int)∧((g.cells.length:Int):Int)≤2147483648)∧((.tup [.ptr 5 0 0,.int .i64 0,.int .i64 0])=res∧[⟨true,0,1,true,[.int .i64 g.w,.int .i64 g.h,.rsl (rowI g.cells) 0 g.cells.length,.rsl (rowI g.hts) 0 g.hts.length],false⟩,⟨true,0,2,true,[.int .i64 (-1),.bool false],true⟩,⟨true,0,2,true,(Qb (List.replicate (Int.toNat ((l.length:Int):Int)) nowhere)),true⟩,⟨true,0,1,true,[.int .i64 (-1)],true⟩,⟨true,0,1,true,(rowI (List.replicate (Int.toNat ((g.cells.length:Int):Int)) ((-1):Int))),true⟩,⟨true,0,1,false,[.int .i64 g.w,.int .i64 g.h,.rsl (rowI g.cells) 0 g.cells.length,.rsl (rowI g.hts) 0 g.hts.length,.rsl (Qc l) 0 l.length,.sl 2 0 0 ((List.replicate (Int.toNat ((l.length:Int):Int)) nowhere).length) 2,.sl 4 0 0 ((List.replicate (Int.toNat ((g.cells.length:Int):Int)) ((-1):Int)).length) 1],false⟩]=bs2)))))))))))):G Try.prog E [.code (Qd Try.prog 163)] ⟨[.agg [.int .i64 g.w,.int .i64 g.h,.rsl (rowI g.cells) 0 g.cells.length,.rsl (rowI g.hts) 0 g.hts.length],.rsl (Qc l) 0 l.length]++unds (Try.f163.ntmps - 2),[]⟩:=by
 obtain ⟨h1,h⟩:=h
 rcases bft (!(XR g)) with hc0 | hc0
 · have h:=h.1 (bnT hc0)
   exact QbX g l hE ⟨(u221 (Vy g h1)),hc0,trivial⟩ h.1 h.2
 · have h:=h.2 (bnF hc0)
   rcases bft (decide ((l.length:Int) > 8)) with hc1 | hc1
   · have h:=h.1 (odt hc1)
     exact QbW g l hE ⟨(u221 (Vy g h1)),hc0,hc1,trivial⟩ h.1 h.2
   · have h:=h.2 (odf hc1)
     obtain ⟨h2,h⟩:=h
     rcases bft (decide ((idxG (QU g) l)≥0)) with hc2 | hc2
     · have h:=h.1 (odt hc2)
       exact QbV g l hE ⟨(u221 (Vy g h1)),hc0,hc1,(Qk Try.func222 (by kernel_rfl) f222bpb (QaN l g h2)),hc2,trivial⟩ h.1 h.2
     · have h:=h.2 (odf hc2)
       obtain ⟨h3,h⟩:=h
       obtain ⟨h4,h⟩:=h
       exact QbU g l hE ⟨(u221 (Vy g h1)),hc0,hc1,(Qk Try.func222 (by kernel_rfl) f222bpb (QaN l g h2)),hc2,(Vv Try.func225 (by kernel_rfl) f225qb (repeatS_ok ((l.length:Int):Int) h3) (by decide) (scal_Sit2 _)),rfl,(Vv Try.func55 (by kernel_rfl) f55b (VP ((-1):Int) ((g.cells.length:Int):Int) h4) (by decide) (Yw _)),rfl,trivial⟩ h.1 h.2
theorem Qbi (g:Gd) (l:List Ptc) (hs:GdSmall g) (hl:l.length≤1000) (he:(Xk g l).2=0):Lent Try.prog 163 [.agg [.int .i64 g.w,.int .i64 g.h,.rsl (rowI g.cells) 0 g.cells.length,.rsl (rowI g.hts) 0 g.hts.length],.rsl (Qc l) 0 l.length] [] (.tup [.ptr 5 0 0,.int .i64 0,.int .i64 0]) [⟨true,0,1,true,[.int .i64 g.w,.int .i64 g.h,.rsl (rowI g.cells) 0 g.cells.length,.rsl (rowI g.hts) 0 g.hts.length],false⟩,⟨true,0,2,true,[.int .i64 (-1),.bool false],true⟩,⟨true,0,2,true,(Qb (List.replicate (Int.toNat ((l.length:Int):Int)) nowhere)),true⟩,⟨true,0,1,true,[.int .i64 (-1)],true⟩,⟨true,0,1,true,(rowI (List.replicate (Int.toNat ((g.cells.length:Int):Int)) (-1:Int))),true⟩,⟨true,0,1,false,[.int .i64 g.w,.int .i64 g.h,.rsl (rowI g.cells) 0 g.cells.length,.rsl (rowI g.hts) 0 g.hts.length,.rsl (Qc l) 0 l.length,.sl 2 0 0 ((List.replicate (Int.toNat ((l.length:Int):Int)) nowhere).length) 2,.sl 4 0 0 ((List.replicate (Int.toNat ((g.cells.length:Int):Int)) (-1:Int)).length) 1],false⟩]:=YX Try.func163 f163qb fun E hE=>by
 refine f163qW g l hE ⟨hs,fun h=>?_,fun h1=>⟨fun h2=>?_,fun h2=>⟨⟨fun _ _=>hs.cells,by omega⟩,fun h3=>?_,fun h3=>⟨by omega,?_,rfl,rfl⟩⟩⟩⟩
 · unfold Xk at he; rw [if_neg (by rw [h]; exact Bool.false_ne_true)] at he; cases he
 · unfold Xk at he; rw [if_pos h1,if_pos (by omega)] at he; cases he
 · unfold Xk at he; rw [if_pos h1,if_neg (by omega),if_pos h3] at he; cases he
 · have:=XF h1; exact ⟨by omega,by omega⟩
theorem empty_err (g:Gd) (l:List Ptc) (hs:GdSmall g) (hl:l.length≤1000) (he:¬ (Xk g l).2=0):Lent Try.prog 163 [.agg [.int .i64 g.w,.int .i64 g.h,.rsl (rowI g.cells) 0 g.cells.length,.rsl (rowI g.hts) 0 g.hts.length],.rsl (Qc l) 0 l.length] [] (.tup [.nilPtr,.int .i64 (Xk g l).1,.int .i64 (Xk g l).2]) []:=YX Try.func163 f163qb fun E hE=>by
 refine f163qW g l hE ⟨hs,fun h=>⟨?_,rfl⟩,fun h1=>⟨fun h2=>⟨?_,rfl⟩,fun h2=>⟨⟨fun _ _=>hs.cells,by omega⟩,fun h3=>⟨?_,rfl⟩,fun h3=>absurd ?_ he⟩⟩⟩
 · unfold Xk; rw [if_neg (by rw [h]; exact Bool.false_ne_true)]
 · unfold Xk; rw [if_pos h1,if_pos (by omega)]
 · unfold Xk; rw [if_pos h1,if_neg (by omega),if_pos h3]
 · unfold Xk; rw [if_pos h1,if_neg (by omega),if_neg h3]
end Go.Proofs.Ytemklbioijmjiaa