/- A part of the proof: several texts, one behind the other. -/
import Derived.Test.YtemklbioijmjiaaLTopFuelB
import Derived.Defers
import Derived.Shelf.SlSortCmp.InsertionK
import Derived.Test.YtemklbioijmjiaaChecked
import Derived.Laws.Bits64b
import Derived.Laws.BitsLemmas
import Derived.Laws.Runes
set_option linter.unusedVariables false
set_option linter.unusedSimpArgs false
set_option maxRecDepth 100000
namespace Ax
open Go
section
variable {P:Program} {E:Env} {K K':List Item} {st st':St}
/-! ### The frame of a deferred closure -/
def EndedK (P:Program) (f:FuncId) (cs:List Frame) (Post:Value→World→Prop) (m:Machine):Prop :=
 ∃ v w' fr,m=lone fr cs w'∧fr.kind=.deferred∧fr.going P w' (.returned v)∧Post v w'
structure LentKE (P:Program) (f:FuncId) (gA:List AV) (res:AV) (bs2:List Blk) (E:Env):Prop where
 ro:E.b.roundOf=none
 kind:E.b.kind=.deferred
 fn:E.b.fn=f
 gA:E.gA=gA
 df:E.df=[]
 fin:E.Fin=EndedK P f E.cs (Left E.Z0 E.M E.w0 E.Cb res bs2)
 wb:E.wb=E.w0
theorem LentKE.nogh {f:FuncId} {k g:Nat} {res:AV} {bs2:List Blk} (hE:LentKE P f [.sl k g 0 0 1] res bs2 E) {m:Nat} (h:Nat.ble (k+1) m=true):refsBelows m E.gA=true:=by
 rw [hE.gA]
 have:=Nat.le_of_ble_eq_true h
 simp [refsBelows,QI]; omega
/-! ### The frame that has deferred -/
structure LentDE (P:Program) (f:FuncId) (g0:List AV) (clo:AV) (res:AV) (bs2:List Blk) (E:Env):Prop where
 ro:E.b.roundOf=none
 kind:E.b.kind=.normal
 fn:E.b.fn=f
 gA:E.gA=g0++[clo]
 df:∃ cf d,E.gV.getLast?=some cf∧(∀ w,(Deferred.ofValue cf #[]).run P w=.ok d w)∧E.df=[d]
 fin:E.Fin=VA P f E.cs (Left E.Z0 E.M E.w0 E.Cb res bs2)
 low:∀ n,refsBelows n g0=true→∀ k,n≤k→E.Cb.β k=.absent∧E.Cb.γ k=0
 wb:E.wb=E.w0
theorem LentDE.nogh {f:FuncId} {k g fi k2 g2 o2:Nat} {res:AV} {bs2:List Blk} (hE:LentDE P f [.sl k g 0 0 1] (.clos fi [] [.ptr k2 g2 o2]) res bs2 E) {m:Nat} (h:(Nat.ble (k+1) m && Nat.ble (k2+1) m)=true):refsBelows m E.gA=true:=by
 rw [hE.gA]
 rw [Bool.and_eq_true] at h
 have h1:=Nat.le_of_ble_eq_true h.1
 have h2:=Nat.le_of_ble_eq_true h.2
 simp [refsBelows,QI]; omega
/-! ### What comes back in new memory -/
def PureN0 (P:Program) (f:FuncId) (args:List AV) (res:AV):Prop :=
 ∀ (Z:Nat→Prop) (w:World) (cargs:Array Value),(∀ b,Z b→b<w.heap.size)→VRs Z w C0 args cargs.toList →
  Calls P f cargs w fun e w'=>∃ v,e=.returned v∧VR (Zn w w') w' C0 res v∧Fr w (fun _=>False) w'
structure PureNE (P:Program) (f:FuncId) (res:AV) (E:Env):Prop where
 ro:E.b.roundOf=none
 kind:E.b.kind=.normal
 fn:E.b.fn=f
 nm:∀ b,¬ E.M b
 gA:E.gA=[]
 fin:E.Fin=(VA P f E.cs fun v w'=>VR (Zn E.w0 w') w' C0 res v∧Fr E.w0 (fun _=>False) w')
 cb:E.Cb=C0
 df:E.df=[]
theorem PureNE.nogh {f:FuncId} {res:AV} (hE:PureNE P f res E) (m:Nat):refsBelows m E.gA=true:=by rw [hE.gA]; rfl
theorem pureN_of {f:FuncId} {fn:Func} {c:Code} {args:List AV} {res:AV} (hf:P.funcs[f]?=some fn) (hb:fn.body=some c)
 (h:∀ E,PureNE P f res E→G P E [.code c] ⟨args++unds (fn.ntmps - args.length),[]⟩):PureN0 P f args res:=by
 intro Z w cargs hz ha cs
 have hE:PureNE P f res (callEnv P f Z (fun _=>False) w cs fun v w'=>VR (Zn w w') w' C0 res v∧Fr w (fun _=>False) w') :=
  ⟨rfl,rfl,rfl,fun _ h=>h,rfl,rfl,rfl,rfl⟩
 have henter:Frame.enter P f cargs .normal=({ (default:Frame) with fn:=f,kind:=.normal }:Frame).atR { tmps:=cargs++Array.replicate (fn.ntmps - cargs.size) undef,defers:=[] } [.code c]:=by
  simp only [Frame.enter,Frame.atR,hf,hb,Option.map_some,Option.getD_some,Option.bind_some]; rfl
 have hl:args.length=cargs.size:=by simpa using ha.1
 obtain ⟨m',s,v,w',fr,rfl,r1,r2,r3⟩:=h _ hE C0 Z { tmps:=cargs++Array.replicate (fn.ntmps - cargs.size) undef,defers:=[] } w
  ⟨⟨by simp [Yi,hl],fun i x y p q=>by
   simp only [Array.toList_append,Array.toList_replicate] at q
   rw [Yi] at p
   by_cases hi:i<args.length
   · rw [List.getElem?_append_left hi] at p
     rw [List.getElem?_append_left (by simpa [← hl] using hi)] at q
     exact ha.2 i x y p q
   · rw [List.getElem?_append_right (by omega)] at p
     rw [List.getElem?_append_right (by simp; omega)] at q
     have p':=List.mem_replicate.1 (List.mem_of_getElem? p)
     have q':=List.mem_replicate.1 (List.mem_of_getElem? q)
     rw [p'.2,q'.2]
     exact .tup rfl (by simp)⟩,KS hz,⟨[],.nil,.nil,by simp⟩,⟨rfl,fun _ _ _ h _=>by cases h⟩,.bot⟩
 rw [henter]
 exact ⟨.returned v,w',fr,⟨v,rfl,r3⟩,s,r1,r2⟩
theorem pureNF_of {f : FuncId} {fn : Func} {c : Code} {first args cap : List AV} {res : AV} (hf : P.funcs[f]? = some fn) (hname : (fn.name == "runtime.NumGoroutine") = false) (hb : fn.body = some c)
    (h : PureN0 P f (first ++ args ++ cap) res) : PureN P (.clos f first cap) args res := by
  intro Z w cf cargs hz hcf ha
  cases hcf with
  | @clos _ _ _ _ fa ca hl h1 hl' h2 =>
    refine ⟨{ target := .fn (.func f) ca, args := fa ++ cargs }, f, fa ++ cargs ++ ca, rfl, ?_, ?_⟩
    · have := Go.Proofs.enters_of (P := P) hf hname hb (fa ++ cargs ++ ca) w
      simpa [invoke] using this
    · refine h Z w _ hz ⟨by have := ha.1; simp at this; simp [hl, hl', this], fun i x y p q => ?_⟩
      have hal : args.length = cargs.size := by simpa using ha.1
      simp only [Array.toList_append] at q
      rw [List.append_assoc] at p q
      by_cases i1 : i < first.length
      · rw [List.getElem?_append_left i1] at p
        rw [List.getElem?_append_left (by simpa [← hl] using i1)] at q
        exact h1 i x y p (by simpa using q)
      · rw [List.getElem?_append_right (by omega)] at p
        rw [List.getElem?_append_right (by simp; omega)] at q
        have e1 : fa.toList.length = first.length := by simp [hl]
        rw [e1] at q
        by_cases i2 : i - first.length < args.length
        · rw [List.getElem?_append_left i2] at p
          rw [List.getElem?_append_left (by simpa [← hal] using i2)] at q
          exact ha.2 _ x y p q
        · rw [List.getElem?_append_right (by omega)] at p
          rw [List.getElem?_append_right (by simp; omega)] at q
          have e2 : cargs.toList.length = args.length := by simp [hal]
          rw [e2] at q
          exact h2 _ x y p (by simpa using q)

theorem VR.layN {Z Z0 M:Nat→Prop} {w0 w:World} {C:Ctx} {blks:List Blk} (hm:Mem Z0 M w0 C Z blks w) {k g off len sz:Nat} {b:Blk} {c:Value} (hb:blks[k]?=some b) (hl:b.live=true) (hz:b.sz ≠ 0) (hf:b.flat=true) (hg:g=b.gen) (hsc:∀ x ∈ b.cells,Yn x=true)
 (h:VR Z w C (.sl k g off len sz) c) {C':Ctx}:VR (fun c=>∃ o,C.β k=.loc c o) w C' (.rsl b.cells off len) c:=by
 have hok:=KC hm hb hg h
 obtain ⟨hk,h1⟩:=hm.blk k b hb hl
 unfold SlOk at hok
 split at hok
 · rename_i bl o hβ
   obtain ⟨a,cap,rfl,hlc,ha,-⟩:=hok
   simp only [hβ] at h1
   obtain ⟨arr,e,hh,hsz,hc⟩:=h1.cells hz
   by_cases hlen:len=0
   · subst hlen; exact .rsl0
   · obtain rfl:=ha (by omega)
     refine .rsl (fun i=>arr.getD (o+i) undef) ⟨o,hβ⟩ hlc (fun i hi=>?_) hk (fun i c hi=>?_)
     · rw [Yy hh]; simp [Array.getD,show o+i<arr.size by omega]
     · obtain ⟨v,h2,h3⟩:=hc i c hi
       simp only [hf,if_true] at h3
       have:arr.getD (o+i) undef=v:=by
        have hlt:=(Array.getElem?_eq_some_iff.1 h2).1
        simp [Array.getD,hlt]; exact (Array.getElem?_eq_some_iff.1 h2).2
       show VR _ w C0 c (arr.getD (o+i) undef)
       rw [this]
       exact WG (hsc c (List.mem_of_getElem? hi)) h3
 · obtain ⟨rfl,a,rfl⟩:=hok
   exact .rsl0
 · exact hok.elim
/-- A value that leads nowhere but to flat blocks of scalars of the call's own,laid down. -/
def frN1 (blks:List Blk):AV→Option (AV × List Prop)
 | .sl k g off len _=>(match blks[k]? with
  | some b=>(match b.live && b.flat && b.sz != 0 with
   | true=>some (.rsl b.cells off len,[g=b.gen,∀ x ∈ b.cells,Yn x=true])
   | false=>none)
  | none=>none)
 | v=>(match Yn v with
  | true=>some (v,[])
  | false=>none)
def frNL (blks:List Blk):List AV→Option (List AV × List Prop)
 | []=>some ([],[])
 | v :: vs=>(match frN1 blks v,frNL blks vs with
  | some (r,o),some (rs,os)=>some (r :: rs,o++os)
  | _,_=>none)
def frN (blks:List Blk):AV→Option (AV × List Prop)
 | .agg cs=>(match frNL blks cs with
  | some (rs,o)=>some (.agg rs,o)
  | none=>none)
 | .tup cs=>(match frNL blks cs with
  | some (rs,o)=>some (.tup rs,o)
  | none=>none)
 | v=>frN1 blks v
theorem Qbl {Z Z0 M:Nat→Prop} {w0 w:World} {C C':Ctx} {blks:List Blk} (hm:Mem Z0 M w0 C Z blks w) {v r:AV} {c:Value} {o:List Prop} (h:frN1 blks v=some (r,o)) (ho:AllP o) (hv:VR Z w C v c):VR (Own C) w C' r c:=by
 have sc:∀ v,Yn v=true→VR Z w C v c→VR (Own C) w C' v c:=fun v hs hv=>WG hs hv
 cases v with
 | sl k g off len sz =>
  simp only [frN1] at h
  split at h
  · rename_i b hb
    split at h
    · rename_i hlb
      simp only [Option.some.injEq,Prod.mk.injEq] at h
      obtain ⟨rfl,rfl⟩:=h
      simp only [Bool.and_eq_true,bne_iff_ne,ne_eq] at hlb
      exact (VR.layN hm hb hlb.1.1 hlb.2 hlb.1.2 ho.1 ho.2.1 hv).zmono fun c ⟨o,hc⟩=>⟨k,o,hc⟩
    · cases h
  · cases h
 | _ =>
  simp only [frN1] at h
  split at h
  · rename_i hs
    simp only [Option.some.injEq,Prod.mk.injEq] at h
    obtain ⟨rfl,-⟩:=h
    exact sc _ hs hv
  · cases h
theorem yx {Z Z0 M:Nat→Prop} {w0 w:World} {C C':Ctx} {blks:List Blk} (hm:Mem Z0 M w0 C Z blks w):∀ {vs rs:List AV} {o:List Prop},frNL blks vs=some (rs,o)→AllP o→rs.length=vs.length ∧
 ∀ (i:Nat) (r:AV) (c:Value),rs[i]?=some r→(∀ v,vs[i]?=some v→VR Z w C v c)→VR (Own C) w C' r c
 | [],rs,o,h,ho=>by
  simp only [frNL,Option.some.injEq,Prod.mk.injEq] at h
  obtain ⟨rfl,-⟩:=h
  exact ⟨rfl,fun i r c h=>by simp at h⟩
 | v :: vs,rs,o,h,ho=>by
  simp only [frNL] at h
  split at h
  · rename_i r1 o1 rs1 os1 h1 h2
    simp only [Option.some.injEq,Prod.mk.injEq] at h
    obtain ⟨rfl,rfl⟩:=h
    obtain ⟨p1,p2⟩:=Qj.1 ho
    obtain ⟨q1,q2⟩:=yx (C':=C') hm h2 p2
    refine ⟨by simp [q1],fun i r c hr hv=>?_⟩
    cases i with
    | zero =>
     simp only [List.getElem?_cons_zero,Option.some.injEq] at hr
     subst hr
     exact Qbl hm h1 p1 (hv v rfl)
    | succ i=>exact q2 i r c (by simpa using hr) (fun v hv'=>hv v (by simpa using hv'))
  · cases h
theorem frN_sound {Z Z0 M:Nat→Prop} {w0 w:World} {C C':Ctx} {blks:List Blk} (hm:Mem Z0 M w0 C Z blks w) {v r:AV} {c:Value} {o:List Prop} (h:frN blks v=some (r,o)) (ho:AllP o) (hv:VR Z w C v c):VR (Own C) w C' r c:=by
 cases v with
 | agg cs =>
  simp only [frN] at h
  split at h
  · rename_i rs o1 h1
    simp only [Option.some.injEq,Prod.mk.injEq] at h
    obtain ⟨rfl,rfl⟩:=h
    obtain ⟨q1,q2⟩:=yx (C':=C') hm h1 ho
    cases hv with
    | agg hl hh=>exact .agg (by rw [q1]; exact hl) fun i r c hr hc=>q2 i r c hr fun v hv=>hh i v c hv hc
  · cases h
 | tup cs =>
  simp only [frN] at h
  split at h
  · rename_i rs o1 h1
    simp only [Option.some.injEq,Prod.mk.injEq] at h
    obtain ⟨rfl,rfl⟩:=h
    obtain ⟨q1,q2⟩:=yx (C':=C') hm h1 ho
    cases hv with
    | tup hl hh=>exact .tup (by rw [q1]; exact hl) fun i r c hr hc=>q2 i r c hr fun v hv=>hh i v c hv hc
  · cases h
 | _=>exact Qbl hm (by simpa only [frN] using h) ho hv
def endN (P:Program) (fn:Func) (n:Nat) (K:List Item) (st:St) (evs:List EV):Option (AV × List Prop) :=
 match walk P n K st evs with
 | some (K',st',evs',o1) =>
  (match isEnd K',resA P st' fn.results.toList evs' with
  | true,some (vs,_,o2) =>
   (match frN st'.blks (tupA vs) with
   | some (r,o3)=>some (r,o1++(o2++o3))
   | none=>none)
  | _,_=>none)
 | none=>none
theorem endN_step {n:Nat} {f:FuncId} {fn:Func} {evs:List EV} {r res:AV} {obs:List Prop} (hE:PureNE P f res E) (hf:P.funcs[f]?=some fn) (hmx:P.follows .mixedOrders=true)
 (h:endN P fn n K st evs=some (r,obs)) (ho:AllP obs) (hr:r=res):G P E K st:=by
 subst hr
 unfold endN at h
 split at h
 · rename_i K' st' evs' o1 h1
   split at h
   · rename_i vs evs2 o2 hK h2
     split at h
     · rename_i r' o3 h3
       simp only [Option.some.injEq,Prod.mk.injEq] at h
       obtain ⟨rfl,rfl⟩:=h
       obtain ⟨a1,a2⟩:=Qj.1 ho
       obtain ⟨a2,a3⟩:=Qj.1 a2
       have hfn:=hE.fn
       refine QL hE.kind hmx h1 a1 (G_end (Post:=fun v w'=>VR (Zn E.w0 w') w' C0 r' v∧Fr E.w0 (fun _=>False) w') hE.ro hE.kind hE.df (by rw [hfn]; exact hf) (by rw [hE.fin,hfn]) h2 a2 (fun C Z w v hm hv _=>⟨?_,?_⟩) (VK hK))
       · refine (frN_sound hm h3 a3 hv).zmono fun c hc=>?_
         obtain ⟨k,o,hc⟩:=hc
         obtain ⟨q1,q2,q3⟩:=hm.own k c o hc
         exact ⟨q3.resolve_left (hE.nm c),q1⟩
       · have:=hm.frame
         exact ⟨this.os,this.tape,this.output,this.size,this.dr,fun b hb _=>this.same b hb (hE.nm b)⟩
     · cases h
   · cases h
 · cases h
end
end Ax
namespace Ax
open Go
/-- The first operation that comes. -/
def holdK:Nat→List Item→Option (Array Oper × List Nat × List Item)
 | n+1,.code (.seq x y) :: k=>holdK n (.code x :: .code y :: k)
 | n+1,.code (.block id b) :: k=>holdK n (.code b :: .inBlock id :: k)
 | _+1,.code (.region _ ops false) :: k=>(match List.range' 0 ops.size with
  | 0 :: is=>some (ops,is,k)
  | _=>none)
 | _,_=>none
/-- Behind the first operation. -/
def yZ (K:List Item):List Item :=
 match holdK 50 K with
 | some (ops,is,k)=>.inRegion ops is :: k
 | none=>[]
/-- The first operation is a step of a range over a map. -/
def nextOp (K:List Item):Option (Operand × Nat) :=
 match holdK 50 K with
 | some (ops,_,_)=>(match (ops[0]?:Option Oper) with
  | some ⟨some d,.next it false,_,_,_,none⟩=>some (it,d)
  | _=>none)
 | none=>none
def ye (seen:List Nat):List AV:=seen.map fun s:Nat=>(.int .i64 s:AV)
section
variable {P:Program} {E:Env} {K k:List Item} {st:St}
theorem next_run {w : World} {it : Value} {r m n : Nat} {seen : Array Nat} {es : Array MapEntry} (ty : TypeId) (hit : it = .pointer (some ⟨r, 0, none⟩)) (hr : w.heap[r]? = some (.mapIter (some m) n seen n)) (hm : w.heap[m]? = some (.map es es.size)) (hn : n = es.size)
    (hb : ∀ (i : Nat) (e : MapEntry), es[i]? = some e → e.born = i) :
    (∃ d : Nat, (Instr.next it false ty).run P w = .ok (.tuple #[.bool false]) { w with drawn := w.drawn + d } ∧ ∀ s, s < es.size → s ∈ seen.toList) ∨
    (∃ (d s : Nat) (a b : Value), s < es.size ∧ s ∉ seen.toList ∧ (Instr.next it false ty).run P w = .ok (.tuple #[.bool true, a, b]) (({ w with drawn := w.drawn + d } : World).putObj r (.mapIter (some m) n (seen.push s) n))) := by
  subst hit
  have hg1 : (getObj r).run P w = .ok (.mapIter (some m) n seen n) w := Xy hr (by intro c t f; simp)
  have hg2 : (getObj m).run P w = .ok (.map es es.size) w := Xy hm (by intro c t f; simp)
  have hall : (!seen.isEmpty && !es.isEmpty && es.all (fun e => decide (e.born ≥ n))) = false := by
    cases he : es.isEmpty with
    | true => simp
    | false =>
      have hpos : 0 < es.size := by
        rcases Nat.eq_zero_or_pos es.size with h | h
        · rw [Array.isEmpty] at he; simp [h] at he
        · exact h
      have : es.all (fun e => decide (e.born ≥ n)) = false := by
        rw [Bool.eq_false_iff]
        intro h
        rw [Array.all_eq_true] at h
        have h0 := h 0 hpos
        have := hb 0 es[0] (by simp [hpos])
        simp at h0; omega
      simp [this]
  let left := es.filter fun e => !seen.contains e.born
  have hold : left.filter (fun e => decide (e.born < n)) = left := by
    rw [Array.filter_eq_self]
    intro e he
    have he := (Array.mem_filter.1 he).1
    obtain ⟨i, hi⟩ := Array.getElem?_of_mem he
    have := hb i e hi
    have := (Array.getElem?_eq_some_iff.1 hi).1
    simp; omega
  have hnew : left.filter (fun e => decide (e.born ≥ n)) = #[] := by
    rw [Array.filter_eq_empty_iff]
    intro e he
    have he := (Array.mem_filter.1 he).1
    obtain ⟨i, hi⟩ := Array.getElem?_of_mem he
    have := hb i e hi
    have := (Array.getElem?_eq_some_iff.1 hi).1
    simp; omega
  let cand : Array (Option MapEntry) := (if left.isEmpty then #[none] else #[]) ++ (left ++ #[]).map some
  have hrun : (Instr.next (.pointer (some ⟨r, 0, none⟩)) false ty).run P w = ((choose (.mapNext cand.size)).run P w).andThen fun c w1 =>
      (match cand[c]? with
      | some (some e) => (do setObj r (.mapIter (some m) n (seen.push e.born) es.size); pure (.tuple #[.bool true, e.key, e.val]) : Sem Value)
      | some none => pure (.tuple #[.bool false])
      | none => stuck "Next: no such candidate").run P w1 := by
    simp only [Instr.next, Sem.run_bind, hg1, Result.andThen_ok, hg2, hall, Bool.false_eq_true, if_false, Sem.run_pure]
    rw [show (es.filter fun e => !seen.contains e.born) = left from rfl, hold, hnew]
    rfl
  have hch : ∃ d c, (choose (.mapNext cand.size)).run P w = .ok c { w with drawn := w.drawn + d } ∧ (0 < cand.size → c < cand.size) := by
    by_cases hf : cand.size ≤ 1
    · refine ⟨0, 0, ?_, fun h => h⟩
      simp [choose, Sem.run, Question.forced, hf]
    · refine ⟨1, w.tape w.drawn (.mapNext cand.size) % cand.size, ?_, fun h => Nat.mod_lt _ h⟩
      simp [choose, Sem.run, Question.forced, hf, Question.cut]
  obtain ⟨d, c, hc1, hc2⟩ := hch
  rw [hrun, hc1]
  simp only [Result.andThen_ok]
  by_cases he : left.isEmpty = true
  · left
    refine ⟨d, ?_, fun s hs => ?_⟩
    · have hl : left = #[] := by simpa using he
      have hcand : cand = #[none] := by simp [cand, hl]
      rw [hcand] at hc2 ⊢
      have : c = 0 := by have := hc2 (by simp); simp at this; exact this
      subst this
      simp
    · have hl : left = #[] := by simpa using he
      rw [Array.filter_eq_empty_iff] at hl
      have hes : es[s]? = some es[s] := by simp [hs]
      have := hl _ (Array.mem_of_getElem? hes)
      have hbs := hb s _ hes
      simp at this
      rw [hbs] at this
      simpa using this
  · right
    have hcand : cand = left.map some := by simp [cand, he]
    have hpos : 0 < left.size := by
      rcases Nat.eq_zero_or_pos left.size with h | h
      · exact absurd (by simpa using h) he
      · exact h
    have hcl : c < left.size := by
      have := hc2 (by rw [hcand]; simpa using hpos)
      rw [hcand] at this; simpa using this
    have hce : cand[c]? = some (some left[c]) := by rw [hcand]; simp [hcl]
    have hmem : left[c] ∈ left := Array.getElem_mem hcl
    obtain ⟨h1, h2⟩ := Array.mem_filter.1 hmem
    obtain ⟨i, hi⟩ := Array.getElem?_of_mem h1
    have hbi := hb i _ hi
    have hil := (Array.getElem?_eq_some_iff.1 hi).1
    rw [hce]
    have hset := yf (P := P) (w := { w with drawn := w.drawn + d }) (r := r) (ob := .mapIter (some m) n seen n) (ob' := .mapIter (some m) n (seen.push left[c].born) es.size) hr (by intro c t f; simp)
    refine ⟨d, i, left[c].key, left[c].val, hil, ?_, ?_⟩
    · simp at h2
      rw [hbi] at h2
      simpa using h2
    · simp only [Sem.run_bind, hset, Result.andThen_ok, Sem.run_pure]
      rw [hbi, hn]

theorem World.drew_evo {C:Ctx} {Z:Nat→Prop} {w:World} {d:Nat}:Evo C Z Z w { w with drawn:=w.drawn+d }:=⟨fun _ h=>h,fun _ _=>rfl,fun _ _ _ arr _ _ h=>⟨arr,h,rfl⟩⟩
theorem next_step {ops:Array Oper} {i ki n d:Nat} {is:List Nat} {o:Oper} {it:Operand} {mref:AV} {cells:List AV} {seen:List Nat} (ho:ops[i]?=some o) (hop:o.op=.next it false) (hd:o.dst=some d) (hgd:o.guard=none) {HK:Prop} (hk:HK)
 (hit:XU st.tmps it=.mp ki 0 true) (hbi:st.blks[ki]?=some ⟨true,0,0,false,mref :: .int .i64 n :: ye seen,false⟩)
 (hm:(∃ km bm,mref=.mp km 0 false∧st.blks[km]?=some bm∧bm.live=true∧bm.sz=0∧bm.flat=true∧bm.gen=0∧bm.cells=cells) ∨ mref=.rmap cells) (hn:n=cells.length)
 (hA:∀ s,s<cells.length→s ∉ seen→G P E (.inRegion ops is :: k) ⟨st.tmps.set d (.tup [.bool true,.junk,.junk]),st.blks.set ki ⟨true,0,0,false,mref :: .int .i64 n :: ye (seen++[s]),false⟩⟩)
 (hB:(∀ s,s<cells.length→s ∈ seen)→G P E (.inRegion ops is :: k) ⟨st.tmps.set d (.tup [.bool false]),st.blks⟩):G P E (.inRegion ops (i :: is) :: k) st:=by
 intro C Z a w hr
 have hv:=QV hr.tmp it
 rw [hit] at hv
 obtain ⟨blk,ob,obj,hβ,hval,q1,q2⟩:=yP hr.mem hbi rfl rfl rfl hv
 simp only [XK,Bool.false_eq_true,if_false] at q2
 obtain ⟨m,n',sn,rfl,l1,⟨c0,l2,l3⟩,l4,l5⟩:=q2
 simp only [List.getElem?_cons_zero,Option.some.injEq] at l2; subst l2
 have hn':n'=n:=by
  simp only [List.getElem?_cons_succ,List.getElem?_cons_zero,Option.some.injEq,AV.int.injEq,true_and] at l4; omega
 subst hn'
 have hsn:sn.toList=seen:=by
  have hlen:sn.size=seen.length:=by simp [ye] at l1; omega
  apply List.ext_getElem?
  intro j
  by_cases hj:j<sn.size
  · have h1:sn[j]?=some sn[j]:=by simp [hj]
    have h2:=l5 j _ h1
    simp only [List.getElem?_cons_succ,ye,List.getElem?_map] at h2
    have h3:seen[j]?=some (seen[j]'(by omega)):=List.getElem?_eq_getElem (by omega)
    rw [h3] at h2 ⊢
    simp only [Option.map_some,Option.some.injEq,AV.int.injEq,true_and] at h2
    rw [Array.getElem?_toList,h1]; congr 1; omega
  · rw [List.getElem?_eq_none (by simpa using hj),List.getElem?_eq_none (by omega)]
 have hmap:∃ es:Array MapEntry,w.heap[m]?=some (.map es es.size)∧es.size=cells.length∧∀ (i:Nat) (e:MapEntry),es[i]?=some e→e.born=i:=by
  rcases hm with ⟨km,bm,rfl,e1,e2,e3,e4,e5,rfl⟩ | rfl
  · obtain ⟨blk2,o2,ob2,hβ2,hc2,r1,r2⟩:=yP hr.mem e1 e2 e3 e5.symm l3
    simp only [WX,Bool.false_eq_true,if_false,Value.map.injEq,Option.some.injEq] at hc2
    subst hc2
    obtain ⟨es,rfl,f1,f2⟩:=r2.ents e4
    exact ⟨es,r1,by have:=f1.1; simpa using this.symm,f2⟩
  · cases l3 with
    | rmap es hz hh hl hb hr=>exact ⟨es,hh,hl.symm,hb⟩
 obtain ⟨es,hes,hsz,hborn⟩:=hmap
 have hwc:Region.wanted o (yielded ops a.tmps)=true:=by simp [Region.wanted,hgd]
 have hgo:=stepGR_op (P:=P) (b:=E.b) (k:=k) (cs:=E.cs) (w:=w) (rest:=is) ho hwc
 rw [Oper.semAt_eq _ _ _ (by rw [hop]; intro c h; cases h)] at hgo
 have hfin:∀ v,(E.b.atR a (.inRegion ops (i :: is) :: k)).finish v=E.b.atR (a.put o.dst v) (.inRegion ops is :: k):=by
  intro v; rw [Frame.finish_atR,ho]; rfl
 have hexec:∀ {c:Value} {w':World},(Instr.next (a.eval it) false o.type).run P w=.ok c w'→(execOp a.eval o).run P w=.ok (.value c) w':=fun {c w'} h=>by
  simp only [execOp,hop,Sem.run_bind,h,Result.andThen_ok,Sem.run_pure]
 have hdef:∀ c,(a.put o.dst c).defers=a.defers:=fun c=>by rw [hd]; rfl
 have hput:∀ {c:Value} {v:AV} {Z':Nat→Prop} {w':World} {C':Ctx},VRs Z' w' C' st.tmps a.tmps.toList→VR Z' w' C' v c→VRs Z' w' C' (st.tmps.set d v) (a.put o.dst c).tmps.toList:=fun {c v Z' w' C'} h1 h2=>by
  have:=h1.put h2 o.dst
  rw [hd] at this ⊢
  exact this
 have hitv:a.eval it=.pointer (some ⟨blk,0,none⟩):=by rw [hval]; rfl
 rcases next_run (P:=P) (w:=w) o.type hitv q1 hes (by omega) hborn with ⟨dd,h1,h2⟩ | ⟨dd,s,ka,va,h1,h2,h3⟩
 · have ev:=World.drew_evo (C:=C) (Z:=Z) (w:=w) (d:=dd)
   have hmem:Mem E.Z0 E.M E.w0 C Z st.blks { w with drawn:=w.drawn+dd }:=by
    have hm:=hr.mem
    refine ⟨fun k b hb hl=>?_,hm.gen,hm.dd,hm.dom,hm.inj,hm.own,hm.zlt,hm.z0,hm.zsub,⟨hm.frame.os,hm.frame.tape,hm.frame.output,hm.frame.size,Nat.le_trans hm.frame.dr (Nat.le_add_right _ _),hm.frame.same⟩⟩
    obtain ⟨q1,q2⟩:=hm.blk k b hb hl
    refine ⟨q1,?_⟩
    cases hs:C.β k with
    | absent=>simp [hs] at q2
    | unborn=>simp only [hs] at q2 ⊢; exact q2
    | loc blk o=>simp only [hs] at q2 ⊢; exact q2.next rfl (fun c v h=>h.mono World.drew_evo) (fun _ c v _ h=>h.mono ev)
   refine .step (.one (step_lone_go ?_)) (hB (fun s hs=>by rw [← hsn]; exact h2 s (by omega)) C Z (a.put o.dst (.tuple #[.bool false])) { w with drawn:=w.drawn+dd }
    ⟨hput (hr.tmp.next (.refl C) ev) (.tup rfl fun j c v p q=>?_),hmem,by rw [hdef]; exact hr.marks.evo ev,hr.gh.next (.refl C) ev,hr.base.next (.refl C) ev⟩)
   · rw [hgo,← hfin]; simp [stepG.apply,hexec h1]
   · match j,p,q with
     | 0,p,q=>simp at p q; subst p; subst q; exact .bool _
     | j+1,p,q=>simp at p
 · have hblt:blk<w.heap.size:=(hr.mem.own ki blk ob hβ).1
   have hC:C.put ki (.loc blk ob) 0=C:=by
    have e1:=hr.mem.gen ki _ hbi
    cases C with
    | mk β γ =>
     simp only [Ctx.put,Ctx.mk.injEq]
     constructor
     · funext j; by_cases e:j=ki
       · subst e; simp; exact hβ.symm
       · simp [e]
     · funext j; by_cases e:j=ki
       · subst e; simp; exact e1.symm
       · simp [e]
   obtain ⟨hkc,-⟩:=hr.mem.blk ki _ hbi rfl
   have hch:=hr.mem.change (w':=({ w with drawn:=w.drawn+dd }:World).putObj blk (.mapIter (some m) n' (sn.push s) n')) (b':=⟨true,0,0,false,mref :: .int .i64 n' :: ye (seen++[s]),false⟩) (s:=.loc blk ob) (g:=0) hbi
    rfl rfl rfl (by simp) (fun c hc hne=>World.putObj_heap_other (fun e=>hne ob (by rw [e]; exact hβ)))
    (fun blk2 o2 arr2 e2 h2 h3=>by
      rw [hβ] at h2; simp only [Slot.loc.injEq] at h2; obtain ⟨rfl,rfl⟩:=h2
      rw [q1] at h3; cases h3)
    (by rw [hr.mem.gen ki _ hbi]; exact Nat.le_refl _) (fun _ _=>hβ.symm) rfl rfl (fun blk2 o2 h2=>by simp only [Slot.loc.injEq] at h2; obtain ⟨rfl,rfl⟩:=h2; exact .inl ⟨_,hβ⟩)
    (fun hle hevo _=>by
      refine ⟨fun i c hi=>?_,?_⟩
      · match i,hi with
        | 0,hi=>exact hkc 0 c (by simpa using hi)
        | 1,hi=>simp at hi; subst hi; rfl
        | i+2,hi =>
         simp only [List.getElem?_cons_succ,ye,List.getElem?_map,Option.map_eq_some_iff] at hi
         obtain ⟨x,-,rfl⟩:=hi; rfl
      · simp only [hC,hβ]
        refine .inr ⟨rfl,_,World.putObj_heap_same hblt,?_⟩
        simp only [XK,Bool.false_eq_true,if_false]
        have hlen:sn.size=seen.length:=by rw [← hsn]; simp
        refine ⟨m,n',sn.push s,rfl,by simp [ye,hlen],⟨mref,rfl,?_⟩,rfl,fun j x hj=>?_⟩
        · have hx:=l3.mono hevo
          have:=hx.grow hle
          rw [hC] at this
          exact this
        · simp only [List.getElem?_cons_succ,ye,List.getElem?_map]
          rw [Array.getElem?_push] at hj
          rw [List.getElem?_append]
          split at hj
          · rename_i e
            cases hj
            rw [if_neg (by omega),e,hlen,Nat.sub_self]; rfl
          · have hjl:=(Array.getElem?_eq_some_iff.1 hj).1
            rw [if_pos (by omega)]
            have:seen[j]?=some x:=by rw [← hsn]; simpa using hj
            rw [this]; rfl)
   rw [hC] at hch
   obtain ⟨hm',hle,hevo⟩:=hch
   refine .step (.one (step_lone_go ?_)) (hA s (by omega) (by rw [← hsn]; exact h2) C Z (a.put o.dst (.tuple #[.bool true,ka,va])) _
    ⟨hput (hr.tmp.next (.refl C) hevo) (.tup rfl fun j c v p q=>?_),hm',by rw [hdef]; exact hr.marks.evo hevo,hr.gh.next (.refl C) hevo,hr.base.next (.refl C) hevo⟩)
   · rw [hgo,← hfin]; simp [stepG.apply,hexec h3]
   · match j,p,q with
     | 0,p,q=>simp at p q; subst p; subst q; exact .bool _
     | 1,p,q=>simp at p q; subst p; exact .junk _
     | 2,p,q=>simp at p q; subst p; exact .junk _
     | j+3,p,q=>simp at p
theorem yw:∀ {n:Nat} {K:List Item} {ops:Array Oper} {is:List Nat} {k:List Item} {st:St},holdK n K=some (ops,is,k)→G P E (.inRegion ops (0 :: is) :: k) st→G P E K st
 | 0,K,ops,is,k,st,h,hg=>by cases K <;> simp [holdK] at h
 | n+1,K,ops,is,k,st,h,hg=>by
  unfold holdK at h
  split at h
  · exact .of_step (fun a w=>stepR_seq) (yw h hg)
  · exact .of_step (fun a w=>stepR_block) (yw h hg)
  · rename_i id ops' k'
    split at h
    · rename_i is' hr
      simp only [Option.some.injEq,Prod.mk.injEq] at h
      obtain ⟨rfl,rfl,rfl⟩:=h
      rw [← List.range_eq_range'] at hr
      refine .of_step (fun a w=>stepR_region) ?_
      rw [hr]; exact hg
    · cases h
  · cases h
/-- A loop's head that is a step of a range over a map. -/
theorem next_head {ki n d:Nat} {it:Operand} {mref:AV} {cells:List AV} {seen:List Nat} {HK:Prop} (hk:HK) (h1:nextOp K=some (it,d))
 (hit:XU st.tmps it=.mp ki 0 true) (hbi:st.blks[ki]?=some ⟨true,0,0,false,mref :: .int .i64 n :: ye seen,false⟩)
 (hm:(∃ km bm,mref=.mp km 0 false∧st.blks[km]?=some bm∧bm.live=true∧bm.sz=0∧bm.flat=true∧bm.gen=0∧bm.cells=cells) ∨ mref=.rmap cells) (hn:n=cells.length)
 (hA:∀ s,s<cells.length→s ∉ seen→G P E (yZ K) ⟨st.tmps.set d (.tup [.bool true,.junk,.junk]),st.blks.set ki ⟨true,0,0,false,mref :: .int .i64 n :: ye (seen++[s]),false⟩⟩)
 (hB:(∀ s,s<cells.length→s ∈ seen)→G P E (yZ K) ⟨st.tmps.set d (.tup [.bool false]),st.blks⟩):G P E K st:=by
 unfold nextOp at h1
 split at h1
 · rename_i ops is k hh
   split at h1
   · rename_i d' it' a b c ho
     simp only [Option.some.injEq,Prod.mk.injEq] at h1
     obtain ⟨rfl,rfl⟩:=h1
     have e:yZ K=.inRegion ops is :: k:=by simp only [yZ,hh]
     rw [e] at hA hB
     exact yw hh (next_step ho rfl rfl rfl hk hit hbi hm hn hA hB)
   · cases h1
 · cases h1
/-- An iterator's cells. -/
def itA (mref:AV) (n:Nat) (seen:List Nat):List AV:=mref :: .int .i64 n :: ye seen
theorem yu {mref:AV} {n s:Nat} {seen:List Nat}:(itA mref n (seen++[s])).getLast?=some (.int .i64 s):=by
 rw [itA,ye,List.map_append,← List.cons_append,← List.cons_append,List.map_singleton,List.getLast?_concat]
theorem Qbh {mref:AV} {n s:Nat} {seen:List Nat}:2<(itA mref n (seen++[s])).length:=by simp [itA,ye]
end
end Ax
namespace Ax
open Go
def Ke:List AV→List AV→Prop
 | [],[]=>True
 | x :: xs,y :: ys=>AvLe x y∧Xd y=true∧Xf y=true∧Ke xs ys
 | _,_=>False
theorem Ke.app:∀ {a b c d:List AV},Ke a b→Ke c d→Ke (a++c) (b++d)
 | [],[],c,d,_,h=>h
 | x :: a,y :: b,c,d,h1,h2=>⟨h1.1,h1.2.1,h1.2.2.1,Ke.app h1.2.2.2 h2⟩
theorem Ke.length:∀ {a b:List AV},Ke a b→b.length=a.length
 | [],[],_=>rfl
 | x :: a,y :: b,h=>by simp [Ke.length h.2.2.2]
theorem Ke.get:∀ {a b:List AV} {i:Nat} {y:AV},Ke a b→b[i]?=some y→∃ x,a[i]?=some x∧AvLe x y∧Xd y=true∧Xf y=true
 | [],[],i,y,_,h=>by simp at h
 | x :: a,z :: b,0,y,h,hi=>by simp at hi; subst hi; exact ⟨x,rfl,h.1,h.2.1,h.2.2.1⟩
 | x :: a,z :: b,i+1,y,h,hi=>by
  obtain ⟨x',h1,h2⟩:=Ke.get h.2.2.2 (by simpa using hi)
  exact ⟨x',by simpa using h1,h2⟩
section
variable {P:Program} {E:Env} {K:List Item} {st:St}
end
end Ax
namespace Ax
open Go
section
variable {P:Program} {E:Env} {K K':List Item} {st st':St}
def cutOk (n:Nat) (blks:List Blk):Bool:=(blks.take n).all fun b=>!b.live || b.flat || refsBelows n (bif b.sz == 0 then b.cells.take 1 else b.cells)
theorem Mem.cut {Z0 M Z:Nat→Prop} {w0 w:World} {C:Ctx} {blks:List Blk} {n:Nat} (hm:Mem Z0 M w0 C Z blks w) (h2:cutOk n blks=true):Mem Z0 M w0 (C.cut n) Z (blks.take n) w:=by
 have hget:∀ {k:Nat} {b:Blk},(blks.take n)[k]?=some b→k<n∧blks[k]?=some b:=by
  intro k b hb
  rw [List.getElem?_take] at hb
  split at hb
  · exact ⟨‹_›,hb⟩
  · cases hb
 refine ⟨fun k b hb hl=>?_,fun k b hb=>?_,fun k b hb hd=>?_,fun k hk=>?_,fun k k' c o o' e1 e2=>?_,fun k c o e1=>?_,hm.zlt,hm.z0,hm.zsub,hm.frame⟩
 · obtain ⟨hkn,hb'⟩:=hget hb
   obtain ⟨q1,q2⟩:=hm.blk k b hb' hl
   refine ⟨q1,?_⟩
   simp only [Ctx.cut,hkn,if_true]
   cases hs:C.β k with
   | absent=>simp [hs] at q2
   | unborn=>simp only [hs] at q2 ⊢; exact q2
   | loc blk o =>
    simp only [hs] at q2 ⊢
    refine q2.next1 rfl (fun c v h=>h) fun hf c v hc s2=>?_
    have:=List.all_eq_true.1 h2 b (List.mem_of_getElem? hb)
    simp only [hl,hf,Bool.not_true,Bool.false_or] at this
    obtain ⟨i,hi⟩:=List.getElem?_of_mem hc
    exact s2.cut (Xc this hi)
 · obtain ⟨hkn,hb'⟩:=hget hb
   simp only [Ctx.cut,hkn,if_true]; exact hm.gen k b hb'
 · obtain ⟨hkn,hb'⟩:=hget hb
   simp only [Ctx.cut,hkn,if_true]; exact hm.dd k b hb' hd
 · simp only [List.length_take] at hk
   simp only [Ctx.cut]
   by_cases hkn:k<n
   · simp only [hkn,if_true]; exact hm.dom k (by omega)
   · simp [hkn]
 · simp only [Ctx.cut] at e1 e2
   split at e1 <;> split at e2 <;> first | exact hm.inj k k' c o o' e1 e2 | cases e1 | cases e2
 · simp only [Ctx.cut] at e1
   split at e1
   · exact hm.own k c o e1
   · cases e1
def endW (P:Program) (fn:Func) (m n:Nat) (K:List Item) (st:St) (evs:List EV):Option (AV × List Blk × List Prop) :=
 match walk P n K st evs with
 | some (K',st1,evs1,o1) =>
  (match isEnd K',resA P st1 fn.results.toList evs1 with
  | true,some (vs,_,o2)=>(match Xf (tupA vs),cutOk m st1.blks with
   | true,true=>some (tupA vs,st1.blks.take m,o1++o2)
   | _,_=>none)
  | _,_=>none)
 | none=>none
theorem endW_step {n m:Nat} {f:FuncId} {fn:Func} {evs:List EV} {r res:AV} {gA:List AV} {bs2 bs3:List Blk} {obs:List Prop} (hE:LentE P f gA res bs2 E) (hgh:refsBelows m E.gA=true) (hf:P.funcs[f]?=some fn) (hmx:P.follows .mixedOrders=true)
 (h:endW P fn m n K st evs=some (r,bs3,obs)) (ho:AllP obs) (hr:AvLe r res) (hb:bs3=bs2):G P E K st:=by
 subst hb
 unfold endW at h
 split at h
 · rename_i K' st1 evs1 o1 h1
   split at h
   · rename_i vs evs2 o2 hK h3
     split at h
     · rename_i hn hc
       simp only [Option.some.injEq,Prod.mk.injEq] at h
       obtain ⟨rfl,rfl,rfl⟩:=h
       obtain ⟨a1,a2⟩:=Qj.1 ho
       have hfn:=hE.fn
       exact QL hE.kind hmx h1 a1 (G_end (Post:=Left E.Z0 E.M E.w0 E.Cb res (st1.blks.take m)) hE.ro hE.kind hE.df (by rw [hfn]; exact hf) (by rw [hE.fin,hfn]) h3 a2 (fun C Z w v hm hv hbs=>⟨C.cut m,Z,hE.wb ▸ hbs.cut (E.low m hgh),hm.cut hc,(hr _ _ _ (hv.ctx hn)).of0⟩) (VK hK))
     · cases h
   · cases h
 · cases h
/-! ### Nil slices in a block's cells,seen as empty ones -/
def LeD:List AV→List AV→Prop
 | [],[]=>True
 | x :: xs,y :: ys=>(x=y ∨ (x=.nilSl∧y=.rsl [] 0 0))∧LeD xs ys
 | _,_=>False
theorem LeD.refl:∀ (a:List AV),LeD a a
 | []=>trivial
 | _ :: a=>⟨.inl rfl,LeD.refl a⟩
theorem LeD.app:∀ {a b c d:List AV},LeD a b→LeD c d→LeD (a++c) (b++d)
 | [],[],_,_,_,h=>h
 | _ :: _,_ :: _,_,_,h1,h2=>⟨h1.1,LeD.app h1.2 h2⟩
theorem LeD.length:∀ {a b:List AV},LeD a b→b.length=a.length
 | [],[],_=>rfl
 | _ :: _,_ :: _,h=>by simp [LeD.length h.2]
theorem LeD.get:∀ {a b:List AV} {i:Nat} {y:AV},LeD a b→b[i]?=some y→∃ x,a[i]?=some x∧(x=y ∨ (x=.nilSl∧y=.rsl [] 0 0))
 | [],[],i,y,_,h=>by simp at h
 | x :: a,z :: b,0,y,h,hi=>by simp at hi; subst hi; exact ⟨x,rfl,h.1⟩
 | x :: a,z :: b,i+1,y,h,hi=>by
  obtain ⟨x',h1,h2⟩:=LeD.get h.2 (by simpa using hi)
  exact ⟨x',by simpa using h1,h2⟩
/-! ### A segment whose blocks hold symbolic rows beside references -/
mutual
theorem yN {n:Nat}:∀ {v:AV},Xf v=true→QI n v=true
 | .ptr ..,h=>by simp [Xf] at h
 | .sl ..,h=>by simp [Xf] at h
 | .mp ..,h=>by simp [Xf] at h
 | .pm ..,h=>by simp [Xf] at h
 | .ifc _ v,h=>by simp only [Xf,QI] at h ⊢; exact yN h
 | .agg cs,h=>by simp only [Xf,QI] at h ⊢; exact refsBelows_nr h
 | .tup cs,h=>by simp only [Xf,QI] at h ⊢; exact refsBelows_nr h
 | .clos _ a b,h=>by
  simp only [Xf,QI,Bool.and_eq_true] at h ⊢
  exact ⟨refsBelows_nr h.1,refsBelows_nr h.2⟩
 | .bool ..,_=>rfl
 | .int ..,_=>rfl
 | .nilPtr,_=>rfl
 | .rptr ..,_=>rfl
 | .nilSl,_=>rfl
 | .rsl ..,_=>rfl
 | .nilFunc,_=>rfl
 | .rmap ..,_=>rfl
 | .opq ..,_=>rfl
 | .junk,_=>rfl
theorem refsBelows_nr {n:Nat}:∀ {cs:List AV},noRefs cs=true→refsBelows n cs=true
 | [],_=>rfl
 | c :: cs,h=>by
  simp only [noRefs,refsBelows,Bool.and_eq_true] at h ⊢
  exact ⟨yN h.1,refsBelows_nr h.2⟩
end
/-! ### A call that turns one block of the caller's,in a region whose order is drawn -/
theorem Yq {fv:AV} {args:List AV} {k:Nat} {b b':Blk} {res:AV} (h:Yk P (ren (fun j=>[k].idxOf j) fv) (rens (fun j=>[k].idxOf j) args) [b] res [b'])
 (hrf:Ya (fun j=>[k].contains j) fv=true) (hra:refsIns (fun j=>[k].contains j) args=true) (hfl:b.flat=true) (hfl':b'.flat=true) (hg:b'.gen=b.gen) (hres:Xf res=true):PureU P fv args k b b' res:=by
 intro Z0 M w0 w C Z blks cf cargs hm hb hf ha
 have hl:Ax.lend (fun j=>[k].idxOf j) (fun j=>[k].contains j) blks [k]=some [b]:=by simp [lend,hb,hfl,renB]
 obtain ⟨hm1,hρ,hcon⟩:=hm.lend (ρ:=[k]) rfl hl
 have hargs:VRs Z w (subC C [k]) (rens (fun j=>[k].idxOf j) args) cargs.toList:=by
  refine ⟨by rw [XG]; exact ha.1,fun j c v p q=>?_⟩
  rw [YZ,Option.map_eq_some_iff] at p
  obtain ⟨c0,p,rfl⟩:=p
  exact (ha.2 j c0 v p q).ren hcon (YF hra p)
 obtain ⟨d,f,args',r1,r2,r3⟩:=h Z w (subC C [k]) cf cargs hm1 (hf.ren hcon hrf) hargs
 refine ⟨d,f,args',r1,r2,r3.mono ?_⟩
 rintro e w' ⟨v,C1,Z1,rfl,hbase,hm2,hv⟩
 obtain ⟨hm3,hevo,hout⟩:=hm.given (ρ:=[k]) rfl hρ (by simp) hbase hm2
 have e1:Xm blks [k] ([b'].map (renB (outN blks.length [k])))++([b'].drop [k].length).map (renB (outN blks.length [k]))=blks.set k b':=by simp [Xm,renB,hfl']
 rw [e1] at hm3
 refine ⟨v,rfl,YW C C1 blks.length [k],Z1,hevo.le,⟨hevo.zsub,hevo.same,fun j blk o arr e hb' ha'=>hevo.rows j blk o arr e hb' ?_ ha'⟩,hm3,hv.ctx hres⟩
 have hkl:=(List.getElem?_eq_some_iff.1 hb).1
 by_cases hj:j=k
 · subst hj
   rw [hm3.gen j b' (by simp [hkl]),hm.gen j b hb,hg]
 · simp only [YW,inN]
   by_cases hjl:j<blks.length
   · simp [hjl,hj]
   · rw [(hm.dom j (by omega)).1] at hb'; cases hb'
end
end Ax
namespace Ax
open Go
theorem take_le {row:List AV} {k len:Nat}:AvLe (.rsl row 0 len) (.rsl (row.take k) 0 len):=fun Z w c h=>by
 cases h with
 | @rsl _ _ _ _ cap blk o cv hz hl hc hk hr =>
  refine .rsl cv hz hl (fun i hi=>?_) (fun i c hi=>?_) (fun i c hi=>?_)
  · rw [List.length_take] at hi; exact hc i (by omega)
  · rw [List.getElem?_take] at hi; split at hi
    · exact hk i c hi
    · cases hi
  · rw [List.getElem?_take] at hi; split at hi
    · exact hr i c hi
    · cases hi
 | rsl0=>exact .rsl0
theorem Qak {α:Type} (c:α→List AV) {s:Nat} (hs:∀ x,(c x).length=s):∀ {l:List α} {k:Nat},(l.flatMap c).take (k*s)=(l.take k).flatMap c
 | [],k=>by simp
 | x :: l,0=>by simp
 | x :: l,k+1=>by
  have:=Qak c hs (l:=l) (k:=k)
  rw [List.flatMap_cons,List.take_succ_cons,List.flatMap_cons,← this,List.take_append,hs x,List.take_of_length_le (by rw [hs x,Nat.add_mul]; omega)]
  congr 2
  rw [Nat.add_mul]; omega
theorem rsl_take {α:Type} (c:α→List AV) {s:Nat} (hs:∀ x,(c x).length=s) {l:List α} {len:Nat} (hl:len≤l.length) :
 AvLe (.rsl (l.flatMap c) 0 len) (.rsl ((l.take len).flatMap c) 0 (l.take len).length):=by
 rw [← Qak c hs,List.length_take,Nat.min_eq_left hl]; exact take_le
section
variable {P:Program} {E:Env} {K:List Item} {st:St}
theorem weakT_step {t:Nat} {v v':AV} (ht:st.tmps[t]?=some v) (hn:Xf v=true) (hn':Xf v'=true) (hle:AvLe v v') (hg:G P E K ⟨st.tmps.set t v',st.blks⟩):G P E K st:=by
 intro C Z a w hr
 have hlt:t<st.tmps.length:=(List.getElem?_eq_some_iff.1 ht).1
 refine hg C Z a w ⟨⟨by rw [List.length_set]; exact hr.tmp.1,fun i c x hi hx=>?_⟩,hr.mem,hr.marks,hr.gh,hr.base⟩
 by_cases e:t=i
 · subst e
   rw [List.getElem?_set_self hlt] at hi
   cases hi
   exact ((hle _ _ _ ((hr.tmp.2 t v x ht hx).ctx hn))).ctx hn'
 · rw [List.getElem?_set_ne e] at hi
   exact hr.tmp.2 i c x hi hx
end
end Ax
namespace Ax
open Go
def Kd {α:Type}:List α→Nat→List α→List α
 | l,_,[]=>l
 | l,d,v :: vs=>Kd (l.set d v) (d+1) vs
theorem Yx {α:Type}:∀ {x l:List α} {d:Nat},(Kd l d x).length=l.length
 | [],l,d=>rfl
 | v :: x,l,d=>by simp only [Kd]; rw [Yx]; simp
theorem setAt_two:∀ {a b c:List AV} {off:Nat},Qv c off (a++b)=Qv (Qv c off a) (off+a.length) b
 | [],b,c,off=>rfl
 | x :: a,b,c,off=>by
  simp only [List.cons_append,Qv,List.length_cons]
  rw [setAt_two,show off+1+a.length=off+(a.length+1) by omega]
theorem setAt_mid:∀ {x c p:List AV},c.length=x.length→Qv (p++c) p.length x=p++x
 | [],c,p,h=>by rw [List.length_eq_zero_iff.1 h]; rfl
 | v :: x,[],p,h=>by simp at h
 | v :: x,y :: c,p,h=>by
  have e:(p++y :: c).set p.length v=(p++[v])++c:=by
   rw [List.set_append_right (h:=Nat.le_refl _),Nat.sub_self,List.set_cons_zero,List.append_assoc]; rfl
  simp only [Qv]
  rw [e,show p.length+1=(p++[v]).length by simp,setAt_mid (p:=p++[v]) (by simpa using h),List.append_assoc]; rfl
theorem setAt_full {x c:List AV} (h:c.length=x.length):Qv c 0 x=x:=setAt_mid (p:=[]) h
theorem Qaw {α:Type}:∀ {x l:List α} {d i:Nat},d+x.length≤l.length→(Kd l d x)[i]?=if d≤i∧i<d+x.length then x[i - d]? else l[i]?
 | [],l,d,i,h=>by simp only [Kd,List.length_nil]; rw [if_neg (by omega)]
 | v :: x,l,d,i,h=>by
  simp only [List.length_cons] at h ⊢
  simp only [Kd]
  rw [Qaw (by simp; omega)]
  by_cases c:d+1≤i∧i<d+1+x.length
  · rw [if_pos c,if_pos (by omega),show i - d=(i - (d+1))+1 by omega,List.getElem?_cons_succ]
  · rw [if_neg c]
    by_cases e:d=i
    · subst e
      rw [if_pos (by omega),List.getElem?_set_self (by omega),Nat.sub_self]; rfl
    · rw [if_neg (by omega),List.getElem?_set_ne e]
section
variable {α:Type} (f:α→List AV) {s:Nat} (hf:∀ a,(f a).length=s)
include hf
theorem copy_row0:∀ (x l:List α) (d:Nat),d+x.length≤l.length→Qv (l.flatMap f) (d*s) (x.flatMap f)=(Kd l d x).flatMap f
 | [],l,d,h=>rfl
 | v :: x,l,d,h=>by
  simp only [List.length_cons] at h
  rw [List.flatMap_cons,setAt_two,hf]
  have hd:l[d]?=some (l[d]'(by omega)):=List.getElem?_eq_getElem (by omega)
  have h1:=QH f hf (k:=0) (xs:=f v) (a':=v) hd (setAt_full (by rw [hf,hf])) (by rw [hf]; omega)
  rw [show 0+d*s+0=d*s by omega] at h1
  rw [h1,show d*s+s=(d+1)*s by rw [Nat.add_mul]; omega]
  exact copy_row0 x (l.set d v) (d+1) (by simp; omega)
theorem copy_row {l sc:List α} {d si n off:Nat} (h1:d+n≤l.length) (h2:si+n≤sc.length) (he:off=d*s):Qv (l.flatMap f) off (((sc.drop si).take n).flatMap f)=(Kd l d ((sc.drop si).take n)).flatMap f:=by
 rw [he]
 exact copy_row0 f hf _ l d (by rw [List.length_take,List.length_drop]; omega)
theorem copy_fits {l:List α} {d n off:Nat} (h:d+n≤l.length) (he:off=d*s):off+n*s≤(l.flatMap f).length:=by
 rw [QG f hf,he,← Nat.add_mul]
 exact Nat.mul_le_mul_right s h
theorem copy_src {sc:List α} {si so:Nat} (n:Nat) (he:so=si*s):((sc.flatMap f).drop so).take (n*s)=((sc.drop si).take n).flatMap f:=by
 have hd:∀ (k:Nat) (l:List α),(l.flatMap f).drop (k*s)=(l.drop k).flatMap f:=by
  intro k
  induction k with
  | zero=>intro l; simp
  | succ k ih =>
   intro l
   cases l with
   | nil=>simp
   | cons a l =>
    rw [List.flatMap_cons,List.drop_succ_cons,← ih l,show (k+1)*s=(f a).length+k*s by rw [hf,Nat.add_mul]; omega,← List.drop_drop,List.drop_left]
 rw [he,hd,Qak f hf]
theorem copy_len {sc:List α} {si n:Nat} (h:si+n≤sc.length):(((sc.drop si).take n).flatMap f).length=n*s:=by
 rw [QG f hf,List.length_take,List.length_drop,Nat.min_eq_left (by omega)]
end
end Ax
namespace Ax
open Go
section
variable {P:Program} {E:Env} {K K':List Item} {st st':St}
end
end Ax
namespace Ax
open Go
structure PureOE (P:Program) (f:FuncId) (len sz:Nat) (cells:List AV) (E:Env):Prop where
 ro:E.b.roundOf=none
 kind:E.b.kind=.normal
 fn:E.b.fn=f
 nm:∀ b,¬ E.M b
 gA:E.gA=[]
 fin:E.Fin=(VA P f E.cs fun v w'=>NewSl E.w0 w' v len sz cells∧Fr E.w0 (fun _=>False) w')
 cb:E.Cb=C0
 df:E.df=[]
section
variable {P:Program} {E:Env} {K K':List Item} {st st':St}
theorem PureOE.nogh {f:FuncId} {len sz:Nat} {cells:List AV} (hE:PureOE P f len sz cells E) (m:Nat):refsBelows m E.gA=true:=by rw [hE.gA]; rfl
end
end Ax
namespace Ax
open Go
end Ax
namespace Ax
open Go Go.Proofs Go.Shelf Go.RowKit Go.Lib Go.Sort
section
variable {P:Program} {α:Type}
def Vn (ci:α→List Int) (x:α):List AV:=(ci x).map (.int .i64)
def encI (ci:α→List Int) (x:α):List Value:=(ci x).map (.int .i64)
theorem fm_len {ci:α→List Int} {k:Nat} (hk:∀ x,(ci x).length=k):∀ l:List α,(l.flatMap (Vn ci)).length=l.length*k
 | []=>by simp
 | x :: l=>by rw [List.flatMap_cons,List.length_append,fm_len hk l,List.length_cons,Nat.succ_mul,Vn,List.length_map,hk]; omega
theorem fm_get [Inhabited α] {ci:α→List Int} {k:Nat} (hk:∀ x,(ci x).length=k) (h0:0<k):∀ {l:List α} {j:Nat},j<l.length*k →
 ∃ n:Int,(l.flatMap (Vn ci))[j]?=some (.int .i64 n)∧(flatK (encI ci) k l.toArray)[j]! =.int .i64 n:=by
 intro l j hj
 have hi:j / k<l.length:=Nat.div_lt_of_lt_mul (by rw [Nat.mul_comm]; exact hj)
 have hr:j % k<k:=Nat.mod_lt _ h0
 have hdm:=Nat.div_add_mod j k
 have hx:l[j / k]?=some l[j / k]:=List.getElem?_eq_getElem hi
 have hl:=hk l[j / k]
 refine ⟨(ci l[j / k])[j % k]'(by omega),?_,?_⟩
 · have hp:((l.flatMap (Vn ci)).drop (j / k*k)).take k=Vn ci l[j / k]:=by
    have:=Ki (Vn ci) (s:=k) (fun x=>by simp [Vn,hk]) (k:=0) (m:=k) (by omega) hx
    rw [Nat.zero_add,Nat.add_zero,List.drop_zero] at this
    rw [this,List.take_of_length_le (by simp [Vn,hk])]
   have h1:(((l.flatMap (Vn ci)).drop (j / k*k)).take k)[j % k]?=(l.flatMap (Vn ci))[j]?:=by
    rw [List.getElem?_take_of_lt hr,List.getElem?_drop]
    congr 1
    rw [Nat.mul_comm]; exact hdm
   rw [← h1,hp,Vn,List.getElem?_map,List.getElem?_eq_getElem (by omega)]
   rfl
 · rw [get_flatK _ _ _ _ (by simpa using hj)]
   rw [getElem!_pos l.toArray (j / k) (by simpa using hi),getElem!_pos _ _ (by simp [encI,hk,hr])]
   simp [encI]
theorem world_ext {w w':World} (h1:w.heap=w'.heap) (h2:w.tape=w'.tape) (h3:w.drawn=w'.drawn) (h4:w.os=w'.os) (h5:w.output=w'.output):w=w':=by
 cases w; cases w'; simp_all
/-- What leaves all that lay there as it was has drawn,and laid new things. -/
theorem fr_grow {w w':World} (h:Fr w (fun _=>False) w'):∃ q os,w'=grow (w.drewN q) os:=by
 refine ⟨w'.drawn - w.drawn,w'.heap.extract w.heap.size w'.heap.size,world_ext ?_ h.tape ?_ h.os h.output⟩
 · change w'.heap=w.heap++w'.heap.extract w.heap.size w'.heap.size
   apply Array.ext_getElem?
   intro i
   rw [Array.getElem?_append]
   split
   · rename_i hi; exact h.same i hi (fun x=>x)
   · rename_i hi
     rw [Array.getElem?_extract]
     split
     · congr 1; omega
     · rename_i hj; exact Array.getElem?_eq_none (by omega)
 · have:=h.dr
   change w'.drawn=w.drawn+(w'.drawn - w.drawn); omega
section
variable [Inhabited α] {enc:α→List Value} {k blk off n:Nat} {w:World} {d:Array α} {os:Array Obj}
theorem sw_size:w.heap.size≤(sortWorldK enc k w blk off n d os).heap.size:=by
 simp only [sortWorldK,grow,putRowK,putRow,mapBlock,Sort.ahead,Array.size_append,Array.size_modify]; omega
theorem sw_other {c:Nat} (hc:c<w.heap.size) (hne:c ≠ blk):(sortWorldK enc k w blk off n d os).heap[c]?=w.heap[c]?:=by
 simp only [sortWorldK,grow,putRowK,putRow,mapBlock,Sort.ahead]
 rw [Array.getElem?_append_left (by simpa using hc),Array.getElem?_modify,if_neg (fun e=>hne e.symm)]
theorem sw_blk {arr:Array Value} {e:TypeId} (hb:w.heap[blk]?=some (.cells arr e (0,0))) :
 (sortWorldK enc k w blk off n d os).heap[blk]?=some (.cells (putCells id off (flatK enc k d) arr) e (0,0)):=by
 have hc:=(Array.getElem?_eq_some_iff.1 hb).1
 simp only [sortWorldK,grow,putRowK,putRow,mapBlock,Sort.ahead]
 rw [Array.getElem?_append_left (by simpa using hc),Array.getElem?_modify,if_pos rfl,hb]
 rfl
end
theorem pc_size {off:Nat} {F arr:Array Value}:(putCells id off F arr).size=arr.size:=by simp [putCells]
theorem pc_get {off j:Nat} {F arr:Array Value} (hj:j<F.size) (ho:off+j<arr.size):(putCells id off F arr)[off+j]?=some F[j]!:=by
 simp only [putCells,Array.getElem?_mapIdx]
 rw [Array.getElem?_eq_getElem ho]
 simp only [Option.map_some,id]
 rw [if_pos ⟨by omega,by omega⟩,show off+j - off=j by omega]
theorem vr_agg {Z:Nat→Prop} {w:World} {C:Ctx} {ci:α→List Int} (x:α):VR Z w C (.agg (Vn ci x)) (.agg (encI ci x).toArray):=by
 refine .agg (by simp [Vn,encI]) fun i c v p q=>?_
 simp only [Vn,List.getElem?_map,Option.map_eq_some_iff] at p
 obtain ⟨m,h1,rfl⟩:=p
 simp only [encI,List.getElem?_toArray,List.getElem?_map,h1,Option.map_some,Option.some.injEq] at q
 subst q
 exact .int _ _
/-- A row of structs of numbers that a function of the library turns,at a comparison that is pure. -/
theorem lent_sort [Inhabited α] {ci:α→List Int} {k:Nat} (hk:∀ x,(ci x).length=k) (h0:0<k) {f g:FuncId} {caps:List AV} {g0 ln:Nat} {l l':List α} (hl:0<l.length) (hln:ln=l.length) (hl':l'.length=l.length) {cf:α→α→Int}
 (hS:∀ (cb:Array Value) (blk off cap:Nat) (w:World),CmpLays P g cb (encI ci) k cf blk off l.toArray.size w→HoldsK (encI ci) k w blk off l.toArray→blk<w.heap.size →
   Calls P f #[.slice (some ⟨blk,off,none⟩) l.toArray.size cap,.func (.func g) #[] cb] w fun e w'=>e=.returned (.tuple #[])∧∃ n os,w'=sortWorldK (encI ci) k w blk off n l'.toArray os)
 (hC:∀ x y,Pure P g ([.agg (Vn ci x),.agg (Vn ci y)]++caps) (.int .i64 (cf x y))) (hnr:∀ c ∈ caps,Xf c=true) :
 Lent P f [.sl 0 g0 0 ln k,.clos g [] caps] [⟨true,g0,k,true,l.flatMap (Vn ci),true⟩] (.tup []) [⟨true,g0,k,true,l'.flatMap (Vn ci),true⟩]:=by
 subst hln
 intro Z w C cargs hm ha
 obtain ⟨c1,r1,hcs,v1,ha1⟩:=ha.cons
 obtain ⟨c2,r2,rfl,v2,ha2⟩:=ha1.cons
 have hr2:=ha2.nil; subst hr2
 have hca:cargs=#[c1,c2]:=Array.toList_inj.1 (by simpa using hcs)
 subst hca
 have hb0:([⟨true,g0,k,true,l.flatMap (Vn ci),true⟩]:List Blk)[0]?=some ⟨true,g0,k,true,l.flatMap (Vn ci),true⟩:=rfl
 have hg:=hm.gen 0 _ hb0
 obtain ⟨q1,q2⟩:=hm.blk 0 _ hb0 rfl
 cases v2 with
 | @clos _ _ _ _ fa ca e1 e2 e3 e4 =>
 have hfa:fa=#[]:=Array.eq_empty_of_size_eq_zero (by simpa using e1.symm)
 subst hfa
 cases v1 with
 | sl hge ho h =>
 have hs:=h hg.symm
 unfold SlOk at hs
 cases hβ:C.β 0 with
 | absent=>simp [hβ] at hs
 | unborn=>simp only [hβ] at hs; omega
 | loc blk o =>
 simp only [hβ] at hs q2
 obtain ⟨a,cap,rfl,hcap,hap,arr0,e0,hh0,hsz0⟩:=hs
 have ha:=hap (by omega); subst ha
 obtain ⟨arr,e,hh,hsz,hcell⟩:=q2.cells (by simpa using Nat.pos_iff_ne_zero.1 h0)
 have hown:=hm.own 0 blk o hβ
 simp only [Nat.add_zero] at *
 rw [fm_len hk] at hsz
 have hH:HoldsK (encI ci) k w blk o l.toArray:=by
  intro j hj
  rw [size_flatK] at hj
  simp only [List.size_toArray] at hj
  obtain ⟨m,m1,m2⟩:=fm_get hk h0 hj
  obtain ⟨v,s1,s2⟩:=hcell j _ m1
  cases s2
  constructor
  · simp only [World.cell?,hh,Option.isSome_none,Bool.false_eq_true,if_false,id,m2]; exact s1
  · simp only [World.frozen?,hh]
    simp
 have hcs:∀ (W:World),(∀ c,c<w.heap.size→c ≠ blk→W.heap[c]?=w.heap[c]?)→VRs Z W C0 caps ca.toList:=by
  intro W hW
  refine ⟨by simpa using e3,fun i c v p q=>?_⟩
  have hv:=(e4 i c v p (by simpa using q)).ctx (C':=C0) (hnr c (List.mem_of_getElem? p))
  exact hv.mono ⟨fun b hz=>hz,fun b hz=>hW b (hm.zlt b hz) (fun x=>hown.2.1 (x ▸ hz)),fun k blk o arr e h=>by simp [C0] at h⟩
 have hcmp:CmpLays P g ca (encI ci) k cf blk o l.toArray.size w:=by
  intro m os dk hdk x y
  have hoth:∀ c,c<w.heap.size→c ≠ blk→(sortWorldK (encI ci) k w blk o m dk os).heap[c]?=w.heap[c]?:=fun c hc hne=>sw_other hc hne
  have hp:=hC x y Z (sortWorldK (encI ci) k w blk o m dk os) (#[.agg (encI ci x).toArray,.agg (encI ci y).toArray]++ca) (fun b hz=>Nat.lt_of_lt_of_le (hm.zlt b hz) sw_size) (by
   rw [Array.toList_append]
   refine VRs.app ⟨rfl,fun i c v p q=>?_⟩ (hcs _ hoth)
   match i,p,q with
   | 0,p,q=>simp at p q; subst p; subst q; exact vr_agg x
   | 1,p,q=>simp at p q; subst p; subst q; exact vr_agg y
   | i+2,p,q=>simp at p)
  refine hp.mono ?_
  rintro e w' ⟨v,rfl,hv,hfr⟩
  cases hv
  exact ⟨rfl,fr_grow hfr⟩
 refine (hS ca blk o cap w hcmp hH hown.1).mono ?_
 rintro e' w' ⟨rfl,n,os,rfl⟩
 have hsl:(flatK (encI ci) k l'.toArray).size=l.length*k:=by rw [size_flatK]; simp [hl']
 have hch:=hm.change (w':=sortWorldK (encI ci) k w blk o n l'.toArray os) (k:=0) (b':=⟨true,g0,k,true,l'.flatMap (Vn ci),true⟩) (s:=.loc blk o) (g:=g0) (hdr:=Nat.le_add_right _ _) hb0
  rfl rfl rfl sw_size (fun c hc hne=>sw_other hc (fun e=>hne o (by rw [e]; exact hβ)))
  (fun blk2 o2 arr2 e2 h2 h3=>by
    rw [hβ] at h2; simp only [Slot.loc.injEq] at h2; obtain ⟨rfl,rfl⟩:=h2
    exact ⟨_,sw_blk h3,pc_size⟩)
  (by rw [hg]; exact Nat.le_refl _) (fun _ _=>hβ.symm) rfl rfl (fun blk2 o2 h2=>by simp only [Slot.loc.injEq] at h2; obtain ⟨rfl,rfl⟩:=h2; exact .inl ⟨_,hβ⟩)
  (fun hle hevo _=>by
    refine ⟨fun i c hi=>?_,?_⟩
    · have:=List.mem_of_getElem? hi
      simp only [List.mem_flatMap,Vn,List.mem_map] at this
      obtain ⟨x,-,m,-,rfl⟩:=this
      rfl
    · simp only [Ctx.put,if_true]
      refine .inl ⟨by simpa using Nat.pos_iff_ne_zero.1 h0,_,e,sw_blk hh,by rw [pc_size,fm_len hk,hl']; exact hsz,fun i c hi=>?_⟩
      have hil:i<l'.length*k:=by rw [← fm_len hk]; exact (List.getElem?_eq_some_iff.1 hi).1
      obtain ⟨m,m1,m2⟩:=fm_get hk h0 hil
      rw [hi] at m1; simp only [Option.some.injEq] at m1; subst m1
      refine ⟨.int .i64 m,?_,.int _ _⟩
      rw [pc_get (by rw [hsl,← hl']; exact hil) (by rw [hl'] at hil; omega),m2])
 obtain ⟨p1,p2,p3⟩:=hch
 exact ⟨_,rfl,_,Z,Base.refl.next p2 p3,p1,.tup rfl fun i c v p q=>by simp at p⟩
end
end Ax
namespace Ax
open Go
section
variable {P:Program} {E:Env} {K K':List Item} {st st':St}
/-- A function that is handed no block of the caller's: what it gives back,and the new blocks that it leaves,stand in a relation. -/
def NewR (P:Program) (f:FuncId) (args:List AV) (R:AV→List Blk→Prop):Prop :=
 ∀ (Z:Nat→Prop) (w:World) (cargs:Array Value),(∀ b,Z b→b<w.heap.size)→VRs Z w C0 args cargs.toList →
  Calls P f cargs w fun e w'=>∃ v,e=.returned v∧∃ res bs2,R res bs2∧Left Z (fun _=>False) w C0 res bs2 v w'
theorem calls_of {f:FuncId} {fn:Func} {c:Code} {args:List AV} (hf:P.funcs[f]?=some fn) (hb:fn.body=some c) {Z:Nat→Prop} {w:World} {cargs:Array Value} (hz:∀ b,Z b→b<w.heap.size) (ha:VRs Z w C0 args cargs.toList)
 {Post:Value→World→Prop} (h:∀ cs,G P (callEnv P f Z (fun _=>False) w cs Post) [.code c] ⟨args++unds (fn.ntmps - args.length),[]⟩):Calls P f cargs w fun e w'=>∃ v,e=.returned v∧Post v w':=by
 intro cs
 have henter:Frame.enter P f cargs .normal=({ (default:Frame) with fn:=f,kind:=.normal }:Frame).atR { tmps:=cargs++Array.replicate (fn.ntmps - cargs.size) undef,defers:=[] } [.code c]:=by
  simp only [Frame.enter,Frame.atR,hf,hb,Option.map_some,Option.getD_some,Option.bind_some]; rfl
 have hl:args.length=cargs.size:=by simpa using ha.1
 obtain ⟨m',s,v,w',fr,rfl,r1,r2,r3⟩:=h cs C0 Z { tmps:=cargs++Array.replicate (fn.ntmps - cargs.size) undef,defers:=[] } w
  ⟨⟨by simp [Yi,hl],fun i x y p q=>by
   simp only [Array.toList_append,Array.toList_replicate] at q
   rw [Yi] at p
   by_cases hi:i<args.length
   · rw [List.getElem?_append_left hi] at p
     rw [List.getElem?_append_left (by simpa [← hl] using hi)] at q
     exact ha.2 i x y p q
   · rw [List.getElem?_append_right (by omega)] at p
     rw [List.getElem?_append_right (by simp; omega)] at q
     have p':=List.mem_replicate.1 (List.mem_of_getElem? p)
     have q':=List.mem_replicate.1 (List.mem_of_getElem? q)
     rw [p'.2,q'.2]
     exact .tup rfl (by simp)⟩,KS hz,⟨[],.nil,.nil,by simp⟩,⟨rfl,fun _ _ _ h _=>by cases h⟩,.bot⟩
 rw [henter]
 exact ⟨.returned v,w',fr,⟨v,rfl,r3⟩,s,r1,r2⟩
theorem G.mono {Fin':Machine→Prop} (h:G P { E with Fin:=Fin' } K st) (hF:∀ m,Fin' m→E.Fin m):G P E K st:=fun C Z a w hr=>by
 obtain ⟨m,h1,h2⟩:=h C Z a w hr
 exact ⟨m,h1,hF m h2⟩
structure NewRE (P:Program) (f:FuncId) (R:AV→List Blk→Prop) (E:Env):Prop where
 ro:E.b.roundOf=none
 kind:E.b.kind=.normal
 fn:E.b.fn=f
 gA:E.gA=[]
 df:E.df=[]
 fin:E.Fin=VA P f E.cs fun v w'=>∃ res bs2,R res bs2∧Left E.Z0 E.M E.w0 E.Cb res bs2 v w'
 wb:E.wb=E.w0
 nm:∀ b,¬ E.M b
 cb:E.Cb=C0
theorem newR_of {f:FuncId} {fn:Func} {c:Code} {args:List AV} {R:AV→List Blk→Prop} (hf:P.funcs[f]?=some fn) (hb:fn.body=some c)
 (h:∀ E,NewRE P f R E→G P E [.code c] ⟨args++unds (fn.ntmps - args.length),[]⟩):NewR P f args R :=
 fun Z w cargs hz ha=>calls_of hf hb hz ha fun cs=>h _ ⟨rfl,rfl,rfl,rfl,rfl,rfl,rfl,fun _ h=>h,rfl⟩
theorem NewRE.nogh0 {f:FuncId} {R:AV→List Blk→Prop} (hE:NewRE P f R E) (m:Nat):refsBelows m E.gA=true:=by rw [hE.gA]; rfl
/-- Where it ends,the relation is fixed to what is given back. -/
theorem NewRE.as {f:FuncId} {R:AV→List Blk→Prop} (hE:NewRE P f R E) {res:AV} {bs2:List Blk} (hr:R res bs2) (h:∀ E',LentE P f [] res bs2 E'→G P E' K st):G P E K st:=by
 refine G.mono (Fin':=VA P f E.cs (Left E.Z0 E.M E.w0 E.Cb res bs2)) (h _ ⟨hE.ro,hE.kind,hE.fn,hE.gA,hE.df,rfl,hE.wb⟩) fun m hm=>?_
 rw [hE.fin]
 obtain ⟨v,w',fr,h1,h2,h3,h4⟩:=hm
 exact ⟨v,w',fr,h1,h2,h3,res,bs2,hr,h4⟩
/-- The same where what is given back is laid down for good. -/
structure PureRE (P:Program) (f:FuncId) (R:AV→Prop) (E:Env):Prop where
 ro:E.b.roundOf=none
 kind:E.b.kind=.normal
 fn:E.b.fn=f
 nm:∀ b,¬ E.M b
 gA:E.gA=[]
 fin:E.Fin=VA P f E.cs fun v w'=>∃ res,R res∧VR (Zx E.Z0 E.w0 w') w' C0 res v∧Fr E.w0 (fun _=>False) w'
 cb:E.Cb=C0
 df:E.df=[]
theorem PureRE.as {f:FuncId} {R:AV→Prop} (hE:PureRE P f R E) {res:AV} (hr:R res) (h:∀ E',Qr P f res E'→G P E' K st):G P E K st:=by
 refine G.mono (Fin':=VA P f E.cs fun v w'=>VR (Zx E.Z0 E.w0 w') w' C0 res v∧Fr E.w0 (fun _=>False) w') (h _ ⟨hE.ro,hE.kind,hE.fn,hE.nm,hE.gA,rfl,hE.cb,hE.df⟩) fun m hm=>?_
 rw [hE.fin]
 obtain ⟨v,w',fr,h1,h2,h3,h4⟩:=hm
 exact ⟨v,w',fr,h1,h2,h3,res,hr,h4⟩
theorem pureR_of {f:FuncId} {fn:Func} {c:Code} {args:List AV} {R:AV→Prop} (hf:P.funcs[f]?=some fn) (hb:fn.body=some c)
 (h:∀ E,PureRE P f R E→G P E [.code c] ⟨args++unds (fn.ntmps - args.length),[]⟩):NewR P f args fun res bs2=>R res∧bs2=[]:=by
 intro Z w cargs hz ha
 refine (calls_of hf hb hz ha (Post:=fun v w'=>∃ res,R res∧VR (Zx Z w w') w' C0 res v∧Fr w (fun _=>False) w') fun cs=>h _ ⟨rfl,rfl,rfl,fun _ h=>h,rfl,rfl,rfl,rfl⟩).mono ?_
 rintro e w' ⟨v,rfl,res,hr,hv,hfr⟩
 have hm:=(KS hz).call hfr
 exact ⟨v,rfl,res,[],⟨hr,rfl⟩,C0,_,Base.bot,hm.1,hv⟩
/-- A call of which only a relation is known. -/
theorem callR_at {ops : Array Oper} {i : Nat} {rest : List Nat} {k : List Item} {o : Oper} {fop : Operand} {args : Array Operand} {ats : Array TypeId} {f : FuncId} {fn : Func} {c : Code} {avs : List AV} {R : AV → List Blk → Prop} (ho : ops[i]? = some o) (hop : o.op = .call ⟨.value fop, args, ats⟩)
    (hw : Yh ops st.tmps o = some true) (hfv : XU st.tmps fop = .clos f [] []) (hav : args.toList.map (XU st.tmps) = avs) (hno : avs.all Xf = true)
    (hf : P.funcs[f]? = some fn) (hname : (fn.name == "runtime.NumGoroutine") = false) (hb : fn.body = some c) (hL : NewR P f avs R) {HK : Prop} (hk : HK)
    (hg : ∀ res bs2, R res bs2 → G P E (.inRegion ops rest :: k) ⟨putA st.tmps o.dst (ren (outN st.blks.length []) res), st.blks ++ bs2.map (renB (outN st.blks.length []))⟩) : G P E (.inRegion ops (i :: rest) :: k) st := by
  subst hav
  intro C Z a w hr
  have hwc := XF hr.tmp hw
  have hgo := stepGR_op (P := P) (b := E.b) (k := k) (cs := E.cs) (w := w) (rest := rest) ho hwc
  rw [Oper.semAt_eq _ _ _ (fun c hc => by rw [hop] at hc; cases hc)] at hgo
  have hfin : ∀ v, (E.b.atR a (.inRegion ops (i :: rest) :: k)).finish v = E.b.atR (a.put o.dst v) (.inRegion ops rest :: k) := by
    intro v; rw [Frame.finish_atR, ho]; rfl
  have hn : YB [] = true := rfl
  have hlend : Ax.lend (fun j => ([] : List Nat).idxOf j) (fun j => ([] : List Nat).contains j) st.blks [] = some [] := rfl
  obtain ⟨hm1, hρ, hcon⟩ := hr.mem.lend hn hlend
  have hcf := QV hr.tmp fop
  rw [hfv] at hcf
  have hca := VRs.map (QV hr.tmp) args
  have hargs : VRs Z w C0 (args.toList.map (XU st.tmps)) (args.map a.eval).toList := ⟨hca.1, fun j c v p q => (hca.2 j c v p q).ctx (List.all_eq_true.1 hno c (List.mem_of_getElem? p))⟩
  have hsub : subC C [] = C0 := by
    simp only [subC, C0, Ctx.mk.injEq]
    exact ⟨funext fun k => by simp, funext fun k => by simp⟩
  generalize hcv : a.eval fop = cv at hcf
  cases hcf with
  | @clos _ _ _ _ fa ca e1 e2 e3 e4 =>
  have hfa : fa = #[] := Array.eq_empty_of_size_eq_zero (by simpa using e1.symm)
  have hca0 : ca = #[] := Array.eq_empty_of_size_eq_zero (by simpa using e3.symm)
  subst hfa; subst hca0
  have hz : ∀ b, Z b → b < w.heap.size := hr.mem.zlt
  obtain ⟨e, w1, fr, ⟨v, rfl, res, bs2, hR, C1, Z1, hbs, hm2, hv⟩, hsteps, -, hleave⟩ := hL Z w _ hz hargs (E.b.atR a (.inRegion ops (i :: rest) :: k) :: E.cs)
  have hent := Go.Proofs.enters_of (P := P) hf hname hb (args.map a.eval) w
  have hexec : (execOp a.eval o).run P w = .ok (.enter f (args.map a.eval)) w := by
    obtain ⟨dst, op, ty, pos, after, guard⟩ := o
    simp only at hop
    subst hop
    simp only [execOp, resolve, Sem.run_bind, hcv]
    simpa [invoke, Deferred.ofValue] using hent
  have henter : step P (lone (E.b.atR a (.inRegion ops (i :: rest) :: k)) E.cs w) =
      .next (lone (Frame.enter P f (args.map a.eval) .normal) (E.b.atR a (.inRegion ops (i :: rest) :: k) :: E.cs) w) :=
    step_lone_go (by rw [hgo]; simp [stepG.apply, hexec, Frame.atR])
  have hno0 : ∀ b, ¬ Own (subC C []) b := fun b ⟨k, o, h⟩ => by rw [hsub] at h; simp [C0] at h
  have hm2' : Mem Z (Own (subC C [])) w C1 Z1 bs2 w1 := by
    have : Own (subC C []) = fun _ => False := funext fun b => propext ⟨hno0 b, fun h => h.elim⟩
    rw [this]; exact hm2
  obtain ⟨hm3, hevo, hout⟩ := hr.mem.given (ρ := []) hn hρ (Nat.zero_le _) (by rw [hsub]; exact hbs) hm2'
  rw [List.length_nil, List.drop_zero, show Xm st.blks [] (bs2.map (renB (outN st.blks.length []))) = st.blks from by unfold Xm; rfl] at hm3
  refine .step (Steps.head henter (hsteps.trans (.one ?_))) (hg res bs2 hR _ Z1 (a.put o.dst v) w1 ⟨(hr.tmp.evoG hevo).put (hv.ren (p := fun _ => true) (fun k _ => hout k) (WH _)) o.dst, hm3, ?_, hr.gh.evoG hevo, hr.base.nextG hevo⟩)
  · rw [← hfin]; exact step_leave_returned hleave
  · have : (a.put o.dst v).defers = a.defers := by cases o.dst <;> rfl
    rw [this]; exact hr.marks.evoG hevo

/-- What is handed a row and a box that a closure holds: the box is laid down for good. -/
theorem lent_frz {f g g0 ln sz:Nat} {fv':AV} {b0 b0' b1:Blk} {res:AV} {o1:List Prop} (hz:(frz 8 (.clos g [] [.ptr 0 0 0])).run (([b1]:List Blk)[·]?)=some (fv',o1)) (ho:AllP o1)
 (h:Lent P f [.sl 0 g0 0 ln sz,fv'] [b0] res [b0']) (hf0:b0.flat=true) (hf1:b1.flat=true) (hf0':b0'.flat=true) (hr:Xf res=true):Lent P f [.sl 0 g0 0 ln sz,.clos g [] [.ptr 1 0 0]] [b0,b1] res [b0',kill b1]:=by
 intro Z w C cargs hm ha
 obtain ⟨c1,r1,hcs,v1,ha1⟩:=ha.cons
 obtain ⟨c2,r2,rfl,v2,ha2⟩:=ha1.cons
 have hr2:=ha2.nil; subst hr2
 have hl0:Ax.lend (fun j=>([0]:List Nat).idxOf j) (fun j=>([0]:List Nat).contains j) [b0,b1] [0]=some [b0]:=by simp [Ax.lend,hf0,renB]
 have hl1:Ax.lend (fun j=>([1]:List Nat).idxOf j) (fun j=>([1]:List Nat).contains j) [b0,b1] [1]=some [b1]:=by simp [Ax.lend,hf1,renB]
 obtain ⟨m0,-,k0⟩:=hm.lend rfl hl0
 obtain ⟨m1,-,k1⟩:=hm.lend rfl hl1
 have w0:VR Z w (subC C [0]) (.sl 0 g0 0 ln sz) c1:=v1.ren (p:=fun j=>([0]:List Nat).contains j) (f:=fun j=>([0]:List Nat).idxOf j) k0 rfl
 have w1:VR (ZL (subC C [1]) Z) w C0 fv' c2:=Yc m1 hz ho (v2.ren (p:=fun j=>([1]:List Nat).contains j) (f:=fun j=>([1]:List Nat).idxOf j) k1 rfl)
 have e0:∀ {k b o},(subC C [0]).β k=.loc b o→k=0∧C.β 0=.loc b o:=by
  intro k b o h
  cases k with
  | zero=>exact ⟨rfl,by simpa [subC] using h⟩
  | succ k=>simp [subC] at h
 have e1:∀ {k b o},(subC C [1]).β k=.loc b o→k=0∧C.β 1=.loc b o:=by
  intro k b o h
  cases k with
  | zero=>exact ⟨rfl,by simpa [subC] using h⟩
  | succ k=>simp [subC] at h
 have hsub:∀ b,Z b→ZL (subC C [1]) Z b:=fun b hz=>.inl hz
 have mm:Mem (ZL (subC C [1]) Z) (Own (subC C [0])) w (subC C [0]) (ZL (subC C [1]) Z) [b0] w:=by
  refine ⟨fun k b hb=>(m0.blk k b hb).evoG ⟨hsub,fun _ _=>rfl,.refl _,fun k blk o arr e _ _ h=>⟨arr,h,rfl⟩⟩ rfl (fun _ _ _=>rfl),m0.gen,m0.dd,m0.dom,m0.inj,fun k b o hb=>?_,fun b hb=>?_,fun _ h=>h,fun _ h=>.inl h,.refl w _⟩
  · obtain ⟨p1,p2,p3⟩:=m0.own k b o hb
    refine ⟨p1,fun hz=>?_,p3⟩
    rcases hz with hz | ⟨k',o',hz⟩
    · exact p2 hz
    · have:=hm.inj 0 1 b o o' (e0 hb).2 (e1 hz).2
      omega
  · rcases hb with hb | ⟨k',o',hb⟩
    · exact hm.zlt b hb
    · exact (hm.own 1 b o' (e1 hb).2).1
 refine (h (ZL (subC C [1]) Z) w (subC C [0]) cargs mm ⟨by rw [hcs]; rfl,fun i x y p q=>by
  rw [hcs] at q
  match i,p,q with
  | 0,p,q=>simp at p q; subst p; subst q; exact w0.zmono hsub
  | 1,p,q=>simp at p q; subst p; subst q; exact w1.of0
  | i+2,p,q=>simp at p⟩).mono ?_
 rintro e w' ⟨v,rfl,C2,Z2,hb,hm2,hv⟩
 have g1:=hm.gen 1 b1 rfl
 have oC:∀ b,Own (subC C [0]) b→Own C b:=fun b ⟨k,o,hb⟩=>⟨0,o,(e0 hb).2⟩
 have s0:(subC C [0]).β 0=C.β 0∧(subC C [0]).γ 0=C.γ 0:=by simp [subC]
 have b2:([b0']:List Blk)[0]?=some b0':=rfl
 refine ⟨v,rfl,⟨fun k=>if k=0 then C2.β 0 else .absent,fun k=>if k=0 then C2.γ 0 else if k=1 then C.γ 1+1 else 0⟩,Z2,⟨⟨fun k=>?_,fun k p q=>?_⟩,fun k blk o arr e p q=>?_⟩,
  ⟨fun k b hk hl=>?_,fun k b hk=>?_,fun k b hk hd=>?_,fun k hk=>?_,fun k k' b o o' p q=>?_,fun k b o p=>?_,hm2.zlt,fun b hz=>hm2.z0 b (.inl hz),fun b hz=>?_,hm2.frame.weaken oC⟩,hv.ctx hr⟩
 · match k with
   | 0=>have:=hb.le.gen 0; rw [s0.2] at this; exact this
   | 1=>exact Nat.le_succ _
   | k+2=>rw [(hm.dom (k+2) (by simp)).2]; exact Nat.zero_le _
 · match k,p,q with
   | 0,p,q=>have:=hb.le.pos 0 (by rw [s0.1]; exact p) (by rw [s0.2]; exact q); rw [s0.1] at this; exact this
   | 1,p,q=>simp at q
   | k+2,p,q=>exact absurd (hm.dom (k+2) (by simp)).1 p
 · match k,p,q with
   | 0,p,q=>exact hb.rows 0 blk o arr e (by rw [s0.1]; exact p) (by rw [s0.2]; exact q)
   | 1,p,q=>simp at q
   | k+2,p,q=>rw [(hm.dom (k+2) (by simp)).1] at p; cases p
 · match k,hk with
   | 0,hk =>
    simp only [List.getElem?_cons_zero,Option.some.injEq] at hk; subst hk
    obtain ⟨q1,q2⟩:=hm2.blk 0 _ b2 hl
    refine ⟨q1,?_⟩
    simp only [if_true]
    cases hs:C2.β 0 with
    | absent=>simp [hs] at q2
    | unborn=>simp only [hs] at q2 ⊢; exact q2
    | loc blk o=>simp only [hs] at q2 ⊢; exact q2.next rfl (fun c v h=>h) (fun hf=>by rw [hf0'] at hf; cases hf)
   | 1,hk=>simp at hk; subst hk; simp [kill] at hl
   | k+2,hk=>simp at hk
 · match k,hk with
   | 0,hk=>simp only [List.getElem?_cons_zero,Option.some.injEq] at hk; subst hk; exact hm2.gen 0 _ b2
   | 1,hk=>simp at hk; subst hk; simp [kill,g1]
   | k+2,hk=>simp at hk
 · match k,hk with
   | 0,hk=>simp only [List.getElem?_cons_zero,Option.some.injEq] at hk; subst hk; exact hm2.dd 0 _ b2 hd
   | 1,hk=>rfl
   | k+2,hk=>simp at hk
 · match k,hk with
   | 0,hk=>simp at hk
   | 1,hk=>simp at hk
   | k+2,hk=>exact ⟨rfl,rfl⟩
 · match k,k',p,q with
   | 0,0,p,q=>rfl
   | k+1,_,p,q=>simp at p
   | 0,k'+1,p,q=>simp at q
 · match k,p with
   | 0,p =>
    obtain ⟨a1,a2,a3⟩:=hm2.own 0 b o p
    exact ⟨a1,a2,a3.imp (oC b) id⟩
   | k+1,p=>simp at p
 · rcases hm2.zsub b hz with hz | hz | hz
   · rcases hz with hz | ⟨k',o',hz⟩
     · exact .inl hz
     · exact .inr (.inl ⟨1,o',(e1 hz).2⟩)
   · exact .inr (.inl (oC b hz))
   · exact .inr (.inr hz)
end
end Ax
namespace Ax
open Go
section
variable {P:Program} {Z0 M Z:Nat→Prop} {w0 w w':World} {C:Ctx} {blks bs:List Blk} {ρ:List Nat}
theorem Mem.sel (hm:Mem Z0 M w0 C Z blks w) (hn:YB ρ=true) (h:Ax.lend (fun j=>ρ.idxOf j) (fun j=>ρ.contains j) blks ρ=some bs):Mem Z0 M w0 (subC C ρ) Z bs w:=by
 obtain ⟨m,-,-⟩:=hm.lend hn h
 refine ⟨m.blk,m.gen,m.dd,m.dom,m.inj,fun k b o hb=>?_,hm.zlt,hm.z0,hm.zsub,hm.frame⟩
 simp only [subC] at hb
 split at hb
 · exact hm.own _ b o hb
 · cases hb
/-- What is kept of what a call leaves. -/
def Kept (R:AV→List Blk→Prop) (res:AV) (bs2:List Blk):Prop :=
 ∃ (ρ:List Nat) (bs:List Blk),YB ρ=true∧Ax.lend (fun j=>ρ.idxOf j) (fun j=>ρ.contains j) bs2 ρ=some bs∧Ya (fun j=>ρ.contains j) res=true∧R (ren (fun j=>ρ.idxOf j) res) bs
theorem newR_sel {f:FuncId} {args:List AV} {R:AV→List Blk→Prop} (h:NewR P f args (Kept R)):NewR P f args R:=by
 intro Z w cargs hz ha
 refine (h Z w cargs hz ha).mono ?_
 rintro e w' ⟨v,rfl,res,bs2,⟨ρ,bs,k1,k2,k3,k4⟩,C',Z',hb,hm,hv⟩
 obtain ⟨-,-,hcon⟩:=hm.lend k1 k2
 exact ⟨v,rfl,_,bs,k4,subC C' ρ,Z',Base.bot,hm.sel k1 k2,hv.ren (p:=fun j=>ρ.contains j) hcon k3⟩
end
end Ax
namespace Ax
open Go
section
variable {P:Program} {E:Env} {K K':List Item} {st:St}
def callRA (K:List Item) (st:St):Option (List Item × Option Nat × FuncId × List AV) :=
 match K with
 | .inRegion ops (i :: rest) :: k =>
  (match ops[i]? with
  | some o=>(match o.op,Yh ops st.tmps o with
   | .call ⟨.value fop,args,_⟩,some true=>(match XU st.tmps fop with
    | .clos f [] []=>bif (args.toList.map (XU st.tmps)).all Xf then some (.inRegion ops rest :: k,o.dst,f,args.toList.map (XU st.tmps)) else none
    | _=>none)
   | _,_=>none)
  | none=>none)
 | _=>none
def WU:List Item→List Item
 | .inRegion ops (i :: rest) :: k=>.inRegion ops rest :: k
 | K=>K
theorem callR_hd {d : Option Nat} {f : FuncId} {fn : Func} {c : Code} {avs : List AV} {R : AV → List Blk → Prop} (h : callRA K st = some (K', d, f, avs)) (hf : P.funcs[f]? = some fn) (hname : (fn.name == "runtime.NumGoroutine") = false) (hb : fn.body = some c) (hL : NewR P f avs R)
    (hg : ∀ res bs2, R res bs2 → G P E K' ⟨putA st.tmps d (ren (outN st.blks.length []) res), st.blks ++ bs2.map (renB (outN st.blks.length []))⟩) : G P E K st := by
  unfold callRA at h
  split at h
  · rename_i ops i rest k
    split at h
    · rename_i o ho
      split at h
      · rename_i fop args ats hop hw
        split at h
        · rename_i f' hfv
          cases hno : (args.toList.map (XU st.tmps)).all Xf with
          | false => rw [hno] at h; simp only [cond_false] at h; cases h
          | true =>
            rw [hno] at h
            simp only [cond_true, Option.some.injEq, Prod.mk.injEq] at h
            obtain ⟨rfl, rfl, rfl, rfl⟩ := h
            exact callR_at (HK := True) ho hop hw hfv rfl hno hf hname hb hL trivial hg
        · cases h
      · cases h
    · cases h
  · cases h
end
end Ax
namespace Ax
open Go
section
variable {P:Program} {E:Env} {K K':List Item} {st st':St}
theorem Mem.unflat {Z0 M Z:Nat→Prop} {w0 w:World} {C:Ctx} {blks:List Blk} (hm:Mem Z0 M w0 C Z blks w) {j:Nat} {bj:Blk} (hb:blks[j]?=some bj) (hl:bj.live=true) (hz:bj.sz ≠ 0):Mem Z0 M w0 C Z (blks.set j { bj with flat:=false }) w:=by
 obtain ⟨q1,q2⟩:=hm.blk j bj hb hl
 have hg:=hm.gen j bj hb
 have:=hm.change (b':={ bj with flat:=false }) (w':=w) (s:=C.β j) (g:=C.γ j) hb rfl rfl rfl (Nat.le_refl _) (fun _ _ _=>rfl)
  (fun blk o arr e _ h=>⟨arr,h,rfl⟩) (Nat.le_refl _) (fun _ _=>rfl) hl hg.symm (fun blk o h=>.inl ⟨o,h⟩) (fun hle hevo _=>by
    refine ⟨q1,?_⟩
    rw [Ctx.put_id]
    cases hs:C.β j with
    | absent=>simp [hs] at q2
    | unborn=>simp only [hs] at q2 ⊢; exact q2
    | loc blk o =>
     simp only [hs] at q2 ⊢
     obtain ⟨arr,te,r1,r2,r3⟩:=q2.cells hz
     refine .inl ⟨hz,arr,te,r1,r2,fun i x hi=>?_⟩
     obtain ⟨y,s1,s2⟩:=r3 i x hi
     refine ⟨y,s1,?_⟩
     simp only [Bool.false_eq_true,if_false]
     cases hf:bj.flat with
     | true=>rw [hf] at s2; exact VR.of0 (by simpa using s2)
     | false=>rw [hf] at s2; simpa using s2)
 rw [Ctx.put_id] at this
 exact this.1
theorem unflat_step {j:Nat} {bj:Blk} (hb:st.blks[j]?=some bj) (hl:bj.live=true) (hz:bj.sz ≠ 0) (hg:G P E K ⟨st.tmps,st.blks.set j { bj with flat:=false }⟩):G P E K st :=
 fun C Z a w hr=>hg C Z a w ⟨hr.tmp,hr.mem.unflat hb hl hz,hr.marks,hr.gh,hr.base⟩
theorem PureRE.nogh {f:FuncId} {R:AV→Prop} (hE:PureRE P f R E) (m:Nat):refsBelows m E.gA=true:=by rw [hE.gA]; rfl
structure DrawG (P:Program) (ops:Array Oper) (st0:St) (rs:List Rec) (ms:List Nat) (lo:Nat):Prop where
 len:rs.length≤ops.size
 mlen:ms.length=ops.size
 rec':∀ j r,lo≤j→rs[j]?=some r→∃ o idx' evs1 evs2 obs1,ops[j]?=some o∧recA P ops idx' j o ((rs.take j).foldl app1 st0) evs1=some (r,evs2,obs1)∧AllP obs1
 anc:∀ j o,ops[j]?=some o→∃ m,ms[j]?=some m∧(∀ e ∈ o.after,hard e=true→e.on<j)∧∀ p,m.testBit p=true→∃ e ∈ o.after,hard e=true∧(p=e.on ∨ (ms.getD e.on 0).testBit p=true)
 pairs:YU 0 rs ms=true
theorem DrawG.down {ops:Array Oper} {st0:St} {rs:List Rec} {ms:List Nat} {lo:Nat} (h:DrawG P ops st0 rs ms lo) {D:Nat→Bool} (hd:Down ops D) :
 ∀ (i:Nat) (o:Oper) (m:Nat),ops[i]?=some o→ms[i]?=some m→D i=true→∀ p,m.testBit p=true→D p=true:=by
 intro i
 induction i using Nat.strongRecOn with
 | ind i ih =>
  intro o m ho hm hD p hp
  obtain ⟨m',q1,q2,q3⟩:=h.anc i o ho
  rw [hm] at q1; cases q1
  obtain ⟨e,e1,e2,e3⟩:=q3 p hp
  have hDe:=hd i o ho hD e e1 e2
  rcases e3 with rfl | e3
  · exact hDe
  · have hlt:=q2 e e1 e2
    have hs:i<ops.size:=(Array.getElem?_eq_some_iff.1 ho).1
    have ho':ops[e.on]?=some ops[e.on]:=by simp
    have hm':ms[e.on]?=some (ms.getD e.on 0):=by
     have:e.on<ms.length:=by rw [h.mlen]; omega
     simp [List.getD,List.getElem?_eq_getElem this]
    exact ih e.on hlt _ _ ho' hm' hDe p e3
/-- What must lie behind an operation that comes next lies behind it. -/
theorem DrawG.anc_in {ops:Array Oper} {st0:St} {rs:List Rec} {ms:List Nat} {lo:Nat} (h:DrawG P ops st0 rs ms lo) {D:Nat→Bool} (hd:Down ops D) {i:Nat} {o:Oper} (ho:ops[i]?=some o) (hpre:∀ e ∈ o.after,hard e=true→D e.on=true) :
 ∀ p,(ms.getD i 0).testBit p=true→D p=true:=by
 intro p hp
 have his:i<ops.size:=(Array.getElem?_eq_some_iff.1 ho).1
 obtain ⟨m,m1,m2,m3⟩:=h.anc i o ho
 have hmg:ms.getD i 0=m:=by rw [List.getD,m1]; rfl
 rw [hmg] at hp
 obtain ⟨e,e1,e2,e3⟩:=m3 p hp
 have hDe:=hpre e e1 e2
 rcases e3 with rfl | e3
 · exact hDe
 · have hl:=m2 e e1 e2
   have ho':ops[e.on]?=some ops[e.on]:=by simp
   have hm':ms[e.on]?=some (ms.getD e.on 0):=by
    have:e.on<ms.length:=by rw [h.mlen]; omega
    simp [List.getD,List.getElem?_eq_getElem this]
   exact h.down hd e.on _ _ ho' hm' hDe p e3
theorem draw_oneG {ops:Array Oper} {st0:St} {rs:List Rec} {ms:List Nat} {lo:Nat} (h:DrawG P ops st0 rs ms lo) {HK:Prop} (hk:HK) {D D':Nat→Bool} (hd:Down ops D) {i:Nat} {o:Oper} {rest:List Nat} {k:List Item}
 (ho:ops[i]?=some o) (hi:D i=false) (hpre:∀ e ∈ o.after,hard e=true→D e.on=true) (hD':∀ j,D' j=(D j || Nat.beq j i))
 (hlt:∀ j,D j=true→j<ops.size) (hlo:lo≤i) (hir:i<rs.length)
 (hg:G P E (.inRegion ops rest :: k) (mix D' 0 rs st0)):G P E (.inRegion ops (i :: rest) :: k) (mix D 0 rs st0):=by
 have his:i<ops.size:=(Array.getElem?_eq_some_iff.1 ho).1
 obtain ⟨r,hr⟩:∃ r,rs[i]?=some r:=⟨rs[i],by simp [hir]⟩
 obtain ⟨o',idx',evs1,evs2,obs1,q1,q2,q3⟩:=h.rec' i r hlo hr
 rw [ho] at q1; cases q1
 obtain ⟨m,m1,m2,m3⟩:=h.anc i o ho
 have anc:∀ p,m.testBit p=true→D p=true:=fun p hp=>h.anc_in hd ho hpre p (by rw [List.getD,m1]; exact hp)
 -- who clashes with 'i'
 have clsh:∀ j r',rs[j]?=some r'→Wy r' r=true→(j<i→D j=true)∧(i<j→D j=false):=by
  intro j r' hj hc
  refine ⟨fun hji=>?_,fun hij=>?_⟩
  · exact anc j (by simpa using YQ h.pairs hji hj hr m1 hc)
  · cases hDj:D j with
    | false=>rfl
    | true =>
     have hjs:=hlt j hDj
     have hm':ms[j]?=some (ms.getD j 0):=by
      have:j<ms.length:=by rw [h.mlen]; omega
      simp [List.getD,List.getElem?_eq_getElem this]
     have:=YQ h.pairs hij hr hj hm' (by rw [WQ]; exact hc)
     have h2:=h.down hd j ops[j] _ (by simp [hjs]) hm' hDj i (by simpa using this)
     rw [hi] at h2; cases h2
 have blt:∀ {a b:Nat},Nat.blt a b=decide (a<b):=fun {a b}=>by
  rw [Bool.eq_iff_iff,Nat.blt_eq]; simp
 have same:∀ j r',rs[j]?=some r'→(Wy r' r=true ∨ j=i)→D j=Nat.blt j i:=by
  intro j r' hj hc
  rcases Nat.lt_trichotomy j i with hlt' | rfl | hgt
  · rw [(clsh j r' hj (hc.resolve_right (by omega))).1 hlt',blt]; simp [hlt']
  · rw [hi,blt]; simp
  · rw [(clsh j r' hj (hc.resolve_right (by omega))).2 hgt,blt]; simp; omega
 have hrec:recA P ops idx' i o (mix D 0 rs st0) evs1=some (r,evs2,obs1):=by
  refine QaY q2 (fun t ht=>?_) (fun kk hk=>?_)
  · have:=KQ (a:=0) (i:=i) (rs:=rs) (s:=st0)
    simp only [Nat.zero_add] at this
    rw [← this]
    refine QbZ (fun j r' hj hd=>?_) rfl
    simp only [Nat.zero_add]
    refine same j r' hj (.inl ?_)
    have hw:wrd r' r=true:=by
     simp only [wrd,hd,Bool.or_eq_true,List.any_eq_true]
     exact .inl ⟨t,ht,by simp⟩
    simp [Wy,hw]
  · have:=KQ (a:=0) (i:=i) (rs:=rs) (s:=st0)
    simp only [Nat.zero_add] at this
    rw [← this]
    refine Qcb (fun j r' b hj hd=>?_) rfl
    simp only [Nat.zero_add]
    refine same j r' hj (.inl ?_)
    have hw:wrd r' r=true:=by
     simp only [wrd,hd,Bool.or_eq_true,List.any_eq_true]
     exact .inr ⟨kk,hk,by simp⟩
    simp [Wy,hw]
 refine rec_step ho hk hrec q3 ?_
 rw [← yq hi hD' (Nat.zero_le i) (by simpa using hr) fun j r' hj hlt' hDj=>?_]
 · exact hg
 · simp only [Nat.zero_add] at hlt' hDj
   cases hw:wr2 r r' with
   | false=>rfl
   | true =>
    have:=(clsh j r' hj (by rw [WQ]; simp [Wy,hw])).2 hlt'
    rw [this] at hDj; cases hDj
theorem qt {listed:Array Bool} {n i:Nat} (hs:listed.size=n) (hi:i<n):listed.getD i true=listed.getD i false:=by
 have:i<listed.size:=by omega
 simp [Array.getD,this]
theorem Vr {listed:Array Bool} {i:Nat} (his:i<listed.size):∀ j,(listed.setIfInBounds i true).getD j false=(listed.getD j false || Nat.beq j i):=by
 intro j
 by_cases e:j=i
 · subst e
   simp [Array.getD,his]
 · have:Nat.beq j i=false:=by rw [← Bool.not_eq_true,Nat.beq_eq]; exact e
   rw [getD_set_ne false (Ne.symm e),this,Bool.or_false]
theorem unl_set {n:Nat} {listed:Array Bool} {i fuel:Nat} (hs:listed.size=n) (hi:i<n) (h0:listed.getD i true=false) (hf:(unl n listed).length≤fuel+1):(unl n (listed.setIfInBounds i true)).length≤fuel:=by
 have hset:=Vr (listed:=listed) (i:=i) (by omega)
 have hsub:(unl n (listed.setIfInBounds i true))=(unl n listed).filter fun j=>!Nat.beq j i:=by
  unfold unl
  rw [List.filter_filter]
  refine List.filter_congr fun j hj=>?_
  have hj':=List.mem_range.1 hj
  rw [qt (listed:=listed.setIfInBounds i true) (by simpa using hs) hj',hset j,qt hs hj']
  cases listed.getD j false <;> cases Nat.beq j i <;> rfl
 have hlt:((unl n listed).filter fun j=>!Nat.beq j i).length<(unl n listed).length:=by
  rw [List.length_filter_lt_length_iff_exists]
  refine ⟨i,?_,by simp⟩
  unfold unl; rw [List.mem_filter,List.mem_range]
  exact ⟨hi,by rw [h0]; rfl⟩
 rw [hsub]; omega
theorem Qcv {ops:Array Oper} {listed:Array Bool} {i:Nat} {o:Oper} (hs:listed.size=ops.size) (hd:Down ops (fun i=>listed.getD i false)) (ho:ops[i]?=some o) (hpre:∀ e ∈ o.after,hard e=true→listed.getD e.on false=true) :
 Down ops (fun j=>(listed.setIfInBounds i true).getD j false):=by
 have his:i<ops.size:=(Array.getElem?_eq_some_iff.1 ho).1
 have hset:=Vr (listed:=listed) (i:=i) (by omega)
 intro j oj hoj hDj e he hh
 simp only [hset] at hDj ⊢
 rw [Bool.or_eq_true] at hDj ⊢
 rcases hDj with hDj | hDj
 · exact .inl (hd j oj hoj hDj e he hh)
 · rw [Nat.beq_eq] at hDj; subst hDj
   rw [ho] at hoj; cases hoj
   exact .inl (hpre e he hh)
theorem Wn {ops:Array Oper} {listed:Array Bool} (hs:listed.size=ops.size) {j:Nat} (hj:listed.getD j false=true):j<ops.size:=by
 rcases Nat.lt_or_ge j ops.size with h1 | h1
 · exact h1
 · have h1':listed.size≤j:=by omega
   simp [Array.getD,Nat.not_lt.2 h1'] at hj
/-- Where nothing is ready,all is listed. -/
theorem DrawG.all {ops:Array Oper} {st0:St} {rs:List Rec} {ms:List Nat} {lo:Nat} (h:DrawG P ops st0 rs ms lo) {listed:Array Bool} {t:Nat} (hs:listed.size=ops.size) (hi:(Region.ready .any ops listed)[t % (Region.ready .any ops listed).length]?=none) :
 ∀ i,i<ops.size→listed.getD i false=true:=by
 have hnil:Region.ready .any ops listed=[]:=by
  cases hr:Region.ready .any ops listed with
  | nil=>rfl
  | cons x xs =>
   rw [hr] at hi
   have hlt:t % (x :: xs).length<(x :: xs).length:=Nat.mod_lt _ (by simp)
   simp at hi
   simp at hlt
   omega
 intro i
 induction i using Nat.strongRecOn with
 | ind i ihi =>
  intro hi'
  cases hc:listed.getD i false with
  | true=>rfl
  | false =>
   have hop:ops[i]?=some ops[i]:=by simp [hi']
   have:i ∈ Region.ready .any ops listed:=by
    rw [mem_ready]
    refine ⟨by rw [qt hs hi',hc],ops[i],hop,fun e he hb=>?_⟩
    rw [VP] at hb
    obtain ⟨m,m1,m2,m3⟩:=h.anc i _ hop
    have:=m2 e he hb
    exact ihi e.on this (by omega)
   rw [hnil] at this; cases this
/-- What is drawn behind the operation 'c'. -/
def TailO (ops:Array Oper) (c:Nat) (rest:List Nat):Prop :=
 ∃ (fuel t:Nat) (listed:Array Bool),listed.size=ops.size∧(unl ops.size listed).length≤fuel∧Down ops (fun i=>listed.getD i false)∧(∀ j,listed.getD j false=Nat.ble j c)∧rest=Region.linearise.go .any ops fuel t listed []
theorem draw_goM {ops:Array Oper} {st0:St} {rs:List Rec} {ms:List Nat} {c:Nat} (h:DrawG P ops st0 rs ms 0) (hc:rs.length=c) (hcs:c<ops.size) (hb:∀ p,p<c→(ms.getD c 0).testBit p=true) (ha:∀ j,c<j→j<ops.size→(ms.getD j 0).testBit c=true) {HK:Prop} (hk:HK) {k:List Item}
 (hg:∀ rest,TailO ops c rest→G P E (.inRegion ops (c :: rest) :: k) (rs.foldl app1 st0)) :
 ∀ (fuel t:Nat) (listed:Array Bool),listed.size=ops.size→(unl ops.size listed).length≤fuel→Down ops (fun i=>listed.getD i false)→listed.getD c false=false →
  G P E (.inRegion ops (Region.linearise.go .any ops fuel t listed []) :: k) (mix (fun i=>listed.getD i false) 0 rs st0):=by
 intro fuel
 induction fuel with
 | zero =>
  intro t listed hs hf hd hL
  have h0:unl ops.size listed=[]:=List.length_eq_zero_iff.1 (by omega)
  have:c ∈ unl ops.size listed:=by
   unfold unl; rw [List.mem_filter,List.mem_range]
   exact ⟨hcs,by rw [qt hs hcs,hL]; rfl⟩
  rw [h0] at this; cases this
 | succ fuel ih =>
  intro t listed hs hf hd hL
  simp only [Region.linearise.go]
  change G P E (.inRegion ops (match (Region.ready .any ops listed)[t % (Region.ready .any ops listed).length]? with
   | some i=>Region.linearise.go .any ops fuel (t / (Region.ready .any ops listed).length) (listed.setIfInBounds i true) [i]
   | none=>[].reverse) :: k) _
  cases hi:(Region.ready .any ops listed)[t % (Region.ready .any ops listed).length]? with
  | none=>rw [h.all hs hi c hcs] at hL; cases hL
  | some i =>
   simp only
   rw [linearise_go_acc,List.reverse_singleton,List.singleton_append]
   obtain ⟨h0,o,ho,hpre⟩:=mem_ready.1 (List.mem_of_getElem? hi)
   have his:i<ops.size:=(Array.getElem?_eq_some_iff.1 ho).1
   have h0':listed.getD i false=false:=by rw [← qt hs his]; exact h0
   have hset:=Vr (listed:=listed) (i:=i) (by omega)
   have hpre':∀ e ∈ o.after,hard e=true→listed.getD e.on false=true:=fun e he hh=>hpre e he (by rw [VP]; exact hh)
   have hin:=h.anc_in hd ho hpre'
   have hbehind:∀ j,c<j→listed.getD j false=false:=fun j hj=>by
    cases hDj:listed.getD j false with
    | false=>rfl
    | true =>
     have hjs:=Wn hs hDj
     have hm':ms[j]?=some (ms.getD j 0):=by
      have:j<ms.length:=by rw [h.mlen]; omega
      simp [List.getD,List.getElem?_eq_getElem this]
     have:=h.down hd j ops[j] _ (by simp [hjs]) hm' hDj c (ha j hj hjs)
     rw [hL] at this; cases this
   rcases Nat.lt_trichotomy i c with hic | rfl | hic
   · refine draw_oneG h hk hd ho h0' hpre' hset (fun j hj=>Wn hs hj) (Nat.zero_le i) (by omega) ?_
     exact ih _ _ (by simpa using hs) (unl_set hs his h0 hf) (Qcv hs hd ho hpre') (by rw [hset,hL,show Nat.beq c i=false by rw [← Bool.not_eq_true,Nat.beq_eq]; omega]; rfl)
   · have hall:∀ p,p<rs.length→listed.getD p false=true:=fun p hp=>hin p (hb p (by omega))
     rw [Qcc fun j hj=>by rw [Nat.zero_add]; exact hall j hj]
     refine hg _ ⟨fuel,_,_,by simpa using hs,unl_set hs his h0 hf,Qcv hs hd ho hpre',fun j=>?_,rfl⟩
     rw [hset]
     rcases Nat.lt_trichotomy j i with e | rfl | e
     · rw [hall j (by omega),Bool.true_or,eq_comm,Nat.ble_eq]; omega
     · rw [show Nat.beq j j=true by rw [Nat.beq_eq],Bool.or_true,eq_comm,Nat.ble_eq]; exact Nat.le_refl _
     · rw [hbehind j e,Bool.false_or,show Nat.beq j i=false by rw [← Bool.not_eq_true,Nat.beq_eq]; omega,eq_comm,← Bool.not_eq_true,Nat.ble_eq]; omega
   · have:=hin c (ha i hic his)
     rw [hL] at this; cases this
theorem draw_go2 {ops:Array Oper} {st0:St} {rs:List Rec} {ms:List Nat} {c:Nat} (h:DrawG P ops st0 rs ms (c+1)) (hsz:rs.length=ops.size) {HK:Prop} (hk:HK) {k:List Item} (hg:G P E k (rs.foldl app1 st0)) :
 ∀ (fuel t:Nat) (listed:Array Bool),listed.size=ops.size→(unl ops.size listed).length≤fuel→Down ops (fun i=>listed.getD i false)→(∀ j,j≤c→j<ops.size→listed.getD j false=true) →
  G P E (.inRegion ops (Region.linearise.go .any ops fuel t listed []) :: k) (mix (fun i=>listed.getD i false) 0 rs st0):=by
 have fin:∀ listed:Array Bool,listed.size=ops.size→(∀ i,i<ops.size→listed.getD i false=true)→G P E (.inRegion ops [] :: k) (mix (fun i=>listed.getD i false) 0 rs st0):=by
  intro listed hs hall
  rw [Qcc fun j hj=>by rw [Nat.zero_add]; exact hall j (by omega)]
  exact .of_step (fun a w=>stepR_region_end) hg
 intro fuel
 induction fuel with
 | zero =>
  intro t listed hs hf hd hc
  simp only [Region.linearise.go,List.reverse_nil]
  refine fin listed hs fun i hi=>?_
  have h0:unl ops.size listed=[]:=List.length_eq_zero_iff.1 (by omega)
  cases hc:listed.getD i false with
  | true=>rfl
  | false =>
   have:i ∈ unl ops.size listed:=by
    unfold unl; rw [List.mem_filter,List.mem_range]
    exact ⟨hi,by rw [qt hs hi,hc]; rfl⟩
   rw [h0] at this; cases this
 | succ fuel ih =>
  intro t listed hs hf hd hc
  simp only [Region.linearise.go]
  change G P E (.inRegion ops (match (Region.ready .any ops listed)[t % (Region.ready .any ops listed).length]? with
   | some i=>Region.linearise.go .any ops fuel (t / (Region.ready .any ops listed).length) (listed.setIfInBounds i true) [i]
   | none=>[].reverse) :: k) _
  cases hi:(Region.ready .any ops listed)[t % (Region.ready .any ops listed).length]? with
  | none =>
   simp only [List.reverse_nil]
   exact fin listed hs (h.all hs hi)
  | some i =>
   simp only
   rw [linearise_go_acc,List.reverse_singleton,List.singleton_append]
   obtain ⟨h0,o,ho,hpre⟩:=mem_ready.1 (List.mem_of_getElem? hi)
   have his:i<ops.size:=(Array.getElem?_eq_some_iff.1 ho).1
   have h0':listed.getD i false=false:=by rw [← qt hs his]; exact h0
   have hset:=Vr (listed:=listed) (i:=i) (by omega)
   have hpre':∀ e ∈ o.after,hard e=true→listed.getD e.on false=true:=fun e he hh=>hpre e he (by rw [VP]; exact hh)
   have hci:c+1≤i:=by
    rcases Nat.lt_or_ge c i with q | q
    · exact q
    · rw [hc i q his] at h0'; cases h0'
   refine draw_oneG h hk hd ho h0' hpre' hset (fun j hj=>Wn hs hj) hci (by omega) ?_
   exact ih _ _ (by simpa using hs) (unl_set hs his h0 hf) (Qcv hs hd ho hpre') fun j hj hjs=>by rw [hset,hc j hj hjs]; rfl
def behindOk (c:Nat) (ms:List Nat):Bool:=(ms.drop (c+1)).all fun m=>m.testBit c
def drawM1 (P:Program) (ops:Array Oper) (c:Nat) (st:St) (evs:List EV):Option (St × List EV × List Prop) :=
 match recsA P ops st.blks.length (List.range' 0 c) ⟨st.tmps,st.blks++List.replicate (ops.toList.countP Wm) dead⟩ evs with
 | none=>none
 | some (rs,st',evs',obs) =>
  match ancsA 0 ops.toList [] with
  | none=>none
  | some ms=>bif YU 0 rs ms && (Nat.blt c ops.size && (lastOk c (ms.getD c 0) && behindOk c ms)) then some (⟨st'.tmps,trim st'.blks⟩,evs',obs) else none
def idr:Rec:=⟨none,.junk,none,[],[],false⟩
theorem Qco {s:St}:∀ n,(List.replicate n idr).foldl app1 s=s
 | 0=>rfl
 | n+1=>by rw [List.replicate_succ,List.foldl_cons]; exact Qco n
def drawM2 (P:Program) (ops:Array Oper) (c:Nat) (st:St) (evs:List EV):Option (St × List EV × List Prop) :=
 match recsA P ops st.blks.length (List.range' (c+1) (ops.size - (c+1))) ⟨st.tmps,st.blks++List.replicate (ops.toList.countP Wm) dead⟩ evs with
 | none=>none
 | some (rs,st',evs',obs) =>
  match ancsA 0 ops.toList [] with
  | none=>none
  | some ms=>bif YU 0 (List.replicate (c+1) idr++rs) ms && Nat.blt c ops.size then some (⟨st'.tmps,trim st'.blks⟩,evs',obs) else none
/-- A drawn region up to an operation that all others lie ahead of or behind. -/
theorem drawM1_step {ops:Array Oper} {id c:Nat} {k:List Item} {evs evs':List EV} {obs:List Prop} {HK:Prop} (hk:HK) (hmx:P.follows .mixedOrders=true)
 (h:drawM1 P ops c st evs=some (st',evs',obs)) (ho:AllP obs) (hg:∀ rest,TailO ops c rest→G P E (.inRegion ops (c :: rest) :: k) st'):G P E (.code (.region id ops true) :: k) st:=by
 unfold drawM1 at h
 split at h
 · cases h
 · rename_i rs st1 evs1 obs1 h1
   split at h
   · cases h
   · rename_i ms hms
     cases hp:YU 0 rs ms && (Nat.blt c ops.size && (lastOk c (ms.getD c 0) && behindOk c ms)) with
     | false=>rw [hp,cond_false] at h; cases h
     | true =>
      rw [hp,cond_true] at h
      simp only [Option.some.injEq,Prod.mk.injEq] at h
      obtain ⟨rfl,-,rfl⟩:=h
      simp only [Bool.and_eq_true] at hp
      obtain ⟨hp,hp1,hp2,hp3⟩:=hp
      have hsz:c<ops.size:=by rw [Nat.blt_eq] at hp1; exact hp1
      obtain ⟨l,e,f⟩:=WI h1 ho
      obtain ⟨a1,a2,a3⟩:=WR (i:=0) (acc:=[]) rfl hms
      have hml:ms.length=ops.size:=by simpa using a2
      have hD:DrawG P ops ⟨st.tmps,st.blks++List.replicate (ops.toList.countP Wm) dead⟩ rs ms 0 :=
       ⟨by omega,hml,fun j r _ hj=>by simpa using f j r hj,fun j o hj=>by simpa using a3 j o (by simpa using hj),hp⟩
      have hg2:∀ rest,TailO ops c rest→G P E (.inRegion ops (c :: rest) :: k) (rs.foldl app1 ⟨st.tmps,st.blks++List.replicate (ops.toList.countP Wm) dead⟩):=fun rest hr=>by
       rw [← e]
       obtain ⟨m,hm⟩:=qC st1.blks
       have:st1=⟨st1.tmps,trim st1.blks++List.replicate m dead⟩:=by cases st1; simp only at hm ⊢; rw [← hm]
       rw [this]; exact G_pop (hg rest hr)
      intro C Z a w hr
      have hstep:=stepR_region_draw (P:=P) (b:=E.b) (a:=a) (k:=k) (cs:=E.cs) (w:=w) (ops:=ops) (id:=id)
      refine .step (.one hstep) ?_
      have hrep:∀ j,(Array.replicate ops.size false).getD j false=false:=by
       intro j
       by_cases hj:j<ops.size <;> simp [Array.getD,hj]
      have hgo:=draw_goM hD l hsz (fun p hp=>List.all_eq_true.1 hp2 p (List.mem_range.2 hp)) (fun j hj hjs=>by
       refine List.all_eq_true.1 hp3 _ (List.mem_iff_getElem?.2 ⟨j - (c+1),?_⟩)
       rw [List.getElem?_drop,show c+1+(j - (c+1))=j by omega,List.getD,List.getElem?_eq_getElem (by omega)]; rfl) hk hg2 ops.size (w.tape w.drawn (.order E.b.fn id)) (Array.replicate ops.size false) (by simp) (by
       unfold unl; exact Nat.le_trans (List.length_filter_le _ _) (by simp)) (by intro i o hio hDi; have:=(hrep i).symm.trans hDi; cases this) (hrep _)
      simp only [Region.schedule,hmx,Bool.true_or,if_true]
      rw [Qca (fun j=>hrep j)] at hgo
      have ev:EvoC w { w with drawn:=w.drawn+1 }:=⟨fun _ _ _ h=>h,rfl⟩
      have hfr:=hr.mem.frame
      exact hgo C Z a { w with drawn:=w.drawn+1 } ⟨⟨hr.tmp.1,fun i c v p q=>(hr.tmp.2 i c v p q).evoC ev⟩,
       (hr.mem.evoC ev ⟨hfr.os,hfr.tape,hfr.output,hfr.size,Nat.le_succ_of_le hfr.dr,hfr.same⟩).pushN _,hr.marks,⟨hr.gh.1,fun i c v p q=>(hr.gh.2 i c v p q).evoC ev⟩,hr.base.evoC ev⟩
/-- The rest of it. -/
theorem drawM2_step {ops:Array Oper} {c:Nat} {k:List Item} {rest:List Nat} {evs evs':List EV} {obs:List Prop} {HK:Prop} (hk:HK) (hT:TailO ops c rest)
 (h:drawM2 P ops c st evs=some (st',evs',obs)) (ho:AllP obs) (hg:G P E k st'):G P E (.inRegion ops rest :: k) st:=by
 unfold drawM2 at h
 split at h
 · cases h
 · rename_i rs st1 evs1 obs1 h1
   split at h
   · cases h
   · rename_i ms hms
     cases hp:YU 0 (List.replicate (c+1) idr++rs) ms && Nat.blt c ops.size with
     | false=>rw [hp,cond_false] at h; cases h
     | true =>
      rw [hp,cond_true] at h
      simp only [Option.some.injEq,Prod.mk.injEq] at h
      obtain ⟨rfl,-,rfl⟩:=h
      simp only [Bool.and_eq_true] at hp
      obtain ⟨hp,hp1⟩:=hp
      have hsz:c<ops.size:=by rw [Nat.blt_eq] at hp1; exact hp1
      obtain ⟨l,e,f⟩:=WI h1 ho
      obtain ⟨a1,a2,a3⟩:=WR (i:=0) (acc:=[]) rfl hms
      have hml:ms.length=ops.size:=by simpa using a2
      have hlen:(List.replicate (c+1) idr++rs).length=ops.size:=by rw [List.length_append,List.length_replicate,l]; omega
      have hD:DrawG P ops ⟨st.tmps,st.blks++List.replicate (ops.toList.countP Wm) dead⟩ (List.replicate (c+1) idr++rs) ms (c+1) :=
       ⟨by omega,hml,fun j r hj1 hj=>by
        rw [List.getElem?_append_right (by simpa using hj1),List.length_replicate] at hj
        obtain ⟨o,idx',e1,e2,ob,q1,q2,q3⟩:=f (j - (c+1)) r hj
        rw [show c+1+(j - (c+1))=j by omega] at q1 q2
        refine ⟨o,idx',e1,e2,ob,q1,?_,q3⟩
        rw [List.take_append,List.length_replicate,List.take_of_length_le (by simpa using hj1),List.foldl_append,Qco]
        exact q2,fun j o hj=>by simpa using a3 j o (by simpa using hj),hp⟩
      have hg2:G P E k ((List.replicate (c+1) idr++rs).foldl app1 ⟨st.tmps,st.blks++List.replicate (ops.toList.countP Wm) dead⟩):=by
       rw [List.foldl_append,Qco,← e]
       obtain ⟨m,hm⟩:=qC st1.blks
       have:st1=⟨st1.tmps,trim st1.blks++List.replicate m dead⟩:=by cases st1; simp only at hm ⊢; rw [← hm]
       rw [this]; exact G_pop hg
      obtain ⟨fuel,t,listed,t1,t2,t3,t4,rfl⟩:=hT
      have hgo:=draw_go2 hD hlen hk hg2 fuel t listed t1 t2 t3 fun j hj _=>by rw [t4,Nat.ble_eq]; exact hj
      have hm0:mix (fun i=>listed.getD i false) 0 (List.replicate (c+1) idr++rs) ⟨st.tmps,st.blks++List.replicate (ops.toList.countP Wm) dead⟩=⟨st.tmps,st.blks++List.replicate (ops.toList.countP Wm) dead⟩:=by
       have key:∀ (n a:Nat) (s:St) (rs:List Rec),a+n=c+1→mix (fun i=>listed.getD i false) a (List.replicate n idr++rs) s=mix (fun i=>listed.getD i false) (c+1) rs s:=by
        intro n
        induction n with
        | zero=>intro a s rs ha; rw [show a=c+1 by omega]; rfl
        | succ n ih =>
         intro a s rs ha
         rw [List.replicate_succ,List.cons_append]
         simp only [mix]
         rw [show (bif listed.getD a false then app1 s idr else s)=s by cases listed.getD a false <;> rfl]
         exact ih (a+1) s rs (by omega)
       rw [key (c+1) 0 _ rs (by omega)]
       have none':∀ (rs:List Rec) (a:Nat) (s:St),c<a→mix (fun i=>listed.getD i false) a rs s=s:=by
        intro rs
        induction rs with
        | nil=>intros; rfl
        | cons r rs ih =>
         intro a s ha
         simp only [mix]
         rw [t4,show Nat.ble a c=false by rw [← Bool.not_eq_true,Nat.ble_eq]; omega,cond_false]
         exact ih (a+1) s (by omega)
       exact none' rs (c+1) _ (by omega)
      rw [hm0] at hgo
      exact G_push hgo
def callMA (ops:Array Oper) (c:Nat) (st:St):Option (Option Nat × FuncId × List AV) :=
 match ops[c]? with
 | some o=>(match o.op,Yh ops st.tmps o with
  | .call ⟨.value fop,args,_⟩,some true=>(match XU st.tmps fop with
   | .clos f [] []=>bif (args.toList.map (XU st.tmps)).all Xf then some (o.dst,f,args.toList.map (XU st.tmps)) else none
   | _=>none)
  | _,_=>none)
 | none=>none
/-- A drawn region with a call in its midst of which only a relation is known. -/
theorem drawR_step {ops : Array Oper} {id c : Nat} {k : List Item} {stC : St} {evs evs' : List EV} {obs : List Prop} {d : Option Nat} {f : FuncId} {fn : Func} {cd : Code} {avs : List AV} {R : AV → List Blk → Prop} {HK : Prop} (hk : HK) (hmx : P.follows .mixedOrders = true)
    (h : drawM1 P ops c st evs = some (stC, evs', obs)) (ho : AllP obs) (hc : callMA ops c stC = some (d, f, avs)) (hf : P.funcs[f]? = some fn) (hname : (fn.name == "runtime.NumGoroutine") = false) (hb : fn.body = some cd) (hL : NewR P f avs R)
    (hg : ∀ res bs2, R res bs2 → ∃ st3 e1 e2 o2, drawM2 P ops c ⟨putA stC.tmps d (ren (outN stC.blks.length []) res), stC.blks ++ bs2.map (renB (outN stC.blks.length []))⟩ e1 = some (st3, e2, o2) ∧ AllP o2 ∧ G P E k st3) : G P E (.code (.region id ops true) :: k) st := by
  refine drawM1_step hk hmx h ho fun rest hT => ?_
  unfold callMA at hc
  split at hc
  · rename_i o hoi
    split at hc
    · rename_i fop args ats hop hw
      split at hc
      · rename_i f' hfv
        cases hno : (args.toList.map (XU stC.tmps)).all Xf with
        | false => rw [hno] at hc; simp only [cond_false] at hc; cases hc
        | true =>
          rw [hno] at hc
          simp only [cond_true, Option.some.injEq, Prod.mk.injEq] at hc
          obtain ⟨rfl, rfl, rfl⟩ := hc
          refine callR_at (HK := True) hoi hop hw hfv rfl hno hf hname hb hL trivial fun res bs2 hR => ?_
          obtain ⟨st3, e1, e2, o2, h2, ho2, hg2⟩ := hg res bs2 hR
          exact drawM2_step hk hT h2 ho2 hg2
      · cases hc
    · cases hc
  · cases hc

def Wj:List Item→List Item
 | .code (.region _ _ _) :: k=>k
 | K=>K
def drawRA (P:Program) (c:Nat) (K:List Item) (st:St) (evs:List EV):Option (St × List Prop × Option Nat × FuncId × List AV) :=
 match K with
 | .code (.region _ ops true) :: _=>(match drawM1 P ops c st evs with
  | some (stC,_,obs)=>(match callMA ops c stC with
   | some (d,f,avs)=>some (stC,obs,d,f,avs)
   | none=>none)
  | none=>none)
 | _=>none
def drawRB (P:Program) (c:Nat) (K:List Item) (st:St) (evs:List EV):Option (St × List Prop) :=
 match K with
 | .code (.region _ ops true) :: _=>(match drawM2 P ops c st evs with
  | some (st3,_,obs)=>some (st3,obs)
  | none=>none)
 | _=>none
theorem drawR_hd {c : Nat} {stC : St} {evs : List EV} {obs : List Prop} {d : Option Nat} {f : FuncId} {fn : Func} {cd : Code} {avs : List AV} {R : AV → List Blk → Prop} {HK : Prop} (hk : HK) (hmx : P.follows .mixedOrders = true)
    (h : drawRA P c K st evs = some (stC, obs, d, f, avs)) (ho : AllP obs) (hf : P.funcs[f]? = some fn) (hname : (fn.name == "runtime.NumGoroutine") = false) (hb : fn.body = some cd) (hL : NewR P f avs R)
    (hg : ∀ res bs2, R res bs2 → ∃ st3 e1 o2, drawRB P c K ⟨putA stC.tmps d (ren (outN stC.blks.length []) res), stC.blks ++ bs2.map (renB (outN stC.blks.length []))⟩ e1 = some (st3, o2) ∧ AllP o2 ∧ G P E (Wj K) st3) : G P E K st := by
  unfold drawRA at h
  split at h
  · rename_i id ops k
    split at h
    · rename_i stC' evs' obs' h1
      split at h
      · rename_i d' f' avs' h2
        simp only [Option.some.injEq, Prod.mk.injEq] at h
        obtain ⟨rfl, rfl, rfl, rfl, rfl⟩ := h
        refine drawR_step hk hmx h1 ho h2 hf hname hb hL fun res bs2 hR => ?_
        obtain ⟨st3, e1, o2, h3, h4, h5⟩ := hg res bs2 hR
        unfold drawRB at h3
        simp only at h3
        split at h3
        · rename_i st4 e2 o3 h6
          simp only [Option.some.injEq, Prod.mk.injEq] at h3
          obtain ⟨rfl, rfl⟩ := h3
          exact ⟨_, e1, e2, _, h6, h4, h5⟩
        · cases h3
      · cases h
    · cases h
  · cases h
end
end Ax
namespace Go.Proofs.Ytemklbioijmjiaa
open Go Ax
open Go.Proofs
theorem mixed:Try.prog.follows .mixedOrders=true:=by kernel_rfl
theorem sP {f:FuncId} {res:AV} {E:Env} {K:List Item} {st:St} (K':List Item) (st':St) (live:List Nat) (m:Nat) (evs:List EV) (obs:List Prop) (hE:Qr Try.prog f res E) (ho:AllP obs) (hg:G Try.prog E K' st') (h:segC Try.prog [] [] live m 400 K st evs=some (K',st',obs):=by kernel_rfl):G Try.prog E K st:=QM hE.2.1 (hE.nogh _) mixed h ho hg
theorem sQ {f:FuncId} {res:AV} {E:Env} {K K':List Item} {st st':St} (live:List Nat) (m:Nat) (evs:List EV) (obs:List Prop) (hE:Qr Try.prog f res E) (ho:AllP obs) (hg:G Try.prog E K' st') (h:segC Try.prog [] [] live m 400 K st evs=some (K',st',obs):=by kernel_rfl):G Try.prog E K st:=QM hE.2.1 (hE.nogh _) mixed h ho hg
theorem sM {E:Env} {K K':List Item} {st st':St} (live:List Nat) (m:Nat) (evs:List EV) (obs:List Prop) {HK:Prop} (hk:HK) (hgh:refsBelows m E.gA=true) (ho:AllP obs) (hg:G Try.prog E K' st') (h:segC Try.prog [] [] live m 400 K st evs=some (K',st',obs):=by kernel_rfl):G Try.prog E K st:=QM hk hgh mixed h ho hg
theorem sK {E:Env} {K:List Item} {st:St} (K':List Item) (st':St) (live:List Nat) (m:Nat) (evs:List EV) (obs:List Prop) {HK:Prop} (hk:HK) (hgh:refsBelows m E.gA=true) (ho:AllP obs) (hg:G Try.prog E K' st') (h:segC Try.prog [] [] live m 400 K st evs=some (K',st',obs):=by kernel_rfl):G Try.prog E K st:=QM hk hgh mixed h ho hg
theorem eL {f:FuncId} {fn:Func} {res:AV} {E:Env} {K:List Item} {st:St} (r:AV) (evs:List EV) (obs:List Prop) (hE:Qr Try.prog f res E) (hf:Try.prog.funcs[f]?=some fn) (ho:AllP obs) (hr:AvLe r res) (h:endA Try.prog fn 400 K st evs=some (r,obs):=by kernel_rfl):G Try.prog E K st:=end_stepL hE hf mixed h ho hr
theorem eB {f:FuncId} {fn:Func} {gA:List AV} {res:AV} {bs2:List Blk} {E:Env} {K:List Item} {st:St} (r:AV) (bs3:List Blk) (live:List Nat) (m:Nat) (evs:List EV) (obs:List Prop) (hE:LentE Try.prog f gA res bs2 E) (hgh:refsBelows m E.gA=true) (hf:Try.prog.funcs[f]?=some fn) (ho:AllP obs) (hr:r=res) (hb:bs3=bs2) (h:endB Try.prog fn live m 400 K st evs=some (r,bs3,obs):=by kernel_rfl):G Try.prog E K st:=Qat hE hgh hf mixed h ho hr hb
structure Pt where
 x:Int
 y:Int
 z:Int
structure Mot where
 top:Int
 ease:Int
 jerk:Int
def within (n lo hi:Int):Bool:=decide (lo≤n) && decide (n≤hi)
def QbM (p:Pt):Bool:=within p.x (-10000) 10000 && within p.y (-10000) 10000 && within p.z (-10000) 10000
def ease (m:Mot) (fails:Bool):Int:=bif fails then m.jerk else m.ease
def arm (a b p:Pt):Int:=(b.x - a.x)*(p.y - a.y) - (b.y - a.y)*(p.x - a.x)
end Go.Proofs.Ytemklbioijmjiaa
namespace Go.Proofs.Ytemklbioijmjiaa
open Go Ax
open Go.Proofs
def validP (l:List Pt):Bool:=within l.length 3 60 && !l.any (fun p=>!QbM p)
end Go.Proofs.Ytemklbioijmjiaa
namespace Go.Proofs.Ytemklbioijmjiaa
open Go Ax
open Go.Proofs
structure Chg where
 phase:Int
 before:Int
 after:Int
end Go.Proofs.Ytemklbioijmjiaa
namespace Go.Proofs.Ytemklbioijmjiaa
open Go Ax
open Go.Proofs
structure Rg where
 seats:List (List Pt)
 feet:List Pt
 frame:Int
 c:Pt
 empty:Int
 full:Int
def linesOf (f:List Pt):List (Pt × Pt):=(List.range' 0 f.length).map fun i=>(f.getD i ⟨0,0,0⟩,f.getD ((i+1) % f.length) ⟨0,0,0⟩)
def phasesOf (r:Rg):Int:=match r.seats.getLast? with
 | some s=>s.length
 | none=>1
end Go.Proofs.Ytemklbioijmjiaa
namespace Go.Proofs.Ytemklbioijmjiaa
open Go Ax
open Go.Proofs
structure RgOk (r:Rg) (n:Nat):Prop where
 seats:r.seats.length≤20
 each:∀ s ∈ r.seats,s.length=n∧validP s=true
 feet0:3≤r.feet.length
 feet1:r.feet.length≤8
 foot:∀ p ∈ r.feet,QbM p=true
 center:QbM r.c=true
 frame0:0≤r.frame
 frame1:r.frame≤1000000
 empty0:0≤r.empty
 empty1:r.empty≤r.full
 full1:r.full≤1000000
end Go.Proofs.Ytemklbioijmjiaa
namespace Go.Proofs.Ytemklbioijmjiaa
open Go Ax
open Go.Proofs
def lineAt (r:Rg) (v:Nat):Pt × Pt:=(linesOf r.feet).getD v (⟨0,0,0⟩,⟨0,0,0⟩)
section
variable {L:List (Nat × Nat)} {yv:Value} {Y:Option Nat→Sd} {cont:Nat→Bool} {e:Option Nat} {r:Rg} {nn:Nat}
end
end Go.Proofs.Ytemklbioijmjiaa
namespace Go.Proofs.Ytemklbioijmjiaa
open Go Ax
open Go.Proofs
def footAt (r:Rg) (k:Nat):Pt:=r.feet.getD k ⟨0,0,0⟩
def badF (r:Rg) (i k:Nat):Bool:=((k:Int) != (i:Int)) && (((k:Int) != Int.tmod ((i:Int)+1) (r.feet.length:Int)) && decide (arm (lineAt r i).1 (lineAt r i).2 (footAt r k)≤0))
def convR (r:Rg) (i:Nat):Nat→Nat→Bool
 | _,0=>true
 | k,d+1=>!badF r i k && convR r i (k+1) d
def convP (r:Rg):Nat→Nat→Bool
 | _,0=>true
 | i,d+1=>convR r i 0 r.feet.length && convP r (i+1) d
def convexV (r:Rg):Bool:=convP r 0 r.feet.length
structure FeetOk (r:Rg):Prop where
 feet0:3≤r.feet.length
 feet1:r.feet.length≤8
 foot:∀ p ∈ r.feet,QbM p=true
end Go.Proofs.Ytemklbioijmjiaa
namespace Go.Proofs.Ytemklbioijmjiaa
open Go Ax
open Go.Proofs
structure RigSmall (r:Rg):Prop where
 seats:r.seats.length≤1000
 feet:r.feet.length≤1000
 each:∀ s ∈ r.seats,s.length≤1000
end Go.Proofs.Ytemklbioijmjiaa
namespace Go.Proofs.Ytemklbioijmjiaa
open Go Ax
open Go.Proofs
def phN (r:Rg):Nat:=(phasesOf r).toNat
structure RigMade (r:Rg):Prop where
 ok:RgOk r (phN r)
 ph:phasesOf r=(phN r:Nat)
 le:phN r≤60
 pos:1≤phN r
 conv:convexV r=true
end Go.Proofs.Ytemklbioijmjiaa
namespace Go.Proofs.Ytemklbioijmjiaa
open Go Ax
open Go.Proofs
/-! ### CheckRig,Moment,Bears,Least -/
/-! ### Least -/
end Go.Proofs.Ytemklbioijmjiaa
namespace Go.Proofs.Ytemklbioijmjiaa
open Go Ax
open Go.Proofs
/-! ### the plain law of Least -/
end Go.Proofs.Ytemklbioijmjiaa

namespace Go.Proofs.Ytemklbioijmjiaa
open Go Ax
open Go.Proofs
structure BPart where
 w:Int
 m:Int
 pins:Int
 needs:List Int
structure BKit where
 parts:List BPart
 crane:Int
 vans:List (List Int)
structure Yard where
 k:BKit
 above:List (List Int)
 below:List (List Int)
structure KitSmall (k:BKit):Prop where
 parts:k.parts.length≤20
 needs:∀ p ∈ k.parts,p.needs.length≤9223372036854775807
 vans:k.vans.length≤10
 van:∀ v ∈ k.vans,v.length≤9223372036854775807
/-! ### What can be put up -/
def InN (n:Nat) (l:List Int):Prop:=∀ x ∈ l,0≤x∧x<(n:Int)
structure YardOk (y:Yard):Prop where
 n:y.k.parts.length≤16
 needs:∀ p ∈ y.k.parts,InN y.k.parts.length p.needs∧p.needs.length≤1000
 alen:y.above.length=y.k.parts.length
 above:∀ l ∈ y.above,InN y.k.parts.length l∧l.length≤1000
def idxG {α:Type} (p:α→Bool) (l:List α):Int:=match l.findIdx? p with
 | some i=>(i:Int)
 | none=>-1
theorem Qac {α:Type} (p:α→Bool) (l:List α):∀ (d i:Nat),i+d=l.length→(∀ j x,j<i→l[j]?=some x→p x=false)→∀ (Q:Nat→Prop),(∀ i,i<l.length→(∀ x,l[i]?=some x→(p x=true→idxG p l=i))→(∀ x,l[i]?=some x→p x=false→Q (i+1))→Q i) →
 ((∀ x ∈ l,p x=false)→idxG p l=-1→Q l.length)→Q i:=by
 intro d
 induction d with
 | zero =>
  intro i hi hp Q h1 h2
  have:i=l.length:=by omega
  subst this
  have hall:∀ x ∈ l,p x=false:=fun x hx=>by
   obtain ⟨j,hj⟩:=List.getElem?_of_mem hx
   exact hp j x (List.getElem?_eq_some_iff.1 hj).1 hj
  exact h2 hall (by simp only [idxG]; rw [List.findIdx?_eq_none_iff.2 hall])
 | succ d ih =>
  intro i hi hp Q h1 h2
  refine h1 i (by omega) (fun x hx hpx=>?_) (fun x hx hpx=>ih (i+1) (by omega) (fun j y hj hy=>?_) Q h1 h2)
  · have:l.findIdx? p=some i:=by
     rw [List.findIdx?_eq_some_iff_getElem]
     have hlt:=(List.getElem?_eq_some_iff.1 hx).1
     have he:=(List.getElem?_eq_some_iff.1 hx).2
     refine ⟨hlt,by rw [he]; exact hpx,fun j hj=>?_⟩
     have:=hp j _ hj (List.getElem?_eq_getElem (by omega))
     simp [this]
    simp only [idxG,this]
  · rcases Nat.lt_or_ge j i with h | h
    · exact hp j y h hy
    · have:j=i:=by omega
      subst this
      rw [hx] at hy; cases hy; exact hpx
theorem Qcj {α:Type} (p:α→Bool) (l:List α):decide (idxG p l≥0)=l.any p:=by
 cases h:l.findIdx? p with
 | none =>
  have e:idxG p l=-1:=by simp only [idxG,h]
  rw [e]
  rw [List.findIdx?_eq_none_iff] at h
  rw [show l.any p=false from by simpa using fun x hx=>by simpa using h x hx]; rfl
 | some i =>
  have e:idxG p l=(i:Int):=by simp only [idxG,h]
  rw [e]
  have:=List.findIdx?_eq_some_iff_getElem.1 h
  obtain ⟨h1,h2,-⟩:=this
  have:l.any p=true:=by rw [List.any_eq_true]; exact ⟨l[i],List.getElem_mem _,h2⟩
  rw [this]; simp
def Qa (n lo hi:Int):Bool:=decide (n≥lo) && decide (n≤hi)
theorem YK {n lo hi:Int}:Qa n lo hi=true ↔ lo≤n∧n≤hi:=by
 simp only [Qa,Bool.and_eq_true,decide_eq_true_eq,ge_iff_le]
end Go.Proofs.Ytemklbioijmjiaa
namespace Go.Proofs.Ytemklbioijmjiaa
open Go Ax
open Go.Proofs
/-! ### Stacking -/
structure StSt where
 many:Nat
 lies:List Int
 above:List (List Int)
 below:List (List Int)
/-! ### Which kits are right -/
/-- How many parts lie on the lorries so far. -/
def ones (l:List Int):Nat:=l.countP fun x=>decide (x > 0)
theorem scal_Int (l:List Int):∀ x ∈ rowI l,Yn x=true:=fun x hx=>by
 simp only [rowI,List.mem_flatMap] at hx
 obtain ⟨a,-,ha⟩:=hx
 simp only [cI,List.mem_singleton] at ha
 subst ha; rfl
end Go.Proofs.Ytemklbioijmjiaa
namespace Go.Proofs.Ytemklbioijmjiaa
open Go Ax
open Go.Proofs
theorem and_mask {y:Int} (h:0≤y∧y<4294967296):bits .and .u64 y 4294967295=y:=by
 obtain ⟨n,rfl⟩:=Int.eq_ofNat_of_zero_le h.1
 have h1:=bits_and_u64_nat n 4294967295 (by omega) (by omega)
 have h2:n &&& 4294967295=n:=by
  have:=Nat.and_two_pow_sub_one_eq_mod n 32
  rw [show (2:Nat) ^ 32 - 1=4294967295 from rfl,show (2:Nat) ^ 32=4294967296 from rfl] at this
  rw [this]; exact Nat.mod_eq_of_lt (by omega)
 rw [h2] at h1
 exact h1
theorem inU {n:Int} (h:0≤n∧n≤18446744073709551615):InR .u64 n:=by
 have e1:IntKind.u64.min=0:=rfl
 have e2:IntKind.u64.max=18446744073709551615:=rfl
 unfold InR
 exact ⟨by rw [e1]; omega,by rw [e2]; omega⟩
theorem div32 {y:Int} (h:0≤y∧y<4294967296):y / 2 ^ (Int.toNat 32)=0:=by
 show y / 4294967296=0
 omega
theorem f194b:Try.f194.body=some (Qf Try.prog 194):=by kernel_rfl
theorem u194 {a c k:List AV} {r:AV} (h:Pure Try.prog 194 (a++c++k) r):Qc Try.prog (.clos 194 a k) c r:=Qk Try.func194 (by kernel_rfl) f194b h
theorem f194W (y:Int) {E:Env} {rv:(Int × Int)} (hE:Qr Try.prog 194 (.tup [.int .u64 rv.1,.int .u64 rv.2]) E)
 (h:(InR .u64 (1*(bits .and .u64 y 4294967295))∧(InR .u64 (0*(bits .and .u64 y 4294967295))∧(InR .u64 ((0*(bits .and .u64 y 4294967295))+((1*(bits .and .u64 y 4294967295)) / 2 ^ (Int.toNat 32)))∧(InR .u64 (1*(y / 2 ^ (Int.toNat 32)))∧(InR .u64 ((bits .and .u64 ((0*(bits .and .u64 y 4294967295))+((1*(bits .and .u64 y 4294967295)) / 2 ^ (Int.toNat 32))) 4294967295)+(1*(y / 2 ^ (Int.toNat 32))))∧(InR .u64 (0*(y / 2 ^ (Int.toNat 32)))∧(InR .u64 ((0*(y / 2 ^ (Int.toNat 32)))+(((0*(bits .and .u64 y 4294967295))+((1*(bits .and .u64 y 4294967295)) / 2 ^ (Int.toNat 32))) / 2 ^ (Int.toNat 32)))∧(InR .u64 (((0*(y / 2 ^ (Int.toNat 32)))+(((0*(bits .and .u64 y 4294967295))+((1*(bits .and .u64 y 4294967295)) / 2 ^ (Int.toNat 32))) / 2 ^ (Int.toNat 32)))+(((bits .and .u64 ((0*(bits .and .u64 y 4294967295))+((1*(bits .and .u64 y 4294967295)) / 2 ^ (Int.toNat 32))) 4294967295)+(1*(y / 2 ^ (Int.toNat 32)))) / 2 ^ (Int.toNat 32)))∧(InR .u64 (1*y)∧rv=((((0*(y / 2 ^ (Int.toNat 32)))+(((0*(bits .and .u64 y 4294967295))+((1*(bits .and .u64 y 4294967295)) / 2 ^ (Int.toNat 32))) / 2 ^ (Int.toNat 32)))+(((bits .and .u64 ((0*(bits .and .u64 y 4294967295))+((1*(bits .and .u64 y 4294967295)) / 2 ^ (Int.toNat 32))) 4294967295)+(1*(y / 2 ^ (Int.toNat 32)))) / 2 ^ (Int.toNat 32))),(1*y)))))))))))):G Try.prog E [.code (Qf Try.prog 194)] ⟨[.int .u64 1,.int .u64 y]++unds (Try.f194.ntmps - 2),[]⟩:=by
 obtain ⟨q2_0,h⟩:=h
 obtain ⟨q3_0,h⟩:=h
 obtain ⟨q5_0,h⟩:=h
 obtain ⟨q7_0,h⟩:=h
 obtain ⟨q8_0,h⟩:=h
 obtain ⟨q9_0,h⟩:=h
 obtain ⟨q10_0,h⟩:=h
 obtain ⟨q12_0,h⟩:=h
 obtain ⟨q13_0,h⟩:=h
 exact eL (.tup [.int .u64 (((0*(y / 2 ^ (Int.toNat 32)))+(((0*(bits .and .u64 y 4294967295))+((1*(bits .and .u64 y 4294967295)) / 2 ^ (Int.toNat 32))) / 2 ^ (Int.toNat 32)))+(((bits .and .u64 ((0*(bits .and .u64 y 4294967295))+((1*(bits .and .u64 y 4294967295)) / 2 ^ (Int.toNat 32))) 4294967295)+(1*(y / 2 ^ (Int.toNat 32)))) / 2 ^ (Int.toNat 32))),.int .u64 (1*y)]) [] [(0:Int)≤32∧32≤((IntKind.bits .u64:Nat):Int),(0:Int)≤32∧32≤((IntKind.bits .u64:Nat):Int),InR .u64 (1*(bits .and .u64 y 4294967295)),InR .u64 (0*(bits .and .u64 y 4294967295)),(0:Int)≤32∧32≤((IntKind.bits .u64:Nat):Int),InR .u64 ((0*(bits .and .u64 y 4294967295))+((1*(bits .and .u64 y 4294967295)) / 2 ^ (Int.toNat 32))),(0:Int)≤32∧32≤((IntKind.bits .u64:Nat):Int),InR .u64 (1*(y / 2 ^ (Int.toNat 32))),InR .u64 ((bits .and .u64 ((0*(bits .and .u64 y 4294967295))+((1*(bits .and .u64 y 4294967295)) / 2 ^ (Int.toNat 32))) 4294967295)+(1*(y / 2 ^ (Int.toNat 32)))),InR .u64 (0*(y / 2 ^ (Int.toNat 32))),InR .u64 ((0*(y / 2 ^ (Int.toNat 32)))+(((0*(bits .and .u64 y 4294967295))+((1*(bits .and .u64 y 4294967295)) / 2 ^ (Int.toNat 32))) / 2 ^ (Int.toNat 32))),(0:Int)≤32∧32≤((IntKind.bits .u64:Nat):Int),InR .u64 (((0*(y / 2 ^ (Int.toNat 32)))+(((0*(bits .and .u64 y 4294967295))+((1*(bits .and .u64 y 4294967295)) / 2 ^ (Int.toNat 32))) / 2 ^ (Int.toNat 32)))+(((bits .and .u64 ((0*(bits .and .u64 y 4294967295))+((1*(bits .and .u64 y 4294967295)) / 2 ^ (Int.toNat 32))) 4294967295)+(1*(y / 2 ^ (Int.toNat 32)))) / 2 ^ (Int.toNat 32))),InR .u64 (1*y)] hE Try.func194 ⟨(⟨by decide,by decide⟩),(⟨by decide,by decide⟩),q2_0,q3_0,(⟨by decide,by decide⟩),q5_0,(⟨by decide,by decide⟩),q7_0,q8_0,q9_0,q10_0,(⟨by decide,by decide⟩),q12_0,q13_0,trivial⟩ (by exact AvLe.of_eq (by rw [h]; try rfl))
theorem mul64_ok (y:Int) (h:0≤y∧y<4294967296):Pure Try.prog 194 [.int .u64 1,.int .u64 y] (.tup [.int .u64 0,.int .u64 y]):=Qt Try.func194 f194b fun E hE=>by
 have d0:(0:Int) / 2 ^ (Int.toNat 32)=0:=rfl
 have a0:=and_mask (y:=0) (by omega)
 refine f194W y (rv:=(0,y)) hE ?_
 rw [and_mask h]
 simp only [Int.one_mul,Int.zero_mul,Int.zero_add,div32 h,Int.add_zero,a0,d0]
 exact ⟨inU (by omega),inU (by omega),inU (by omega),inU (by omega),inU (by omega),inU (by omega),inU (by omega),inU (by omega),inU (by omega),trivial⟩
theorem f130b:Try.f130.body=some (Qf Try.prog 130):=by kernel_rfl
theorem u130 {a c k:List AV} {r:AV} (h:Pure Try.prog 130 (a++c++k) r):Qc Try.prog (.clos 130 a k) c r:=Qk Try.func130 (by kernel_rfl) f130b h
theorem f130W (y:Int) {E:Env} {rv:(Int × Int)} (hE:Qr Try.prog 130 (.tup [.int .u64 rv.1,.int .u64 rv.2]) E)
 (h:((0≤y∧y<4294967296)∧rv=(0,y))):G Try.prog E [.code (Qf Try.prog 130)] ⟨[.int .u64 1,.int .u64 y]++unds (Try.f130.ntmps - 2),[]⟩:=by
 obtain ⟨h1,h⟩:=h
 exact eL (.tup [.int .u64 0,.int .u64 y]) [.b false,.v (.tup [.int .u64 0,.int .u64 y])] [false=false,Qc Try.prog (.clos 194 [] []) [.int .u64 1,.int .u64 y] (.tup [.int .u64 0,.int .u64 y])] hE Try.func130 ⟨rfl,(u194 (mul64_ok y h1)),trivial⟩ (by exact AvLe.of_eq (by rw [h]; try rfl))
theorem mul_ok (y:Int) (h:0≤y∧y<4294967296):Pure Try.prog 130 [.int .u64 1,.int .u64 y] (.tup [.int .u64 0,.int .u64 y]):=Qt Try.func130 f130b fun E hE=>f130W y (rv:=(0,y)) hE ⟨h,rfl⟩
theorem f55b:Try.f55.body=some (Qf Try.prog 55):=by kernel_rfl
def f55K0 (P:Program):List Item:=kAt 400 [.code (Qf P 55)] [.b false,.b false,.stop]
def f55S0 (n:Int) (v:Int) (v0:List Int) (n1:Nat):St:=⟨(jj 7 ([.sl 0 0 0 v0.length 1,.int .i64 (n1:Int)]++Js 39)),[⟨true,0,1,true,(rowI v0),true⟩]⟩
def f55G0 (E:Env) (n:Int) (v:Int) (v0:List Int) (n1:Nat):Prop:=G Try.prog E (f55K0 Try.prog) (f55S0 n v v0 n1 )
theorem f55W (n:Int) (v:Int) {E:Env} {rv:Unit} {l2:List Int} (hE:LentE Try.prog 55 [] (.sl 0 0 0 l2.length 1) [⟨true,0,1,true,(rowI l2),true⟩] E)
 (h:((n<0→False)∧(¬ (n<0)→(InR .u64 n∧((0≤n∧n<4294967296)∧((n > 9223372036854775807→False)∧(¬ (n > 9223372036854775807)→((I6 (n))∧((0≤n∧n≤2147483648)∧(0+(Nat.min 1 (Int.toNat n))≤(List.replicate (Int.toNat n) (0:Int)).length∧((Nat.min 1 (Int.toNat n)) ≠ 0∧(0+(Nat.min 1 (Int.toNat n))≤([v]:List Int).length∧f55G0 E n v (Kd (List.replicate (Int.toNat n) (0:Int)) 0 ((([v]:List Int).drop 0).take (Nat.min 1 (Int.toNat n)))) (Nat.min 1 (Int.toNat n)))))))))))))):G Try.prog E [.code (Qf Try.prog 55)] ⟨[.rsl [.int .i64 v] 0 1,.int .i64 n]++unds (Try.f55.ntmps - 2),[]⟩:=by
 rcases bft (decide (n<0)) with hc0 | hc0
 · have h:=h.1 (odt hc0)
   exact h.elim
 · have h:=h.2 (odf hc0)
   obtain ⟨q2_1,h⟩:=h
   obtain ⟨h1,h⟩:=h
   rcases bft (decide (n > 9223372036854775807)) with hc1 | hc1
   · have h:=h.1 (odt hc1)
     exact h.elim
   · have h:=h.2 (odf hc1)
     obtain ⟨q6_2,h⟩:=h
     obtain ⟨h2,h⟩:=h
     obtain ⟨h3,h⟩:=h
     obtain ⟨h4,h⟩:=h
     obtain ⟨h5,h⟩:=h
     refine sK (f55K0 Try.prog) ⟨(jj 7 ([.sl 0 0 0 (Int.toNat n) 1,.int .i64 (((Nat.min 1 (Int.toNat n)):Nat):Int)]++Js 39)),[⟨true,0,1,true,(Qv ((List.replicate (Int.toNat n) ([.int .i64 0]:List AV)).flatten) 0 (rowI ((([v]:List Int).drop 0).take (Nat.min 1 (Int.toNat n))))),true⟩]⟩ [7,8] 1 [.b false,.v (.tup [.int .u64 0,.int .u64 n]),.b false,.b false,.cs (rowI ((([v]:List Int).drop 0).take (Nat.min 1 (Int.toNat n)))),.stop] [(decide (n<0))=false,InR .u64 1,InR .u64 n,Qc Try.prog (.clos 130 [] []) [.int .u64 1,.int .u64 n] (.tup [.int .u64 0,.int .u64 n]),false=false,(decide (n > 9223372036854775807))=false,InR .i64 n,0≤n∧n≤n∧n≤2147483648,(0+(Nat.min 1 (Int.toNat n))*1)≤((List.replicate (Int.toNat n) ([.int .i64 0]:List AV)).flatten).length,(Nat.min 1 (Int.toNat n)) ≠ 0,0=0,(([.int .i64 v]).drop 0).take ((Nat.min 1 (Int.toNat n))*1)=(rowI ((([v]:List Int).drop 0).take (Nat.min 1 (Int.toNat n)))),(rowI ((([v]:List Int).drop 0).take (Nat.min 1 (Int.toNat n)))).length=(Nat.min 1 (Int.toNat n))*1,noRefs (rowI ((([v]:List Int).drop 0).take (Nat.min 1 (Int.toNat n))))=true] hE.kind (hE.nogh0 _) ⟨hc0,(⟨by decide,by decide⟩),q2_1,(u130 (mul_ok n h1)),rfl,hc1,q6_2,⟨h2.1,by omega,h2.2⟩,(by rw [(show (List.replicate (Int.toNat n) ([.int .i64 0]:List AV)).flatten=rowI (List.replicate (Int.toNat n) (0:Int)) from row_rep cI _ _)]; exact copy_fits cI (s:=1) (fun _=>rfl) h3 (by first | rfl | omega | simp)),h4,rfl,(by rw [(show [.int .i64 v]=rowI ([v]:List Int) from rfl)]; exact copy_src cI (s:=1) (fun _=>rfl) _ (by first | rfl | omega | simp)),(copy_len cI (s:=1) (fun _=>rfl) h5),(Yo cI (fun _=>rfl) _),trivial⟩ ?_
     have h:=h
     simp only [f55G0,f55S0,List.length_set,List.length_replicate,Yx] at h
     rw [(show (List.replicate (Int.toNat n) ([.int .i64 0]:List AV)).flatten=rowI (List.replicate (Int.toNat n) (0:Int)) from row_rep cI _ _)]; rw [(show Qv (rowI (List.replicate (Int.toNat n) (0:Int))) 0 (rowI ((([v]:List Int).drop 0).take (Nat.min 1 (Int.toNat n))))=rowI (Kd (List.replicate (Int.toNat n) (0:Int)) 0 ((([v]:List Int).drop 0).take (Nat.min 1 (Int.toNat n)))) from copy_row cI (s:=1) (fun _=>rfl) h3 h5 (by first | rfl | omega | simp))]
     exact h
theorem f55W0 (n:Int) (v:Int) (v0:List Int) (n1:Nat) {E:Env} {rv:Unit} {l2:List Int} (hE:LentE Try.prog 55 [] (.sl 0 0 0 l2.length 1) [⟨true,0,1,true,(rowI l2),true⟩] E)
 (h:(((n1:Int)<(v0.length:Int)→((Int.toNat (n1:Int))≤v0.length∧((Int.toNat (n1:Int))≤v0.length∧((Int.toNat (n1:Int))+(Nat.min (Int.toNat (n1:Int)) (v0.length - (Int.toNat (n1:Int))))≤v0.length∧((Nat.min (Int.toNat (n1:Int)) (v0.length - (Int.toNat (n1:Int)))) ≠ 0∧(0+(Nat.min (Int.toNat (n1:Int)) (v0.length - (Int.toNat (n1:Int))))≤v0.length∧((I6 ((n1:Int)+(((Nat.min (Int.toNat (n1:Int)) (v0.length - (Int.toNat (n1:Int)))):Nat):Int)))∧f55G0 E n v (Kd v0 (Int.toNat (n1:Int)) ((v0.drop 0).take (Nat.min (Int.toNat (n1:Int)) (v0.length - (Int.toNat (n1:Int)))))) (n1+(Nat.min (Int.toNat (n1:Int)) (v0.length - (Int.toNat (n1:Int))))))))))))∧(¬ ((n1:Int)<(v0.length:Int))→l2=v0))):f55G0 E n v v0 n1:=by
 rcases bft (decide ((n1:Int)<(v0.length:Int))) with hc0 | hc0
 · have h:=h.1 (odt hc0)
   obtain ⟨q2_1,h⟩:=h
   obtain ⟨q7_1,h⟩:=h
   obtain ⟨h1,h⟩:=h
   obtain ⟨h2,h⟩:=h
   obtain ⟨h3,h⟩:=h
   obtain ⟨q17_1,h⟩:=h
   refine sK (f55K0 Try.prog) ⟨(jj 7 ([.sl 0 0 0 v0.length 1,.int .i64 ((n1:Int)+(((Nat.min (Int.toNat (n1:Int)) (v0.length - (Int.toNat (n1:Int)))):Nat):Int))]++Js 39)),[⟨true,0,1,true,(Qv (rowI v0) (0+((Int.toNat (n1:Int))*1)) (rowI ((v0.drop 0).take (Nat.min (Int.toNat (n1:Int)) (v0.length - (Int.toNat (n1:Int))))))),true⟩]⟩ [7,8] 1 [.b true,.cs (rowI ((v0.drop 0).take (Nat.min (Int.toNat (n1:Int)) (v0.length - (Int.toNat (n1:Int)))))),.stop] [0=0,(decide ((n1:Int)<(v0.length:Int)))=true,(Int.toNat (n1:Int))≤v0.length,v0.length≤v0.length,0≤(n1:Int),0=0,0≤(Int.toNat (n1:Int)),(Int.toNat (n1:Int))≤v0.length,0≤(n1:Int),0=0,((0+((Int.toNat (n1:Int))*1))+(Nat.min (Int.toNat (n1:Int)) (v0.length - (Int.toNat (n1:Int))))*1)≤(rowI v0).length,(Nat.min (Int.toNat (n1:Int)) (v0.length - (Int.toNat (n1:Int)))) ≠ 0,0=0,0=0,((rowI v0).drop 0).take ((Nat.min (Int.toNat (n1:Int)) (v0.length - (Int.toNat (n1:Int))))*1)=(rowI ((v0.drop 0).take (Nat.min (Int.toNat (n1:Int)) (v0.length - (Int.toNat (n1:Int)))))),(rowI ((v0.drop 0).take (Nat.min (Int.toNat (n1:Int)) (v0.length - (Int.toNat (n1:Int)))))).length=(Nat.min (Int.toNat (n1:Int)) (v0.length - (Int.toNat (n1:Int))))*1,noRefs (rowI ((v0.drop 0).take (Nat.min (Int.toNat (n1:Int)) (v0.length - (Int.toNat (n1:Int))))))=true,InR .i64 ((n1:Int)+(((Nat.min (Int.toNat (n1:Int)) (v0.length - (Int.toNat (n1:Int)))):Nat):Int))] hE.kind (hE.nogh0 _) ⟨rfl,hc0,q2_1,(Nat.le_refl _),(by omega),rfl,(Nat.zero_le _),q7_1,(by omega),rfl,(by exact copy_fits cI (s:=1) (fun _=>rfl) h1 (by first | rfl | omega | simp)),h2,rfl,rfl,(by exact copy_src cI (s:=1) (fun _=>rfl) _ (by first | rfl | omega | simp)),(copy_len cI (s:=1) (fun _=>rfl) h3),(Yo cI (fun _=>rfl) _),q17_1,trivial⟩ ?_
   have h:=h
   simp only [f55G0,f55S0,List.length_set,Yx] at h
   rw [(show Qv (rowI v0) (0+((Int.toNat (n1:Int))*1)) (rowI ((v0.drop 0).take (Nat.min (Int.toNat (n1:Int)) (v0.length - (Int.toNat (n1:Int))))))=rowI (Kd v0 (Int.toNat (n1:Int)) ((v0.drop 0).take (Nat.min (Int.toNat (n1:Int)) (v0.length - (Int.toNat (n1:Int)))))) from copy_row cI (s:=1) (fun _=>rfl) h1 h3 (by first | rfl | omega | simp))]
   exact h
 · have h:=h.2 (odf hc0)
   have qe0:=h
   exact eB (.sl 0 0 0 v0.length 1) [⟨true,0,1,true,(rowI v0),true⟩] [4] 1 [.b false] [0=0,(decide ((n1:Int)<(v0.length:Int)))=false] hE (hE.nogh0 _) Try.func55 ⟨rfl,hc0,trivial⟩ (by rw [qe0]; try rfl) (by rw [qe0]; all_goals (first | rfl | (simp only [List.length_set]; done) | (simp only [List.length_set]; rfl) | (simp only [List.length_set,List.length_replicate]; done)))
theorem KD (v n:Int) (h:1≤n∧n≤2147483648):Lent Try.prog 55 [.rsl [.int .i64 v] 0 1,.int .i64 n] [] (.sl 0 0 0 (List.replicate (Int.toNat n) v).length 1) [⟨true,0,1,true,rowI (List.replicate (Int.toNat n) v),true⟩]:=Qcf Try.func55 f55b fun E hE=>by
 have key:∀ (d:Nat) (v0:List Int) (k:Nat),v0.length=Int.toNat n→1≤k→k≤v0.length→v0.length - k≤d→(∀ i,i<k→v0[i]?=some v)→f55G0 E n v v0 k:=by
  intro d
  induction d with
  | zero =>
   intro v0 k hl h1 h2 hd hv
   refine f55W0 n v v0 k (rv:=()) hE ⟨fun h=>by omega,fun _=>?_⟩
   refine (List.ext_getElem? fun i=>?_).symm
   by_cases hi:i<Int.toNat n
   · rw [hv i (by omega),List.getElem?_replicate,if_pos hi]
   · rw [List.getElem?_eq_none (by omega),List.getElem?_eq_none (by simp; omega)]
  | succ d ih =>
   intro v0 k hl h1 h2 hd hv
   refine f55W0 n v v0 k (rv:=()) hE ⟨fun hk=>?_,fun _=>?_⟩
   · have e0:Int.toNat (k:Int)=k:=by omega
     rw [e0,List.drop_zero]
     have hm:Nat.min k (v0.length - k)≤k:=Nat.min_le_left _ _
     have hm2:Nat.min k (v0.length - k)≤v0.length - k:=Nat.min_le_right _ _
     have hm0:Nat.min k (v0.length - k) ≠ 0:=by
      intro h0
      have h0':min k (v0.length - k)=0:=h0
      omega
     generalize Nat.min k (v0.length - k)=m at hm hm2 hm0
     refine ⟨h2,h2,by omega,hm0,by omega,by omega,?_⟩
     have hlt:(v0.take m).length=m:=by rw [List.length_take]; omega
     refine ih _ (k+m) (by rw [Yx]; exact hl) (by omega) (by rw [Yx]; omega) (by rw [Yx]; omega) (fun i hi=>?_)
     rw [Qaw (by rw [hlt]; omega),hlt]
     split
     · rw [List.getElem?_take,if_pos (by omega)]; exact hv _ (by omega)
     · exact hv _ (by omega)
   · refine (List.ext_getElem? fun i=>?_).symm
     by_cases hi:i<Int.toNat n
     · rw [hv i (by omega),List.getElem?_replicate,if_pos hi]
     · rw [List.getElem?_eq_none (by omega),List.getElem?_eq_none (by simp; omega)]
 have e1:Nat.min 1 (Int.toNat n)=1:=by
  have:min 1 (Int.toNat n)=1:=by omega
  exact this
 refine f55W n v (rv:=()) hE ⟨fun h=>by omega,fun _=>⟨inU (by omega),by omega,fun h=>by omega,fun _=>⟨by omega,by omega,?_⟩⟩⟩
 rw [e1]
 refine ⟨by simp; omega,by omega,by simp,?_⟩
 refine key (Int.toNat n) _ 1 (by rw [Yx,List.length_replicate]) (by omega) (by rw [Yx,List.length_replicate]; omega) (by rw [Yx,List.length_replicate]; omega) (fun i hi=>?_)
 have:i=0:=by omega
 subst this
 rw [Qaw (by simp; omega)]
 simp
end Go.Proofs.Ytemklbioijmjiaa
namespace Go.Proofs.Ytemklbioijmjiaa
open Go Ax
open Go.Proofs
structure Bndl where
 tokens:Int
 price:Int
def cBd (t:Bndl):List AV:=[.int .i64 t.tokens,.int .i64 t.price]
def YY (l:List Bndl):List AV:=l.flatMap cBd
structure Fair where
 purses:Int
 boxes:Int
 stock:List Int
 cash:List Int
 bundles:List Bndl
 refund:Int
 band:Int
 hours:Int
def outB (lo hi:Int) (n:Int):Bool:=!Qa n lo hi
theorem f115b:Try.f115.body=some (Qf Try.prog 115):=by kernel_rfl
theorem u115 {a c k:List AV} {r:AV} (h:Pure Try.prog 115 (a++c++k) r):Qc Try.prog (.clos 115 a k) c r:=Qk Try.func115 (by kernel_rfl) f115b h
theorem f115W (n:Int) (lo:Int) (hi:Int) {E:Env} {rv:Bool} (hE:Qr Try.prog 115 (.bool rv) E)
 (h:((n≥lo→rv=(decide (n≤hi)))∧(¬ (n≥lo)→rv=false))):G Try.prog E [.code (Qf Try.prog 115)] ⟨[.int .i64 n,.int .i64 lo,.int .i64 hi]++unds (Try.f115.ntmps - 3),[]⟩:=by
 rcases bft (decide (n≥lo)) with hc0 | hc0
 · have h:=h.1 (odt hc0)
   exact eL (.bool (decide (n≤hi))) [.b true] [(decide (n≥lo))=true] hE Try.func115 ⟨hc0,trivial⟩ (by exact AvLe.of_eq (by rw [h]; try rfl))
 · have h:=h.2 (odf hc0)
   exact eL (.bool false) [.b false] [(decide (n≥lo))=false] hE Try.func115 ⟨hc0,trivial⟩ (by exact AvLe.of_eq (by rw [h]; try rfl))
theorem Ql (n lo hi:Int):Pure Try.prog 115 [.int .i64 n,.int .i64 lo,.int .i64 hi] (.bool (Qa n lo hi)):=Qt Try.func115 f115b fun E hE=>by
 refine f115W n lo hi hE ⟨fun h=>by simp [Qa,h],fun h=>by simp [Qa,h]⟩
theorem f183b:Try.f183.body=some (Qf Try.prog 183):=by kernel_rfl
theorem u183 {a c k:List AV} {r:AV} (h:Pure Try.prog 183 (a++c++k) r):Qc Try.prog (.clos 183 a k) c r:=Qk Try.func183 (by kernel_rfl) f183b h
theorem f183W (n:Int) (lo hi:Int) {E:Env} {rv:Bool} (hE:Qr Try.prog 183 (.bool rv) E)
 (h:rv=(!(Qa n lo hi))):G Try.prog E [.code (Qf Try.prog 183)] ⟨[.int .i64 n,.rptr [.int .i64 lo] 0,.rptr [.int .i64 hi] 0]++unds (Try.f183.ntmps - 3),[]⟩:=by
 exact eL (.bool (!(Qa n lo hi))) [.v (.bool (Qa n lo hi))] [Qc Try.prog (.clos 115 [] []) [.int .i64 n,.int .i64 lo,.int .i64 hi] (.bool (Qa n lo hi))] hE Try.func183 ⟨(u115 (Ql n lo hi)),trivial⟩ (by exact AvLe.of_eq (by rw [h]; try rfl))
theorem f182b:Try.f182.body=some (Qf Try.prog 182):=by kernel_rfl
theorem u182 {a c k:List AV} {r:AV} (h:Pure Try.prog 182 (a++c++k) r):Qc Try.prog (.clos 182 a k) c r:=Qk Try.func182 (by kernel_rfl) f182b h
theorem f182W (lo:Int) (hi:Int) {E:Env} {rv:AV} (hE:Qr Try.prog 182 rv E)
 (h:rv=(.clos 183 [] [.rptr [.int .i64 lo] 0,.rptr [.int .i64 hi] 0])):G Try.prog E [.code (Qf Try.prog 182)] ⟨[.int .i64 lo,.int .i64 hi]++unds (Try.f182.ntmps - 2),[]⟩:=by
 exact eL (.clos 183 [] [.rptr [.int .i64 lo] 0,.rptr [.int .i64 hi] 0]) [] [] hE Try.func182 trivial (by exact AvLe.of_eq (by rw [h]; try rfl))
theorem out1_ok (n lo hi:Int):Pure Try.prog 183 [.int .i64 n,.rptr [.int .i64 lo] 0,.rptr [.int .i64 hi] 0] (.bool (outB lo hi n)):=Qt Try.func183 f183b fun E hE=>f183W n lo hi (rv:=outB lo hi n) hE rfl
theorem VG (lo hi:Int):Pure Try.prog 182 [.int .i64 lo,.int .i64 hi] (.clos 183 [] [.rptr [.int .i64 lo] 0,.rptr [.int .i64 hi] 0]):=Qt Try.func182 f182b fun E hE=>f182W lo hi (rv:=.clos 183 [] [.rptr [.int .i64 lo] 0,.rptr [.int .i64 hi] 0]) hE rfl
theorem f59ob:Try.f59.body=some (Qf Try.prog 59):=by kernel_rfl
def f59oK0 (P:Program):List Item:=kAt 400 [.code (Qf P 59)] [.stop]
def f59oS0 (l:(List Int)) (lo hi:Int) (i:Nat):St:=⟨([.rsl (rowI l) 0 l.length,.clos 183 [] [.rptr [.int .i64 lo] 0,.rptr [.int .i64 hi] 0]]++jj 5 ([.int .i64 (l.length:Int),.int .i64 (i:Int)]++Js 10)),[]⟩
def f59oG0 (E:Env) (l:(List Int)) (lo hi:Int) (i:Nat):Prop:=G Try.prog E (f59oK0 Try.prog) (f59oS0 l lo hi i )
theorem f59oW (l:(List Int)) (lo hi:Int) {E:Env} {rv:Int} (hE:Qr Try.prog 59 (.int .i64 rv) E)
 (h:f59oG0 E l lo hi 0):G Try.prog E [.code (Qf Try.prog 59)] ⟨[.rsl (rowI l) 0 l.length,.clos 183 [] [.rptr [.int .i64 lo] 0,.rptr [.int .i64 hi] 0]]++unds (Try.f59.ntmps - 2),[]⟩:=by
 exact sQ [0,1,7,8] 0 [.stop] [] hE trivial h
theorem f59oW0 (l:(List Int)) (lo hi:Int) (i:Nat) {E:Env} {rv:Int} (hE:Qr Try.prog 59 (.int .i64 rv) E)
 (h:(((i:Int)<(l.length:Int)→(∃ e:Int,l[i]?=some e∧(((outB lo hi e)=true→rv=(i:Int))∧((outB lo hi e)=false→((I6 ((i:Int)+1))∧f59oG0 E l lo hi (i+1))))))∧(¬ ((i:Int)<(l.length:Int))→rv=(-1)))):f59oG0 E l lo hi i:=by
 rcases bft (decide ((i:Int)<(l.length:Int))) with hc0 | hc0
 · have h:=h.1 (odt hc0)
   obtain ⟨e,h1,h⟩:=h
   rcases bft (outB lo hi e) with hc1 | hc1
   · have h:=h.1 hc1
     exact eL (.int .i64 (i:Int)) [.b true,.ld (.int .i64 e),.v (.bool (outB lo hi e)),.b true] [(decide ((i:Int)<(l.length:Int)))=true,0≤(i:Int)∧(i:Int)<(l.length:Int),((rowI l).drop (0+(Int.toNat (i:Int))*1)).take 1=[.int .i64 e],Qc Try.prog (.clos 183 [] [.rptr [.int .i64 lo] 0,.rptr [.int .i64 hi] 0]) [.int .i64 e] (.bool (outB lo hi e)),(outB lo hi e)=true] hE Try.func59 ⟨hc0,(Qm h1),(rp cI 1 0 1 h1),(u183 (out1_ok e lo hi)),hc1,trivial⟩ (by exact AvLe.of_eq (by rw [h]; try rfl))
   · have h:=h.2 hc1
     obtain ⟨q6_2,h⟩:=h
     exact sQ [0,1,7,8] 0 [.b true,.ld (.int .i64 e),.v (.bool (outB lo hi e)),.b false,.stop] [(decide ((i:Int)<(l.length:Int)))=true,0≤(i:Int)∧(i:Int)<(l.length:Int),((rowI l).drop (0+(Int.toNat (i:Int))*1)).take 1=[.int .i64 e],Qc Try.prog (.clos 183 [] [.rptr [.int .i64 lo] 0,.rptr [.int .i64 hi] 0]) [.int .i64 e] (.bool (outB lo hi e)),(outB lo hi e)=false,InR .i64 ((i:Int)+1)] hE ⟨hc0,(Qm h1),(rp cI 1 0 1 h1),(u183 (out1_ok e lo hi)),hc1,q6_2,trivial⟩ h
 · have h:=h.2 (odf hc0)
   exact eL (.int .i64 (-1)) [.b false] [(decide ((i:Int)<(l.length:Int)))=false] hE Try.func59 ⟨hc0,trivial⟩ (by exact AvLe.of_eq (by rw [h]; try rfl))
theorem idxOut_ok (l:List Int) (lo hi:Int) (h:l.length≤9223372036854775807):Pure Try.prog 59 [.rsl (rowI l) 0 l.length,.clos 183 [] [.rptr [.int .i64 lo] 0,.rptr [.int .i64 hi] 0]] (.int .i64 (idxG (outB lo hi) l)):=Qt Try.func59 f59ob fun E hE=>by
 have hl:=h
 refine f59oW l lo hi (rv:=idxG (outB lo hi) l) hE (Qac (outB lo hi) l l.length 0 (by omega) (fun j x hj=>by omega) (fun i=>f59oG0 E l lo hi i) (fun i hi' h1 h2=>?_) (fun _ h2=>?_))
 · have hx:l[i]?=some l[i]:=List.getElem?_eq_getElem hi'
   have hm:=List.mem_of_getElem? hx
   exact f59oW0 l lo hi i (rv:=idxG (outB lo hi) l) hE ⟨fun _=>⟨_,hx,fun hp=>h1 _ hx (by simpa using hp),fun hp=>⟨by omega,h2 _ hx (by simpa using hp)⟩⟩,fun h=>by omega⟩
 · exact f59oW0 l lo hi _ (rv:=idxG (outB lo hi) l) hE ⟨fun h=>by omega,fun _=>h2⟩
theorem qR:Try.f76.body=some (Qf Try.prog 76):=by kernel_rfl
theorem f76oW (l:(List Int)) (lo hi:Int) {E:Env} {rv:Bool} (hE:Qr Try.prog 76 (.bool rv) E)
 (h:((l.length≤9223372036854775807)∧rv=(decide ((idxG (outB lo hi) l)≥0)))):G Try.prog E [.code (Qf Try.prog 76)] ⟨[.rsl (rowI l) 0 l.length,.clos 183 [] [.rptr [.int .i64 lo] 0,.rptr [.int .i64 hi] 0]]++unds (Try.f76.ntmps - 2),[]⟩:=by
 obtain ⟨h1,h⟩:=h
 exact eL (.bool (decide ((idxG (outB lo hi) l)≥0))) [.v (.int .i64 (idxG (outB lo hi) l))] [Qc Try.prog (.clos 59 [] []) [.rsl (rowI l) 0 l.length,.clos 183 [] [.rptr [.int .i64 lo] 0,.rptr [.int .i64 hi] 0]] (.int .i64 (idxG (outB lo hi) l))] hE Try.func76 ⟨(Qk Try.func59 (by kernel_rfl) f59ob (idxOut_ok l lo hi h1)),trivial⟩ (by exact AvLe.of_eq (by rw [h]; try rfl))
theorem XC (l:List Int) (lo hi:Int) (h:l.length≤9223372036854775807):Pure Try.prog 76 [.rsl (rowI l) 0 l.length,.clos 183 [] [.rptr [.int .i64 lo] 0,.rptr [.int .i64 hi] 0]] (.bool (l.any (outB lo hi))):=Qt Try.func76 qR fun E hE =>
 f76oW l lo hi (rv:=l.any (outB lo hi)) hE ⟨h,(Qcj _ _).symm⟩
theorem f185b:Try.f185.body=some (Qf Try.prog 185):=by kernel_rfl
theorem u185 {a c k:List AV} {r:AV} (h:Pure Try.prog 185 (a++c++k) r):Qc Try.prog (.clos 185 a k) c r:=Qk Try.func185 (by kernel_rfl) f185b h
theorem f185W (b:Bndl) (f:Fair) {E:Env} {rv:Bool} (hE:Qr Try.prog 185 (.bool rv) E)
 (h:(((Qa b.tokens 1 1000)=false→rv=true)∧((Qa b.tokens 1 1000)=true→(((Qa b.price 1 1000000)=false→rv=true)∧((Qa b.price 1 1000000)=true→((I6 (f.refund*b.tokens))∧rv=(decide ((f.refund*b.tokens) > b.price)))))))):G Try.prog E [.code (Qf Try.prog 185)] ⟨[.agg [.int .i64 b.tokens,.int .i64 b.price],.rptr [.int .i64 f.purses,.int .i64 f.boxes,.rsl (rowI f.stock) 0 f.stock.length,.rsl (rowI f.cash) 0 f.cash.length,.rsl (YY f.bundles) 0 f.bundles.length,.int .i64 f.refund,.int .i64 f.band,.int .i64 f.hours] 0]++unds (Try.f185.ntmps - 2),[]⟩:=by
 rcases bft (!(Qa b.tokens 1 1000)) with hc0 | hc0
 · have h:=h.1 (bnT hc0)
   exact eL (.bool true) [.v (.bool (Qa b.tokens 1 1000)),.b true,.b true] [Qc Try.prog (.clos 115 [] []) [.int .i64 b.tokens,.int .i64 1,.int .i64 1000] (.bool (Qa b.tokens 1 1000)),(!(Qa b.tokens 1 1000))=true,true=true] hE Try.func185 ⟨(u115 (Ql b.tokens 1 1000)),hc0,rfl,trivial⟩ (by exact AvLe.of_eq (by rw [h]; try rfl))
 · have h:=h.2 (bnF hc0)
   rcases bft (!(Qa b.price 1 1000000)) with hc1 | hc1
   · have h:=h.1 (bnT hc1)
     exact eL (.bool true) [.v (.bool (Qa b.tokens 1 1000)),.b false,.v (.bool (Qa b.price 1 1000000)),.b true] [Qc Try.prog (.clos 115 [] []) [.int .i64 b.tokens,.int .i64 1,.int .i64 1000] (.bool (Qa b.tokens 1 1000)),(!(Qa b.tokens 1 1000))=false,Qc Try.prog (.clos 115 [] []) [.int .i64 b.price,.int .i64 1,.int .i64 1000000] (.bool (Qa b.price 1 1000000)),(!(Qa b.price 1 1000000))=true] hE Try.func185 ⟨(u115 (Ql b.tokens 1 1000)),hc0,(u115 (Ql b.price 1 1000000)),hc1,trivial⟩ (by exact AvLe.of_eq (by rw [h]; try rfl))
   · have h:=h.2 (bnF hc1)
     obtain ⟨q4_2,h⟩:=h
     exact eL (.bool (decide ((f.refund*b.tokens) > b.price))) [.v (.bool (Qa b.tokens 1 1000)),.b false,.v (.bool (Qa b.price 1 1000000)),.b false] [Qc Try.prog (.clos 115 [] []) [.int .i64 b.tokens,.int .i64 1,.int .i64 1000] (.bool (Qa b.tokens 1 1000)),(!(Qa b.tokens 1 1000))=false,Qc Try.prog (.clos 115 [] []) [.int .i64 b.price,.int .i64 1,.int .i64 1000000] (.bool (Qa b.price 1 1000000)),(!(Qa b.price 1 1000000))=false,InR .i64 (f.refund*b.tokens)] hE Try.func185 ⟨(u115 (Ql b.tokens 1 1000)),hc0,(u115 (Ql b.price 1 1000000)),hc1,q4_2,trivial⟩ (by exact AvLe.of_eq (by rw [h]; try rfl))
/-- A bundle that is not right. -/
def badB (f:Fair) (b:Bndl):Bool:=if Qa b.tokens 1 1000=true then (if Qa b.price 1 1000000=true then decide (f.refund*b.tokens > b.price) else true) else true
theorem badB_ok (b:Bndl) (f:Fair) (h:0≤f.refund∧f.refund≤1000):Pure Try.prog 185 [.agg [.int .i64 b.tokens,.int .i64 b.price],.rptr [.int .i64 f.purses,.int .i64 f.boxes,.rsl (rowI f.stock) 0 f.stock.length,.rsl (rowI f.cash) 0 f.cash.length,.rsl (YY f.bundles) 0 f.bundles.length,.int .i64 f.refund,.int .i64 f.band,.int .i64 f.hours] 0] (.bool (badB f b)):=Qt Try.func185 f185b fun E hE=>by
 refine f185W b f (rv:=badB f b) hE ⟨fun h1=>?_,fun h1=>⟨fun h2=>?_,fun h2=>⟨?_,?_⟩⟩⟩
 · unfold badB; rw [h1]; rfl
 · unfold badB; rw [h1,h2]; rfl
 · have h3:=YK.1 h1
   have m1:=Int.mul_le_mul h.2 h3.2 (by omega) (by omega)
   have m2:=Int.mul_nonneg h.1 (show 0≤b.tokens by omega)
   omega
 · unfold badB; rw [h1,h2]; rfl
theorem f240bb:Try.f240.body=some (Qf Try.prog 240):=by kernel_rfl
def f240bK0 (P:Program):List Item:=kAt 400 [.code (Qf P 240)] [.stop]
def f240bS0 (l:(List Bndl)) (f:Fair) (i:Nat):St:=⟨([.rsl (YY l) 0 l.length,.clos 185 [] [.rptr [.int .i64 f.purses,.int .i64 f.boxes,.rsl (rowI f.stock) 0 f.stock.length,.rsl (rowI f.cash) 0 f.cash.length,.rsl (YY f.bundles) 0 f.bundles.length,.int .i64 f.refund,.int .i64 f.band,.int .i64 f.hours] 0]]++jj 5 ([.int .i64 (l.length:Int),.int .i64 (i:Int)]++Js 10)),[]⟩
def Qcu (E:Env) (l:(List Bndl)) (f:Fair) (i:Nat):Prop:=G Try.prog E (f240bK0 Try.prog) (f240bS0 l f i )
theorem f240bW (l:(List Bndl)) (f:Fair) {E:Env} {rv:Int} (hE:Qr Try.prog 240 (.int .i64 rv) E)
 (h:Qcu E l f 0):G Try.prog E [.code (Qf Try.prog 240)] ⟨[.rsl (YY l) 0 l.length,.clos 185 [] [.rptr [.int .i64 f.purses,.int .i64 f.boxes,.rsl (rowI f.stock) 0 f.stock.length,.rsl (rowI f.cash) 0 f.cash.length,.rsl (YY f.bundles) 0 f.bundles.length,.int .i64 f.refund,.int .i64 f.band,.int .i64 f.hours] 0]]++unds (Try.f240.ntmps - 2),[]⟩:=by
 exact sQ [0,1,7,8] 0 [.stop] [] hE trivial h
theorem f240bW0 (l:(List Bndl)) (f:Fair) (i:Nat) {E:Env} {rv:Int} (hE:Qr Try.prog 240 (.int .i64 rv) E)
 (h:(((i:Int)<(l.length:Int)→(∃ be:Bndl,l[i]?=some be∧((0≤f.refund∧f.refund≤1000)∧(((badB f be)=true→rv=(i:Int))∧((badB f be)=false→((I6 ((i:Int)+1))∧Qcu E l f (i+1)))))))∧(¬ ((i:Int)<(l.length:Int))→rv=(-1)))):Qcu E l f i:=by
 rcases bft (decide ((i:Int)<(l.length:Int))) with hc0 | hc0
 · have h:=h.1 (odt hc0)
   obtain ⟨be,h1,h⟩:=h
   obtain ⟨h2,h⟩:=h
   rcases bft (badB f be) with hc1 | hc1
   · have h:=h.1 hc1
     exact eL (.int .i64 (i:Int)) [.b true,.ld (.agg [.int .i64 be.tokens,.int .i64 be.price]),.v (.bool (badB f be)),.b true] [(decide ((i:Int)<(l.length:Int)))=true,0≤(i:Int)∧(i:Int)<(l.length:Int),((YY l).drop (0+(Int.toNat (i:Int))*2)).take 2=[.int .i64 be.tokens,.int .i64 be.price],Qc Try.prog (.clos 185 [] [.rptr [.int .i64 f.purses,.int .i64 f.boxes,.rsl (rowI f.stock) 0 f.stock.length,.rsl (rowI f.cash) 0 f.cash.length,.rsl (YY f.bundles) 0 f.bundles.length,.int .i64 f.refund,.int .i64 f.band,.int .i64 f.hours] 0]) [.agg [.int .i64 be.tokens,.int .i64 be.price]] (.bool (badB f be)),(badB f be)=true] hE Try.func240 ⟨hc0,(Qm h1),(rp cBd 2 0 2 h1),(u185 (badB_ok be f h2)),hc1,trivial⟩ (by exact AvLe.of_eq (by rw [h]; try rfl))
   · have h:=h.2 hc1
     obtain ⟨q6_2,h⟩:=h
     exact sQ [0,1,7,8] 0 [.b true,.ld (.agg [.int .i64 be.tokens,.int .i64 be.price]),.v (.bool (badB f be)),.b false,.stop] [(decide ((i:Int)<(l.length:Int)))=true,0≤(i:Int)∧(i:Int)<(l.length:Int),((YY l).drop (0+(Int.toNat (i:Int))*2)).take 2=[.int .i64 be.tokens,.int .i64 be.price],Qc Try.prog (.clos 185 [] [.rptr [.int .i64 f.purses,.int .i64 f.boxes,.rsl (rowI f.stock) 0 f.stock.length,.rsl (rowI f.cash) 0 f.cash.length,.rsl (YY f.bundles) 0 f.bundles.length,.int .i64 f.refund,.int .i64 f.band,.int .i64 f.hours] 0]) [.agg [.int .i64 be.tokens,.int .i64 be.price]] (.bool (badB f be)),(badB f be)=false,InR .i64 ((i:Int)+1)] hE ⟨hc0,(Qm h1),(rp cBd 2 0 2 h1),(u185 (badB_ok be f h2)),hc1,q6_2,trivial⟩ h
 · have h:=h.2 (odf hc0)
   exact eL (.int .i64 (-1)) [.b false] [(decide ((i:Int)<(l.length:Int)))=false] hE Try.func240 ⟨hc0,trivial⟩ (by exact AvLe.of_eq (by rw [h]; try rfl))
theorem idxBad_ok (l:List Bndl) (f:Fair) (h:(∀ x ∈ l,0≤f.refund∧f.refund≤1000)∧l.length≤9223372036854775807):Pure Try.prog 240 [.rsl (YY l) 0 l.length,.clos 185 [] [.rptr [.int .i64 f.purses,.int .i64 f.boxes,.rsl (rowI f.stock) 0 f.stock.length,.rsl (rowI f.cash) 0 f.cash.length,.rsl (YY f.bundles) 0 f.bundles.length,.int .i64 f.refund,.int .i64 f.band,.int .i64 f.hours] 0]] (.int .i64 (idxG (badB f) l)):=Qt Try.func240 f240bb fun E hE=>by
 have hl:=h.2
 refine f240bW l f (rv:=idxG (badB f) l) hE (Qac (badB f) l l.length 0 (by omega) (fun j x hj=>by omega) (fun i=>Qcu E l f i) (fun i hi' h1 h2=>?_) (fun _ h2=>?_))
 · have hx:l[i]?=some l[i]:=List.getElem?_eq_getElem hi'
   have hm:=List.mem_of_getElem? hx
   exact f240bW0 l f i (rv:=idxG (badB f) l) hE ⟨fun _=>⟨_,hx,h.1 _ hm,fun hp=>h1 _ hx (by simpa using hp),fun hp=>⟨by omega,h2 _ hx (by simpa using hp)⟩⟩,fun h=>by omega⟩
 · exact f240bW0 l f _ (rv:=idxG (badB f) l) hE ⟨fun h=>by omega,fun _=>h2⟩
theorem f184bb:Try.f184.body=some (Qf Try.prog 184):=by kernel_rfl
theorem f184bW (l:(List Bndl)) (f:Fair) {E:Env} {rv:Bool} (hE:Qr Try.prog 184 (.bool rv) E)
 (h:(((∀ x ∈ l,0≤f.refund∧f.refund≤1000)∧l.length≤9223372036854775807)∧rv=(decide ((idxG (badB f) l)≥0)))):G Try.prog E [.code (Qf Try.prog 184)] ⟨[.rsl (YY l) 0 l.length,.clos 185 [] [.rptr [.int .i64 f.purses,.int .i64 f.boxes,.rsl (rowI f.stock) 0 f.stock.length,.rsl (rowI f.cash) 0 f.cash.length,.rsl (YY f.bundles) 0 f.bundles.length,.int .i64 f.refund,.int .i64 f.band,.int .i64 f.hours] 0]]++unds (Try.f184.ntmps - 2),[]⟩:=by
 obtain ⟨h1,h⟩:=h
 exact eL (.bool (decide ((idxG (badB f) l)≥0))) [.v (.int .i64 (idxG (badB f) l))] [Qc Try.prog (.clos 240 [] []) [.rsl (YY l) 0 l.length,.clos 185 [] [.rptr [.int .i64 f.purses,.int .i64 f.boxes,.rsl (rowI f.stock) 0 f.stock.length,.rsl (rowI f.cash) 0 f.cash.length,.rsl (YY f.bundles) 0 f.bundles.length,.int .i64 f.refund,.int .i64 f.band,.int .i64 f.hours] 0]] (.int .i64 (idxG (badB f) l))] hE Try.func184 ⟨(Qk Try.func240 (by kernel_rfl) f240bb (idxBad_ok l f h1)),trivial⟩ (by exact AvLe.of_eq (by rw [h]; try rfl))
theorem anyBad_ok (l:List Bndl) (f:Fair) (h:(∀ x ∈ l,0≤f.refund∧f.refund≤1000)∧l.length≤9223372036854775807):Pure Try.prog 184 [.rsl (YY l) 0 l.length,.clos 185 [] [.rptr [.int .i64 f.purses,.int .i64 f.boxes,.rsl (rowI f.stock) 0 f.stock.length,.rsl (rowI f.cash) 0 f.cash.length,.rsl (YY f.bundles) 0 f.bundles.length,.int .i64 f.refund,.int .i64 f.band,.int .i64 f.hours] 0]] (.bool (l.any (badB f))):=Qt Try.func184 f184bb fun E hE =>
 f184bW l f (rv:=l.any (badB f)) hE ⟨h,(Qcj _ _).symm⟩
theorem f114b:Try.f114.body=some (Qf Try.prog 114):=by kernel_rfl
theorem u114 {a c k:List AV} {r:AV} (h:Pure Try.prog 114 (a++c++k) r):Qc Try.prog (.clos 114 a k) c r:=Qk Try.func114 (by kernel_rfl) f114b h
theorem f114W (f:Fair) {E:Env} {rv:Int} (hE:Qr Try.prog 114 (.int .i64 rv) E)
 (h:(((Qa (f.stock.length:Int) 1 8)=false→rv=10)∧((Qa (f.stock.length:Int) 1 8)=true→((¬ ((f.cash.length:Int)=(f.stock.length:Int))→rv=10)∧((f.cash.length:Int)=(f.stock.length:Int)→(((Qa f.purses 0 20)=false→rv=10)∧((Qa f.purses 0 20)=true→(((Qa f.boxes 0 12)=false→rv=10)∧((Qa f.boxes 0 12)=true→(((f.bundles.length:Int) > 6→rv=10)∧(¬ ((f.bundles.length:Int) > 6)→((f.stock.length≤9223372036854775807)∧(((f.stock.any (outB 0 100000))=true→rv=10)∧((f.stock.any (outB 0 100000))=false→((f.cash.length≤9223372036854775807)∧(((f.cash.any (outB 0 1000000))=true→rv=10)∧((f.cash.any (outB 0 1000000))=false→(((Qa f.refund 0 1000)=false→rv=10)∧((Qa f.refund 0 1000)=true→(((Qa f.band 0 1000000)=false→rv=10)∧((Qa f.band 0 1000000)=true→(((Qa f.hours 1 1440)=false→rv=10)∧((Qa f.hours 1 1440)=true→(((∀ x ∈ f.bundles,0≤f.refund∧f.refund≤1000)∧f.bundles.length≤9223372036854775807)∧(((f.bundles.any (badB f))=true→rv=10)∧((f.bundles.any (badB f))=false→rv=0)))))))))))))))))))))))))):G Try.prog E [.code (Qf Try.prog 114)] ⟨[.agg [.int .i64 f.purses,.int .i64 f.boxes,.rsl (rowI f.stock) 0 f.stock.length,.rsl (rowI f.cash) 0 f.cash.length,.rsl (YY f.bundles) 0 f.bundles.length,.int .i64 f.refund,.int .i64 f.band,.int .i64 f.hours]]++unds (Try.f114.ntmps - 1),[]⟩:=by
 rcases bft (!(Qa (f.stock.length:Int) 1 8)) with hc0 | hc0
 · have h:=h.1 (bnT hc0)
   exact eL (.int .i64 10) [.v (.bool (Qa (f.stock.length:Int) 1 8)),.b true,.b true,.b true,.b true,.b true,.b true,.b true,.b true,.b true,.b true,.b true] [Qc Try.prog (.clos 115 [] []) [.int .i64 (f.stock.length:Int),.int .i64 1,.int .i64 8] (.bool (Qa (f.stock.length:Int) 1 8)),(!(Qa (f.stock.length:Int) 1 8))=true,true=true,true=true,true=true,true=true,true=true,true=true,true=true,true=true,true=true,true=true] hE Try.func114 ⟨(u115 (Ql (f.stock.length:Int) 1 8)),hc0,rfl,rfl,rfl,rfl,rfl,rfl,rfl,rfl,rfl,rfl,trivial⟩ (by exact AvLe.of_eq (by rw [h]; try rfl))
 · have h:=h.2 (bnF hc0)
   rcases bft ((f.cash.length:Int) != (f.stock.length:Int)) with hc1 | hc1
   · have h:=h.1 (bneT hc1)
     exact eL (.int .i64 10) [.v (.bool (Qa (f.stock.length:Int) 1 8)),.b false,.b true,.b true,.b true,.b true,.b true,.b true,.b true,.b true,.b true,.b true] [Qc Try.prog (.clos 115 [] []) [.int .i64 (f.stock.length:Int),.int .i64 1,.int .i64 8] (.bool (Qa (f.stock.length:Int) 1 8)),(!(Qa (f.stock.length:Int) 1 8))=false,((f.cash.length:Int) != (f.stock.length:Int))=true,true=true,true=true,true=true,true=true,true=true,true=true,true=true,true=true,true=true] hE Try.func114 ⟨(u115 (Ql (f.stock.length:Int) 1 8)),hc0,hc1,rfl,rfl,rfl,rfl,rfl,rfl,rfl,rfl,rfl,trivial⟩ (by exact AvLe.of_eq (by rw [h]; try rfl))
   · have h:=h.2 (bneF hc1)
     rcases bft (!(Qa f.purses 0 20)) with hc2 | hc2
     · have h:=h.1 (bnT hc2)
       exact eL (.int .i64 10) [.v (.bool (Qa (f.stock.length:Int) 1 8)),.b false,.b false,.v (.bool (Qa f.purses 0 20)),.b true,.b true,.b true,.b true,.b true,.b true,.b true,.b true,.b true] [Qc Try.prog (.clos 115 [] []) [.int .i64 (f.stock.length:Int),.int .i64 1,.int .i64 8] (.bool (Qa (f.stock.length:Int) 1 8)),(!(Qa (f.stock.length:Int) 1 8))=false,((f.cash.length:Int) != (f.stock.length:Int))=false,Qc Try.prog (.clos 115 [] []) [.int .i64 f.purses,.int .i64 0,.int .i64 20] (.bool (Qa f.purses 0 20)),(!(Qa f.purses 0 20))=true,true=true,true=true,true=true,true=true,true=true,true=true,true=true,true=true] hE Try.func114 ⟨(u115 (Ql (f.stock.length:Int) 1 8)),hc0,hc1,(u115 (Ql f.purses 0 20)),hc2,rfl,rfl,rfl,rfl,rfl,rfl,rfl,rfl,trivial⟩ (by exact AvLe.of_eq (by rw [h]; try rfl))
     · have h:=h.2 (bnF hc2)
       rcases bft (!(Qa f.boxes 0 12)) with hc3 | hc3
       · have h:=h.1 (bnT hc3)
         exact eL (.int .i64 10) [.v (.bool (Qa (f.stock.length:Int) 1 8)),.b false,.b false,.v (.bool (Qa f.purses 0 20)),.b false,.v (.bool (Qa f.boxes 0 12)),.b true,.b true,.b true,.b true,.b true,.b true,.b true,.b true] [Qc Try.prog (.clos 115 [] []) [.int .i64 (f.stock.length:Int),.int .i64 1,.int .i64 8] (.bool (Qa (f.stock.length:Int) 1 8)),(!(Qa (f.stock.length:Int) 1 8))=false,((f.cash.length:Int) != (f.stock.length:Int))=false,Qc Try.prog (.clos 115 [] []) [.int .i64 f.purses,.int .i64 0,.int .i64 20] (.bool (Qa f.purses 0 20)),(!(Qa f.purses 0 20))=false,Qc Try.prog (.clos 115 [] []) [.int .i64 f.boxes,.int .i64 0,.int .i64 12] (.bool (Qa f.boxes 0 12)),(!(Qa f.boxes 0 12))=true,true=true,true=true,true=true,true=true,true=true,true=true,true=true] hE Try.func114 ⟨(u115 (Ql (f.stock.length:Int) 1 8)),hc0,hc1,(u115 (Ql f.purses 0 20)),hc2,(u115 (Ql f.boxes 0 12)),hc3,rfl,rfl,rfl,rfl,rfl,rfl,rfl,trivial⟩ (by exact AvLe.of_eq (by rw [h]; try rfl))
       · have h:=h.2 (bnF hc3)
         rcases bft (decide ((f.bundles.length:Int) > 6)) with hc4 | hc4
         · have h:=h.1 (odt hc4)
           exact eL (.int .i64 10) [.v (.bool (Qa (f.stock.length:Int) 1 8)),.b false,.b false,.v (.bool (Qa f.purses 0 20)),.b false,.v (.bool (Qa f.boxes 0 12)),.b false,.b true,.b true,.b true,.b true,.b true,.b true,.b true] [Qc Try.prog (.clos 115 [] []) [.int .i64 (f.stock.length:Int),.int .i64 1,.int .i64 8] (.bool (Qa (f.stock.length:Int) 1 8)),(!(Qa (f.stock.length:Int) 1 8))=false,((f.cash.length:Int) != (f.stock.length:Int))=false,Qc Try.prog (.clos 115 [] []) [.int .i64 f.purses,.int .i64 0,.int .i64 20] (.bool (Qa f.purses 0 20)),(!(Qa f.purses 0 20))=false,Qc Try.prog (.clos 115 [] []) [.int .i64 f.boxes,.int .i64 0,.int .i64 12] (.bool (Qa f.boxes 0 12)),(!(Qa f.boxes 0 12))=false,(decide ((f.bundles.length:Int) > 6))=true,true=true,true=true,true=true,true=true,true=true,true=true] hE Try.func114 ⟨(u115 (Ql (f.stock.length:Int) 1 8)),hc0,hc1,(u115 (Ql f.purses 0 20)),hc2,(u115 (Ql f.boxes 0 12)),hc3,hc4,rfl,rfl,rfl,rfl,rfl,rfl,trivial⟩ (by exact AvLe.of_eq (by rw [h]; try rfl))
         · have h:=h.2 (odf hc4)
           obtain ⟨h1,h⟩:=h
           rcases bft (f.stock.any (outB 0 100000)) with hc5 | hc5
           · have h:=h.1 hc5
             exact eL (.int .i64 10) [.v (.bool (Qa (f.stock.length:Int) 1 8)),.b false,.b false,.v (.bool (Qa f.purses 0 20)),.b false,.v (.bool (Qa f.boxes 0 12)),.b false,.b false,.v (.clos 183 [] [.rptr [.int .i64 0] 0,.rptr [.int .i64 100000] 0]),.v (.bool (f.stock.any (outB 0 100000))),.b true,.b true,.b true,.b true,.b true,.b true] [Qc Try.prog (.clos 115 [] []) [.int .i64 (f.stock.length:Int),.int .i64 1,.int .i64 8] (.bool (Qa (f.stock.length:Int) 1 8)),(!(Qa (f.stock.length:Int) 1 8))=false,((f.cash.length:Int) != (f.stock.length:Int))=false,Qc Try.prog (.clos 115 [] []) [.int .i64 f.purses,.int .i64 0,.int .i64 20] (.bool (Qa f.purses 0 20)),(!(Qa f.purses 0 20))=false,Qc Try.prog (.clos 115 [] []) [.int .i64 f.boxes,.int .i64 0,.int .i64 12] (.bool (Qa f.boxes 0 12)),(!(Qa f.boxes 0 12))=false,(decide ((f.bundles.length:Int) > 6))=false,Qc Try.prog (.clos 182 [] []) [.int .i64 0,.int .i64 100000] (.clos 183 [] [.rptr [.int .i64 0] 0,.rptr [.int .i64 100000] 0]),Qc Try.prog (.clos 76 [] []) [.rsl (rowI f.stock) 0 f.stock.length,.clos 183 [] [.rptr [.int .i64 0] 0,.rptr [.int .i64 100000] 0]] (.bool (f.stock.any (outB 0 100000))),(f.stock.any (outB 0 100000))=true,true=true,true=true,true=true,true=true,true=true] hE Try.func114 ⟨(u115 (Ql (f.stock.length:Int) 1 8)),hc0,hc1,(u115 (Ql f.purses 0 20)),hc2,(u115 (Ql f.boxes 0 12)),hc3,hc4,(u182 (VG 0 100000)),(Qk Try.func76 (by kernel_rfl) qR (XC f.stock 0 100000 h1)),hc5,rfl,rfl,rfl,rfl,rfl,trivial⟩ (by exact AvLe.of_eq (by rw [h]; try rfl))
           · have h:=h.2 hc5
             obtain ⟨h2,h⟩:=h
             rcases bft (f.cash.any (outB 0 1000000)) with hc6 | hc6
             · have h:=h.1 hc6
               exact eL (.int .i64 10) [.v (.bool (Qa (f.stock.length:Int) 1 8)),.b false,.b false,.v (.bool (Qa f.purses 0 20)),.b false,.v (.bool (Qa f.boxes 0 12)),.b false,.b false,.v (.clos 183 [] [.rptr [.int .i64 0] 0,.rptr [.int .i64 100000] 0]),.v (.bool (f.stock.any (outB 0 100000))),.b false,.v (.clos 183 [] [.rptr [.int .i64 0] 0,.rptr [.int .i64 1000000] 0]),.v (.bool (f.cash.any (outB 0 1000000))),.b true,.b true,.b true,.b true,.b true] [Qc Try.prog (.clos 115 [] []) [.int .i64 (f.stock.length:Int),.int .i64 1,.int .i64 8] (.bool (Qa (f.stock.length:Int) 1 8)),(!(Qa (f.stock.length:Int) 1 8))=false,((f.cash.length:Int) != (f.stock.length:Int))=false,Qc Try.prog (.clos 115 [] []) [.int .i64 f.purses,.int .i64 0,.int .i64 20] (.bool (Qa f.purses 0 20)),(!(Qa f.purses 0 20))=false,Qc Try.prog (.clos 115 [] []) [.int .i64 f.boxes,.int .i64 0,.int .i64 12] (.bool (Qa f.boxes 0 12)),(!(Qa f.boxes 0 12))=false,(decide ((f.bundles.length:Int) > 6))=false,Qc Try.prog (.clos 182 [] []) [.int .i64 0,.int .i64 100000] (.clos 183 [] [.rptr [.int .i64 0] 0,.rptr [.int .i64 100000] 0]),Qc Try.prog (.clos 76 [] []) [.rsl (rowI f.stock) 0 f.stock.length,.clos 183 [] [.rptr [.int .i64 0] 0,.rptr [.int .i64 100000] 0]] (.bool (f.stock.any (outB 0 100000))),(f.stock.any (outB 0 100000))=false,Qc Try.prog (.clos 182 [] []) [.int .i64 0,.int .i64 1000000] (.clos 183 [] [.rptr [.int .i64 0] 0,.rptr [.int .i64 1000000] 0]),Qc Try.prog (.clos 76 [] []) [.rsl (rowI f.cash) 0 f.cash.length,.clos 183 [] [.rptr [.int .i64 0] 0,.rptr [.int .i64 1000000] 0]] (.bool (f.cash.any (outB 0 1000000))),(f.cash.any (outB 0 1000000))=true,true=true,true=true,true=true,true=true] hE Try.func114 ⟨(u115 (Ql (f.stock.length:Int) 1 8)),hc0,hc1,(u115 (Ql f.purses 0 20)),hc2,(u115 (Ql f.boxes 0 12)),hc3,hc4,(u182 (VG 0 100000)),(Qk Try.func76 (by kernel_rfl) qR (XC f.stock 0 100000 h1)),hc5,(u182 (VG 0 1000000)),(Qk Try.func76 (by kernel_rfl) qR (XC f.cash 0 1000000 h2)),hc6,rfl,rfl,rfl,rfl,trivial⟩ (by exact AvLe.of_eq (by rw [h]; try rfl))
             · have h:=h.2 hc6
               rcases bft (!(Qa f.refund 0 1000)) with hc7 | hc7
               · have h:=h.1 (bnT hc7)
                 exact eL (.int .i64 10) [.v (.bool (Qa (f.stock.length:Int) 1 8)),.b false,.b false,.v (.bool (Qa f.purses 0 20)),.b false,.v (.bool (Qa f.boxes 0 12)),.b false,.b false,.v (.clos 183 [] [.rptr [.int .i64 0] 0,.rptr [.int .i64 100000] 0]),.v (.bool (f.stock.any (outB 0 100000))),.b false,.v (.clos 183 [] [.rptr [.int .i64 0] 0,.rptr [.int .i64 1000000] 0]),.v (.bool (f.cash.any (outB 0 1000000))),.b false,.v (.bool (Qa f.refund 0 1000)),.b true,.b true,.b true,.b true] [Qc Try.prog (.clos 115 [] []) [.int .i64 (f.stock.length:Int),.int .i64 1,.int .i64 8] (.bool (Qa (f.stock.length:Int) 1 8)),(!(Qa (f.stock.length:Int) 1 8))=false,((f.cash.length:Int) != (f.stock.length:Int))=false,Qc Try.prog (.clos 115 [] []) [.int .i64 f.purses,.int .i64 0,.int .i64 20] (.bool (Qa f.purses 0 20)),(!(Qa f.purses 0 20))=false,Qc Try.prog (.clos 115 [] []) [.int .i64 f.boxes,.int .i64 0,.int .i64 12] (.bool (Qa f.boxes 0 12)),(!(Qa f.boxes 0 12))=false,(decide ((f.bundles.length:Int) > 6))=false,Qc Try.prog (.clos 182 [] []) [.int .i64 0,.int .i64 100000] (.clos 183 [] [.rptr [.int .i64 0] 0,.rptr [.int .i64 100000] 0]),Qc Try.prog (.clos 76 [] []) [.rsl (rowI f.stock) 0 f.stock.length,.clos 183 [] [.rptr [.int .i64 0] 0,.rptr [.int .i64 100000] 0]] (.bool (f.stock.any (outB 0 100000))),(f.stock.any (outB 0 100000))=false,Qc Try.prog (.clos 182 [] []) [.int .i64 0,.int .i64 1000000] (.clos 183 [] [.rptr [.int .i64 0] 0,.rptr [.int .i64 1000000] 0]),Qc Try.prog (.clos 76 [] []) [.rsl (rowI f.cash) 0 f.cash.length,.clos 183 [] [.rptr [.int .i64 0] 0,.rptr [.int .i64 1000000] 0]] (.bool (f.cash.any (outB 0 1000000))),(f.cash.any (outB 0 1000000))=false,Qc Try.prog (.clos 115 [] []) [.int .i64 f.refund,.int .i64 0,.int .i64 1000] (.bool (Qa f.refund 0 1000)),(!(Qa f.refund 0 1000))=true,true=true,true=true,true=true] hE Try.func114 ⟨(u115 (Ql (f.stock.length:Int) 1 8)),hc0,hc1,(u115 (Ql f.purses 0 20)),hc2,(u115 (Ql f.boxes 0 12)),hc3,hc4,(u182 (VG 0 100000)),(Qk Try.func76 (by kernel_rfl) qR (XC f.stock 0 100000 h1)),hc5,(u182 (VG 0 1000000)),(Qk Try.func76 (by kernel_rfl) qR (XC f.cash 0 1000000 h2)),hc6,(u115 (Ql f.refund 0 1000)),hc7,rfl,rfl,rfl,trivial⟩ (by exact AvLe.of_eq (by rw [h]; try rfl))
               · have h:=h.2 (bnF hc7)
                 rcases bft (!(Qa f.band 0 1000000)) with hc8 | hc8
                 · have h:=h.1 (bnT hc8)
                   exact eL (.int .i64 10) [.v (.bool (Qa (f.stock.length:Int) 1 8)),.b false,.b false,.v (.bool (Qa f.purses 0 20)),.b false,.v (.bool (Qa f.boxes 0 12)),.b false,.b false,.v (.clos 183 [] [.rptr [.int .i64 0] 0,.rptr [.int .i64 100000] 0]),.v (.bool (f.stock.any (outB 0 100000))),.b false,.v (.clos 183 [] [.rptr [.int .i64 0] 0,.rptr [.int .i64 1000000] 0]),.v (.bool (f.cash.any (outB 0 1000000))),.b false,.v (.bool (Qa f.refund 0 1000)),.b false,.v (.bool (Qa f.band 0 1000000)),.b true,.b true,.b true] [Qc Try.prog (.clos 115 [] []) [.int .i64 (f.stock.length:Int),.int .i64 1,.int .i64 8] (.bool (Qa (f.stock.length:Int) 1 8)),(!(Qa (f.stock.length:Int) 1 8))=false,((f.cash.length:Int) != (f.stock.length:Int))=false,Qc Try.prog (.clos 115 [] []) [.int .i64 f.purses,.int .i64 0,.int .i64 20] (.bool (Qa f.purses 0 20)),(!(Qa f.purses 0 20))=false,Qc Try.prog (.clos 115 [] []) [.int .i64 f.boxes,.int .i64 0,.int .i64 12] (.bool (Qa f.boxes 0 12)),(!(Qa f.boxes 0 12))=false,(decide ((f.bundles.length:Int) > 6))=false,Qc Try.prog (.clos 182 [] []) [.int .i64 0,.int .i64 100000] (.clos 183 [] [.rptr [.int .i64 0] 0,.rptr [.int .i64 100000] 0]),Qc Try.prog (.clos 76 [] []) [.rsl (rowI f.stock) 0 f.stock.length,.clos 183 [] [.rptr [.int .i64 0] 0,.rptr [.int .i64 100000] 0]] (.bool (f.stock.any (outB 0 100000))),(f.stock.any (outB 0 100000))=false,Qc Try.prog (.clos 182 [] []) [.int .i64 0,.int .i64 1000000] (.clos 183 [] [.rptr [.int .i64 0] 0,.rptr [.int .i64 1000000] 0]),Qc Try.prog (.clos 76 [] []) [.rsl (rowI f.cash) 0 f.cash.length,.clos 183 [] [.rptr [.int .i64 0] 0,.rptr [.int .i64 1000000] 0]] (.bool (f.cash.any (outB 0 1000000))),(f.cash.any (outB 0 1000000))=false,Qc Try.prog (.clos 115 [] []) [.int .i64 f.refund,.int .i64 0,.int .i64 1000] (.bool (Qa f.refund 0 1000)),(!(Qa f.refund 0 1000))=false,Qc Try.prog (.clos 115 [] []) [.int .i64 f.band,.int .i64 0,.int .i64 1000000] (.bool (Qa f.band 0 1000000)),(!(Qa f.band 0 1000000))=true,true=true,true=true] hE Try.func114 ⟨(u115 (Ql (f.stock.length:Int) 1 8)),hc0,hc1,(u115 (Ql f.purses 0 20)),hc2,(u115 (Ql f.boxes 0 12)),hc3,hc4,(u182 (VG 0 100000)),(Qk Try.func76 (by kernel_rfl) qR (XC f.stock 0 100000 h1)),hc5,(u182 (VG 0 1000000)),(Qk Try.func76 (by kernel_rfl) qR (XC f.cash 0 1000000 h2)),hc6,(u115 (Ql f.refund 0 1000)),hc7,(u115 (Ql f.band 0 1000000)),hc8,rfl,rfl,trivial⟩ (by exact AvLe.of_eq (by rw [h]; try rfl))
                 · have h:=h.2 (bnF hc8)
                   rcases bft (!(Qa f.hours 1 1440)) with hc9 | hc9
                   · have h:=h.1 (bnT hc9)
                     exact eL (.int .i64 10) [.v (.bool (Qa (f.stock.length:Int) 1 8)),.b false,.b false,.v (.bool (Qa f.purses 0 20)),.b false,.v (.bool (Qa f.boxes 0 12)),.b false,.b false,.v (.clos 183 [] [.rptr [.int .i64 0] 0,.rptr [.int .i64 100000] 0]),.v (.bool (f.stock.any (outB 0 100000))),.b false,.v (.clos 183 [] [.rptr [.int .i64 0] 0,.rptr [.int .i64 1000000] 0]),.v (.bool (f.cash.any (outB 0 1000000))),.b false,.v (.bool (Qa f.refund 0 1000)),.b false,.v (.bool (Qa f.band 0 1000000)),.b false,.v (.bool (Qa f.hours 1 1440)),.b true,.b true] [Qc Try.prog (.clos 115 [] []) [.int .i64 (f.stock.length:Int),.int .i64 1,.int .i64 8] (.bool (Qa (f.stock.length:Int) 1 8)),(!(Qa (f.stock.length:Int) 1 8))=false,((f.cash.length:Int) != (f.stock.length:Int))=false,Qc Try.prog (.clos 115 [] []) [.int .i64 f.purses,.int .i64 0,.int .i64 20] (.bool (Qa f.purses 0 20)),(!(Qa f.purses 0 20))=false,Qc Try.prog (.clos 115 [] []) [.int .i64 f.boxes,.int .i64 0,.int .i64 12] (.bool (Qa f.boxes 0 12)),(!(Qa f.boxes 0 12))=false,(decide ((f.bundles.length:Int) > 6))=false,Qc Try.prog (.clos 182 [] []) [.int .i64 0,.int .i64 100000] (.clos 183 [] [.rptr [.int .i64 0] 0,.rptr [.int .i64 100000] 0]),Qc Try.prog (.clos 76 [] []) [.rsl (rowI f.stock) 0 f.stock.length,.clos 183 [] [.rptr [.int .i64 0] 0,.rptr [.int .i64 100000] 0]] (.bool (f.stock.any (outB 0 100000))),(f.stock.any (outB 0 100000))=false,Qc Try.prog (.clos 182 [] []) [.int .i64 0,.int .i64 1000000] (.clos 183 [] [.rptr [.int .i64 0] 0,.rptr [.int .i64 1000000] 0]),Qc Try.prog (.clos 76 [] []) [.rsl (rowI f.cash) 0 f.cash.length,.clos 183 [] [.rptr [.int .i64 0] 0,.rptr [.int .i64 1000000] 0]] (.bool (f.cash.any (outB 0 1000000))),(f.cash.any (outB 0 1000000))=false,Qc Try.prog (.clos 115 [] []) [.int .i64 f.refund,.int .i64 0,.int .i64 1000] (.bool (Qa f.refund 0 1000)),(!(Qa f.refund 0 1000))=false,Qc Try.prog (.clos 115 [] []) [.int .i64 f.band,.int .i64 0,.int .i64 1000000] (.bool (Qa f.band 0 1000000)),(!(Qa f.band 0 1000000))=false,Qc Try.prog (.clos 115 [] []) [.int .i64 f.hours,.int .i64 1,.int .i64 1440] (.bool (Qa f.hours 1 1440)),(!(Qa f.hours 1 1440))=true,true=true] hE Try.func114 ⟨(u115 (Ql (f.stock.length:Int) 1 8)),hc0,hc1,(u115 (Ql f.purses 0 20)),hc2,(u115 (Ql f.boxes 0 12)),hc3,hc4,(u182 (VG 0 100000)),(Qk Try.func76 (by kernel_rfl) qR (XC f.stock 0 100000 h1)),hc5,(u182 (VG 0 1000000)),(Qk Try.func76 (by kernel_rfl) qR (XC f.cash 0 1000000 h2)),hc6,(u115 (Ql f.refund 0 1000)),hc7,(u115 (Ql f.band 0 1000000)),hc8,(u115 (Ql f.hours 1 1440)),hc9,rfl,trivial⟩ (by exact AvLe.of_eq (by rw [h]; try rfl))
                   · have h:=h.2 (bnF hc9)
                     obtain ⟨h3,h⟩:=h
                     rcases bft (f.bundles.any (badB f)) with hc10 | hc10
                     · have h:=h.1 hc10
                       exact eL (.int .i64 10) [.v (.bool (Qa (f.stock.length:Int) 1 8)),.b false,.b false,.v (.bool (Qa f.purses 0 20)),.b false,.v (.bool (Qa f.boxes 0 12)),.b false,.b false,.v (.clos 183 [] [.rptr [.int .i64 0] 0,.rptr [.int .i64 100000] 0]),.v (.bool (f.stock.any (outB 0 100000))),.b false,.v (.clos 183 [] [.rptr [.int .i64 0] 0,.rptr [.int .i64 1000000] 0]),.v (.bool (f.cash.any (outB 0 1000000))),.b false,.v (.bool (Qa f.refund 0 1000)),.b false,.v (.bool (Qa f.band 0 1000000)),.b false,.v (.bool (Qa f.hours 1 1440)),.b false,.v (.bool (f.bundles.any (badB f))),.b true] [Qc Try.prog (.clos 115 [] []) [.int .i64 (f.stock.length:Int),.int .i64 1,.int .i64 8] (.bool (Qa (f.stock.length:Int) 1 8)),(!(Qa (f.stock.length:Int) 1 8))=false,((f.cash.length:Int) != (f.stock.length:Int))=false,Qc Try.prog (.clos 115 [] []) [.int .i64 f.purses,.int .i64 0,.int .i64 20] (.bool (Qa f.purses 0 20)),(!(Qa f.purses 0 20))=false,Qc Try.prog (.clos 115 [] []) [.int .i64 f.boxes,.int .i64 0,.int .i64 12] (.bool (Qa f.boxes 0 12)),(!(Qa f.boxes 0 12))=false,(decide ((f.bundles.length:Int) > 6))=false,Qc Try.prog (.clos 182 [] []) [.int .i64 0,.int .i64 100000] (.clos 183 [] [.rptr [.int .i64 0] 0,.rptr [.int .i64 100000] 0]),Qc Try.prog (.clos 76 [] []) [.rsl (rowI f.stock) 0 f.stock.length,.clos 183 [] [.rptr [.int .i64 0] 0,.rptr [.int .i64 100000] 0]] (.bool (f.stock.any (outB 0 100000))),(f.stock.any (outB 0 100000))=false,Qc Try.prog (.clos 182 [] []) [.int .i64 0,.int .i64 1000000] (.clos 183 [] [.rptr [.int .i64 0] 0,.rptr [.int .i64 1000000] 0]),Qc Try.prog (.clos 76 [] []) [.rsl (rowI f.cash) 0 f.cash.length,.clos 183 [] [.rptr [.int .i64 0] 0,.rptr [.int .i64 1000000] 0]] (.bool (f.cash.any (outB 0 1000000))),(f.cash.any (outB 0 1000000))=false,Qc Try.prog (.clos 115 [] []) [.int .i64 f.refund,.int .i64 0,.int .i64 1000] (.bool (Qa f.refund 0 1000)),(!(Qa f.refund 0 1000))=false,Qc Try.prog (.clos 115 [] []) [.int .i64 f.band,.int .i64 0,.int .i64 1000000] (.bool (Qa f.band 0 1000000)),(!(Qa f.band 0 1000000))=false,Qc Try.prog (.clos 115 [] []) [.int .i64 f.hours,.int .i64 1,.int .i64 1440] (.bool (Qa f.hours 1 1440)),(!(Qa f.hours 1 1440))=false,Qc Try.prog (.clos 184 [] []) [.rsl (YY f.bundles) 0 f.bundles.length,.clos 185 [] [.rptr [.int .i64 f.purses,.int .i64 f.boxes,.rsl (rowI f.stock) 0 f.stock.length,.rsl (rowI f.cash) 0 f.cash.length,.rsl (YY f.bundles) 0 f.bundles.length,.int .i64 f.refund,.int .i64 f.band,.int .i64 f.hours] 0]] (.bool (f.bundles.any (badB f))),(f.bundles.any (badB f))=true] hE Try.func114 ⟨(u115 (Ql (f.stock.length:Int) 1 8)),hc0,hc1,(u115 (Ql f.purses 0 20)),hc2,(u115 (Ql f.boxes 0 12)),hc3,hc4,(u182 (VG 0 100000)),(Qk Try.func76 (by kernel_rfl) qR (XC f.stock 0 100000 h1)),hc5,(u182 (VG 0 1000000)),(Qk Try.func76 (by kernel_rfl) qR (XC f.cash 0 1000000 h2)),hc6,(u115 (Ql f.refund 0 1000)),hc7,(u115 (Ql f.band 0 1000000)),hc8,(u115 (Ql f.hours 1 1440)),hc9,(Qk Try.func184 (by kernel_rfl) f184bb (anyBad_ok f.bundles f h3)),hc10,trivial⟩ (by exact AvLe.of_eq (by rw [h]; try rfl))
                     · have h:=h.2 hc10
                       exact eL (.int .i64 0) [.v (.bool (Qa (f.stock.length:Int) 1 8)),.b false,.b false,.v (.bool (Qa f.purses 0 20)),.b false,.v (.bool (Qa f.boxes 0 12)),.b false,.b false,.v (.clos 183 [] [.rptr [.int .i64 0] 0,.rptr [.int .i64 100000] 0]),.v (.bool (f.stock.any (outB 0 100000))),.b false,.v (.clos 183 [] [.rptr [.int .i64 0] 0,.rptr [.int .i64 1000000] 0]),.v (.bool (f.cash.any (outB 0 1000000))),.b false,.v (.bool (Qa f.refund 0 1000)),.b false,.v (.bool (Qa f.band 0 1000000)),.b false,.v (.bool (Qa f.hours 1 1440)),.b false,.v (.bool (f.bundles.any (badB f))),.b false] [Qc Try.prog (.clos 115 [] []) [.int .i64 (f.stock.length:Int),.int .i64 1,.int .i64 8] (.bool (Qa (f.stock.length:Int) 1 8)),(!(Qa (f.stock.length:Int) 1 8))=false,((f.cash.length:Int) != (f.stock.length:Int))=false,Qc Try.prog (.clos 115 [] []) [.int .i64 f.purses,.int .i64 0,.int .i64 20] (.bool (Qa f.purses 0 20)),(!(Qa f.purses 0 20))=false,Qc Try.prog (.clos 115 [] []) [.int .i64 f.boxes,.int .i64 0,.int .i64 12] (.bool (Qa f.boxes 0 12)),(!(Qa f.boxes 0 12))=false,(decide ((f.bundles.length:Int) > 6))=false,Qc Try.prog (.clos 182 [] []) [.int .i64 0,.int .i64 100000] (.clos 183 [] [.rptr [.int .i64 0] 0,.rptr [.int .i64 100000] 0]),Qc Try.prog (.clos 76 [] []) [.rsl (rowI f.stock) 0 f.stock.length,.clos 183 [] [.rptr [.int .i64 0] 0,.rptr [.int .i64 100000] 0]] (.bool (f.stock.any (outB 0 100000))),(f.stock.any (outB 0 100000))=false,Qc Try.prog (.clos 182 [] []) [.int .i64 0,.int .i64 1000000] (.clos 183 [] [.rptr [.int .i64 0] 0,.rptr [.int .i64 1000000] 0]),Qc Try.prog (.clos 76 [] []) [.rsl (rowI f.cash) 0 f.cash.length,.clos 183 [] [.rptr [.int .i64 0] 0,.rptr [.int .i64 1000000] 0]] (.bool (f.cash.any (outB 0 1000000))),(f.cash.any (outB 0 1000000))=false,Qc Try.prog (.clos 115 [] []) [.int .i64 f.refund,.int .i64 0,.int .i64 1000] (.bool (Qa f.refund 0 1000)),(!(Qa f.refund 0 1000))=false,Qc Try.prog (.clos 115 [] []) [.int .i64 f.band,.int .i64 0,.int .i64 1000000] (.bool (Qa f.band 0 1000000)),(!(Qa f.band 0 1000000))=false,Qc Try.prog (.clos 115 [] []) [.int .i64 f.hours,.int .i64 1,.int .i64 1440] (.bool (Qa f.hours 1 1440)),(!(Qa f.hours 1 1440))=false,Qc Try.prog (.clos 184 [] []) [.rsl (YY f.bundles) 0 f.bundles.length,.clos 185 [] [.rptr [.int .i64 f.purses,.int .i64 f.boxes,.rsl (rowI f.stock) 0 f.stock.length,.rsl (rowI f.cash) 0 f.cash.length,.rsl (YY f.bundles) 0 f.bundles.length,.int .i64 f.refund,.int .i64 f.band,.int .i64 f.hours] 0]] (.bool (f.bundles.any (badB f))),(f.bundles.any (badB f))=false] hE Try.func114 ⟨(u115 (Ql (f.stock.length:Int) 1 8)),hc0,hc1,(u115 (Ql f.purses 0 20)),hc2,(u115 (Ql f.boxes 0 12)),hc3,hc4,(u182 (VG 0 100000)),(Qk Try.func76 (by kernel_rfl) qR (XC f.stock 0 100000 h1)),hc5,(u182 (VG 0 1000000)),(Qk Try.func76 (by kernel_rfl) qR (XC f.cash 0 1000000 h2)),hc6,(u115 (Ql f.refund 0 1000)),hc7,(u115 (Ql f.band 0 1000000)),hc8,(u115 (Ql f.hours 1 1440)),hc9,(Qk Try.func184 (by kernel_rfl) f184bb (anyBad_ok f.bundles f h3)),hc10,trivial⟩ (by exact AvLe.of_eq (by rw [h]; try rfl))
def Vt (f:Fair):Bool:=Qa f.stock.length 1 8 && (decide (f.cash.length=f.stock.length) && (Qa f.purses 0 20 && (Qa f.boxes 0 12 && (decide (f.bundles.length≤6) && (!(f.stock.any (outB 0 100000)) && (!(f.cash.any (outB 0 1000000)) && (Qa f.refund 0 1000 && (Qa f.band 0 1000000 && (Qa f.hours 1 1440 && !(f.bundles.any (badB f)))))))))))
def VM (f:Fair):Int:=if Vt f=true then 0 else 10
structure FairSmall (f:Fair):Prop where
 stock:f.stock.length≤1000
 cash:f.cash.length≤1000
 bundles:f.bundles.length≤1000
theorem XT {f:Fair} (h:Vt f=false):VM f=10:=by unfold VM; rw [if_neg (by rw [h]; exact Bool.false_ne_true)]
theorem Kz (f:Fair) (hs:FairSmall f):Pure Try.prog 114 [.agg [.int .i64 f.purses,.int .i64 f.boxes,.rsl (rowI f.stock) 0 f.stock.length,.rsl (rowI f.cash) 0 f.cash.length,.rsl (YY f.bundles) 0 f.bundles.length,.int .i64 f.refund,.int .i64 f.band,.int .i64 f.hours]] (.int .i64 (VM f)):=Qt Try.func114 f114b fun E hE=>by
 have s1:=hs.stock
 have s2:=hs.cash
 have s3:=hs.bundles
 refine f114W f (rv:=VM f) hE ⟨fun h1=>XT ?_,fun h1=>⟨fun h2=>XT ?_,fun h2=>⟨fun h3=>XT ?_,fun h3=>⟨fun h4=>XT ?_,fun h4=>⟨fun h5=>XT ?_,fun h5=>⟨by omega,fun h6=>XT ?_,fun h6=>⟨by omega,fun h7=>XT ?_,fun h7=>⟨fun h8=>XT ?_,fun h8=>⟨fun h9=>XT ?_,fun h9=>⟨fun h10=>XT ?_,fun h10=>⟨⟨fun x _=>?_,by omega⟩,fun h11=>XT ?_,fun h11=>?_⟩⟩⟩⟩⟩⟩⟩⟩⟩⟩⟩
 · unfold Vt; rw [h1]; rfl
 · unfold Vt; rw [decide_eq_false (show ¬ f.cash.length=f.stock.length by omega),Bool.false_and,Bool.and_false]
 · unfold Vt; rw [h3]; simp
 · unfold Vt; rw [h4]; simp
 · unfold Vt; rw [decide_eq_false (show ¬ f.bundles.length≤6 by omega)]; simp
 · unfold Vt; rw [h6]; simp
 · unfold Vt; rw [h7]; simp
 · unfold Vt; rw [h8]; simp
 · unfold Vt; rw [h9]; simp
 · unfold Vt; rw [h10]; simp
 · exact YK.1 h8
 · unfold Vt; rw [h11]; simp
 · unfold VM
   rw [if_pos]
   unfold Vt
   rw [h1,h3,h4,h6,h7,h8,h9,h10,h11,decide_eq_true (show f.cash.length=f.stock.length by omega),decide_eq_true (show f.bundles.length≤6 by omega)]; rfl
end Go.Proofs.Ytemklbioijmjiaa
namespace Go.Proofs.Ytemklbioijmjiaa
open Go Ax
open Go.Proofs
abbrev NN:Int:=1152921504606846976
/-- The prices so far. -/
def LP (f:Nat→Int) (j:Nat):List Int:=(List.range 1008).map fun i=>if i<j then f i else NN
theorem QbG {f:Nat→Int} {j:Nat}:(LP f j).length=1008:=by simp [LP]
theorem Vw {f:Nat→Int} {j i:Nat} (h:i<1008):(LP f j)[i]?=some (if i<j then f i else NN):=by
 unfold LP; rw [List.getElem?_map,List.getElem?_range h]; rfl
theorem LP_set {f:Nat→Int} {j:Nat} (h:j<1008):(LP f j).set j (f j)=LP f (j+1):=by
 refine List.ext_getElem? fun i=>?_
 by_cases hi:i<1008
 · rw [Vw hi]
   by_cases e:j=i
   · subst e
     rw [List.getElem?_set_self (by rw [QbG]; omega),if_pos (by omega)]
   · rw [List.getElem?_set_ne e,Vw hi]
     by_cases c:i<j
     · rw [if_pos c,if_pos (by omega)]
     · rw [if_neg c,if_neg (by omega)]
 · rw [List.getElem?_eq_none (by rw [List.length_set,QbG]; omega),List.getElem?_eq_none (by rw [QbG]; omega)]
theorem LP_zero {f:Nat→Int}:List.replicate 1008 NN=LP f 0:=by
 refine List.ext_getElem? fun i=>?_
 by_cases hi:i<1008
 · rw [Vw hi,List.getElem?_replicate,if_pos hi,if_neg (by omega)]
 · rw [List.getElem?_eq_none (by simp; omega),List.getElem?_eq_none (by rw [QbG]; omega)]
def c1 (t:Nat):Int:=if t % 6=0 then 1000*((t / 6:Nat):Int) else NN
def c0 (t:Nat):Int:=1000*((t / 6:Nat):Int)+200*((t % 6:Nat):Int)
def r2:List Int:=(List.replicate 1008 NN).set 0 0
theorem r2_get {j:Nat} (h:j<1008):r2[j]?=some (if j=0 then 0 else NN):=by
 unfold r2
 by_cases e:j=0
 · subst e; rw [List.getElem?_set_self (by simp),if_pos rfl]
 · rw [List.getElem?_set_ne (by omega),List.getElem?_replicate,if_pos h,if_neg e]
theorem qW {t:Nat} (h:t<1008) (h6:t % 6=0):c1 t=1000*((t / 6:Nat):Int)∧0≤c1 t∧c1 t≤200000:=by
 unfold c1; rw [if_pos h6]; omega
theorem QaC {t:Nat} (h6:¬ t % 6=0):c1 t=NN:=by unfold c1; rw [if_neg h6]
theorem c0_bd {t:Nat} (h:t<1008):0≤c0 t∧c0 t≤200000:=by unfold c0; omega
theorem c0_step {j:Nat} (h0:1≤j) (h:j<1008):iMin (c1 j) (c0 (j - 1)+200)=c0 j:=by
 unfold iMin
 by_cases h6:j % 6=0
 · obtain ⟨e,-,-⟩:=qW h h6
   rw [e]
   unfold c0
   rw [if_neg (by omega)]; omega
 · rw [QaC h6]
   unfold c0 NN
   rw [if_pos (by omega)]; omega
theorem c1_step {j:Nat} (h0:6≤j) (h:j<1008) (h6:(j - 6) % 6=0):iMin NN (c1 (j - 6)+1000)=c1 j:=by
 obtain ⟨e,-,-⟩:=qW (t:=j - 6) (by omega) h6
 obtain ⟨e',-,-⟩:=qW (t:=j) (by omega) (by omega)
 rw [e,e']
 unfold iMin NN
 rw [if_pos (by omega)]; omega
theorem f186b:Try.f186.body=some (Qf Try.prog 186):=by kernel_rfl
theorem u186 {a c k:List AV} {r:AV} (h:Pure Try.prog 186 (a++c++k) r):Qc Try.prog (.clos 186 a k) c r:=Qk Try.func186 (by kernel_rfl) f186b h
def f186K2 (P:Program):List Item:=kAt 400 [.code (Qf P 186)] [.b true,.b true,.b true,.b false,.b true,.b false,.b true,.stop]
def f186S2 (v4:List Int) (v6:List Int) (j:Nat) (v2:List Int) (g4:Nat) (g6:Nat) (g2:Nat):St:=⟨([.rsl [.int .i64 1,.int .i64 200,.int .i64 6,.int .i64 1000] 0 2,.int .i64 7,J,J,J,J,.int .i64 1007,.sl 0 0 0 3 1,J,.int .i64 0]++jj 43 ([.int .i64 (((List.replicate (Int.toNat (1008:Int)) (1152921504606846976:Int)).length:Nat):Int),.int .i64 (j:Int)]++Js 163)),[⟨true,0,1,false,[.sl 2 g2 0 v2.length 1,.sl 4 g4 0 v4.length 1,.sl 6 g6 0 v6.length 1],true⟩,⟨false,1,1,true,[],false⟩,⟨true,g2,1,true,(rowI v2),true⟩,⟨false,1,1,true,[],false⟩,⟨true,g4,1,true,(rowI v4),true⟩,⟨false,1,1,true,[],false⟩,⟨true,g6,1,true,(rowI v6),true⟩]⟩
def Qbo (E:Env) (v4:List Int) (v6:List Int) (j:Nat) (v2:List Int):Prop:=∀ g4 g6 g2:Nat,G Try.prog E (f186K2 Try.prog) (f186S2 v4 v6 j v2 g4 g6 g2)
def f186K3 (P:Program):List Item:=kAt 400 [.code (Qf P 186)] [.b true,.b true,.b true,.b false,.b true,.b false,.b true,.b false,.b false,.stop]
def f186S3 (v2:List Int) (v4:List Int) (v6:List Int) (t:Nat) (tokens:Nat) (g2:Nat) (g4:Nat) (g6:Nat):St:=⟨([.rsl [.int .i64 1,.int .i64 200,.int .i64 6,.int .i64 1000] 0 2]++jj 5 ([.int .i64 1007,.sl 0 0 0 3 1,J,J,J,J,.int .i64 (tokens:Int),.int .i64 (t:Int)]++Js 204)),[⟨true,0,1,false,[.sl 2 g2 0 v2.length 1,.sl 4 g4 0 v4.length 1,.sl 6 g6 0 v6.length 1],true⟩,⟨false,1,1,true,[],false⟩,⟨true,g2,1,true,(rowI v2),true⟩,⟨false,1,1,true,[],false⟩,⟨true,g4,1,true,(rowI v4),true⟩,⟨false,1,1,true,[],false⟩,⟨true,g6,1,true,(rowI v6),true⟩]⟩
def f186G3 (E:Env) (v2:List Int) (v4:List Int) (v6:List Int) (t:Nat) (tokens:Nat):Prop:=∀ g2 g4 g6:Nat,G Try.prog E (f186K3 Try.prog) (f186S3 v2 v4 v6 t tokens g2 g4 g6)
def f186K5 (P:Program):List Item:=kAt 400 [.code (Qf P 186)] [.b true,.b true,.b true,.b false,.b true,.b false,.b true,.b false,.b false,.b false,.b false,.b true,.stop]
def f186S5 (price:Int) (tokens:Int) (left:Int) (v2:List Int) (v4:List Int) (v6:List Int) (v7_0:Nat) (g2:Nat) (g4:Nat) (g6:Nat):St:=⟨([J,J,J,J,.sl 7 0 0 2 1,.int .i64 price,J,.sl 0 0 0 3 1,J,J,J,J,.int .i64 tokens,J,.int .i64 0,.ptr 8 0 0,.int .i64 left]++jj 133 ([.rsl [.int .i64 1,.int .i64 200,.int .i64 6,.int .i64 1000] 0 2,.int .i64 2,.int .i64 0]++Js 65)),[⟨true,0,1,false,[.sl 2 g2 0 v2.length 1,.sl 4 g4 0 v4.length 1,.sl 6 g6 0 v6.length 1],true⟩,⟨false,1,1,true,[],false⟩,⟨true,g2,1,true,(rowI v2),true⟩,⟨false,1,1,true,[],false⟩,⟨true,g4,1,true,(rowI v4),true⟩,⟨false,1,1,true,[],false⟩,⟨true,g6,1,true,(rowI v6),true⟩,⟨true,0,1,true,[.int .i64 (v7_0:Int),.int .i64 0],true⟩,⟨true,0,1,true,[.int .i64 1,.int .i64 200],false⟩]⟩
def f186G5 (E:Env) (price:Int) (tokens:Int) (left:Int) (v2:List Int) (v4:List Int) (v6:List Int) (v7_0:Nat):Prop:=∀ g2 g4 g6:Nat,G Try.prog E (f186K5 Try.prog) (f186S5 price tokens left v2 v4 v6 v7_0 g2 g4 g6)
def Wu (P:Program):List Item:=kAt 400 [.code (Qf P 186)] [.b true,.b true,.b true,.b false,.b true,.stop]
def Wt (v6:List Int) (j:Nat) (v4:List Int) (g6:Nat) (g4:Nat):St:=⟨([.rsl [.int .i64 1,.int .i64 200,.int .i64 6,.int .i64 1000] 0 2,.int .i64 7,J,J,J,J,.int .i64 1007,.sl 0 0 0 3 1,J,.int .i64 1]++jj 43 ([.int .i64 (((List.replicate (Int.toNat (1008:Int)) (1152921504606846976:Int)).length:Nat):Int),.int .i64 (j:Int)]++Js 163)),[⟨true,0,1,false,[.sl 2 0 0 ((List.replicate (Int.toNat (1008:Int)) (1152921504606846976:Int)).length) 1,.sl 4 g4 0 v4.length 1,.sl 6 g6 0 v6.length 1],true⟩,⟨false,1,1,true,[],false⟩,⟨true,0,1,true,(rowI (List.replicate (Int.toNat (1008:Int)) (1152921504606846976:Int))),true⟩,⟨false,1,1,true,[],false⟩,⟨true,g4,1,true,(rowI v4),true⟩,⟨false,1,1,true,[],false⟩,⟨true,g6,1,true,(rowI v6),true⟩]⟩
def VN (E:Env) (v6:List Int) (j:Nat) (v4:List Int):Prop:=∀ g6 g4:Nat,G Try.prog E (Wu Try.prog) (Wt v6 j v4 g6 g4)
def f186K1005 (P:Program):List Item:=kAt 400 [.code (Qf P 186)] [.b true,.b true,.b true,.b false,.b true,.b false,.b true,.b false,.b false,.b false,.b false,.b true,.b false,.b true,.stop]
def f186S1005 (price:Int) (tokens:Int) (left:Int) (v2:List Int) (v4:List Int) (v6:List Int) (v7_0:Nat) (v7_1:Nat) (g2:Nat) (g4:Nat) (g6:Nat):St:=⟨([J,J,J,J,.sl 7 0 0 2 1,.int .i64 price,J,.sl 0 0 0 3 1,J,J,J,J,.int .i64 tokens,J,.int .i64 1,.ptr 9 0 0,.int .i64 left]++jj 133 ([.rsl [.int .i64 1,.int .i64 200,.int .i64 6,.int .i64 1000] 0 2,.int .i64 2,.int .i64 1]++Js 65)),[⟨true,0,1,false,[.sl 2 g2 0 v2.length 1,.sl 4 g4 0 v4.length 1,.sl 6 g6 0 v6.length 1],true⟩,⟨false,1,1,true,[],false⟩,⟨true,g2,1,true,(rowI v2),true⟩,⟨false,1,1,true,[],false⟩,⟨true,g4,1,true,(rowI v4),true⟩,⟨false,1,1,true,[],false⟩,⟨true,g6,1,true,(rowI v6),true⟩,⟨true,0,1,true,[.int .i64 (v7_0:Int),.int .i64 (v7_1:Int)],true⟩,⟨true,0,1,true,[.int .i64 1,.int .i64 200],false⟩,⟨true,0,1,true,[.int .i64 6,.int .i64 1000],false⟩]⟩
def Vg (E:Env) (price:Int) (tokens:Int) (left:Int) (v2:List Int) (v4:List Int) (v6:List Int) (v7_0:Nat) (v7_1:Nat):Prop:=∀ g2 g4 g6:Nat,G Try.prog E (f186K1005 Try.prog) (f186S1005 price tokens left v2 v4 v6 v7_0 v7_1 g2 g4 g6)
theorem f186W {E:Env} {rv:((List Int) × Int)} (hE:Qr Try.prog 186 (.tup [.rsl (rowI rv.1) 0 rv.1.length,.int .i64 rv.2]) E)
 (h:(((1:Int)≤(1008:Int)∧(1008:Int)≤2147483648)∧(((1:Int)≤(1008:Int)∧(1008:Int)≤2147483648)∧(((1:Int)≤(1008:Int)∧(1008:Int)≤2147483648)∧(∃ e:Int,(List.replicate (Int.toNat (1008:Int)) (1152921504606846976:Int))[0]?=some e∧VN E ((List.replicate (Int.toNat (1008:Int)) (1152921504606846976:Int)).set 0 0) 0 (List.replicate (Int.toNat (1008:Int)) (1152921504606846976:Int))))))):G Try.prog E [.code (Qf Try.prog 186)] ⟨[.rsl [.int .i64 1,.int .i64 200,.int .i64 6,.int .i64 1000] 0 2,.int .i64 7]++unds (Try.f186.ntmps - 2),[]⟩:=by
 obtain ⟨h1,h⟩:=h
 obtain ⟨h2,h⟩:=h
 obtain ⟨h3,h⟩:=h
 obtain ⟨e,h4,h⟩:=h
 refine sP (Wu Try.prog) ⟨([.rsl [.int .i64 1,.int .i64 200,.int .i64 6,.int .i64 1000] 0 2,.int .i64 7,J,J,J,J,.int .i64 1007,.sl 0 0 0 3 1,J,.int .i64 1]++jj 43 ([.int .i64 (((List.replicate (Int.toNat (1008:Int)) (1152921504606846976:Int)).length:Nat):Int),.int .i64 0]++Js 163)),[⟨true,0,1,false,[.sl 2 0 0 ((List.replicate (Int.toNat (1008:Int)) (1152921504606846976:Int)).length) 1,.sl 4 0 0 ((List.replicate (Int.toNat (1008:Int)) (1152921504606846976:Int)).length) 1,.sl 6 0 0 ((List.replicate (Int.toNat (1008:Int)) (1152921504606846976:Int)).length) 1],true⟩,⟨false,1,1,true,[],false⟩,⟨true,0,1,true,(rowI (List.replicate (Int.toNat (1008:Int)) (1152921504606846976:Int))),true⟩,⟨false,1,1,true,[],false⟩,⟨true,0,1,true,(rowI (List.replicate (Int.toNat (1008:Int)) (1152921504606846976:Int))),true⟩,⟨false,1,1,true,[],false⟩,⟨true,0,1,true,(Qv (rowI (List.replicate (Int.toNat (1008:Int)) (1152921504606846976:Int))) (0+0*1) [.int .i64 0]),true⟩]⟩ [0,1,6,7,9,53,54] 7 [.b true,.vn .junk,.lent [] (.sl 0 0 0 ((List.replicate (Int.toNat (1008:Int)) (1152921504606846976:Int)).length) 1) [⟨true,0,1,true,(rowI (List.replicate (Int.toNat (1008:Int)) (1152921504606846976:Int))),true⟩],.b true,.vn .junk,.lent [] (.sl 0 0 0 ((List.replicate (Int.toNat (1008:Int)) (1152921504606846976:Int)).length) 1) [⟨true,0,1,true,(rowI (List.replicate (Int.toNat (1008:Int)) (1152921504606846976:Int))),true⟩],.b true,.vn .junk,.lent [] (.sl 0 0 0 ((List.replicate (Int.toNat (1008:Int)) (1152921504606846976:Int)).length) 1) [⟨true,0,1,true,(rowI (List.replicate (Int.toNat (1008:Int)) (1152921504606846976:Int))),true⟩],.b false,.b true,.stop] [InR .i64 1007,InR .i64 3,(0:Int)≤3∧(3:Int)≤3∧(3:Int)≤2147483648,0=0,true=true,(∀ k,slOf 0 k (.sl k 0 0 1 1)=true),InR .i64 1008,Yk Try.prog (.clos 55 [] []) [.rsl [.int .i64 1152921504606846976] 0 1,.int .i64 1008] [] (.sl 0 0 0 ((List.replicate (Int.toNat (1008:Int)) (1152921504606846976:Int)).length) 1) [⟨true,0,1,true,(rowI (List.replicate (Int.toNat (1008:Int)) (1152921504606846976:Int))),true⟩],(0:Int)≤0∧(0:Int)<((3:Nat):Int),0=0,1≤3,0=0,InR .i64 1,true=true,(∀ k,slOf 0 k (.sl k 0 0 1 1)=true),InR .i64 1008,Yk Try.prog (.clos 55 [] []) [.rsl [.int .i64 1152921504606846976] 0 1,.int .i64 1008] [] (.sl 0 0 0 ((List.replicate (Int.toNat (1008:Int)) (1152921504606846976:Int)).length) 1) [⟨true,0,1,true,(rowI (List.replicate (Int.toNat (1008:Int)) (1152921504606846976:Int))),true⟩],(0:Int)≤1∧(1:Int)<((3:Nat):Int),0=0,2≤3,0=0,InR .i64 2,true=true,(∀ k,slOf 0 k (.sl k 0 0 1 1)=true),InR .i64 1008,Yk Try.prog (.clos 55 [] []) [.rsl [.int .i64 1152921504606846976] 0 1,.int .i64 1008] [] (.sl 0 0 0 ((List.replicate (Int.toNat (1008:Int)) (1152921504606846976:Int)).length) 1) [⟨true,0,1,true,(rowI (List.replicate (Int.toNat (1008:Int)) (1152921504606846976:Int))),true⟩],(0:Int)≤2∧(2:Int)<((3:Nat):Int),0=0,3≤3,0=0,InR .i64 3,false=false,(0:Int)≤2∧(2:Int)<((3:Nat):Int),0=0,0=0,(0:Int)≤0∧(0:Int)<(((List.replicate (Int.toNat (1008:Int)) (1152921504606846976:Int)).length:Nat):Int),0=0,((0+0*1)+1)≤(rowI (List.replicate (Int.toNat (1008:Int)) (1152921504606846976:Int))).length,0=0,InR .i64 1,true=true,(0:Int)≤1∧(1:Int)<((3:Nat):Int),0=0,0=0,0=0] hE ⟨(⟨by decide,by decide⟩),(⟨by decide,by decide⟩),(⟨by decide,by decide,by decide⟩),rfl,rfl,(fun k=>by simp [slOf]),(⟨by decide,by decide⟩),(QK Try.func55 (by kernel_rfl) f55b (KD (1152921504606846976:Int) (1008:Int) h1)),(⟨by decide,by decide⟩),rfl,(by decide),rfl,(⟨by decide,by decide⟩),rfl,(fun k=>by simp [slOf]),(⟨by decide,by decide⟩),(QK Try.func55 (by kernel_rfl) f55b (KD (1152921504606846976:Int) (1008:Int) h2)),(⟨by decide,by decide⟩),rfl,(by decide),rfl,(⟨by decide,by decide⟩),rfl,(fun k=>by simp [slOf]),(⟨by decide,by decide⟩),(QK Try.func55 (by kernel_rfl) f55b (KD (1152921504606846976:Int) (1008:Int) h3)),(⟨by decide,by decide⟩),rfl,(by decide),rfl,(⟨by decide,by decide⟩),rfl,(⟨by decide,by decide⟩),rfl,rfl,(Qm h4),rfl,(rf cI 1 0 1 h4),rfl,(⟨by decide,by decide⟩),rfl,(⟨by decide,by decide⟩),rfl,rfl,rfl,trivial⟩ ?_
 have h:=(h 0 0)
 simp only [Wt,List.length_set] at h
 rw [(show Qv (rowI (List.replicate (Int.toNat (1008:Int)) (1152921504606846976:Int))) (0+0*1) [.int .i64 0]=rowI ((List.replicate (Int.toNat (1008:Int)) (1152921504606846976:Int)).set 0 0) from QH cI (s:=1) (k:=0) (fun _=>rfl) h4 rfl (by first | decide | simp))]
 exact h
theorem f186W1002 (v6:List Int) (j:Nat) (v4:List Int) {E:Env} {rv:((List Int) × Int)} (hE:Qr Try.prog 186 (.tup [.rsl (rowI rv.1) 0 rv.1.length,.int .i64 rv.2]) E)
 (h:(((j:Int)<(((List.replicate (Int.toNat (1008:Int)) (1152921504606846976:Int)).length:Nat):Int)→(∃ e:Int,v6[j]?=some e∧(∃ e1:Int,v4[j]?=some e1∧((I6 ((j:Int) - 6))∧((((j:Int) - 6)≥0→(0≤((j:Int) - 6)∧(∃ e2:Int,(v4.set j e)[Int.toNat ((j:Int) - 6)]?=some e2∧((e2<1152921504606846976→(∃ e3:Int,(v4.set j e)[j]?=some e3∧((I6 (e2+1000))∧((I6 ((j:Int)+1))∧VN E v6 (j+1) ((v4.set j e).set j (iMin e3 (e2+1000)))))))∧(¬ (e2<1152921504606846976)→((I6 ((j:Int)+1))∧VN E v6 (j+1) (v4.set j e)))))))∧(¬ (((j:Int) - 6)≥0)→((I6 ((j:Int)+1))∧VN E v6 (j+1) (v4.set j e))))))))∧(¬ ((j:Int)<(((List.replicate (Int.toNat (1008:Int)) (1152921504606846976:Int)).length:Nat):Int))→Qbo E v4 v6 0 (List.replicate (Int.toNat (1008:Int)) (1152921504606846976:Int))))):VN E v6 j v4:=by
 intro g6 g4
 rcases bft (decide ((j:Int)<(((List.replicate (Int.toNat (1008:Int)) (1152921504606846976:Int)).length:Nat):Int))) with hc0 | hc0
 · have h:=h.1 (odt hc0)
   obtain ⟨e,h1,h⟩:=h
   obtain ⟨e1,h2,h⟩:=h
   obtain ⟨q19_1,h⟩:=h
   rcases bft (decide (((j:Int) - 6)≥0)) with hc1 | hc1
   · have h:=h.1 (odt hc1)
     obtain ⟨h4,h⟩:=h
     obtain ⟨e2,h3,h⟩:=h
     rcases bft (decide (e2<1152921504606846976)) with hc2 | hc2
     · have h:=h.1 (odt hc2)
       obtain ⟨e3,h5,h⟩:=h
       obtain ⟨q49_3,h⟩:=h
       obtain ⟨q54_3,h⟩:=h
       refine sP (Wu Try.prog) ⟨([.rsl [.int .i64 1,.int .i64 200,.int .i64 6,.int .i64 1000] 0 2,.int .i64 7,J,J,J,J,.int .i64 1007,.sl 0 0 0 3 1,J,.int .i64 1]++jj 43 ([.int .i64 (((List.replicate (Int.toNat (1008:Int)) (1152921504606846976:Int)).length:Nat):Int),.int .i64 ((j:Int)+1)]++Js 163)),[⟨true,0,1,false,[.sl 2 0 0 ((List.replicate (Int.toNat (1008:Int)) (1152921504606846976:Int)).length) 1,.sl 4 g4 0 v4.length 1,.sl 6 g6 0 v6.length 1],true⟩,⟨false,1,1,true,[],false⟩,⟨true,0,1,true,(rowI (List.replicate (Int.toNat (1008:Int)) (1152921504606846976:Int))),true⟩,⟨false,1,1,true,[],false⟩,⟨true,g4,1,true,(Qv (Qv (rowI v4) (0+(Int.toNat (j:Int))*1) [.int .i64 e]) (0+(Int.toNat (j:Int))*1) [.int .i64 (iMin e3 (e2+1000))]),true⟩,⟨false,1,1,true,[],false⟩,⟨true,g6,1,true,(rowI v6),true⟩]⟩ [0,1,6,7,9,53,54] 7 [.b true,.auto,.auto,.ld (.int .i64 e),.b true,.auto,.ld (.int .i64 e2),.b true,.auto,.auto,.ld (.int .i64 e3),.auto,.ld (.int .i64 e2),.stop] [(decide ((j:Int)<(((List.replicate (Int.toNat (1008:Int)) (1152921504606846976:Int)).length:Nat):Int)))=true,(0:Int)≤1∧(1:Int)<((3:Nat):Int),0=0,0=0,InR .i64 2,(0:Int)≤2∧(2:Int)<((3:Nat):Int),0=0,0=0,0≤(j:Int)∧(j:Int)<(v6.length:Int),g6=g6,g6=g6,((rowI v6).drop (0+(Int.toNat (j:Int))*1)).take 1=[.int .i64 e],0≤(j:Int)∧(j:Int)<(v4.length:Int),g4=g4,((0+(Int.toNat (j:Int))*1)+1)≤(rowI v4).length,g4=g4,(0:Int)≤1∧(1:Int)<((2:Nat):Int),InR .i64 ((j:Int) - 6),(decide (((j:Int) - 6)≥0))=true,(0:Int)≤1∧(1:Int)<((3:Nat):Int),0=0,0=0,0≤((j:Int) - 6)∧((j:Int) - 6)<(v4.length:Int),g4=g4,g4=g4,((Qv (rowI v4) (0+(Int.toNat (j:Int))*1) [.int .i64 e]).drop (0+(Int.toNat ((j:Int) - 6))*1)).take 1=[.int .i64 e2],(decide (e2<1152921504606846976))=true,(0:Int)≤1∧(1:Int)<((3:Nat):Int),0=0,0=0,(0:Int)≤1∧(1:Int)<((3:Nat):Int),0=0,0=0,0≤(j:Int)∧(j:Int)<(v4.length:Int),g4=g4,g4=g4,((Qv (rowI v4) (0+(Int.toNat (j:Int))*1) [.int .i64 e]).drop (0+(Int.toNat (j:Int))*1)).take 1=[.int .i64 e3],(0:Int)≤1∧(1:Int)<((3:Nat):Int),0=0,0=0,0≤((j:Int) - 6)∧((j:Int) - 6)<(v4.length:Int),g4=g4,g4=g4,((Qv (rowI v4) (0+(Int.toNat (j:Int))*1) [.int .i64 e]).drop (0+(Int.toNat ((j:Int) - 6))*1)).take 1=[.int .i64 e2],(0:Int)≤1∧(1:Int)<((2:Nat):Int),InR .i64 (e2+1000),0≤(j:Int)∧(j:Int)<(v4.length:Int),g4=g4,((0+(Int.toNat (j:Int))*1)+1)≤(Qv (rowI v4) (0+(Int.toNat (j:Int))*1) [.int .i64 e]).length,g4=g4,InR .i64 ((j:Int)+1)] hE ⟨hc0,(⟨by decide,by decide⟩),rfl,rfl,(⟨by decide,by decide⟩),(⟨by decide,by decide⟩),rfl,rfl,(Qm h1),rfl,rfl,(rp cI 1 0 1 h1),(Qm h2),rfl,(rf cI 1 0 1 h2),rfl,(⟨by decide,by decide⟩),q19_1,hc1,(⟨by decide,by decide⟩),rfl,rfl,(by have hx:=Qw h4 h3; simpa using hx),rfl,rfl,(by rw [(show Qv (rowI v4) (0+(Int.toNat (j:Int))*1) [.int .i64 e]=rowI (v4.set j e) from QH cI (s:=1) (k:=0) (fun _=>rfl) h2 rfl (by first | decide | simp))]; exact rp cI 1 0 1 h3),hc2,(⟨by decide,by decide⟩),rfl,rfl,(⟨by decide,by decide⟩),rfl,rfl,(by have hx:=Qm h5; simpa using hx),rfl,rfl,(by rw [(show Qv (rowI v4) (0+(Int.toNat (j:Int))*1) [.int .i64 e]=rowI (v4.set j e) from QH cI (s:=1) (k:=0) (fun _=>rfl) h2 rfl (by first | decide | simp))]; exact rp cI 1 0 1 h5),(⟨by decide,by decide⟩),rfl,rfl,(by have hx:=Qw h4 h3; simpa using hx),rfl,rfl,(by rw [(show Qv (rowI v4) (0+(Int.toNat (j:Int))*1) [.int .i64 e]=rowI (v4.set j e) from QH cI (s:=1) (k:=0) (fun _=>rfl) h2 rfl (by first | decide | simp))]; exact rp cI 1 0 1 h3),(⟨by decide,by decide⟩),q49_3,(by have hx:=Qm h5; simpa using hx),rfl,(by rw [(show Qv (rowI v4) (0+(Int.toNat (j:Int))*1) [.int .i64 e]=rowI (v4.set j e) from QH cI (s:=1) (k:=0) (fun _=>rfl) h2 rfl (by first | decide | simp))]; exact rf cI 1 0 1 h5),rfl,q54_3,trivial⟩ ?_
       have h:=(h g6 g4)
       simp only [Wt,List.length_set] at h
       rw [(show Qv (rowI v4) (0+(Int.toNat (j:Int))*1) [.int .i64 e]=rowI (v4.set j e) from QH cI (s:=1) (k:=0) (fun _=>rfl) h2 rfl (by first | decide | simp))]; rw [(show Qv (rowI (v4.set j e)) (0+(Int.toNat (j:Int))*1) [.int .i64 (iMin e3 (e2+1000))]=rowI ((v4.set j e).set j (iMin e3 (e2+1000))) from QH cI (s:=1) (k:=0) (fun _=>rfl) h5 rfl (by first | decide | simp))]
       exact h
     · have h:=h.2 (odf hc2)
       obtain ⟨q30_3,h⟩:=h
       refine sP (Wu Try.prog) ⟨([.rsl [.int .i64 1,.int .i64 200,.int .i64 6,.int .i64 1000] 0 2,.int .i64 7,J,J,J,J,.int .i64 1007,.sl 0 0 0 3 1,J,.int .i64 1]++jj 43 ([.int .i64 (((List.replicate (Int.toNat (1008:Int)) (1152921504606846976:Int)).length:Nat):Int),.int .i64 ((j:Int)+1)]++Js 163)),[⟨true,0,1,false,[.sl 2 0 0 ((List.replicate (Int.toNat (1008:Int)) (1152921504606846976:Int)).length) 1,.sl 4 g4 0 v4.length 1,.sl 6 g6 0 v6.length 1],true⟩,⟨false,1,1,true,[],false⟩,⟨true,0,1,true,(rowI (List.replicate (Int.toNat (1008:Int)) (1152921504606846976:Int))),true⟩,⟨false,1,1,true,[],false⟩,⟨true,g4,1,true,(Qv (rowI v4) (0+(Int.toNat (j:Int))*1) [.int .i64 e]),true⟩,⟨false,1,1,true,[],false⟩,⟨true,g6,1,true,(rowI v6),true⟩]⟩ [0,1,6,7,9,53,54] 7 [.b true,.auto,.auto,.ld (.int .i64 e),.b true,.auto,.ld (.int .i64 e2),.b false,.stop] [(decide ((j:Int)<(((List.replicate (Int.toNat (1008:Int)) (1152921504606846976:Int)).length:Nat):Int)))=true,(0:Int)≤1∧(1:Int)<((3:Nat):Int),0=0,0=0,InR .i64 2,(0:Int)≤2∧(2:Int)<((3:Nat):Int),0=0,0=0,0≤(j:Int)∧(j:Int)<(v6.length:Int),g6=g6,g6=g6,((rowI v6).drop (0+(Int.toNat (j:Int))*1)).take 1=[.int .i64 e],0≤(j:Int)∧(j:Int)<(v4.length:Int),g4=g4,((0+(Int.toNat (j:Int))*1)+1)≤(rowI v4).length,g4=g4,(0:Int)≤1∧(1:Int)<((2:Nat):Int),InR .i64 ((j:Int) - 6),(decide (((j:Int) - 6)≥0))=true,(0:Int)≤1∧(1:Int)<((3:Nat):Int),0=0,0=0,0≤((j:Int) - 6)∧((j:Int) - 6)<(v4.length:Int),g4=g4,g4=g4,((Qv (rowI v4) (0+(Int.toNat (j:Int))*1) [.int .i64 e]).drop (0+(Int.toNat ((j:Int) - 6))*1)).take 1=[.int .i64 e2],(decide (e2<1152921504606846976))=false,InR .i64 ((j:Int)+1)] hE ⟨hc0,(⟨by decide,by decide⟩),rfl,rfl,(⟨by decide,by decide⟩),(⟨by decide,by decide⟩),rfl,rfl,(Qm h1),rfl,rfl,(rp cI 1 0 1 h1),(Qm h2),rfl,(rf cI 1 0 1 h2),rfl,(⟨by decide,by decide⟩),q19_1,hc1,(⟨by decide,by decide⟩),rfl,rfl,(by have hx:=Qw h4 h3; simpa using hx),rfl,rfl,(by rw [(show Qv (rowI v4) (0+(Int.toNat (j:Int))*1) [.int .i64 e]=rowI (v4.set j e) from QH cI (s:=1) (k:=0) (fun _=>rfl) h2 rfl (by first | decide | simp))]; exact rp cI 1 0 1 h3),hc2,q30_3,trivial⟩ ?_
       have h:=(h g6 g4)
       simp only [Wt,List.length_set] at h
       rw [(show Qv (rowI v4) (0+(Int.toNat (j:Int))*1) [.int .i64 e]=rowI (v4.set j e) from QH cI (s:=1) (k:=0) (fun _=>rfl) h2 rfl (by first | decide | simp))]
       exact h
   · have h:=h.2 (odf hc1)
     obtain ⟨q22_2,h⟩:=h
     refine sP (Wu Try.prog) ⟨([.rsl [.int .i64 1,.int .i64 200,.int .i64 6,.int .i64 1000] 0 2,.int .i64 7,J,J,J,J,.int .i64 1007,.sl 0 0 0 3 1,J,.int .i64 1]++jj 43 ([.int .i64 (((List.replicate (Int.toNat (1008:Int)) (1152921504606846976:Int)).length:Nat):Int),.int .i64 ((j:Int)+1)]++Js 163)),[⟨true,0,1,false,[.sl 2 0 0 ((List.replicate (Int.toNat (1008:Int)) (1152921504606846976:Int)).length) 1,.sl 4 g4 0 v4.length 1,.sl 6 g6 0 v6.length 1],true⟩,⟨false,1,1,true,[],false⟩,⟨true,0,1,true,(rowI (List.replicate (Int.toNat (1008:Int)) (1152921504606846976:Int))),true⟩,⟨false,1,1,true,[],false⟩,⟨true,g4,1,true,(Qv (rowI v4) (0+(Int.toNat (j:Int))*1) [.int .i64 e]),true⟩,⟨false,1,1,true,[],false⟩,⟨true,g6,1,true,(rowI v6),true⟩]⟩ [0,1,6,7,9,53,54] 7 [.b true,.auto,.auto,.ld (.int .i64 e),.b false,.b false,.stop] [(decide ((j:Int)<(((List.replicate (Int.toNat (1008:Int)) (1152921504606846976:Int)).length:Nat):Int)))=true,(0:Int)≤1∧(1:Int)<((3:Nat):Int),0=0,0=0,InR .i64 2,(0:Int)≤2∧(2:Int)<((3:Nat):Int),0=0,0=0,0≤(j:Int)∧(j:Int)<(v6.length:Int),g6=g6,g6=g6,((rowI v6).drop (0+(Int.toNat (j:Int))*1)).take 1=[.int .i64 e],0≤(j:Int)∧(j:Int)<(v4.length:Int),g4=g4,((0+(Int.toNat (j:Int))*1)+1)≤(rowI v4).length,g4=g4,(0:Int)≤1∧(1:Int)<((2:Nat):Int),InR .i64 ((j:Int) - 6),(decide (((j:Int) - 6)≥0))=false,false=false,InR .i64 ((j:Int)+1)] hE ⟨hc0,(⟨by decide,by decide⟩),rfl,rfl,(⟨by decide,by decide⟩),(⟨by decide,by decide⟩),rfl,rfl,(Qm h1),rfl,rfl,(rp cI 1 0 1 h1),(Qm h2),rfl,(rf cI 1 0 1 h2),rfl,(⟨by decide,by decide⟩),q19_1,hc1,rfl,q22_2,trivial⟩ ?_
     have h:=(h g6 g4)
     simp only [Wt,List.length_set] at h
     rw [(show Qv (rowI v4) (0+(Int.toNat (j:Int))*1) [.int .i64 e]=rowI (v4.set j e) from QH cI (s:=1) (k:=0) (fun _=>rfl) h2 rfl (by first | decide | simp))]
     exact h
 · have h:=h.2 (odf hc0)
   exact sQ [0,1,6,7,9,53,54] 7 [.b false,.b true,.stop] [(decide ((j:Int)<(((List.replicate (Int.toNat (1008:Int)) (1152921504606846976:Int)).length:Nat):Int)))=false,InR .i64 0,true=true,(0:Int)≤0∧(0:Int)<((3:Nat):Int),0=0,0=0,0=0] hE ⟨hc0,(⟨by decide,by decide⟩),rfl,(⟨by decide,by decide⟩),rfl,rfl,rfl,trivial⟩ (h g4 g6 0)
theorem f186W1005 (price:Int) (tokens:Int) (left:Int) (v2:List Int) (v4:List Int) (v6:List Int) (v7_0:Nat) (v7_1:Nat) {E:Env} {rv:((List Int) × Int)} (hE:Qr Try.prog 186 (.tup [.rsl (rowI rv.1) 0 rv.1.length,.int .i64 rv.2]) E)
 (h:((tokens≥6→((I6 (tokens - 6))∧(0≤(tokens - 6)∧(∃ e:Int,v4[Int.toNat (tokens - 6)]?=some e∧((e<1152921504606846976→((I6 (tokens - 6))∧((I6 (e+1000))∧(((e+1000)=left→((I6 (tokens - 6))∧((I6 ((v7_1:Int)+1))∧Vg E price (tokens - 6) e v2 v4 v6 v7_0 (v7_1+1))))∧(¬ ((e+1000)=left)→rv=([(v7_0:Int),(v7_1:Int)],price))))))∧(¬ (e<1152921504606846976)→rv=([(v7_0:Int),(v7_1:Int)],price)))))))∧(¬ (tokens≥6)→rv=([(v7_0:Int),(v7_1:Int)],price)))):Vg E price tokens left v2 v4 v6 v7_0 v7_1:=by
 intro g2 g4 g6
 rcases bft (decide (tokens≥6)) with hc0 | hc0
 · have h:=h.1 (odt hc0)
   obtain ⟨q4_1,h⟩:=h
   obtain ⟨h2,h⟩:=h
   obtain ⟨e,h1,h⟩:=h
   rcases bft (decide (e<1152921504606846976)) with hc1 | hc1
   · have h:=h.1 (odt hc1)
     obtain ⟨q14_2,h⟩:=h
     obtain ⟨q19_2,h⟩:=h
     rcases bft ((e+1000) == left) with hc2 | hc2
     · have h:=h.1 (eq_of_beq hc2)
       obtain ⟨q21_3,h⟩:=h
       obtain ⟨q25_3,h⟩:=h
       exact sQ [4,5,7,12,14,15,16,150,151,152] 10 [.b true,.auto,.auto,.ld (.int .i64 e),.b true,.auto,.auto,.ld (.int .i64 e),.b true,.auto,.auto,.auto,.ld (.int .i64 e),.stop] [(decide (tokens≥6))=true,(0:Int)≤1∧(1:Int)<((3:Nat):Int),0=0,0=0,InR .i64 (tokens - 6),0≤(tokens - 6)∧(tokens - 6)<(v4.length:Int),g4=g4,g4=g4,((rowI v4).drop (0+(Int.toNat (tokens - 6))*1)).take 1=[.int .i64 e],(decide (e<1152921504606846976))=true,(0:Int)≤1∧(1:Int)<((3:Nat):Int),0=0,0=0,InR .i64 (tokens - 6),0≤(tokens - 6)∧(tokens - 6)<(v4.length:Int),g4=g4,g4=g4,((rowI v4).drop (0+(Int.toNat (tokens - 6))*1)).take 1=[.int .i64 e],InR .i64 (e+1000),((e+1000) == left)=true,InR .i64 (tokens - 6),(0:Int)≤1∧(1:Int)<((2:Nat):Int),0=0,0=0,InR .i64 ((v7_1:Int)+1),(0:Int)≤1∧(1:Int)<((2:Nat):Int),0=0,2≤2,0=0,(0:Int)≤1∧(1:Int)<((3:Nat):Int),0=0,0=0,0≤(tokens - 6)∧(tokens - 6)<(v4.length:Int),g4=g4,g4=g4,((rowI v4).drop (0+(Int.toNat (tokens - 6))*1)).take 1=[.int .i64 e]] hE ⟨hc0,(⟨by decide,by decide⟩),rfl,rfl,q4_1,(Qw h2 h1),rfl,rfl,(rp cI 1 0 1 h1),hc1,(⟨by decide,by decide⟩),rfl,rfl,q14_2,(Qw h2 h1),rfl,rfl,(rp cI 1 0 1 h1),q19_2,hc2,q21_3,(⟨by decide,by decide⟩),rfl,rfl,q25_3,(⟨by decide,by decide⟩),rfl,(by decide),rfl,(⟨by decide,by decide⟩),rfl,rfl,(Qw h2 h1),rfl,rfl,(rp cI 1 0 1 h1),trivial⟩ (h g2 g4 g6)
     · have h:=h.2 (ne_of_beq_false hc2)
       exact eL (.tup [.rsl [.int .i64 (v7_0:Int),.int .i64 (v7_1:Int)] 0 2,.int .i64 price]) [.b true,.auto,.auto,.ld (.int .i64 e),.b true,.auto,.auto,.ld (.int .i64 e),.b false,.b false] [(decide (tokens≥6))=true,(0:Int)≤1∧(1:Int)<((3:Nat):Int),0=0,0=0,InR .i64 (tokens - 6),0≤(tokens - 6)∧(tokens - 6)<(v4.length:Int),g4=g4,g4=g4,((rowI v4).drop (0+(Int.toNat (tokens - 6))*1)).take 1=[.int .i64 e],(decide (e<1152921504606846976))=true,(0:Int)≤1∧(1:Int)<((3:Nat):Int),0=0,0=0,InR .i64 (tokens - 6),0≤(tokens - 6)∧(tokens - 6)<(v4.length:Int),g4=g4,g4=g4,((rowI v4).drop (0+(Int.toNat (tokens - 6))*1)).take 1=[.int .i64 e],InR .i64 (e+1000),((e+1000) == left)=false,InR .i64 2,false=false,0=0] hE Try.func186 ⟨hc0,(⟨by decide,by decide⟩),rfl,rfl,q4_1,(Qw h2 h1),rfl,rfl,(rp cI 1 0 1 h1),hc1,(⟨by decide,by decide⟩),rfl,rfl,q14_2,(Qw h2 h1),rfl,rfl,(rp cI 1 0 1 h1),q19_2,hc2,(⟨by decide,by decide⟩),rfl,rfl,trivial⟩ (by exact AvLe.of_eq (by rw [h]; try rfl))
   · have h:=h.2 (odf hc1)
     exact eL (.tup [.rsl [.int .i64 (v7_0:Int),.int .i64 (v7_1:Int)] 0 2,.int .i64 price]) [.b true,.auto,.auto,.ld (.int .i64 e),.b false,.b false,.b false] [(decide (tokens≥6))=true,(0:Int)≤1∧(1:Int)<((3:Nat):Int),0=0,0=0,InR .i64 (tokens - 6),0≤(tokens - 6)∧(tokens - 6)<(v4.length:Int),g4=g4,g4=g4,((rowI v4).drop (0+(Int.toNat (tokens - 6))*1)).take 1=[.int .i64 e],(decide (e<1152921504606846976))=false,false=false,InR .i64 2,false=false,0=0] hE Try.func186 ⟨hc0,(⟨by decide,by decide⟩),rfl,rfl,q4_1,(Qw h2 h1),rfl,rfl,(rp cI 1 0 1 h1),hc1,rfl,(⟨by decide,by decide⟩),rfl,rfl,trivial⟩ (by exact AvLe.of_eq (by rw [h]; try rfl))
 · have h:=h.2 (odf hc0)
   exact eL (.tup [.rsl [.int .i64 (v7_0:Int),.int .i64 (v7_1:Int)] 0 2,.int .i64 price]) [.b false,.b false,.b false,.b false] [(decide (tokens≥6))=false,false=false,false=false,InR .i64 2,false=false,0=0] hE Try.func186 ⟨hc0,rfl,rfl,(⟨by decide,by decide⟩),rfl,rfl,trivial⟩ (by exact AvLe.of_eq (by rw [h]; try rfl))
theorem f186W2 (v4:List Int) (v6:List Int) (j:Nat) (v2:List Int) {E:Env} {rv:((List Int) × Int)} (hE:Qr Try.prog 186 (.tup [.rsl (rowI rv.1) 0 rv.1.length,.int .i64 rv.2]) E)
 (h:(((j:Int)<(((List.replicate (Int.toNat (1008:Int)) (1152921504606846976:Int)).length:Nat):Int)→(∃ e:Int,v4[j]?=some e∧(∃ e1:Int,v2[j]?=some e1∧((I6 ((j:Int) - 1))∧((((j:Int) - 1)≥0→(0≤((j:Int) - 1)∧(∃ e2:Int,(v2.set j e)[Int.toNat ((j:Int) - 1)]?=some e2∧((e2<1152921504606846976→(∃ e3:Int,(v2.set j e)[j]?=some e3∧((I6 (e2+200))∧((I6 ((j:Int)+1))∧Qbo E v4 v6 (j+1) ((v2.set j e).set j (iMin e3 (e2+200)))))))∧(¬ (e2<1152921504606846976)→((I6 ((j:Int)+1))∧Qbo E v4 v6 (j+1) (v2.set j e)))))))∧(¬ (((j:Int) - 1)≥0)→((I6 ((j:Int)+1))∧Qbo E v4 v6 (j+1) (v2.set j e))))))))∧(¬ ((j:Int)<(((List.replicate (Int.toNat (1008:Int)) (1152921504606846976:Int)).length:Nat):Int))→f186G3 E v2 v4 v6 7 7))):Qbo E v4 v6 j v2:=by
 intro g4 g6 g2
 rcases bft (decide ((j:Int)<(((List.replicate (Int.toNat (1008:Int)) (1152921504606846976:Int)).length:Nat):Int))) with hc0 | hc0
 · have h:=h.1 (odt hc0)
   obtain ⟨e,h1,h⟩:=h
   obtain ⟨e1,h2,h⟩:=h
   obtain ⟨q19_1,h⟩:=h
   rcases bft (decide (((j:Int) - 1)≥0)) with hc1 | hc1
   · have h:=h.1 (odt hc1)
     obtain ⟨h4,h⟩:=h
     obtain ⟨e2,h3,h⟩:=h
     rcases bft (decide (e2<1152921504606846976)) with hc2 | hc2
     · have h:=h.1 (odt hc2)
       obtain ⟨e3,h5,h⟩:=h
       obtain ⟨q49_3,h⟩:=h
       obtain ⟨q54_3,h⟩:=h
       refine sP (f186K2 Try.prog) ⟨([.rsl [.int .i64 1,.int .i64 200,.int .i64 6,.int .i64 1000] 0 2,.int .i64 7,J,J,J,J,.int .i64 1007,.sl 0 0 0 3 1,J,.int .i64 0]++jj 43 ([.int .i64 (((List.replicate (Int.toNat (1008:Int)) (1152921504606846976:Int)).length:Nat):Int),.int .i64 ((j:Int)+1)]++Js 163)),[⟨true,0,1,false,[.sl 2 g2 0 v2.length 1,.sl 4 g4 0 v4.length 1,.sl 6 g6 0 v6.length 1],true⟩,⟨false,1,1,true,[],false⟩,⟨true,g2,1,true,(Qv (Qv (rowI v2) (0+(Int.toNat (j:Int))*1) [.int .i64 e]) (0+(Int.toNat (j:Int))*1) [.int .i64 (iMin e3 (e2+200))]),true⟩,⟨false,1,1,true,[],false⟩,⟨true,g4,1,true,(rowI v4),true⟩,⟨false,1,1,true,[],false⟩,⟨true,g6,1,true,(rowI v6),true⟩]⟩ [0,1,6,7,9,53,54] 7 [.b true,.auto,.auto,.ld (.int .i64 e),.b true,.auto,.ld (.int .i64 e2),.b true,.auto,.auto,.ld (.int .i64 e3),.auto,.ld (.int .i64 e2),.stop] [(decide ((j:Int)<(((List.replicate (Int.toNat (1008:Int)) (1152921504606846976:Int)).length:Nat):Int)))=true,(0:Int)≤0∧(0:Int)<((3:Nat):Int),0=0,0=0,InR .i64 1,(0:Int)≤1∧(1:Int)<((3:Nat):Int),0=0,0=0,0≤(j:Int)∧(j:Int)<(v4.length:Int),g4=g4,g4=g4,((rowI v4).drop (0+(Int.toNat (j:Int))*1)).take 1=[.int .i64 e],0≤(j:Int)∧(j:Int)<(v2.length:Int),g2=g2,((0+(Int.toNat (j:Int))*1)+1)≤(rowI v2).length,g2=g2,(0:Int)≤0∧(0:Int)<((2:Nat):Int),InR .i64 ((j:Int) - 1),(decide (((j:Int) - 1)≥0))=true,(0:Int)≤0∧(0:Int)<((3:Nat):Int),0=0,0=0,0≤((j:Int) - 1)∧((j:Int) - 1)<(v2.length:Int),g2=g2,g2=g2,((Qv (rowI v2) (0+(Int.toNat (j:Int))*1) [.int .i64 e]).drop (0+(Int.toNat ((j:Int) - 1))*1)).take 1=[.int .i64 e2],(decide (e2<1152921504606846976))=true,(0:Int)≤0∧(0:Int)<((3:Nat):Int),0=0,0=0,(0:Int)≤0∧(0:Int)<((3:Nat):Int),0=0,0=0,0≤(j:Int)∧(j:Int)<(v2.length:Int),g2=g2,g2=g2,((Qv (rowI v2) (0+(Int.toNat (j:Int))*1) [.int .i64 e]).drop (0+(Int.toNat (j:Int))*1)).take 1=[.int .i64 e3],(0:Int)≤0∧(0:Int)<((3:Nat):Int),0=0,0=0,0≤((j:Int) - 1)∧((j:Int) - 1)<(v2.length:Int),g2=g2,g2=g2,((Qv (rowI v2) (0+(Int.toNat (j:Int))*1) [.int .i64 e]).drop (0+(Int.toNat ((j:Int) - 1))*1)).take 1=[.int .i64 e2],(0:Int)≤0∧(0:Int)<((2:Nat):Int),InR .i64 (e2+200),0≤(j:Int)∧(j:Int)<(v2.length:Int),g2=g2,((0+(Int.toNat (j:Int))*1)+1)≤(Qv (rowI v2) (0+(Int.toNat (j:Int))*1) [.int .i64 e]).length,g2=g2,InR .i64 ((j:Int)+1)] hE ⟨hc0,(⟨by decide,by decide⟩),rfl,rfl,(⟨by decide,by decide⟩),(⟨by decide,by decide⟩),rfl,rfl,(Qm h1),rfl,rfl,(rp cI 1 0 1 h1),(Qm h2),rfl,(rf cI 1 0 1 h2),rfl,(⟨by decide,by decide⟩),q19_1,hc1,(⟨by decide,by decide⟩),rfl,rfl,(by have hx:=Qw h4 h3; simpa using hx),rfl,rfl,(by rw [(show Qv (rowI v2) (0+(Int.toNat (j:Int))*1) [.int .i64 e]=rowI (v2.set j e) from QH cI (s:=1) (k:=0) (fun _=>rfl) h2 rfl (by first | decide | simp))]; exact rp cI 1 0 1 h3),hc2,(⟨by decide,by decide⟩),rfl,rfl,(⟨by decide,by decide⟩),rfl,rfl,(by have hx:=Qm h5; simpa using hx),rfl,rfl,(by rw [(show Qv (rowI v2) (0+(Int.toNat (j:Int))*1) [.int .i64 e]=rowI (v2.set j e) from QH cI (s:=1) (k:=0) (fun _=>rfl) h2 rfl (by first | decide | simp))]; exact rp cI 1 0 1 h5),(⟨by decide,by decide⟩),rfl,rfl,(by have hx:=Qw h4 h3; simpa using hx),rfl,rfl,(by rw [(show Qv (rowI v2) (0+(Int.toNat (j:Int))*1) [.int .i64 e]=rowI (v2.set j e) from QH cI (s:=1) (k:=0) (fun _=>rfl) h2 rfl (by first | decide | simp))]; exact rp cI 1 0 1 h3),(⟨by decide,by decide⟩),q49_3,(by have hx:=Qm h5; simpa using hx),rfl,(by rw [(show Qv (rowI v2) (0+(Int.toNat (j:Int))*1) [.int .i64 e]=rowI (v2.set j e) from QH cI (s:=1) (k:=0) (fun _=>rfl) h2 rfl (by first | decide | simp))]; exact rf cI 1 0 1 h5),rfl,q54_3,trivial⟩ ?_
       have h:=(h g4 g6 g2)
       simp only [f186S2,List.length_set] at h
       rw [(show Qv (rowI v2) (0+(Int.toNat (j:Int))*1) [.int .i64 e]=rowI (v2.set j e) from QH cI (s:=1) (k:=0) (fun _=>rfl) h2 rfl (by first | decide | simp))]; rw [(show Qv (rowI (v2.set j e)) (0+(Int.toNat (j:Int))*1) [.int .i64 (iMin e3 (e2+200))]=rowI ((v2.set j e).set j (iMin e3 (e2+200))) from QH cI (s:=1) (k:=0) (fun _=>rfl) h5 rfl (by first | decide | simp))]
       exact h
     · have h:=h.2 (odf hc2)
       obtain ⟨q30_3,h⟩:=h
       refine sP (f186K2 Try.prog) ⟨([.rsl [.int .i64 1,.int .i64 200,.int .i64 6,.int .i64 1000] 0 2,.int .i64 7,J,J,J,J,.int .i64 1007,.sl 0 0 0 3 1,J,.int .i64 0]++jj 43 ([.int .i64 (((List.replicate (Int.toNat (1008:Int)) (1152921504606846976:Int)).length:Nat):Int),.int .i64 ((j:Int)+1)]++Js 163)),[⟨true,0,1,false,[.sl 2 g2 0 v2.length 1,.sl 4 g4 0 v4.length 1,.sl 6 g6 0 v6.length 1],true⟩,⟨false,1,1,true,[],false⟩,⟨true,g2,1,true,(Qv (rowI v2) (0+(Int.toNat (j:Int))*1) [.int .i64 e]),true⟩,⟨false,1,1,true,[],false⟩,⟨true,g4,1,true,(rowI v4),true⟩,⟨false,1,1,true,[],false⟩,⟨true,g6,1,true,(rowI v6),true⟩]⟩ [0,1,6,7,9,53,54] 7 [.b true,.auto,.auto,.ld (.int .i64 e),.b true,.auto,.ld (.int .i64 e2),.b false,.stop] [(decide ((j:Int)<(((List.replicate (Int.toNat (1008:Int)) (1152921504606846976:Int)).length:Nat):Int)))=true,(0:Int)≤0∧(0:Int)<((3:Nat):Int),0=0,0=0,InR .i64 1,(0:Int)≤1∧(1:Int)<((3:Nat):Int),0=0,0=0,0≤(j:Int)∧(j:Int)<(v4.length:Int),g4=g4,g4=g4,((rowI v4).drop (0+(Int.toNat (j:Int))*1)).take 1=[.int .i64 e],0≤(j:Int)∧(j:Int)<(v2.length:Int),g2=g2,((0+(Int.toNat (j:Int))*1)+1)≤(rowI v2).length,g2=g2,(0:Int)≤0∧(0:Int)<((2:Nat):Int),InR .i64 ((j:Int) - 1),(decide (((j:Int) - 1)≥0))=true,(0:Int)≤0∧(0:Int)<((3:Nat):Int),0=0,0=0,0≤((j:Int) - 1)∧((j:Int) - 1)<(v2.length:Int),g2=g2,g2=g2,((Qv (rowI v2) (0+(Int.toNat (j:Int))*1) [.int .i64 e]).drop (0+(Int.toNat ((j:Int) - 1))*1)).take 1=[.int .i64 e2],(decide (e2<1152921504606846976))=false,InR .i64 ((j:Int)+1)] hE ⟨hc0,(⟨by decide,by decide⟩),rfl,rfl,(⟨by decide,by decide⟩),(⟨by decide,by decide⟩),rfl,rfl,(Qm h1),rfl,rfl,(rp cI 1 0 1 h1),(Qm h2),rfl,(rf cI 1 0 1 h2),rfl,(⟨by decide,by decide⟩),q19_1,hc1,(⟨by decide,by decide⟩),rfl,rfl,(by have hx:=Qw h4 h3; simpa using hx),rfl,rfl,(by rw [(show Qv (rowI v2) (0+(Int.toNat (j:Int))*1) [.int .i64 e]=rowI (v2.set j e) from QH cI (s:=1) (k:=0) (fun _=>rfl) h2 rfl (by first | decide | simp))]; exact rp cI 1 0 1 h3),hc2,q30_3,trivial⟩ ?_
       have h:=(h g4 g6 g2)
       simp only [f186S2,List.length_set] at h
       rw [(show Qv (rowI v2) (0+(Int.toNat (j:Int))*1) [.int .i64 e]=rowI (v2.set j e) from QH cI (s:=1) (k:=0) (fun _=>rfl) h2 rfl (by first | decide | simp))]
       exact h
   · have h:=h.2 (odf hc1)
     obtain ⟨q22_2,h⟩:=h
     refine sP (f186K2 Try.prog) ⟨([.rsl [.int .i64 1,.int .i64 200,.int .i64 6,.int .i64 1000] 0 2,.int .i64 7,J,J,J,J,.int .i64 1007,.sl 0 0 0 3 1,J,.int .i64 0]++jj 43 ([.int .i64 (((List.replicate (Int.toNat (1008:Int)) (1152921504606846976:Int)).length:Nat):Int),.int .i64 ((j:Int)+1)]++Js 163)),[⟨true,0,1,false,[.sl 2 g2 0 v2.length 1,.sl 4 g4 0 v4.length 1,.sl 6 g6 0 v6.length 1],true⟩,⟨false,1,1,true,[],false⟩,⟨true,g2,1,true,(Qv (rowI v2) (0+(Int.toNat (j:Int))*1) [.int .i64 e]),true⟩,⟨false,1,1,true,[],false⟩,⟨true,g4,1,true,(rowI v4),true⟩,⟨false,1,1,true,[],false⟩,⟨true,g6,1,true,(rowI v6),true⟩]⟩ [0,1,6,7,9,53,54] 7 [.b true,.auto,.auto,.ld (.int .i64 e),.b false,.b false,.stop] [(decide ((j:Int)<(((List.replicate (Int.toNat (1008:Int)) (1152921504606846976:Int)).length:Nat):Int)))=true,(0:Int)≤0∧(0:Int)<((3:Nat):Int),0=0,0=0,InR .i64 1,(0:Int)≤1∧(1:Int)<((3:Nat):Int),0=0,0=0,0≤(j:Int)∧(j:Int)<(v4.length:Int),g4=g4,g4=g4,((rowI v4).drop (0+(Int.toNat (j:Int))*1)).take 1=[.int .i64 e],0≤(j:Int)∧(j:Int)<(v2.length:Int),g2=g2,((0+(Int.toNat (j:Int))*1)+1)≤(rowI v2).length,g2=g2,(0:Int)≤0∧(0:Int)<((2:Nat):Int),InR .i64 ((j:Int) - 1),(decide (((j:Int) - 1)≥0))=false,false=false,InR .i64 ((j:Int)+1)] hE ⟨hc0,(⟨by decide,by decide⟩),rfl,rfl,(⟨by decide,by decide⟩),(⟨by decide,by decide⟩),rfl,rfl,(Qm h1),rfl,rfl,(rp cI 1 0 1 h1),(Qm h2),rfl,(rf cI 1 0 1 h2),rfl,(⟨by decide,by decide⟩),q19_1,hc1,rfl,q22_2,trivial⟩ ?_
     have h:=(h g4 g6 g2)
     simp only [f186S2,List.length_set] at h
     rw [(show Qv (rowI v2) (0+(Int.toNat (j:Int))*1) [.int .i64 e]=rowI (v2.set j e) from QH cI (s:=1) (k:=0) (fun _=>rfl) h2 rfl (by first | decide | simp))]
     exact h
 · have h:=h.2 (odf hc0)
   exact sQ [0,6,7,12,13] 7 [.b false,.b false,.stop] [(decide ((j:Int)<(((List.replicate (Int.toNat (1008:Int)) (1152921504606846976:Int)).length:Nat):Int)))=false,InR .i64 (-1),false=false] hE ⟨hc0,(⟨by decide,by decide⟩),rfl,trivial⟩ (h g2 g4 g6)
theorem f186W3 (v2:List Int) (v4:List Int) (v6:List Int) (t:Nat) (tokens:Nat) {E:Env} {rv:((List Int) × Int)} (hE:Qr Try.prog 186 (.tup [.rsl (rowI rv.1) 0 rv.1.length,.int .i64 rv.2]) E)
 (h:(((t:Int)≤1007→(∃ e:Int,v2[t]?=some e∧(∃ e1:Int,v2[tokens]?=some e1∧((e<e1→((I6 ((t:Int)+1))∧f186G3 E v2 v4 v6 (t+1) t))∧(¬ (e<e1)→((I6 ((t:Int)+1))∧f186G3 E v2 v4 v6 (t+1) tokens))))))∧(¬ ((t:Int)≤1007)→(∃ e:Int,v2[tokens]?=some e∧((e=1152921504606846976→rv=(([]:List Int),0))∧(¬ (e=1152921504606846976)→f186G5 E e (tokens:Int) e v2 v4 v6 0)))))):f186G3 E v2 v4 v6 t tokens:=by
 intro g2 g4 g6
 rcases bft (decide ((t:Int)≤1007)) with hc0 | hc0
 · have h:=h.1 (odt hc0)
   obtain ⟨e,h1,h⟩:=h
   obtain ⟨e1,h2,h⟩:=h
   rcases bft (decide (e<e1)) with hc1 | hc1
   · have h:=h.1 (odt hc1)
     obtain ⟨q18_2,h⟩:=h
     exact sQ [0,6,7,12,13] 7 [.b true,.auto,.ld (.int .i64 e),.auto,.ld (.int .i64 e1),.b true,.stop] [(decide ((t:Int)≤1007))=true,(0:Int)≤0∧(0:Int)<((3:Nat):Int),0=0,0=0,0≤(t:Int)∧(t:Int)<(v2.length:Int),g2=g2,g2=g2,((rowI v2).drop (0+(Int.toNat (t:Int))*1)).take 1=[.int .i64 e],(0:Int)≤0∧(0:Int)<((3:Nat):Int),0=0,0=0,0≤(tokens:Int)∧(tokens:Int)<(v2.length:Int),g2=g2,g2=g2,((rowI v2).drop (0+(Int.toNat (tokens:Int))*1)).take 1=[.int .i64 e1],(decide (e<e1))=true,InR .i64 ((t:Int)+1)] hE ⟨hc0,(⟨by decide,by decide⟩),rfl,rfl,(Qm h1),rfl,rfl,(rp cI 1 0 1 h1),(⟨by decide,by decide⟩),rfl,rfl,(Qm h2),rfl,rfl,(rp cI 1 0 1 h2),hc1,q18_2,trivial⟩ (h g2 g4 g6)
   · have h:=h.2 (odf hc1)
     obtain ⟨q18_2,h⟩:=h
     exact sQ [0,6,7,12,13] 7 [.b true,.auto,.ld (.int .i64 e),.auto,.ld (.int .i64 e1),.b false,.stop] [(decide ((t:Int)≤1007))=true,(0:Int)≤0∧(0:Int)<((3:Nat):Int),0=0,0=0,0≤(t:Int)∧(t:Int)<(v2.length:Int),g2=g2,g2=g2,((rowI v2).drop (0+(Int.toNat (t:Int))*1)).take 1=[.int .i64 e],(0:Int)≤0∧(0:Int)<((3:Nat):Int),0=0,0=0,0≤(tokens:Int)∧(tokens:Int)<(v2.length:Int),g2=g2,g2=g2,((rowI v2).drop (0+(Int.toNat (tokens:Int))*1)).take 1=[.int .i64 e1],(decide (e<e1))=false,InR .i64 ((t:Int)+1)] hE ⟨hc0,(⟨by decide,by decide⟩),rfl,rfl,(Qm h1),rfl,rfl,(rp cI 1 0 1 h1),(⟨by decide,by decide⟩),rfl,rfl,(Qm h2),rfl,rfl,(rp cI 1 0 1 h2),hc1,q18_2,trivial⟩ (h g2 g4 g6)
 · have h:=h.2 (odf hc0)
   obtain ⟨e,h1,h⟩:=h
   rcases bft (e == 1152921504606846976) with hc1 | hc1
   · have h:=h.1 (eq_of_beq hc1)
     exact eL (.tup [.nilSl,.int .i64 0]) [.b false,.auto,.ld (.int .i64 e),.b true] [(decide ((t:Int)≤1007))=false,(0:Int)≤0∧(0:Int)<((3:Nat):Int),0=0,0=0,0≤(tokens:Int)∧(tokens:Int)<(v2.length:Int),g2=g2,g2=g2,((rowI v2).drop (0+(Int.toNat (tokens:Int))*1)).take 1=[.int .i64 e],(e == 1152921504606846976)=true] hE Try.func186 ⟨hc0,(⟨by decide,by decide⟩),rfl,rfl,(Qm h1),rfl,rfl,(rp cI 1 0 1 h1),hc1,trivial⟩ (by rw [h]; exact (VB ⟨Vq,⟨AvLe.of_eq rfl,trivial⟩⟩))
   · have h:=h.2 (ne_of_beq_false hc1)
     exact sQ [4,5,7,12,14,15,16,150,151,152] 9 [.b false,.auto,.ld (.int .i64 e),.b false,.b true,.auto,.auto,.ld (.int .i64 e),.stop] [(decide ((t:Int)≤1007))=false,(0:Int)≤0∧(0:Int)<((3:Nat):Int),0=0,0=0,0≤(tokens:Int)∧(tokens:Int)<(v2.length:Int),g2=g2,g2=g2,((rowI v2).drop (0+(Int.toNat (tokens:Int))*1)).take 1=[.int .i64 e],(e == 1152921504606846976)=false,(0:Int)≤2∧(2:Int)≤2∧(2:Int)≤2147483648,true=true,(0:Int)≤0∧(0:Int)<((2:Nat):Int),2≤2,(0:Int)≤0∧(0:Int)<((3:Nat):Int),0=0,0=0,0≤(tokens:Int)∧(tokens:Int)<(v2.length:Int),g2=g2,g2=g2,((rowI v2).drop (0+(Int.toNat (tokens:Int))*1)).take 1=[.int .i64 e]] hE ⟨hc0,(⟨by decide,by decide⟩),rfl,rfl,(Qm h1),rfl,rfl,(rp cI 1 0 1 h1),hc1,(⟨by decide,by decide,by decide⟩),rfl,(⟨by decide,by decide⟩),(by decide),(⟨by decide,by decide⟩),rfl,rfl,(Qm h1),rfl,rfl,(rp cI 1 0 1 h1),trivial⟩ (h g2 g4 g6)
theorem f186W5 (price:Int) (tokens:Int) (left:Int) (v2:List Int) (v4:List Int) (v6:List Int) (v7_0:Nat) {E:Env} {rv:((List Int) × Int)} (hE:Qr Try.prog 186 (.tup [.rsl (rowI rv.1) 0 rv.1.length,.int .i64 rv.2]) E)
 (h:((tokens≥1→((I6 (tokens - 1))∧(0≤(tokens - 1)∧(∃ e:Int,v2[Int.toNat (tokens - 1)]?=some e∧((e<1152921504606846976→((I6 (tokens - 1))∧((I6 (e+200))∧(((e+200)=left→((I6 (tokens - 1))∧((I6 ((v7_0:Int)+1))∧f186G5 E price (tokens - 1) e v2 v4 v6 (v7_0+1))))∧(¬ ((e+200)=left)→(0≤tokens∧(∃ e1:Int,v4[Int.toNat tokens]?=some e1∧Vg E price tokens e1 v2 v4 v6 v7_0 0)))))))∧(¬ (e<1152921504606846976)→(0≤tokens∧(∃ e1:Int,v4[Int.toNat tokens]?=some e1∧Vg E price tokens e1 v2 v4 v6 v7_0 0))))))))∧(¬ (tokens≥1)→(0≤tokens∧(∃ e:Int,v4[Int.toNat tokens]?=some e∧Vg E price tokens e v2 v4 v6 v7_0 0))))):f186G5 E price tokens left v2 v4 v6 v7_0:=by
 intro g2 g4 g6
 rcases bft (decide (tokens≥1)) with hc0 | hc0
 · have h:=h.1 (odt hc0)
   obtain ⟨q4_1,h⟩:=h
   obtain ⟨h2,h⟩:=h
   obtain ⟨e,h1,h⟩:=h
   rcases bft (decide (e<1152921504606846976)) with hc1 | hc1
   · have h:=h.1 (odt hc1)
     obtain ⟨q14_2,h⟩:=h
     obtain ⟨q19_2,h⟩:=h
     rcases bft ((e+200) == left) with hc2 | hc2
     · have h:=h.1 (eq_of_beq hc2)
       obtain ⟨q21_3,h⟩:=h
       obtain ⟨q25_3,h⟩:=h
       exact sQ [4,5,7,12,14,15,16,150,151,152] 9 [.b true,.auto,.auto,.ld (.int .i64 e),.b true,.auto,.auto,.ld (.int .i64 e),.b true,.auto,.auto,.auto,.ld (.int .i64 e),.stop] [(decide (tokens≥1))=true,(0:Int)≤0∧(0:Int)<((3:Nat):Int),0=0,0=0,InR .i64 (tokens - 1),0≤(tokens - 1)∧(tokens - 1)<(v2.length:Int),g2=g2,g2=g2,((rowI v2).drop (0+(Int.toNat (tokens - 1))*1)).take 1=[.int .i64 e],(decide (e<1152921504606846976))=true,(0:Int)≤0∧(0:Int)<((3:Nat):Int),0=0,0=0,InR .i64 (tokens - 1),0≤(tokens - 1)∧(tokens - 1)<(v2.length:Int),g2=g2,g2=g2,((rowI v2).drop (0+(Int.toNat (tokens - 1))*1)).take 1=[.int .i64 e],InR .i64 (e+200),((e+200) == left)=true,InR .i64 (tokens - 1),(0:Int)≤0∧(0:Int)<((2:Nat):Int),0=0,0=0,InR .i64 ((v7_0:Int)+1),(0:Int)≤0∧(0:Int)<((2:Nat):Int),0=0,1≤2,0=0,(0:Int)≤0∧(0:Int)<((3:Nat):Int),0=0,0=0,0≤(tokens - 1)∧(tokens - 1)<(v2.length:Int),g2=g2,g2=g2,((rowI v2).drop (0+(Int.toNat (tokens - 1))*1)).take 1=[.int .i64 e]] hE ⟨hc0,(⟨by decide,by decide⟩),rfl,rfl,q4_1,(Qw h2 h1),rfl,rfl,(rp cI 1 0 1 h1),hc1,(⟨by decide,by decide⟩),rfl,rfl,q14_2,(Qw h2 h1),rfl,rfl,(rp cI 1 0 1 h1),q19_2,hc2,q21_3,(⟨by decide,by decide⟩),rfl,rfl,q25_3,(⟨by decide,by decide⟩),rfl,(by decide),rfl,(⟨by decide,by decide⟩),rfl,rfl,(Qw h2 h1),rfl,rfl,(rp cI 1 0 1 h1),trivial⟩ (h g2 g4 g6)
     · have h:=h.2 (ne_of_beq_false hc2)
       obtain ⟨h4,h⟩:=h
       obtain ⟨e1,h3,h⟩:=h
       exact sQ [4,5,7,12,14,15,16,150,151,152] 10 [.b true,.auto,.auto,.ld (.int .i64 e),.b true,.auto,.auto,.ld (.int .i64 e),.b false,.b true,.auto,.auto,.ld (.int .i64 e1),.stop] [(decide (tokens≥1))=true,(0:Int)≤0∧(0:Int)<((3:Nat):Int),0=0,0=0,InR .i64 (tokens - 1),0≤(tokens - 1)∧(tokens - 1)<(v2.length:Int),g2=g2,g2=g2,((rowI v2).drop (0+(Int.toNat (tokens - 1))*1)).take 1=[.int .i64 e],(decide (e<1152921504606846976))=true,(0:Int)≤0∧(0:Int)<((3:Nat):Int),0=0,0=0,InR .i64 (tokens - 1),0≤(tokens - 1)∧(tokens - 1)<(v2.length:Int),g2=g2,g2=g2,((rowI v2).drop (0+(Int.toNat (tokens - 1))*1)).take 1=[.int .i64 e],InR .i64 (e+200),((e+200) == left)=false,InR .i64 1,true=true,(0:Int)≤1∧(1:Int)<((2:Nat):Int),2≤2,(0:Int)≤1∧(1:Int)<((3:Nat):Int),0=0,0=0,0≤tokens∧tokens<(v4.length:Int),g4=g4,g4=g4,((rowI v4).drop (0+(Int.toNat tokens)*1)).take 1=[.int .i64 e1]] hE ⟨hc0,(⟨by decide,by decide⟩),rfl,rfl,q4_1,(Qw h2 h1),rfl,rfl,(rp cI 1 0 1 h1),hc1,(⟨by decide,by decide⟩),rfl,rfl,q14_2,(Qw h2 h1),rfl,rfl,(rp cI 1 0 1 h1),q19_2,hc2,(⟨by decide,by decide⟩),rfl,(⟨by decide,by decide⟩),(by decide),(⟨by decide,by decide⟩),rfl,rfl,(Qw h4 h3),rfl,rfl,(rp cI 1 0 1 h3),trivial⟩ (h g2 g4 g6)
   · have h:=h.2 (odf hc1)
     obtain ⟨h4,h⟩:=h
     obtain ⟨e1,h3,h⟩:=h
     exact sQ [4,5,7,12,14,15,16,150,151,152] 10 [.b true,.auto,.auto,.ld (.int .i64 e),.b false,.b false,.b true,.auto,.auto,.ld (.int .i64 e1),.stop] [(decide (tokens≥1))=true,(0:Int)≤0∧(0:Int)<((3:Nat):Int),0=0,0=0,InR .i64 (tokens - 1),0≤(tokens - 1)∧(tokens - 1)<(v2.length:Int),g2=g2,g2=g2,((rowI v2).drop (0+(Int.toNat (tokens - 1))*1)).take 1=[.int .i64 e],(decide (e<1152921504606846976))=false,false=false,InR .i64 1,true=true,(0:Int)≤1∧(1:Int)<((2:Nat):Int),2≤2,(0:Int)≤1∧(1:Int)<((3:Nat):Int),0=0,0=0,0≤tokens∧tokens<(v4.length:Int),g4=g4,g4=g4,((rowI v4).drop (0+(Int.toNat tokens)*1)).take 1=[.int .i64 e1]] hE ⟨hc0,(⟨by decide,by decide⟩),rfl,rfl,q4_1,(Qw h2 h1),rfl,rfl,(rp cI 1 0 1 h1),hc1,rfl,(⟨by decide,by decide⟩),rfl,(⟨by decide,by decide⟩),(by decide),(⟨by decide,by decide⟩),rfl,rfl,(Qw h4 h3),rfl,rfl,(rp cI 1 0 1 h3),trivial⟩ (h g2 g4 g6)
 · have h:=h.2 (odf hc0)
   obtain ⟨h2,h⟩:=h
   obtain ⟨e,h1,h⟩:=h
   exact sQ [4,5,7,12,14,15,16,150,151,152] 10 [.b false,.b false,.b false,.b true,.auto,.auto,.ld (.int .i64 e),.stop] [(decide (tokens≥1))=false,false=false,false=false,InR .i64 1,true=true,(0:Int)≤1∧(1:Int)<((2:Nat):Int),2≤2,(0:Int)≤1∧(1:Int)<((3:Nat):Int),0=0,0=0,0≤tokens∧tokens<(v4.length:Int),g4=g4,g4=g4,((rowI v4).drop (0+(Int.toNat tokens)*1)).take 1=[.int .i64 e]] hE ⟨hc0,rfl,rfl,(⟨by decide,by decide⟩),rfl,(⟨by decide,by decide⟩),(by decide),(⟨by decide,by decide⟩),rfl,rfl,(Qw h2 h1),rfl,rfl,(rp cI 1 0 1 h1),trivial⟩ (h g2 g4 g6)
theorem buy_ok:Pure Try.prog 186 [.rsl [.int .i64 1,.int .i64 200,.int .i64 6,.int .i64 1000] 0 2,.int .i64 7] (.tup [.rsl (rowI [1,1]) 0 2,.int .i64 1200]):=Qt Try.func186 f186b fun E hE=>by
 have hl:(List.replicate (Int.toNat (1008:Int)) (1152921504606846976:Int)).length=1008:=by rw [List.length_replicate]; rfl
 -- the last loops
 have e5:Vg E 1200 0 0 (LP c0 1008) (LP c1 1008) r2 1 1:=f186W1005 1200 0 0 _ _ _ 1 1 (rv:=([1,1],1200)) hE ⟨fun h=>by omega,fun _=>rfl⟩
 have a0:(LP c1 1008)[0]?=some 0:=Vw (by omega)
 have a6:(LP c1 1008)[6]?=some 1000:=Vw (by omega)
 have b6:(LP c0 1008)[6]?=some 1000:=Vw (by omega)
 have b5:(LP c0 1008)[5]?=some 1000:=Vw (by omega)
 have b7:(LP c0 1008)[7]?=some 1200:=Vw (by omega)
 have e4:Vg E 1200 6 1000 (LP c0 1008) (LP c1 1008) r2 1 0:=f186W1005 1200 6 1000 _ _ _ 1 0 (rv:=([1,1],1200)) hE
  ⟨fun _=>⟨by omega,by omega,0,a0,fun _=>⟨by omega,by omega,fun _=>⟨by omega,by omega,e5⟩,fun h=>absurd rfl h⟩,fun h=>absurd (by omega) h⟩,fun h=>absurd (by omega) h⟩
 have e3:f186G5 E 1200 6 1000 (LP c0 1008) (LP c1 1008) r2 1:=f186W5 1200 6 1000 _ _ _ 1 (rv:=([1,1],1200)) hE
  ⟨fun _=>⟨by omega,by omega,1000,b5,fun _=>⟨by omega,by omega,fun h=>absurd h (by omega),fun _=>⟨by omega,1000,a6,e4⟩⟩,fun h=>absurd (by omega) h⟩,fun h=>absurd (by omega) h⟩
 have e2:f186G5 E 1200 7 1200 (LP c0 1008) (LP c1 1008) r2 0:=f186W5 1200 7 1200 _ _ _ 0 (rv:=([1,1],1200)) hE
  ⟨fun _=>⟨by omega,by omega,1000,b6,fun _=>⟨by omega,by omega,fun _=>⟨by omega,by omega,e3⟩,fun h=>absurd rfl h⟩,fun h=>absurd (by omega) h⟩,fun h=>absurd (by omega) h⟩
 -- the least price
 have l3:∀ (d t:Nat),t+d=1008→7≤t→f186G3 E (LP c0 1008) (LP c1 1008) r2 t 7:=by
  intro d
  induction d with
  | zero =>
   intro t ht h7
   exact f186W3 _ _ _ t 7 (rv:=([1,1],1200)) hE ⟨fun h=>by omega,fun _=>⟨1200,b7,fun h=>absurd h (by omega),fun _=>e2⟩⟩
  | succ d ih =>
   intro t ht h7
   have hg:(LP c0 1008)[t]?=some (c0 t):=by rw [Vw (by omega),if_pos (by omega)]
   have hge:¬ c0 t<1200:=by unfold c0; omega
   exact f186W3 _ _ _ t 7 (rv:=([1,1],1200)) hE ⟨fun _=>⟨_,hg,1200,b7,fun h=>absurd h hge,fun _=>⟨by omega,ih (t+1) (by omega) (by omega)⟩⟩,fun h=>by omega⟩
 -- the rows
 have l2:∀ (d j:Nat),j+d=1008→Qbo E (LP c1 1008) r2 j (LP c0 j):=by
  intro d
  induction d with
  | zero =>
   intro j hj
   have ej:j=1008:=by omega
   subst ej
   exact f186W2 _ _ _ _ (rv:=([1,1],1200)) hE ⟨fun h=>by rw [hl] at h; omega,fun _=>l3 1001 7 (by omega) (by omega)⟩
  | succ d ih =>
   intro j hj
   have g1:(LP c1 1008)[j]?=some (c1 j):=by rw [Vw (by omega),if_pos (by omega)]
   have g2:(LP c0 j)[j]?=some NN:=by rw [Vw (by omega),if_neg (by omega)]
   have nx:=ih (j+1) (by omega)
   rw [← LP_set (f:=c0) (j:=j) (by omega)] at nx
   refine f186W2 _ _ j _ (rv:=([1,1],1200)) hE ⟨fun _=>⟨_,g1,_,g2,by omega,fun h1=>?_,fun h1=>⟨by omega,?_⟩⟩,fun h=>by rw [hl] at h; omega⟩
   · have ej:Int.toNat ((j:Int) - 1)=j - 1:=by omega
     have bd:=c0_bd (t:=j - 1) (by omega)
     have g3:((LP c0 j).set j (c1 j))[Int.toNat ((j:Int) - 1)]?=some (c0 (j - 1)):=by rw [ej,List.getElem?_set_ne (by omega),Vw (by omega),if_pos (by omega)]
     have g4:((LP c0 j).set j (c1 j))[j]?=some (c1 j):=List.getElem?_set_self (by rw [QbG]; omega)
     refine ⟨by omega,_,g3,fun _=>⟨_,g4,by omega,by omega,?_⟩,fun h=>absurd (by omega) h⟩
     rw [List.set_set,c0_step (by omega) (by omega)]
     exact nx
   · have e0:j=0:=by omega
     subst e0
     exact nx
 have l1:∀ (d j:Nat),j+d=1008→VN E r2 j (LP c1 j):=by
  intro d
  induction d with
  | zero =>
   intro j hj
   have ej:j=1008:=by omega
   subst ej
   refine f186W1002 _ _ _ (rv:=([1,1],1200)) hE ⟨fun h=>by rw [hl] at h; omega,fun _=>?_⟩
   have:=l2 1008 0 (by omega)
   rw [← LP_zero] at this
   exact this
  | succ d ih =>
   intro j hj
   have g1:=r2_get (j:=j) (by omega)
   have g2:(LP c1 j)[j]?=some NN:=by rw [Vw (by omega),if_neg (by omega)]
   have nx:=ih (j+1) (by omega)
   rw [← LP_set (f:=c1) (j:=j) (by omega)] at nx
   refine f186W1002 _ j _ (rv:=([1,1],1200)) hE ⟨fun _=>⟨_,g1,_,g2,by omega,fun h1=>?_,fun h1=>⟨by omega,?_⟩⟩,fun h=>by rw [hl] at h; omega⟩
   · have ej:Int.toNat ((j:Int) - 6)=j - 6:=by omega
     rw [if_neg (show ¬ j=0 by omega)]
     have g3:((LP c1 j).set j NN)[Int.toNat ((j:Int) - 6)]?=some (c1 (j - 6)):=by rw [ej,List.getElem?_set_ne (by omega),Vw (by omega),if_pos (by omega)]
     have g4:((LP c1 j).set j NN)[j]?=some NN:=List.getElem?_set_self (by rw [QbG]; omega)
     refine ⟨by omega,_,g3,fun h2=>⟨_,g4,?_,by omega,?_⟩,fun h2=>⟨by omega,?_⟩⟩
     · by_cases h6:(j - 6) % 6=0
       · have:=qW (t:=j - 6) (by omega) h6
         omega
       · rw [QaC h6] at h2
         exact absurd h2 (by decide)
     · have h6:(j - 6) % 6=0:=Decidable.byContradiction fun h6=>by
        rw [QaC h6] at h2
        exact absurd h2 (by decide)
       rw [List.set_set,c1_step (by omega) (by omega) h6]
       exact nx
     · have h6:¬ j % 6=0:=fun h6=>by
        have:=qW (t:=j - 6) (by omega) (by omega)
        omega
       rw [QaC h6] at nx
       exact nx
   · by_cases e0:j=0
     · subst e0
       exact nx
     · rw [if_neg e0]
       have h6:¬ j % 6=0:=by omega
       rw [QaC h6] at nx
       exact nx
 have z:(List.replicate (Int.toNat (1008:Int)) (1152921504606846976:Int))[0]?=some NN:=by rw [List.getElem?_replicate,if_pos (by decide)]
 have fin:=l1 1008 0 (by omega)
 rw [← LP_zero] at fin
 exact f186W (rv:=([1,1],1200)) hE ⟨by omega,by omega,by omega,NN,z,fin⟩
end Go.Proofs.Ytemklbioijmjiaa
namespace Go.Proofs.Ytemklbioijmjiaa
open Go Ax
open Go.Proofs
def exF:Fair:=⟨0,0,[5],[0],[⟨1,200⟩,⟨6,1000⟩],0,0,1⟩
theorem f116b:Try.f116.body=some (Qf Try.prog 116):=by kernel_rfl
theorem u116 {a c k:List AV} {r:AV} (h:Pure Try.prog 116 (a++c++k) r):Qc Try.prog (.clos 116 a k) c r:=Qk Try.func116 (by kernel_rfl) f116b h
theorem f116W {E:Env} {rv:((List Int) × Int × Int)} (hE:Qr Try.prog 116 (.tup [.rsl (rowI rv.1) 0 rv.1.length,.int .i64 rv.2.1,.int .i64 rv.2.2]) E)
 (h:rv=((([1,1]:List Int).take 2),1200,0)):G Try.prog E [.code (Qf Try.prog 116)] ⟨[.agg [.int .i64 0,.int .i64 0,.rsl [.int .i64 5] 0 1,.rsl [.int .i64 0] 0 1,.rsl [.int .i64 1,.int .i64 200,.int .i64 6,.int .i64 1000] 0 2,.int .i64 0,.int .i64 0,.int .i64 1],.int .i64 7]++unds (Try.f116.ntmps - 2),[]⟩:=by
 exact eL (.tup [.rsl (rowI [1,1]) 0 2,.int .i64 1200,.int .i64 0]) [.v (.tup [.rsl (rowI [1,1]) 0 2,.int .i64 1200]),.b false] [Qc Try.prog (.clos 186 [] []) [.rsl [.int .i64 1,.int .i64 200,.int .i64 6,.int .i64 1000] 0 2,.int .i64 7] (.tup [.rsl (rowI [1,1]) 0 2,.int .i64 1200]),2 ≠ 0,false=false] hE Try.func116 ⟨(u186 buy_ok),(by decide),rfl,trivial⟩ (by exact AvLe.of_eq (by rw [h]; rw [(show AV.rsl (rowI [1,1]) 0 2=AV.rsl (rowI ([1,1]:List Int)) 0 ([1,1]:List Int).length from by rw [show 2=([1,1]:List Int).length from by simp]; try rfl)]; try rfl))
theorem bought_ok:Pure Try.prog 116 [.agg [.int .i64 0,.int .i64 0,.rsl [.int .i64 5] 0 1,.rsl [.int .i64 0] 0 1,.rsl [.int .i64 1,.int .i64 200,.int .i64 6,.int .i64 1000] 0 2,.int .i64 0,.int .i64 0,.int .i64 1],.int .i64 7] (.tup [.rsl (rowI [1,1]) 0 2,.int .i64 1200,.int .i64 0]):=Qt Try.func116 f116b fun E hE=>f116W (rv:=([1,1],1200,0)) hE rfl
theorem f48b:Try.f48.body=some (Qf Try.prog 48):=by kernel_rfl
theorem u48 {a c k:List AV} {r:AV} (h:Pure Try.prog 48 (a++c++k) r):Qc Try.prog (.clos 48 a k) c r:=Qk Try.func48 (by kernel_rfl) f48b h
theorem f48W {E:Env} {rv:((List Int) × Int × Int)} (hE:Qr Try.prog 48 (.tup [.rsl (rowI rv.1) 0 rv.1.length,.int .i64 rv.2.1,.int .i64 rv.2.2]) E)
 (h:((¬ ((VM exF)=0)→rv=(([]:List Int),0,(VM exF)))∧((VM exF)=0→(((Qa 7 0 1000)=false→rv=(([]:List Int),0,1))∧((Qa 7 0 1000)=true→rv=((([1,1]:List Int).take 2),1200,0)))))):G Try.prog E [.code (Qf Try.prog 48)] ⟨[.agg [.int .i64 0,.int .i64 0,.rsl [.int .i64 5] 0 1,.rsl [.int .i64 0] 0 1,.rsl [.int .i64 1,.int .i64 200,.int .i64 6,.int .i64 1000] 0 2,.int .i64 0,.int .i64 0,.int .i64 1],.int .i64 7]++unds (Try.f48.ntmps - 2),[]⟩:=by
 rcases bft ((VM exF) != 0) with hc0 | hc0
 · have h:=h.1 (bneT hc0)
   exact eL (.tup [.nilSl,.int .i64 0,.int .i64 (VM exF)]) [.v (.int .i64 (VM exF)),.b true] [Qc Try.prog (.clos 114 [] []) [.agg [.int .i64 0,.int .i64 0,.rsl [.int .i64 5] 0 1,.rsl [.int .i64 0] 0 1,.rsl [.int .i64 1,.int .i64 200,.int .i64 6,.int .i64 1000] 0 2,.int .i64 0,.int .i64 0,.int .i64 1]] (.int .i64 (VM exF)),((VM exF) != 0)=true] hE Try.func48 ⟨(u114 (Kz exF ⟨by decide,by decide,by decide⟩)),hc0,trivial⟩ (by rw [h]; exact (VB ⟨Vq,⟨AvLe.of_eq rfl,⟨AvLe.of_eq rfl,trivial⟩⟩⟩))
 · have h:=h.2 (bneF hc0)
   rcases bft (!(Qa 7 0 1000)) with hc1 | hc1
   · have h:=h.1 (bnT hc1)
     exact eL (.tup [.nilSl,.int .i64 0,.int .i64 1]) [.v (.int .i64 (VM exF)),.b false,.v (.bool (Qa 7 0 1000)),.b true] [Qc Try.prog (.clos 114 [] []) [.agg [.int .i64 0,.int .i64 0,.rsl [.int .i64 5] 0 1,.rsl [.int .i64 0] 0 1,.rsl [.int .i64 1,.int .i64 200,.int .i64 6,.int .i64 1000] 0 2,.int .i64 0,.int .i64 0,.int .i64 1]] (.int .i64 (VM exF)),((VM exF) != 0)=false,Qc Try.prog (.clos 115 [] []) [.int .i64 7,.int .i64 0,.int .i64 1000] (.bool (Qa 7 0 1000)),(!(Qa 7 0 1000))=true] hE Try.func48 ⟨(u114 (Kz exF ⟨by decide,by decide,by decide⟩)),hc0,(u115 (Ql 7 0 1000)),hc1,trivial⟩ (by rw [h]; exact (VB ⟨Vq,⟨AvLe.of_eq rfl,⟨AvLe.of_eq rfl,trivial⟩⟩⟩))
   · have h:=h.2 (bnF hc1)
     exact eL (.tup [.rsl (rowI [1,1]) 0 2,.int .i64 1200,.int .i64 0]) [.v (.int .i64 (VM exF)),.b false,.v (.bool (Qa 7 0 1000)),.b false,.v (.tup [.rsl (rowI [1,1]) 0 2,.int .i64 1200,.int .i64 0])] [Qc Try.prog (.clos 114 [] []) [.agg [.int .i64 0,.int .i64 0,.rsl [.int .i64 5] 0 1,.rsl [.int .i64 0] 0 1,.rsl [.int .i64 1,.int .i64 200,.int .i64 6,.int .i64 1000] 0 2,.int .i64 0,.int .i64 0,.int .i64 1]] (.int .i64 (VM exF)),((VM exF) != 0)=false,Qc Try.prog (.clos 115 [] []) [.int .i64 7,.int .i64 0,.int .i64 1000] (.bool (Qa 7 0 1000)),(!(Qa 7 0 1000))=false,Qc Try.prog (.clos 116 [] []) [.agg [.int .i64 0,.int .i64 0,.rsl [.int .i64 5] 0 1,.rsl [.int .i64 0] 0 1,.rsl [.int .i64 1,.int .i64 200,.int .i64 6,.int .i64 1000] 0 2,.int .i64 0,.int .i64 0,.int .i64 1],.int .i64 7] (.tup [.rsl (rowI [1,1]) 0 2,.int .i64 1200,.int .i64 0])] hE Try.func48 ⟨(u114 (Kz exF ⟨by decide,by decide,by decide⟩)),hc0,(u115 (Ql 7 0 1000)),hc1,(u116 bought_ok),trivial⟩ (by exact AvLe.of_eq (by rw [h]; rw [(show AV.rsl (rowI [1,1]) 0 2=AV.rsl (rowI ([1,1]:List Int)) 0 ([1,1]:List Int).length from by rw [show 2=([1,1]:List Int).length from by simp]; try rfl)]; try rfl))
theorem exF_ok:VM exF=0:=by decide
theorem Buy_ok:Pure Try.prog 48 [.agg [.int .i64 0,.int .i64 0,.rsl [.int .i64 5] 0 1,.rsl [.int .i64 0] 0 1,.rsl [.int .i64 1,.int .i64 200,.int .i64 6,.int .i64 1000] 0 2,.int .i64 0,.int .i64 0,.int .i64 1],.int .i64 7] (.tup [.rsl (rowI [1,1]) 0 2,.int .i64 1200,.int .i64 0]):=Qt Try.func48 f48b fun E hE=>f48W (rv:=([1,1],1200,0)) hE ⟨fun h=>absurd exF_ok h,fun _=>⟨fun h=>absurd h (by decide),fun _=>rfl⟩⟩
theorem f31b:Try.f31.body=some (Qf Try.prog 31):=by kernel_rfl
theorem u31 {a c k:List AV} {r:AV} (h:Pure Try.prog 31 (a++c++k) r):Qc Try.prog (.clos 31 a k) c r:=Qk Try.func31 (by kernel_rfl) f31b h
def f31K0 (P:Program):List Item:=kAt 400 [.code (Qf P 31)] [.b false,.stop]
def f31S0 (a:(List Int)) (b:(List Int)) (i:Nat):St:=⟨([.rsl (rowI a) 0 a.length,.rsl (rowI b) 0 b.length,J,J,J,.int .i64 (i:Int)]++Js 20),[]⟩
def f31G0 (E:Env) (a:(List Int)) (b:(List Int)) (i:Nat):Prop:=G Try.prog E (f31K0 Try.prog) (f31S0 a b i )
theorem f31W (a:(List Int)) (b:(List Int)) {E:Env} {rv:Bool} (hE:Qr Try.prog 31 (.bool rv) E)
 (h:((¬ ((a.length:Int)=(b.length:Int))→rv=false)∧((a.length:Int)=(b.length:Int)→f31G0 E a b 0))):G Try.prog E [.code (Qf Try.prog 31)] ⟨[.rsl (rowI a) 0 a.length,.rsl (rowI b) 0 b.length]++unds (Try.f31.ntmps - 2),[]⟩:=by
 rcases bft ((a.length:Int) != (b.length:Int)) with hc0 | hc0
 · have h:=h.1 (bneT hc0)
   exact eL (.bool false) [.b true] [((a.length:Int) != (b.length:Int))=true] hE Try.func31 ⟨hc0,trivial⟩ (by exact AvLe.of_eq (by rw [h]; try rfl))
 · have h:=h.2 (bneF hc0)
   exact sQ [0,1,5] 0 [.b false,.stop] [((a.length:Int) != (b.length:Int))=false] hE ⟨hc0,trivial⟩ h
theorem f31W0 (a:(List Int)) (b:(List Int)) (i:Nat) {E:Env} {rv:Bool} (hE:Qr Try.prog 31 (.bool rv) E)
 (h:(((i:Int)<(a.length:Int)→(∃ e:Int,a[i]?=some e∧(∃ e1:Int,b[i]?=some e1∧((¬ (e=e1)→rv=false)∧(e=e1→((I6 ((i:Int)+1))∧f31G0 E a b (i+1)))))))∧(¬ ((i:Int)<(a.length:Int))→rv=true))):f31G0 E a b i:=by
 rcases bft (decide ((i:Int)<(a.length:Int))) with hc0 | hc0
 · have h:=h.1 (odt hc0)
   obtain ⟨e,h1,h⟩:=h
   obtain ⟨e1,h2,h⟩:=h
   rcases bft (e != e1) with hc1 | hc1
   · have h:=h.1 (bneT hc1)
     exact eL (.bool false) [.b true,.ld (.int .i64 e),.ld (.int .i64 e1),.b true] [(decide ((i:Int)<(a.length:Int)))=true,0≤(i:Int)∧(i:Int)<(a.length:Int),((rowI a).drop (0+(Int.toNat (i:Int))*1)).take 1=[.int .i64 e],0≤(i:Int)∧(i:Int)<(b.length:Int),((rowI b).drop (0+(Int.toNat (i:Int))*1)).take 1=[.int .i64 e1],(e != e1)=true] hE Try.func31 ⟨hc0,(Qm h1),(rp cI 1 0 1 h1),(Qm h2),(rp cI 1 0 1 h2),hc1,trivial⟩ (by exact AvLe.of_eq (by rw [h]; try rfl))
   · have h:=h.2 (bneF hc1)
     obtain ⟨q8_2,h⟩:=h
     exact sQ [0,1,5] 0 [.b true,.ld (.int .i64 e),.ld (.int .i64 e1),.b false,.stop] [(decide ((i:Int)<(a.length:Int)))=true,0≤(i:Int)∧(i:Int)<(a.length:Int),((rowI a).drop (0+(Int.toNat (i:Int))*1)).take 1=[.int .i64 e],0≤(i:Int)∧(i:Int)<(b.length:Int),((rowI b).drop (0+(Int.toNat (i:Int))*1)).take 1=[.int .i64 e1],(e != e1)=false,InR .i64 ((i:Int)+1)] hE ⟨hc0,(Qm h1),(rp cI 1 0 1 h1),(Qm h2),(rp cI 1 0 1 h2),hc1,q8_2,trivial⟩ h
 · have h:=h.2 (odf hc0)
   exact eL (.bool true) [.b false] [(decide ((i:Int)<(a.length:Int)))=false] hE Try.func31 ⟨hc0,trivial⟩ (by exact AvLe.of_eq (by rw [h]; try rfl))
theorem tsame_ok (a b:List Int) (h:a=b∧a.length≤1000000):Pure Try.prog 31 [.rsl (rowI a) 0 a.length,.rsl (rowI b) 0 b.length] (.bool true):=Qt Try.func31 f31b fun E hE=>by
 obtain ⟨rfl,hl⟩:=h
 have key:∀ (d i:Nat),i+d=a.length→f31G0 E a a i:=by
  intro d
  induction d with
  | zero=>intro i hi; exact f31W0 a a i (rv:=true) hE ⟨fun h=>by omega,fun _=>rfl⟩
  | succ d ih =>
   intro i hi
   have hx:a[i]?=some (a[i]'(by omega)):=List.getElem?_eq_getElem (by omega)
   exact f31W0 a a i (rv:=true) hE ⟨fun _=>⟨_,hx,_,hx,fun h=>absurd rfl h,fun _=>⟨by omega,ih (i+1) (by omega)⟩⟩,fun h=>by omega⟩
 exact f31W a a (rv:=true) hE ⟨fun h=>absurd rfl h,fun _=>key a.length 0 (by omega)⟩
theorem f13b:Try.f13.body=some (Qf Try.prog 13):=by kernel_rfl
theorem u13 {a c k:List AV} {r:AV} (h:Pure Try.prog 13 (a++c++k) r):Qc Try.prog (.clos 13 a k) c r:=Qk Try.func13 (by kernel_rfl) f13b h
theorem f13W {E:Env} {rv:Bool} (hE:Qr Try.prog 13 (.bool rv) E)
 (h:(((([1,1]:List Int).take 2)=([1,1])∧(([1,1]:List Int).take 2).length≤1000000)∧rv=true)):G Try.prog E [.code (Qf Try.prog 13)] ⟨[]++unds (Try.f13.ntmps - 0),[]⟩:=by
 obtain ⟨h1,h⟩:=h
 exact eL (.bool true) [.lent [0,1,2] (.tup [.rsl (rowI [1,1]) 0 2,.int .i64 1200,.int .i64 0]) [⟨false,1,1,true,[],false⟩,⟨false,1,1,true,[],false⟩,⟨false,1,2,true,[],false⟩],.b true,.b true,.v (.bool true)] [8≤8,Yk Try.prog (.clos 48 [] []) [.agg [.int .i64 0,.int .i64 0,.sl 0 0 0 1 1,.sl 1 0 0 1 1,.sl 2 0 0 2 2,.int .i64 0,.int .i64 0,.int .i64 1],.int .i64 7] [⟨true,0,1,true,[.int .i64 5],true⟩,⟨true,0,1,true,[.int .i64 0],true⟩,⟨true,0,2,true,[.int .i64 1,.int .i64 200,.int .i64 6,.int .i64 1000],true⟩] (.tup [.rsl (rowI [1,1]) 0 2,.int .i64 1200,.int .i64 0]) [⟨false,1,1,true,[],false⟩,⟨false,1,1,true,[],false⟩,⟨false,1,2,true,[],false⟩],true=true,true=true,Qc Try.prog (.clos 31 [] []) [.rsl (rowI [1,1]) 0 2,.rsl [.int .i64 1,.int .i64 1] 0 2] (.bool true),0=0] hE Try.func13 ⟨(by decide),(Ys (fv':=.clos 48 [] []) (args':=[.agg [.int .i64 0,.int .i64 0,.rsl [.int .i64 5] 0 1,.rsl [.int .i64 0] 0 1,.rsl [.int .i64 1,.int .i64 200,.int .i64 6,.int .i64 1000] 0 2,.int .i64 0,.int .i64 0,.int .i64 1],.int .i64 7]) (o1:=[]) (o2:=[0=0,0=0,0=0]) (by kernel_rfl) trivial (by kernel_rfl) ⟨rfl,rfl,rfl,trivial⟩ (u48 Buy_ok)),rfl,rfl,(Qc.le (args:=[.rsl (rowI (([1,1]:List Int).take 2)) 0 ((([1,1]:List Int).take 2).length),.rsl (rowI ([1,1])) 0 (([1,1]).length)]) (u31 (tsame_ok (([1,1]:List Int).take 2) ([1,1]) h1)) ⟨(by exact rsl_take cI (s:=1) (fun _=>rfl) (by first | omega | decide | simp)),⟨AvLe.of_eq rfl,trivial⟩⟩),rfl,trivial⟩ (by exact AvLe.of_eq (by rw [h]; try rfl))
theorem yH:Pure Try.prog 13 [] (.bool true):=Qt Try.func13 f13b fun E hE=>f13W (rv:=true) hE ⟨⟨rfl,by decide⟩,rfl⟩
end Go.Proofs.Ytemklbioijmjiaa
namespace Go.Proofs.Ytemklbioijmjiaa
open Go Ax
open Go.Proofs
theorem Vy:Try.prog.follows .mixedOrders=true:=by kernel_rfl
theorem f110b:Try.f110.body=some (Qf Try.prog 110):=by kernel_rfl
theorem u110 {a c k:List AV} {r:AV} (h:Pure Try.prog 110 (a++c++k) r):Qc Try.prog (.clos 110 a k) c r:=Qk Try.func110 (by kernel_rfl) f110b h
theorem f110W (n:Int) (lo:Int) (hi:Int) {E:Env} {rv:Bool} (hE:Qr Try.prog 110 (.bool rv) E)
 (h:((n≥lo→rv=(decide (n≤hi)))∧(¬ (n≥lo)→rv=false))):G Try.prog E [.code (Qf Try.prog 110)] ⟨[.int .i64 n,.int .i64 lo,.int .i64 hi]++unds (Try.f110.ntmps - 3),[]⟩:=by
 rcases bft (decide (n≥lo)) with hc0 | hc0
 · have h:=h.1 (odt hc0)
   exact eL (.bool (decide (n≤hi))) [.b true] [(decide (n≥lo))=true] hE Try.func110 ⟨hc0,trivial⟩ (by exact AvLe.of_eq (by rw [h]; try rfl))
 · have h:=h.2 (odf hc0)
   exact eL (.bool false) [.b false] [(decide (n≥lo))=false] hE Try.func110 ⟨hc0,trivial⟩ (by exact AvLe.of_eq (by rw [h]; try rfl))
def Qg (n lo hi:Int):Bool:=decide (n≥lo) && decide (n≤hi)
theorem QP (n lo hi:Int):Pure Try.prog 110 [.int .i64 n,.int .i64 lo,.int .i64 hi] (.bool (Qg n lo hi)):=Qt Try.func110 f110b fun E hE=>by
 refine f110W n lo hi hE ⟨fun h=>by simp [Qg,h],fun h=>by simp only [Qg]; rw [decide_eq_false h]; rfl⟩
end Go.Proofs.Ytemklbioijmjiaa
namespace Go.Proofs.Ytemklbioijmjiaa
open Go Ax
open Go.Proofs
theorem f158b:Try.f158.body=some (Qf Try.prog 158):=by kernel_rfl
theorem u158 {a c k:List AV} {r:AV} (h:Pure Try.prog 158 (a++c++k) r):Qc Try.prog (.clos 158 a k) c r:=Qk Try.func158 (by kernel_rfl) f158b h
def f158K0 (P:Program):List Item:=kAt 400 [.code (Qf P 158)] [.stop]
def f158S0 (l:(List Int)) (n:Int) (i:Nat):St:=⟨([J,J,.int .i64 n,J,J,.rsl (rowI l) 0 l.length,.int .i64 (l.length:Int),.int .i64 (i:Int)]++Js 8),[]⟩
def f158G0 (E:Env) (l:(List Int)) (n:Int) (i:Nat):Prop:=G Try.prog E (f158K0 Try.prog) (f158S0 l n i )
theorem f158W (l:(List Int)) {E:Env} {rv:Int} (hE:Qr Try.prog 158 (.int .i64 rv) E)
 (h:f158G0 E l 0 0):G Try.prog E [.code (Qf Try.prog 158)] ⟨[.rsl (rowI l) 0 l.length]++unds (Try.f158.ntmps - 1),[]⟩:=by
 exact sQ [2,5,6,7] 0 [.stop] [] hE trivial h
theorem f158W0 (l:(List Int)) (n:Int) (i:Nat) {E:Env} {rv:Int} (hE:Qr Try.prog 158 (.int .i64 rv) E)
 (h:(((i:Int)<(l.length:Int)→(∃ e:Int,l[i]?=some e∧((I6 (n+e))∧((I6 ((i:Int)+1))∧f158G0 E l (n+e) (i+1)))))∧(¬ ((i:Int)<(l.length:Int))→rv=n))):f158G0 E l n i:=by
 rcases bft (decide ((i:Int)<(l.length:Int))) with hc0 | hc0
 · have h:=h.1 (odt hc0)
   obtain ⟨e,h1,h⟩:=h
   obtain ⟨q4_1,h⟩:=h
   obtain ⟨q5_1,h⟩:=h
   exact sQ [2,5,6,7] 0 [.b true,.ld (.int .i64 e),.stop] [(decide ((i:Int)<(l.length:Int)))=true,0≤(i:Int)∧(i:Int)<(l.length:Int),((rowI l).drop (0+(Int.toNat (i:Int))*1)).take 1=[.int .i64 e],InR .i64 (n+e),InR .i64 ((i:Int)+1)] hE ⟨hc0,(Qm h1),(rp cI 1 0 1 h1),q4_1,q5_1,trivial⟩ h
 · have h:=h.2 (odf hc0)
   exact eL (.int .i64 n) [.b false] [(decide ((i:Int)<(l.length:Int)))=false] hE Try.func158 ⟨hc0,trivial⟩ (by exact AvLe.of_eq (by rw [h]; try rfl))
def sumI (l:List Int):Int:=l.sum
def SumOk (l:List Int):Prop:=l.length≤9223372036854775807∧∀ k,k≤l.length→-9223372036854775808≤(l.take k).sum∧(l.take k).sum≤9223372036854775807
theorem sum_take {l:List Int} {i:Nat} {e:Int} (h:l[i]?=some e):(l.take (i+1)).sum=(l.take i).sum+e:=by
 rw [List.take_add_one,h,List.sum_append]; simp
theorem sum_ok (l:List Int) (h:SumOk l):Pure Try.prog 158 [.rsl (rowI l) 0 l.length] (.int .i64 (sumI l)):=Qt Try.func158 f158b fun E hE=>by
 have key:∀ (d i:Nat),i+d=l.length→f158G0 E l (l.take i).sum i:=by
  intro d
  induction d with
  | zero =>
   intro i hd
   refine f158W0 l _ i (rv:=sumI l) hE ⟨fun h=>by omega,fun _=>?_⟩
   rw [List.take_of_length_le (by omega)]; rfl
  | succ d ih =>
   intro i hd
   have hi:l[i]?=some l[i]:=List.getElem?_eq_getElem (by omega)
   have h1:=h.2 (i+1) (by omega)
   have h2:=ih (i+1) (by omega)
   rw [sum_take hi] at h1 h2
   have h3:=h.1
   exact f158W0 l _ i (rv:=sumI l) hE ⟨fun _=>⟨_,hi,h1,by omega,h2⟩,fun h=>by omega⟩
 exact f158W l hE (key l.length 0 (by omega))
def Vl (n:Int):Bool:=Qg n 0 1000000000
theorem f85b:Try.f85.body=some (Qf Try.prog 85):=by kernel_rfl
theorem u85 {a c k:List AV} {r:AV} (h:Pure Try.prog 85 (a++c++k) r):Qc Try.prog (.clos 85 a k) c r:=Qk Try.func85 (by kernel_rfl) f85b h
theorem f85W (n:Int) {E:Env} {rv:Bool} (hE:Qr Try.prog 85 (.bool rv) E)
 (h:rv=(Qg n 0 1000000000)):G Try.prog E [.code (Qf Try.prog 85)] ⟨[.int .i64 n]++unds (Try.f85.ntmps - 1),[]⟩:=by
 exact eL (.bool (Qg n 0 1000000000)) [.v (.bool (Qg n 0 1000000000))] [Qc Try.prog (.clos 110 [] []) [.int .i64 n,.int .i64 0,.int .i64 1000000000] (.bool (Qg n 0 1000000000))] hE Try.func85 ⟨(u110 (QP n 0 1000000000)),trivial⟩ (by exact AvLe.of_eq (by rw [h]; try rfl))
theorem QaF (n:Int):Pure Try.prog 85 [.int .i64 n] (.bool (Vl n)):=Qt Try.func85 f85b fun E hE=>f85W n hE rfl
/-- The first place where it holds; -1 if there is none. -/
def idxI (p:Int→Bool) (l:List Int):Int:=match l.findIdx? p with
 | some i=>(i:Int)
 | none=>-1
theorem idx_from (p:Int→Bool) (l:List Int):∀ (d i:Nat),i+d=l.length→(∀ j x,j<i→l[j]?=some x→p x=false)→∀ (Q:Nat→Prop),(∀ i,i<l.length→(∀ x,l[i]?=some x→(p x=true→idxI p l=i))→(∀ x,l[i]?=some x→p x=false→Q (i+1))→Q i) →
 ((∀ x ∈ l,p x=false)→idxI p l=-1→Q l.length)→Q i:=by
 intro d
 induction d with
 | zero =>
  intro i hi hp Q h1 h2
  have:i=l.length:=by omega
  subst this
  have hall:∀ x ∈ l,p x=false:=fun x hx=>by
   obtain ⟨j,hj⟩:=List.getElem?_of_mem hx
   exact hp j x (List.getElem?_eq_some_iff.1 hj).1 hj
  exact h2 hall (by simp only [idxI]; rw [List.findIdx?_eq_none_iff.2 hall])
 | succ d ih =>
  intro i hi hp Q h1 h2
  refine h1 i (by omega) (fun x hx hpx=>?_) (fun x hx hpx=>ih (i+1) (by omega) (fun j y hj hy=>?_) Q h1 h2)
  · have:l.findIdx? p=some i:=by
     rw [List.findIdx?_eq_some_iff_getElem]
     have hlt:=(List.getElem?_eq_some_iff.1 hx).1
     have he:=(List.getElem?_eq_some_iff.1 hx).2
     refine ⟨hlt,by rw [he]; exact hpx,fun j hj=>?_⟩
     have:=hp j _ hj (List.getElem?_eq_getElem (by omega))
     simp [this]
    simp only [idxI,this]
  · rcases Nat.lt_or_ge j i with h | h
    · exact hp j y h hy
    · have:j=i:=by omega
      subst this
      rw [hx] at hy; cases hy; exact hpx
theorem idx_any (p:Int→Bool) (l:List Int):decide (idxI p l≥0)=l.any p:=by
 cases h:l.findIdx? p with
 | none =>
  have e:idxI p l=-1:=by simp only [idxI,h]
  rw [e]
  rw [List.findIdx?_eq_none_iff] at h
  rw [show l.any p=false from by simpa using fun x hx=>by simpa using h x hx]; rfl
 | some i =>
  have e:idxI p l=(i:Int):=by simp only [idxI,h]
  rw [e]
  have:=List.findIdx?_eq_some_iff_getElem.1 h
  obtain ⟨h1,h2,-⟩:=this
  have:l.any p=true:=by rw [List.any_eq_true]; exact ⟨l[i],List.getElem_mem _,h2⟩
  rw [this]; simp
end Go.Proofs.Ytemklbioijmjiaa
namespace Go.Proofs.Ytemklbioijmjiaa
open Go Ax
open Go.Proofs
def shareI (c S w:Int):Int:=Int.tdiv (c*w) S
structure SplitOk (c:Int) (ws:List Int):Prop where
 len1:1≤ws.length
 len:ws.length≤10
 w:∀ x ∈ ws,0≤x∧x≤1000
 pos:0<sumI ws
 c0:0≤c
 c1:c≤1000000000
end Go.Proofs.Ytemklbioijmjiaa
namespace Go.Proofs.Ytemklbioijmjiaa
open Go Ax
open Go.Proofs
theorem Qx {n lo hi:Int}:Qg n lo hi=true ↔ lo≤n∧n≤hi:=by simp [Qg]
end Go.Proofs.Ytemklbioijmjiaa
namespace Go.Proofs.Ytemklbioijmjiaa
open Go Ax
open Go.Proofs
structure Bra where
 from_:Int
 per:Int
/-- Sorted,in range. -/
def BrS (l:List Bra):Prop:=(∀ b ∈ l,0≤b.from_∧b.from_≤1000000000∧0≤b.per∧b.per≤100)∧l.Pairwise fun a b=>a.from_<b.from_
theorem BrS.drop {l:List Bra} (h:BrS l) (i:Nat):BrS (l.drop i):=⟨fun b hb=>h.1 b (List.mem_of_mem_drop hb),h.2.sublist (List.drop_sublist _ _)⟩
end Go.Proofs.Ytemklbioijmjiaa
namespace Go.Proofs.Ytemklbioijmjiaa
open Go Ax
open Go.Proofs
structure Pay where
 frm:Int
 to:Int
 c:Int
def cPay (b:Pay):List AV:=[.int .i64 b.frm,.int .i64 b.to,.int .i64 b.c]
def Qu (l:List Pay):List AV:=l.flatMap cPay
theorem f230b:Try.f230.body=some (Qf Try.prog 230):=by kernel_rfl
theorem u230 {a c k:List AV} {r:AV} (h:Pure Try.prog 230 (a++c++k) r):Qc Try.prog (.clos 230 a k) c r:=Qk Try.func230 (by kernel_rfl) f230b h
theorem f230W (n:Int) {E:Env} {rv:Bool} (hE:Qr Try.prog 230 (.bool rv) E)
 (h:rv=(!(Qg n (-10000000000) 10000000000))):G Try.prog E [.code (Qf Try.prog 230)] ⟨[.int .i64 n]++unds (Try.f230.ntmps - 1),[]⟩:=by
 exact eL (.bool (!(Qg n (-10000000000) 10000000000))) [.v (.bool (Qg n (-10000000000) 10000000000))] [Qc Try.prog (.clos 110 [] []) [.int .i64 n,.int .i64 (-10000000000),.int .i64 10000000000] (.bool (Qg n (-10000000000) 10000000000))] hE Try.func230 ⟨(u110 (QP n (-10000000000) 10000000000)),trivial⟩ (by exact AvLe.of_eq (by rw [h]; try rfl))
def balN (n:Int):Bool:=Qg n (-10000000000) 10000000000
theorem notBal_ok (n:Int):Pure Try.prog 230 [.int .i64 n] (.bool (!balN n)):=Qt Try.func230 f230b fun E hE=>f230W n hE rfl
theorem f74cb:Try.f59.body=some (Qf Try.prog 59):=by kernel_rfl
def f74cK0 (P:Program):List Item:=kAt 400 [.code (Qf P 59)] [.stop]
def f74cS0 (l:(List Int)) (i:Nat):St:=⟨([.rsl (rowI l) 0 l.length,.clos 230 [] []]++jj 5 ([.int .i64 (l.length:Int),.int .i64 (i:Int)]++Js 10)),[]⟩
def f74cG0 (E:Env) (l:(List Int)) (i:Nat):Prop:=G Try.prog E (f74cK0 Try.prog) (f74cS0 l i )
theorem f74cW (l:(List Int)) {E:Env} {rv:Int} (hE:Qr Try.prog 59 (.int .i64 rv) E)
 (h:f74cG0 E l 0):G Try.prog E [.code (Qf Try.prog 59)] ⟨[.rsl (rowI l) 0 l.length,.clos 230 [] []]++unds (Try.f59.ntmps - 2),[]⟩:=by
 exact sQ [0,1,7,8] 0 [.stop] [] hE trivial h
theorem f74cW0 (l:(List Int)) (i:Nat) {E:Env} {rv:Int} (hE:Qr Try.prog 59 (.int .i64 rv) E)
 (h:(((i:Int)<(l.length:Int)→(∃ e:Int,l[i]?=some e∧(((!balN e)=true→rv=(i:Int))∧((!balN e)=false→((I6 ((i:Int)+1))∧f74cG0 E l (i+1))))))∧(¬ ((i:Int)<(l.length:Int))→rv=(-1)))):f74cG0 E l i:=by
 rcases bft (decide ((i:Int)<(l.length:Int))) with hc0 | hc0
 · have h:=h.1 (odt hc0)
   obtain ⟨e,h1,h⟩:=h
   rcases bft (!balN e) with hc1 | hc1
   · have h:=h.1 hc1
     exact eL (.int .i64 (i:Int)) [.b true,.ld (.int .i64 e),.v (.bool (!balN e)),.b true] [(decide ((i:Int)<(l.length:Int)))=true,0≤(i:Int)∧(i:Int)<(l.length:Int),((rowI l).drop (0+(Int.toNat (i:Int))*1)).take 1=[.int .i64 e],Qc Try.prog (.clos 230 [] []) [.int .i64 e] (.bool (!balN e)),(!balN e)=true] hE Try.func59 ⟨hc0,(Qm h1),(rp cI 1 0 1 h1),(u230 (notBal_ok e)),hc1,trivial⟩ (by exact AvLe.of_eq (by rw [h]; try rfl))
   · have h:=h.2 hc1
     obtain ⟨q6_2,h⟩:=h
     exact sQ [0,1,7,8] 0 [.b true,.ld (.int .i64 e),.v (.bool (!balN e)),.b false,.stop] [(decide ((i:Int)<(l.length:Int)))=true,0≤(i:Int)∧(i:Int)<(l.length:Int),((rowI l).drop (0+(Int.toNat (i:Int))*1)).take 1=[.int .i64 e],Qc Try.prog (.clos 230 [] []) [.int .i64 e] (.bool (!balN e)),(!balN e)=false,InR .i64 ((i:Int)+1)] hE ⟨hc0,(Qm h1),(rp cI 1 0 1 h1),(u230 (notBal_ok e)),hc1,q6_2,trivial⟩ h
 · have h:=h.2 (odf hc0)
   exact eL (.int .i64 (-1)) [.b false] [(decide ((i:Int)<(l.length:Int)))=false] hE Try.func59 ⟨hc0,trivial⟩ (by exact AvLe.of_eq (by rw [h]; try rfl))
theorem idx69_ok (l:List Int) (h:l.length≤9223372036854775807):Pure Try.prog 59 [.rsl (rowI l) 0 l.length,.clos 230 [] []] (.int .i64 (idxI (fun x=>!balN x) l)):=Qt Try.func59 f74cb fun E hE=>by
 refine f74cW l hE (idx_from (fun x=>!balN x) l l.length 0 (by omega) (fun j x hj=>by omega) (fun i=>f74cG0 E l i) (fun i hi h1 h2=>?_) (fun _ h2=>?_))
 · have hx:l[i]?=some l[i]:=List.getElem?_eq_getElem hi
   exact f74cW0 l i hE ⟨fun _=>⟨_,hx,fun hp=>h1 _ hx hp,fun hp=>⟨by omega,h2 _ hx hp⟩⟩,fun h=>by omega⟩
 · exact f74cW0 l _ hE ⟨fun h=>by omega,fun _=>h2⟩
theorem f62cb:Try.f76.body=some (Qf Try.prog 76):=by kernel_rfl
theorem f62cW (l:(List Int)) {E:Env} {rv:Bool} (hE:Qr Try.prog 76 (.bool rv) E)
 (h:((l.length≤9223372036854775807)∧rv=(decide ((idxI (fun x=>!balN x) l)≥0)))):G Try.prog E [.code (Qf Try.prog 76)] ⟨[.rsl (rowI l) 0 l.length,.clos 230 [] []]++unds (Try.f76.ntmps - 2),[]⟩:=by
 obtain ⟨h1,h⟩:=h
 exact eL (.bool (decide ((idxI (fun x=>!balN x) l)≥0))) [.v (.int .i64 (idxI (fun x=>!balN x) l))] [Qc Try.prog (.clos 59 [] []) [.rsl (rowI l) 0 l.length,.clos 230 [] []] (.int .i64 (idxI (fun x=>!balN x) l))] hE Try.func76 ⟨(Qk Try.func59 (by kernel_rfl) f74cb (idx69_ok l h1)),trivial⟩ (by exact AvLe.of_eq (by rw [h]; try rfl))
theorem any69_ok (l:List Int) (h:l.length≤9223372036854775807):Pure Try.prog 76 [.rsl (rowI l) 0 l.length,.clos 230 [] []] (.bool (l.any fun x=>!balN x)):=Qt Try.func76 f62cb fun E hE =>
 f62cW l hE ⟨h,(idx_any _ _).symm⟩
def balB (l:List Int):Bool:=Qg l.length 1 10 && !(l.any fun x=>!balN x)
theorem f176b:Try.f176.body=some (Qf Try.prog 176):=by kernel_rfl
theorem u176 {a c k:List AV} {r:AV} (h:Pure Try.prog 176 (a++c++k) r):Qc Try.prog (.clos 176 a k) c r:=Qk Try.func176 (by kernel_rfl) f176b h
theorem f176W (l:(List Int)) {E:Env} {rv:Bool} (hE:Qr Try.prog 176 (.bool rv) E)
 (h:(((Qg (l.length:Int) 1 10)=true→((l.length≤9223372036854775807)∧rv=(!(l.any (fun x=>!balN x)))))∧((Qg (l.length:Int) 1 10)=false→rv=false))):G Try.prog E [.code (Qf Try.prog 176)] ⟨[.rsl (rowI l) 0 l.length]++unds (Try.f176.ntmps - 1),[]⟩:=by
 rcases bft (Qg (l.length:Int) 1 10) with hc0 | hc0
 · have h:=h.1 hc0
   obtain ⟨h1,h⟩:=h
   exact eL (.bool (!(l.any (fun x=>!balN x)))) [.v (.bool (Qg (l.length:Int) 1 10)),.b true,.v (.bool (l.any (fun x=>!balN x)))] [Qc Try.prog (.clos 110 [] []) [.int .i64 (l.length:Int),.int .i64 1,.int .i64 10] (.bool (Qg (l.length:Int) 1 10)),(Qg (l.length:Int) 1 10)=true,Qc Try.prog (.clos 76 [] []) [.rsl (rowI l) 0 l.length,.clos 230 [] []] (.bool (l.any (fun x=>!balN x)))] hE Try.func176 ⟨(u110 (QP (l.length:Int) 1 10)),hc0,(Qk Try.func76 (by kernel_rfl) f62cb (any69_ok l h1)),trivial⟩ (by exact AvLe.of_eq (by rw [h]; try rfl))
 · have h:=h.2 hc0
   exact eL (.bool false) [.v (.bool (Qg (l.length:Int) 1 10)),.b false] [Qc Try.prog (.clos 110 [] []) [.int .i64 (l.length:Int),.int .i64 1,.int .i64 10] (.bool (Qg (l.length:Int) 1 10)),(Qg (l.length:Int) 1 10)=false] hE Try.func176 ⟨(u110 (QP (l.length:Int) 1 10)),hc0,trivial⟩ (by exact AvLe.of_eq (by rw [h]; try rfl))
theorem YL (l:List Int) (h:l.length≤9223372036854775807):Pure Try.prog 176 [.rsl (rowI l) 0 l.length] (.bool (balB l)):=Qt Try.func176 f176b fun E hE=>by
 refine f176W l hE ⟨fun h1=>⟨h,by simp [balB,h1]⟩,fun h1=>by simp [balB,h1]⟩
theorem f171bTk:Try.f171.body=some (Qf Try.prog 171):=by kernel_rfl
theorem f171WTk (l:(List Int)) {E:Env} {rv:Unit} {lo:List Int} (hE:LentE Try.prog 171 [] (.sl 0 1 0 lo.length 1) [⟨true,1,1,true,(rowI lo),true⟩] E)
 (h:(l.length ≠ 0∧((0+l.length)≤2147483648∧lo=l))):G Try.prog E [.code (Qf Try.prog 171)] ⟨[.rsl (rowI l) 0 l.length]++unds (Try.f171.ntmps - 1),[]⟩:=by
 obtain ⟨q0_0,h⟩:=h
 obtain ⟨h1,h⟩:=h
 have qe0:=h
 exact eB (.sl 0 1 0 (0+l.length) 1) [⟨true,1,1,true,(rowI l),true⟩] [2] 1 [.b false,.cs (rowI l)] [l.length ≠ 0,false=false,0=0,0=0,(0+l.length)≤2147483648,((rowI l).drop 0).take (l.length*1)=(rowI l),(rowI l).length=(l.length*1),noRefs (rowI l)=true] hE (hE.nogh0 _) Try.func171 ⟨q0_0,rfl,rfl,rfl,h1,(by exact XX cI (fun _=>rfl) l),(by exact QG cI (fun _=>rfl) l),(by exact Yo cI (fun _=>rfl) l),trivial⟩ (by rw [qe0]; rw [(show (0+l.length)=l.length from by simp)]; try rfl) (by rw [qe0]; all_goals (first | rfl | (simp only [List.length_set]; done) | (simp only [List.length_set]; rfl) | (simp only [List.length_set,List.length_replicate]; done)))
theorem clone_okTk (l:List Int) (h:l.length≤1000∧l.length ≠ 0):Lent Try.prog 171 [.rsl (rowI l) 0 l.length] [] (.sl 0 1 0 l.length 1) [⟨true,1,1,true,rowI l,true⟩]:=by
 refine Qcf Try.func171 f171bTk fun E hE=>?_
 exact f171WTk l (lo:=l) (rv:=()) hE ⟨h.2,by omega,rfl⟩
theorem f177b:Try.f177.body=some (Qf Try.prog 177):=by kernel_rfl
theorem u177 {a c k:List AV} {r:AV} (h:Pure Try.prog 177 (a++c++k) r):Qc Try.prog (.clos 177 a k) c r:=Qk Try.func177 (by kernel_rfl) f177b h
theorem f177W (n:Int) (l:List Int) {E:Env} {rv:Bool} (hE:Qr Try.prog 177 (.bool rv) E)
 (h:((I6 ((l.length:Int) - 1))∧rv=(Qg n 0 ((l.length:Int) - 1)))):G Try.prog E [.code (Qf Try.prog 177)] ⟨[.int .i64 n,.rptr [.rsl (rowI l) 0 l.length] 0]++unds (Try.f177.ntmps - 2),[]⟩:=by
 obtain ⟨q0_0,h⟩:=h
 exact eL (.bool (Qg n 0 ((l.length:Int) - 1))) [.v (.bool (Qg n 0 ((l.length:Int) - 1)))] [InR .i64 ((l.length:Int) - 1),Qc Try.prog (.clos 110 [] []) [.int .i64 n,.int .i64 0,.int .i64 ((l.length:Int) - 1)] (.bool (Qg n 0 ((l.length:Int) - 1)))] hE Try.func177 ⟨q0_0,(u110 (QP n 0 ((l.length:Int) - 1))),trivial⟩ (by exact AvLe.of_eq (by rw [h]; try rfl))
theorem Yr (n:Int) (l:List Int) (h:l.length≤1000):Pure Try.prog 177 [.int .i64 n,.rptr [.rsl (rowI l) 0 l.length] 0] (.bool (Qg n 0 ((l.length:Int) - 1))):=Qt Try.func177 f177b fun E hE =>
 f177W n l hE ⟨by omega,rfl⟩
def KJ (n:Int) (x:Pay):Bool:=Qg x.frm 0 (n - 1) && (Qg x.to 0 (n - 1) && (!decide (x.frm=x.to) && Qg x.c 1 100000000000))
def QbT (v:List Int) (x:Pay):List Int:=(v.set (Int.toNat x.frm) (v.getD (Int.toNat x.frm) 0+x.c)).set (Int.toNat x.to) ((v.set (Int.toNat x.frm) (v.getD (Int.toNat x.frm) 0+x.c)).getD (Int.toNat x.to) 0 - x.c)
def XW (n:Int):List Pay→List Int→Option (List Int)
 | [],v=>some v
 | x :: l,v=>if KJ n x=true then XW n l (QbT v x) else none
def payOut:Option (List Int)→List Int × Int
 | some v=>(v,0)
 | none=>([],110)
def payK (b:List Int) (l:List Pay):List Int × Int:=if balB b=false then ([],1) else if (l.length:Int) > 60 then ([],2) else payOut (XW (b.length:Int) l b)
theorem pay_get {v:List Int} {i:Int} (h0:0≤i) (h:i<v.length):v[Int.toNat i]?=some (v.getD (Int.toNat i) 0):=by simp [List.getD,show Int.toNat i<v.length by omega]
theorem bal_of {b:List Int} (h:balB b=true):(1≤b.length∧b.length≤10)∧∀ x ∈ b,-10000000000≤x∧x≤10000000000:=by
 simp only [balB,Bool.and_eq_true,Bool.not_eq_true',List.any_eq_false] at h
 have h1:=Qx.1 h.1
 exact ⟨by omega,fun x hx=>Qx.1 (by simpa [balN] using h.2 x hx)⟩
theorem f104b:Try.f104.body=some (Qf Try.prog 104):=by kernel_rfl
theorem u104 {a c k:List AV} {r:AV} (h:Pure Try.prog 104 (a++c++k) r):Qc Try.prog (.clos 104 a k) c r:=Qk Try.func104 (by kernel_rfl) f104b h
def f104K0 (P:Program):List Item:=kAt 400 [.code (Qf P 104)] [.b false,.b false,.stop]
def f104S0 (b:(List Int)) (l:(List Pay)) (i:Nat) (v1:List Int) (g1:Nat):St:=⟨(jj 6 ([.clos 177 [] [.ptr 0 0 0],.sl 1 g1 0 v1.length 1]++jj 11 ([.rsl (Qu l) 0 l.length,.int .i64 (l.length:Int),.int .i64 (i:Int)]++Js 48))),[⟨true,0,1,true,[.rsl (rowI b) 0 b.length],false⟩,⟨true,g1,1,true,(rowI v1),true⟩]⟩
def f104G0 (E:Env) (b:(List Int)) (l:(List Pay)) (i:Nat) (v1:List Int):Prop:=∀ g1:Nat,G Try.prog E (f104K0 Try.prog) (f104S0 b l i v1 g1)
theorem f104W (b:(List Int)) (l:(List Pay)) {E:Env} {rv:((List Int) × Int)} (hE:Qr Try.prog 104 (.tup [.rsl (rowI rv.1) 0 rv.1.length,.int .i64 rv.2]) E)
 (h:((b.length≤9223372036854775807)∧(((balB b)=false→rv=(([]:List Int),1))∧((balB b)=true→(((l.length:Int) > 60→rv=(([]:List Int),2))∧(¬ ((l.length:Int) > 60)→((b.length≤1000∧b.length ≠ 0)∧f104G0 E b l 0 b))))))):G Try.prog E [.code (Qf Try.prog 104)] ⟨[.rsl (rowI b) 0 b.length,.rsl (Qu l) 0 l.length]++unds (Try.f104.ntmps - 2),[]⟩:=by
 obtain ⟨h1,h⟩:=h
 rcases bft (!(balB b)) with hc0 | hc0
 · have h:=h.1 (bnT hc0)
   exact eL (.tup [.nilSl,.int .i64 1]) [.v (.bool (balB b)),.b true] [Qc Try.prog (.clos 176 [] []) [.rsl (rowI b) 0 b.length] (.bool (balB b)),(!(balB b))=true] hE Try.func104 ⟨(u176 (YL b h1)),hc0,trivial⟩ (by rw [h]; exact (VB ⟨Vq,⟨AvLe.of_eq rfl,trivial⟩⟩))
 · have h:=h.2 (bnF hc0)
   rcases bft (decide ((l.length:Int) > 60)) with hc1 | hc1
   · have h:=h.1 (odt hc1)
     exact eL (.tup [.nilSl,.int .i64 2]) [.v (.bool (balB b)),.b false,.b true] [Qc Try.prog (.clos 176 [] []) [.rsl (rowI b) 0 b.length] (.bool (balB b)),(!(balB b))=false,(decide ((l.length:Int) > 60))=true] hE Try.func104 ⟨(u176 (YL b h1)),hc0,hc1,trivial⟩ (by rw [h]; exact (VB ⟨Vq,⟨AvLe.of_eq rfl,trivial⟩⟩))
   · have h:=h.2 (odf hc1)
     obtain ⟨h2,h⟩:=h
     exact sQ [6,7,19,20,21] 2 [.v (.bool (balB b)),.b false,.b false,.lent [] (.sl 0 1 0 b.length 1) [⟨true,1,1,true,(rowI b),true⟩],.stop] [Qc Try.prog (.clos 176 [] []) [.rsl (rowI b) 0 b.length] (.bool (balB b)),(!(balB b))=false,(decide ((l.length:Int) > 60))=false,Yk Try.prog (.clos 171 [] []) [.rsl (rowI b) 0 b.length] [] (.sl 0 1 0 b.length 1) [⟨true,1,1,true,(rowI b),true⟩]] hE ⟨(u176 (YL b h1)),hc0,hc1,(QK Try.func171 (by kernel_rfl) f171bTk (clone_okTk b h2)),trivial⟩ (h 1)
theorem f104W0 (b:(List Int)) (l:(List Pay)) (i:Nat) (v1:List Int) {E:Env} {rv:((List Int) × Int)} (hE:Qr Try.prog 104 (.tup [.rsl (rowI rv.1) 0 rv.1.length,.int .i64 rv.2]) E)
 (h:(((i:Int)<(l.length:Int)→(∃ pe:Pay,l[i]?=some pe∧((b.length≤1000)∧(((Qg pe.frm 0 ((b.length:Int) - 1))=false→rv=(([]:List Int),110))∧((Qg pe.frm 0 ((b.length:Int) - 1))=true→((b.length≤1000)∧(((Qg pe.to 0 ((b.length:Int) - 1))=false→rv=(([]:List Int),110))∧((Qg pe.to 0 ((b.length:Int) - 1))=true→((pe.frm=pe.to→rv=(([]:List Int),110))∧(¬ (pe.frm=pe.to)→(((Qg pe.c 1 100000000000)=false→rv=(([]:List Int),110))∧((Qg pe.c 1 100000000000)=true→(0≤pe.frm∧(∃ e:Int,v1[Int.toNat pe.frm]?=some e∧((I6 (e+pe.c))∧(0≤pe.to∧(∃ e1:Int,(v1.set (Int.toNat pe.frm) (e+pe.c))[Int.toNat pe.to]?=some e1∧((I6 (e1 - pe.c))∧((I6 ((i:Int)+1))∧f104G0 E b l (i+1) ((v1.set (Int.toNat pe.frm) (e+pe.c)).set (Int.toNat pe.to) (e1 - pe.c)))))))))))))))))))))∧(¬ ((i:Int)<(l.length:Int))→rv=(v1,0)))):f104G0 E b l i v1:=by
 intro g1
 rcases bft (decide ((i:Int)<(l.length:Int))) with hc0 | hc0
 · have h:=h.1 (odt hc0)
   obtain ⟨pe,h1,h⟩:=h
   obtain ⟨h2,h⟩:=h
   rcases bft (!(Qg pe.frm 0 ((b.length:Int) - 1))) with hc1 | hc1
   · have h:=h.1 (bnT hc1)
     exact eL (.tup [.nilSl,.int .i64 110]) [.b true,.ld (.agg [.int .i64 pe.frm,.int .i64 pe.to,.int .i64 pe.c]),.v (.bool (Qg pe.frm 0 ((b.length:Int) - 1))),.b true,.b true,.b true,.b true] [(decide ((i:Int)<(l.length:Int)))=true,0≤(i:Int)∧(i:Int)<(l.length:Int),((Qu l).drop (0+(Int.toNat (i:Int))*3)).take 3=[.int .i64 pe.frm,.int .i64 pe.to,.int .i64 pe.c],3≤3,Qc Try.prog (.clos 177 [] [.rptr [.rsl (rowI b) 0 b.length] 0]) [.int .i64 pe.frm] (.bool (Qg pe.frm 0 ((b.length:Int) - 1))),(!(Qg pe.frm 0 ((b.length:Int) - 1)))=true,true=true,true=true,true=true] hE Try.func104 ⟨hc0,(Qm h1),(rp cPay 3 0 3 h1),(by decide),(u177 (Yr pe.frm b h2)),hc1,rfl,rfl,rfl,trivial⟩ (by rw [h]; exact (VB ⟨Vq,⟨AvLe.of_eq rfl,trivial⟩⟩))
   · have h:=h.2 (bnF hc1)
     obtain ⟨h3,h⟩:=h
     rcases bft (!(Qg pe.to 0 ((b.length:Int) - 1))) with hc2 | hc2
     · have h:=h.1 (bnT hc2)
       exact eL (.tup [.nilSl,.int .i64 110]) [.b true,.ld (.agg [.int .i64 pe.frm,.int .i64 pe.to,.int .i64 pe.c]),.v (.bool (Qg pe.frm 0 ((b.length:Int) - 1))),.b false,.v (.bool (Qg pe.to 0 ((b.length:Int) - 1))),.b true,.b true,.b true] [(decide ((i:Int)<(l.length:Int)))=true,0≤(i:Int)∧(i:Int)<(l.length:Int),((Qu l).drop (0+(Int.toNat (i:Int))*3)).take 3=[.int .i64 pe.frm,.int .i64 pe.to,.int .i64 pe.c],3≤3,Qc Try.prog (.clos 177 [] [.rptr [.rsl (rowI b) 0 b.length] 0]) [.int .i64 pe.frm] (.bool (Qg pe.frm 0 ((b.length:Int) - 1))),(!(Qg pe.frm 0 ((b.length:Int) - 1)))=false,Qc Try.prog (.clos 177 [] [.rptr [.rsl (rowI b) 0 b.length] 0]) [.int .i64 pe.to] (.bool (Qg pe.to 0 ((b.length:Int) - 1))),(!(Qg pe.to 0 ((b.length:Int) - 1)))=true,true=true,true=true] hE Try.func104 ⟨hc0,(Qm h1),(rp cPay 3 0 3 h1),(by decide),(u177 (Yr pe.frm b h2)),hc1,(u177 (Yr pe.to b h3)),hc2,rfl,rfl,trivial⟩ (by rw [h]; exact (VB ⟨Vq,⟨AvLe.of_eq rfl,trivial⟩⟩))
     · have h:=h.2 (bnF hc2)
       rcases bft (pe.frm == pe.to) with hc3 | hc3
       · have h:=h.1 (eq_of_beq hc3)
         exact eL (.tup [.nilSl,.int .i64 110]) [.b true,.ld (.agg [.int .i64 pe.frm,.int .i64 pe.to,.int .i64 pe.c]),.v (.bool (Qg pe.frm 0 ((b.length:Int) - 1))),.b false,.v (.bool (Qg pe.to 0 ((b.length:Int) - 1))),.b false,.b true,.b true] [(decide ((i:Int)<(l.length:Int)))=true,0≤(i:Int)∧(i:Int)<(l.length:Int),((Qu l).drop (0+(Int.toNat (i:Int))*3)).take 3=[.int .i64 pe.frm,.int .i64 pe.to,.int .i64 pe.c],3≤3,Qc Try.prog (.clos 177 [] [.rptr [.rsl (rowI b) 0 b.length] 0]) [.int .i64 pe.frm] (.bool (Qg pe.frm 0 ((b.length:Int) - 1))),(!(Qg pe.frm 0 ((b.length:Int) - 1)))=false,Qc Try.prog (.clos 177 [] [.rptr [.rsl (rowI b) 0 b.length] 0]) [.int .i64 pe.to] (.bool (Qg pe.to 0 ((b.length:Int) - 1))),(!(Qg pe.to 0 ((b.length:Int) - 1)))=false,(pe.frm == pe.to)=true,true=true] hE Try.func104 ⟨hc0,(Qm h1),(rp cPay 3 0 3 h1),(by decide),(u177 (Yr pe.frm b h2)),hc1,(u177 (Yr pe.to b h3)),hc2,hc3,rfl,trivial⟩ (by rw [h]; exact (VB ⟨Vq,⟨AvLe.of_eq rfl,trivial⟩⟩))
       · have h:=h.2 (ne_of_beq_false hc3)
         rcases bft (!(Qg pe.c 1 100000000000)) with hc4 | hc4
         · have h:=h.1 (bnT hc4)
           exact eL (.tup [.nilSl,.int .i64 110]) [.b true,.ld (.agg [.int .i64 pe.frm,.int .i64 pe.to,.int .i64 pe.c]),.v (.bool (Qg pe.frm 0 ((b.length:Int) - 1))),.b false,.v (.bool (Qg pe.to 0 ((b.length:Int) - 1))),.b false,.b false,.v (.bool (Qg pe.c 1 100000000000)),.b true] [(decide ((i:Int)<(l.length:Int)))=true,0≤(i:Int)∧(i:Int)<(l.length:Int),((Qu l).drop (0+(Int.toNat (i:Int))*3)).take 3=[.int .i64 pe.frm,.int .i64 pe.to,.int .i64 pe.c],3≤3,Qc Try.prog (.clos 177 [] [.rptr [.rsl (rowI b) 0 b.length] 0]) [.int .i64 pe.frm] (.bool (Qg pe.frm 0 ((b.length:Int) - 1))),(!(Qg pe.frm 0 ((b.length:Int) - 1)))=false,Qc Try.prog (.clos 177 [] [.rptr [.rsl (rowI b) 0 b.length] 0]) [.int .i64 pe.to] (.bool (Qg pe.to 0 ((b.length:Int) - 1))),(!(Qg pe.to 0 ((b.length:Int) - 1)))=false,(pe.frm == pe.to)=false,Qc Try.prog (.clos 110 [] []) [.int .i64 pe.c,.int .i64 1,.int .i64 100000000000] (.bool (Qg pe.c 1 100000000000)),(!(Qg pe.c 1 100000000000))=true] hE Try.func104 ⟨hc0,(Qm h1),(rp cPay 3 0 3 h1),(by decide),(u177 (Yr pe.frm b h2)),hc1,(u177 (Yr pe.to b h3)),hc2,hc3,(u110 (QP pe.c 1 100000000000)),hc4,trivial⟩ (by rw [h]; exact (VB ⟨Vq,⟨AvLe.of_eq rfl,trivial⟩⟩))
         · have h:=h.2 (bnF hc4)
           obtain ⟨h5,h⟩:=h
           obtain ⟨e,h4,h⟩:=h
           obtain ⟨q17_5,h⟩:=h
           obtain ⟨h7,h⟩:=h
           obtain ⟨e1,h6,h⟩:=h
           obtain ⟨q27_5,h⟩:=h
           obtain ⟨q32_5,h⟩:=h
           refine sP (f104K0 Try.prog) ⟨(jj 6 ([.clos 177 [] [.ptr 0 0 0],.sl 1 g1 0 v1.length 1]++jj 11 ([.rsl (Qu l) 0 l.length,.int .i64 (l.length:Int),.int .i64 ((i:Int)+1)]++Js 48))),[⟨true,0,1,true,[.rsl (rowI b) 0 b.length],false⟩,⟨true,g1,1,true,(Qv (Qv (rowI v1) (0+(Int.toNat pe.frm)*1) [.int .i64 (e+pe.c)]) (0+(Int.toNat pe.to)*1) [.int .i64 (e1 - pe.c)]),true⟩]⟩ [6,7,19,20,21] 2 [.b true,.ld (.agg [.int .i64 pe.frm,.int .i64 pe.to,.int .i64 pe.c]),.v (.bool (Qg pe.frm 0 ((b.length:Int) - 1))),.b false,.v (.bool (Qg pe.to 0 ((b.length:Int) - 1))),.b false,.b false,.v (.bool (Qg pe.c 1 100000000000)),.b false,.auto,.ld (.int .i64 e),.auto,.auto,.ld (.int .i64 e1),.stop] [(decide ((i:Int)<(l.length:Int)))=true,0≤(i:Int)∧(i:Int)<(l.length:Int),((Qu l).drop (0+(Int.toNat (i:Int))*3)).take 3=[.int .i64 pe.frm,.int .i64 pe.to,.int .i64 pe.c],3≤3,Qc Try.prog (.clos 177 [] [.rptr [.rsl (rowI b) 0 b.length] 0]) [.int .i64 pe.frm] (.bool (Qg pe.frm 0 ((b.length:Int) - 1))),(!(Qg pe.frm 0 ((b.length:Int) - 1)))=false,Qc Try.prog (.clos 177 [] [.rptr [.rsl (rowI b) 0 b.length] 0]) [.int .i64 pe.to] (.bool (Qg pe.to 0 ((b.length:Int) - 1))),(!(Qg pe.to 0 ((b.length:Int) - 1)))=false,(pe.frm == pe.to)=false,Qc Try.prog (.clos 110 [] []) [.int .i64 pe.c,.int .i64 1,.int .i64 100000000000] (.bool (Qg pe.c 1 100000000000)),(!(Qg pe.c 1 100000000000))=false,0≤pe.frm∧pe.frm<(v1.length:Int),g1=g1,g1=g1,((rowI v1).drop (0+(Int.toNat pe.frm)*1)).take 1=[.int .i64 e],InR .i64 (e+pe.c),0≤pe.frm∧pe.frm<(v1.length:Int),g1=g1,((0+(Int.toNat pe.frm)*1)+1)≤(rowI v1).length,g1=g1,0≤pe.to∧pe.to<(v1.length:Int),g1=g1,g1=g1,((Qv (rowI v1) (0+(Int.toNat pe.frm)*1) [.int .i64 (e+pe.c)]).drop (0+(Int.toNat pe.to)*1)).take 1=[.int .i64 e1],InR .i64 (e1 - pe.c),0≤pe.to∧pe.to<(v1.length:Int),g1=g1,((0+(Int.toNat pe.to)*1)+1)≤(Qv (rowI v1) (0+(Int.toNat pe.frm)*1) [.int .i64 (e+pe.c)]).length,g1=g1,InR .i64 ((i:Int)+1)] hE ⟨hc0,(Qm h1),(rp cPay 3 0 3 h1),(by decide),(u177 (Yr pe.frm b h2)),hc1,(u177 (Yr pe.to b h3)),hc2,hc3,(u110 (QP pe.c 1 100000000000)),hc4,(Qw h5 h4),rfl,rfl,(rp cI 1 0 1 h4),q17_5,(Qw h5 h4),rfl,(rf cI 1 0 1 h4),rfl,(by have hx:=Qw h7 h6; simpa using hx),rfl,rfl,(by rw [(show Qv (rowI v1) (0+(Int.toNat pe.frm)*1) [.int .i64 (e+pe.c)]=rowI (v1.set (Int.toNat pe.frm) (e+pe.c)) from QH cI (s:=1) (k:=0) (fun _=>rfl) h4 rfl (by first | decide | simp))]; exact rp cI 1 0 1 h6),q27_5,(by have hx:=Qw h7 h6; simpa using hx),rfl,(by rw [(show Qv (rowI v1) (0+(Int.toNat pe.frm)*1) [.int .i64 (e+pe.c)]=rowI (v1.set (Int.toNat pe.frm) (e+pe.c)) from QH cI (s:=1) (k:=0) (fun _=>rfl) h4 rfl (by first | decide | simp))]; exact rf cI 1 0 1 h6),rfl,q32_5,trivial⟩ ?_
           have h:=(h g1)
           simp only [f104S0,List.length_set] at h
           rw [(show Qv (rowI v1) (0+(Int.toNat pe.frm)*1) [.int .i64 (e+pe.c)]=rowI (v1.set (Int.toNat pe.frm) (e+pe.c)) from QH cI (s:=1) (k:=0) (fun _=>rfl) h4 rfl (by first | decide | simp))]; rw [(show Qv (rowI (v1.set (Int.toNat pe.frm) (e+pe.c))) (0+(Int.toNat pe.to)*1) [.int .i64 (e1 - pe.c)]=rowI ((v1.set (Int.toNat pe.frm) (e+pe.c)).set (Int.toNat pe.to) (e1 - pe.c)) from QH cI (s:=1) (k:=0) (fun _=>rfl) h6 rfl (by first | decide | simp))]
           exact h
 · have h:=h.2 (odf hc0)
   exact eL (.tup [.rsl (rowI v1) 0 v1.length,.int .i64 0]) [.b false] [(decide ((i:Int)<(l.length:Int)))=false,g1=g1] hE Try.func104 ⟨hc0,rfl,trivial⟩ (by exact AvLe.of_eq (by rw [h]; try rfl))
theorem PayP_ok (b:List Int) (l:List Pay) (h:b.length≤9223372036854775807):Pure Try.prog 104 [.rsl (rowI b) 0 b.length,.rsl (Qu l) 0 l.length] (.tup [.rsl (rowI (payK b l).1) 0 (payK b l).1.length,.int .i64 (payK b l).2]):=Qt Try.func104 f104b fun E hE=>by
 refine f104W b l (rv:=payK b l) hE ⟨h,fun h1=>by rw [payK,if_pos h1],fun h1=>⟨fun h2=>by rw [payK,if_neg (by rw [h1]; simp),if_pos h2],fun h2=>?_⟩⟩
 have hb:=bal_of h1
 have hr:payK b l=payOut (XW (b.length:Int) l b):=by rw [payK,if_neg (by rw [h1]; simp),if_neg h2]
 have key:∀ (d i:Nat) (v:List Int),i+d=l.length→v.length=b.length→(∀ x ∈ v,-10000000000 - 200000000000*(i:Int)≤x∧x≤10000000000+200000000000*(i:Int))→payK b l=payOut (XW (b.length:Int) (l.drop i) v)→f104G0 E b l i v:=by
  intro d
  induction d with
  | zero =>
   intro i v hd hv hbd hk
   rw [List.drop_eq_nil_of_le (by omega)] at hk
   exact f104W0 b l i v (rv:=payK b l) hE ⟨fun h=>by omega,fun _=>hk⟩
  | succ d ih =>
   intro i v hd hv hbd hk
   have hi:l[i]?=some l[i]:=List.getElem?_eq_getElem (by omega)
   rw [List.drop_eq_getElem_cons (by omega)] at hk
   simp only [XW] at hk
   generalize l[i]=x at hi hk
   refine f104W0 b l i v (rv:=payK b l) hE ⟨fun _=>⟨x,hi,by omega,fun h3=>?qa,fun h3=>⟨by omega,fun h4=>?qb,fun h4=>⟨fun h5=>?qc,fun h5=>⟨fun h6=>?qd,fun h6=>?qe⟩⟩⟩⟩,fun h=>by omega⟩
   case qa=>rw [hk,if_neg (by simp [KJ,h3])]; rfl
   case qb=>rw [hk,if_neg (by simp [KJ,h4])]; rfl
   case qc=>rw [hk,if_neg (by simp [KJ,h5])]; rfl
   case qd=>rw [hk,if_neg (by simp [KJ,h6])]; rfl
   case qe =>
    rw [if_pos (by simp only [KJ,Bool.and_eq_true,Bool.not_eq_true',decide_eq_false_iff_not]; exact ⟨h3,h4,h5,h6⟩)] at hk
    have w1:=Qx.1 h3
    have w2:=Qx.1 h4
    have w3:=Qx.1 h6
    have g1:=pay_get (v:=v) w1.1 (by omega)
    have g2:=pay_get (v:=v.set (Int.toNat x.frm) (v.getD (Int.toNat x.frm) 0+x.c)) w2.1 (by simp; omega)
    have m1:=hbd _ (List.mem_of_getElem? g1)
    have m2:∀ y ∈ v.set (Int.toNat x.frm) (v.getD (Int.toNat x.frm) 0+x.c),-10000000000 - 200000000000*(i:Int) - 100000000000≤y∧y≤10000000000+200000000000*(i:Int)+100000000000:=fun y hy=>by
     rcases List.mem_or_eq_of_mem_set hy with hy | rfl
     · have:=hbd y hy; omega
     · omega
    have m3:=m2 _ (List.mem_of_getElem? g2)
    refine ⟨w1.1,_,g1,by omega,w2.1,_,g2,by omega,by omega,ih (i+1) _ (by omega) (by simp [hv]) (fun y hy=>?_) hk⟩
    rcases List.mem_or_eq_of_mem_set hy with hy | rfl
    · have:=m2 y hy; omega
    · omega
 exact ⟨⟨by omega,by omega⟩,key l.length 0 b (by omega) rfl (fun x hx=>by have:=hb.2 x hx; omega) (by simpa using hr)⟩
end Go.Proofs.Ytemklbioijmjiaa
namespace Go.Proofs.Ytemklbioijmjiaa
open Go Ax
open Go.Proofs
theorem sum_set:∀ {l:List Int} {i:Nat} {x:Int},i<l.length→(l.set i x).sum=l.sum - l.getD i 0+x
 | [],i,x,h=>by simp at h
 | y :: l,0,x,h=>by simp; omega
 | y :: l,i+1,x,h=>by
  have:=sum_set (l:=l) (i:=i) (x:=x) (by simpa using h)
  simp only [List.set_cons_succ,List.sum_cons,List.getD_cons_succ]; omega
end Go.Proofs.Ytemklbioijmjiaa
namespace Go.Proofs.Ytemklbioijmjiaa
open Go Ax
open Go.Proofs
structure Spn where
 by_:Int
 c:Int
 fr:List Int
end Go.Proofs.Ytemklbioijmjiaa
namespace Go.Proofs.Ytemklbioijmjiaa
open Go Ax
open Go.Proofs
def owe (c:Int) (m k:Nat):Int:=Int.tdiv c m+if (k:Int)<Int.tmod c m then 1 else 0
end Go.Proofs.Ytemklbioijmjiaa
namespace Go.Proofs.Ytemklbioijmjiaa
open Go Ax
open Go.Proofs
def Wx (c:Int) (m:Nat):Nat→List Int→Nat→Int
 | _,[],_=>0
 | k,p :: r,i=>(if Int.toNat p=i then -owe c m k else 0)+Wx c m (k+1) r i
def cont (x:Spn) (i:Nat):Int:=(if Int.toNat x.by_=i then x.c else 0)+Wx x.c x.fr.length 0 x.fr i
end Go.Proofs.Ytemklbioijmjiaa
namespace Go.Proofs.Ytemklbioijmjiaa
open Go Ax
open Go.Proofs
/-- What the parts are. -/
structure Parts (c:Int) (ws:List Int) (p:List Int):Prop where
 len:p.length=ws.length
 sum:p.sum=c
 low:∀ (i:Nat) (w x:Int),ws[i]?=some w→p[i]?=some x→x=shareI c (sumI ws) w ∨ (x=shareI c (sumI ws) w+1∧Int.tmod (c*w) (sumI ws) ≠ 0)
 same:∀ (k i:Nat) (w x y:Int),k<i→ws[k]?=some w→ws[i]?=some w→p[k]?=some x→p[i]?=some y→y≤x∧x≤y+1
end Go.Proofs.Ytemklbioijmjiaa
namespace Go.Proofs.Ytemklbioijmjiaa
open Go Ax
open Go.Proofs
/-! ### bits -/
theorem Kf {n:Nat} (h:n<9223372036854775808):IntKind.i64.wrap (n:Int)=n:=wrap_small _ (by omega) (by omega)
theorem qh {a:Nat} (h:a<18446744073709551616):(BitVec.ofInt 64 (a:Int)).toNat=a:=by
 rw [BitVec.ofInt_natCast,BitVec.toNat_ofNat]; exact Nat.mod_eq_of_lt h
theorem and_nat {a b:Nat} (ha:a<9223372036854775808) (hb:b<9223372036854775808):bits .and .i64 (a:Int) (b:Int)=((a &&& b:Nat):Int):=by
 have hx:a &&& b≤a:=Nat.and_le_left
 show IntKind.i64.wrap ((BitVec.ofInt 64 (a:Int) &&& BitVec.ofInt 64 (b:Int)).toNat:Int)=_
 rw [BitVec.toNat_and,qh (by omega),qh (by omega),Kf (by omega)]
theorem or_nat {a b:Nat} (ha:a<1024) (hb:b<1024):bits .or .i64 (a:Int) (b:Int)=((a ||| b:Nat):Int):=by
 have hx:a ||| b<2 ^ 10:=Nat.or_lt_two_pow (by omega) (by omega)
 show IntKind.i64.wrap ((BitVec.ofInt 64 (a:Int) ||| BitVec.ofInt 64 (b:Int)).toNat:Int)=_
 rw [BitVec.toNat_or,qh (by omega),qh (by omega),Kf (by omega)]
/-- What is in the first and not in the second. -/
def without (a b:Nat):Nat:=a ^^^ (a &&& b)
theorem XQ {a b i:Nat}:(without a b).testBit i=(a.testBit i && !b.testBit i):=by
 unfold without
 rw [Nat.testBit_xor,Nat.testBit_and]
 cases a.testBit i <;> cases b.testBit i <;> rfl
theorem QaO {a b:Nat} {n:Nat} (h:a<2 ^ n):without a b<2 ^ n:=by
 refine Nat.lt_pow_two_of_testBit _ fun i hi=>?_
 rw [XQ,Nat.testBit_lt_two_pow (Nat.lt_of_lt_of_le h (Nat.pow_le_pow_right (by omega) hi)),Bool.false_and]
theorem QbE {a b:Nat} (ha:a<9223372036854775808) (hb:b<9223372036854775808):bits .andNot .i64 (a:Int) (b:Int)=((without a b:Nat):Int):=by
 have e:(BitVec.ofInt 64 (a:Int) &&& ~~~ BitVec.ofInt 64 (b:Int)).toNat=without a b:=by
  refine Nat.eq_of_testBit_eq fun i=>?_
  rw [XQ,BitVec.testBit_toNat,BitVec.getLsbD_and,BitVec.getLsbD_not,← BitVec.testBit_toNat,← BitVec.testBit_toNat,qh (by omega),qh (by omega)]
  by_cases hi:i<64
  · simp [hi]
  · rw [Nat.testBit_lt_two_pow (Nat.lt_of_lt_of_le (show a<2 ^ 64 by omega) (Nat.pow_le_pow_right (by omega) (show 64≤i by omega)))]; simp
 have hw:without a b<2 ^ 63:=QaO (by omega)
 show IntKind.i64.wrap ((BitVec.ofInt 64 (a:Int) &&& ~~~ BitVec.ofInt 64 (b:Int)).toNat:Int)=_
 rw [e,Kf (by omega)]
/-- Whether somebody is in a set. -/
theorem bit_nat {S i:Nat} (h:S<9223372036854775808):bits .and .i64 ((S:Int) / 2 ^ (Int.toNat (i:Int))) 1=if S.testBit i then 1 else 0:=by
 have e:(S:Int) / 2 ^ (Int.toNat (i:Int))=((S / 2 ^ i:Nat):Int):=by
  rw [Int.toNat_natCast,Int.natCast_ediv,Int.natCast_pow]; rfl
 have hd:S / 2 ^ i≤S:=Nat.div_le_self _ _
 rw [e,show (1:Int)=((1:Nat):Int) from rfl,and_nat (by omega) (by omega),Nat.and_one_is_mod,Nat.testBit_eq_decide_div_mod_eq]
 have:=Nat.mod_two_eq_zero_or_one (S / 2 ^ i)
 rcases this with h | h <;> rw [h] <;> rfl
/-- The lowest of a set. -/
def lowOk (S:Nat):Bool:=(List.range 10).any fun i=>S.testBit i && ((List.range i).all fun j=>!S.testBit j) && ((BitVec.ofInt 64 (S:Int) &&& BitVec.ofInt 64 (0 - (S:Int))).toNat == 2 ^ i)
theorem low_all:((List.range 1024).all fun S=>S == 0 || lowOk S)=true:=by kernel_rfl
theorem low_of {S:Nat} (h0:S ≠ 0) (h:S<1024):∃ i,i<10∧S.testBit i=true∧(∀ j,j<i→S.testBit j=false)∧(BitVec.ofInt 64 (S:Int) &&& BitVec.ofInt 64 (0 - (S:Int))).toNat=2 ^ i:=by
 have:=List.all_eq_true.1 low_all S (List.mem_range.2 h)
 rw [Bool.or_eq_true] at this
 rcases this with h | h
 · exact absurd (by simpa using h) h0
 · obtain ⟨i,hi,hh⟩:=List.any_eq_true.1 h
   simp only [Bool.and_eq_true,List.all_eq_true,Bool.not_eq_true',beq_iff_eq] at hh
   exact ⟨i,List.mem_range.1 hi,hh.1.1,fun j hj=>hh.1.2 j (List.mem_range.2 hj),hh.2⟩
def lowP (S q:Nat):Bool:=bits .and .i64 (bits .and .i64 (q:Int) (S:Int)) (0 - (S:Int)) != 0
theorem lowP_iff {S i q:Nat} (h:S<1024) (hq:q<1024) (hi:i<10) (hl:(BitVec.ofInt 64 (S:Int) &&& BitVec.ofInt 64 (0 - (S:Int))).toNat=2 ^ i):lowP S q=q.testBit i:=by
 have e:bits .and .i64 (bits .and .i64 (q:Int) (S:Int)) (0 - (S:Int))=((q &&& 2 ^ i:Nat):Int):=by
  rw [and_nat (by omega) (by omega)]
  have h1:BitVec.ofInt 64 ((q &&& S:Nat):Int)=BitVec.ofInt 64 (q:Int) &&& BitVec.ofInt 64 (S:Int):=by
   refine BitVec.eq_of_toNat_eq ?_
   have:=@Nat.and_le_left q S
   rw [BitVec.toNat_and,qh (by omega),qh (by omega),qh (by omega)]
  show IntKind.i64.wrap ((BitVec.ofInt 64 ((q &&& S:Nat):Int) &&& BitVec.ofInt 64 (0 - (S:Int))).toNat:Int)=_
  have h2:=@Nat.and_le_left q (2 ^ i)
  rw [h1,BitVec.and_assoc,BitVec.toNat_and,hl,qh (by omega),Kf (by omega)]
 unfold lowP
 rw [e]
 cases hb:q.testBit i with
 | true =>
  rw [bne_iff_ne]
  intro h0
  have h1:(q &&& 2 ^ i)=0:=by omega
  have h2:(q &&& 2 ^ i).testBit i=true:=by rw [Nat.testBit_and,hb,Nat.testBit_two_pow_self]; rfl
  rw [h1,Nat.zero_testBit] at h2; cases h2
 | false =>
  rw [bne_eq_false_iff_eq]
  have:(q &&& 2 ^ i)=0:=by
   refine Nat.eq_of_testBit_eq fun j=>?_
   rw [Nat.testBit_and,Nat.testBit_two_pow,Nat.zero_testBit]
   by_cases hj:i=j
   · subst hj; rw [hb]; rfl
   · simp [hj]
  rw [this]; rfl
/-! ### all parts of a set,one after the other -/
theorem sub_prev:∀ (S q p:Nat),q &&& S=q→p &&& S=p→p<q→p≤(q - 1) &&& S:=by
 intro S
 induction S using Nat.strongRecOn with
 | ind S ih =>
  intro q p hq hp hlt
  by_cases hS:S=0
  · subst hS; rw [Nat.and_zero] at hq; omega
  have q1:q / 2 &&& S / 2=q / 2:=by rw [← Nat.and_div_two,hq]
  have p1:p / 2 &&& S / 2=p / 2:=by rw [← Nat.and_div_two,hp]
  have dv:((q - 1) &&& S) / 2=(q - 1) / 2 &&& S / 2:=Nat.and_div_two
  have md:=@Nat.and_mod_two_eq_one (q - 1) S
  have pm:=@Nat.and_mod_two_eq_one p S
  rw [hp] at pm
  have e1:(q - 1) &&& S=2*(((q - 1) &&& S) / 2)+((q - 1) &&& S) % 2:=by omega
  by_cases hc:q % 2=1
  · have h2:(q - 1) / 2=q / 2:=by omega
    rw [h2,q1] at dv
    omega
  · have h2:(q - 1) / 2=q / 2 - 1:=by omega
    rw [h2] at dv
    have h3:=ih (S / 2) (by omega) (q / 2) (p / 2) q1 p1 (by omega)
    rw [← dv] at h3
    by_cases hd:p % 2=1
    · have h4:=pm.1 hd
      have h5:=md.2 ⟨by omega,h4.2⟩
      omega
    · omega
/-- The set of those for whom it is so. -/
def Ka:Nat→(Nat→Bool)→Nat
 | 0,_=>0
 | n+1,P=>2*Ka n (fun i=>P (i+1))+(if P 0 then 1 else 0)
theorem qL:∀ {n:Nat} {P:Nat→Bool} {i:Nat},(Ka n P).testBit i=(decide (i<n) && P i)
 | 0,P,i=>by simp [Ka]
 | n+1,P,0=>by
  rw [Ka,Nat.testBit_zero]
  cases P 0 <;> simp <;> omega
 | n+1,P,i+1=>by
  rw [Ka,Nat.testBit_succ]
  have:(2*Ka n (fun i=>P (i+1))+(if P 0 then 1 else 0)) / 2=Ka n fun i=>P (i+1):=by cases P 0 <;> simp <;> omega
  rw [this,qL]
  simp
end Go.Proofs.Ytemklbioijmjiaa