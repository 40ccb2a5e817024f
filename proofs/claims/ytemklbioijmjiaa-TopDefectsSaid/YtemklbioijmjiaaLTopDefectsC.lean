/- A part of the proof: several texts, one behind the other. -/
import Derived.Test.YtemklbioijmjiaaLTopDefectsB
import Derived.Test.YtemklbioijmjiaaChecked
import Derived.Laws.Bits64b
set_option linter.unusedVariables false
set_option linter.unusedSimpArgs false
set_option maxRecDepth 100000
namespace Ax
open Go
/-- A function value over memory of its own (from n0 on),to be ranged over as long as nothing is turned. -/
def IterL (P:Program) (Z:Nat→Prop) (n0:Nat) (v:Value) (xs:List (List AV)) (w1:World):Prop :=
 ∀ wb,Fr w1 (fun _=>False) wb→∀ (ly:Nat) (Y:Option Nat→Sd) (cont:Nat→Bool),(∀ o,Stable (Y o))→Qax P (yld ly) Y cont xs→∀ F Kp:Nat→Prop,
  (∀ b,F b ∨ Kp b→b<n0 ∨ w1.heap.size≤b)→(∀ b,Z b→¬ F b)→Y (some 0) F Kp wb →
  ∃ (d:Deferred) (f:FuncId) (args':Array Value),(Deferred.ofValue v #[yld ly]).run P wb=.ok d wb∧(invoke d.target d.args).run P wb=.ok (.enter f args') wb ∧
   Calls P f args' wb fun e w'=>∃ v,e=.returned v∧∃ F' Kp',Y (Xi cont 0 xs.length) F' Kp' w'
/-- A function value that gives back such a one. -/
def UpF (P:Program) (fv:AV) (args:List AV) (xs:List (List AV)):Prop :=
 ∀ (Z:Nat→Prop) (w:World) (cf:Value) (cargs:Array Value),(∀ b,Z b→b<w.heap.size)→VR Z w C0 fv cf→VRs Z w C0 args cargs.toList →
  ∃ (d:Deferred) (f:FuncId) (args':Array Value),(Deferred.ofValue cf cargs).run P w=.ok d w∧(invoke d.target d.args).run P w=.ok (.enter f args') w ∧
   Calls P f args' w fun e w'=>∃ v,e=.returned v∧IterL P Z w.heap.size v xs w'∧Fr w (fun _=>False) w'
structure UpE (P:Program) (f:FuncId) (xs:List (List AV)) (E:Env):Prop where
 ro:E.b.roundOf=none
 kind:E.b.kind=.normal
 fn:E.b.fn=f
 nm:∀ b,¬ E.M b
 gA:E.gA=[]
 fin:E.Fin=(WH P f E.cs fun v w'=>IterL P E.Z0 E.w0.heap.size v xs w'∧Fr E.w0 (fun _=>False) w')
 cb:E.Cb=C0
 df:E.df=[]
section
variable {P:Program} {E:Env} {K K':List Item} {st st':St}
theorem upF_of {f : FuncId} {fn : Func} {c : Code} {args : List AV} {xs : List (List AV)} (hf : P.funcs[f]? = some fn) (hname : (fn.name == "runtime.NumGoroutine") = false) (hb : fn.body = some c)
    (h : ∀ E, UpE P f xs E → G P E [.code c] ⟨args ++ unds (fn.ntmps - args.length), []⟩) : UpF P (.clos f [] []) args xs := by
  intro Z w cf cargs hz hcf ha
  cases hcf with
  | @clos _ _ _ _ fa ca hl h1 hl' h2 =>
    have e1 : fa = #[] := by apply Array.eq_empty_of_size_eq_zero; simpa using hl.symm
    have e2 : ca = #[] := by apply Array.eq_empty_of_size_eq_zero; simpa using hl'.symm
    subst e1 e2
    refine ⟨{ target := .fn (.func f) #[], args := #[] ++ cargs }, f, #[] ++ cargs ++ #[], rfl, ?_, ?_⟩
    · have := Go.Proofs.enters_of (P := P) hf hname hb (#[] ++ cargs ++ #[]) w
      simpa [invoke] using this
    · have e3 : (#[] ++ cargs ++ #[] : Array Value) = cargs := by simp
      rw [e3]
      intro cs
      have hE : UpE P f xs (Qdk P f Z (fun _ => False) w cs fun v w' => IterL P Z w.heap.size v xs w' ∧ Fr w (fun _ => False) w') :=
        ⟨rfl, rfl, rfl, fun _ h => h, rfl, rfl, rfl, rfl⟩
      have henter : Frame.enter P f cargs .normal = ({ (default : Frame) with fn := f, kind := .normal } : Frame).atR { tmps := cargs ++ Array.replicate (fn.ntmps - cargs.size) undef, defers := [] } [.code c] := by
        simp only [Frame.enter, Frame.atR, hf, hb, Option.map_some, Option.getD_some, Option.bind_some]; rfl
      have hl : args.length = cargs.size := by simpa using ha.1
      obtain ⟨m', s, v, w', fr, rfl, r1, r2, r3⟩ := h _ hE C0 Z { tmps := cargs ++ Array.replicate (fn.ntmps - cargs.size) undef, defers := [] } w
        ⟨⟨by simp [Yc, hl], fun i x y p q => by
            simp only [Array.toList_append, Array.toList_replicate] at q
            rw [Yc] at p
            by_cases hi : i < args.length
            · rw [List.getElem?_append_left hi] at p
              rw [List.getElem?_append_left (by simpa [← hl] using hi)] at q
              exact ha.2 i x y p q
            · rw [List.getElem?_append_right (by omega)] at p
              rw [List.getElem?_append_right (by simp; omega)] at q
              have p' := List.mem_replicate.1 (List.mem_of_getElem? p)
              have q' := List.mem_replicate.1 (List.mem_of_getElem? q)
              rw [p'.2, q'.2]
              exact .tup rfl (by simp)⟩, KO hz, ⟨[], .nil, .nil, by simp⟩, ⟨rfl, fun _ _ _ h _ => by cases h⟩, .bot⟩
      rw [henter]
      exact ⟨.returned v, w', fr, ⟨v, rfl, r3⟩, s, r1, r2⟩

/-- The end of a function that gives back a function to be ranged over: that one's body goes on with the blocks as they are. -/
theorem endU_step {f f2 : FuncId} {fn fn2 : Func} {c2 : Code} {caps : List AV} {xs : List (List AV)} {n : Nat} {evs evs' evs2 : List EV} {obs o2 : List Prop} (hE : UpE P f xs E) (hf : P.funcs[f]? = some fn) (hmx : P.follows .mixedOrders = true)
    (h : walk P n K st evs = some (K', st', evs', obs)) (hK : isEnd K' = true) (ho : AllP obs) (hres : resA P st' fn.results.toList [] = some ([.clos f2 [] caps], evs2, o2)) (ho2 : AllP o2)
    (hf2 : P.funcs[f2]? = some fn2) (hname : (fn2.name == "runtime.NumGoroutine") = false) (hb : fn2.body = some c2)
    (hI : ∀ E' yv Y cont, IterE P f2 xs yv Y cont (Xi cont 0 xs.length) (some 0) E' → G P E' [.code c2] ⟨[.opq yv] ++ caps ++ unds (fn2.ntmps - ([AV.opq yv] ++ caps).length), st'.blks⟩) : G P E K st := by
  have hfn := hE.fn
  refine QU hE.kind hmx h ho (G_end (Post := fun v w' => IterL P E.Z0 E.w0.heap.size v xs w' ∧ Fr E.w0 (fun _ => False) w') hE.ro hE.kind hE.df (by rw [hfn]; exact hf) (by rw [hE.fin, hfn]) hres ho2 (fun C Z' w v hm hv _ => ⟨?_, ?_⟩) (Vn hK))
  · intro wb hfr ly Y cont hst hy F Kp hFK hZF hY
    generalize yld ly = yv at *
    have hv' : VR Z' w C (.clos f2 [] caps) v := hv
    cases hv' with
    | @clos _ _ _ _ fa ca hl h1 hl' h2 =>
      have e1 : fa = #[] := by apply Array.eq_empty_of_size_eq_zero; simpa using hl.symm
      subst e1
      refine ⟨{ target := .fn (.func f2) ca, args := #[] ++ #[yv] }, f2, #[] ++ #[yv] ++ ca, rfl, ?_, fun cs => ?_⟩
      · have := Go.Proofs.enters_of (P := P) hf2 hname hb (#[] ++ #[yv] ++ ca) wb
        simpa [invoke] using this
      · have own : ∀ b, Own C b → E.w0.heap.size ≤ b ∧ b < w.heap.size := fun b ⟨k, o, h⟩ => by
          obtain ⟨q1, q2, q3⟩ := hm.own k b o h
          exact ⟨q3.resolve_left (hE.nm b), q1⟩
        let E2 : Env := { Z0 := Z', M := Own C, w0 := wb, b := { (default : Frame) with fn := f2, kind := .normal }, cs := cs, Fin := WH P f2 cs fun _ w' => ∃ F Kp, Y (Xi cont 0 xs.length) F Kp w' }
        have hE2 : IterE P f2 xs yv Y cont (Xi cont 0 xs.length) (some 0) E2 := ⟨rfl, rfl, rfl, rfl, rfl, rfl, hst, hy, ⟨F, Kp, hY, fun b hb => ?_, fun b hb => ?_⟩, rfl⟩
        · obtain ⟨hm2, he2⟩ := hm.keep hfr (fun _ _ h => h) (fun _ _ h => h) (fun _ _ _ h => h)
          have hargs : VRs Z' wb C ([.opq yv] ++ caps) (#[] ++ #[yv] ++ ca).toList := by
            refine ⟨by simp [hl'], fun i x y p q => ?_⟩
            simp only [Array.toList_append] at q
            match i with
            | 0 => simp at p q; rw [← p, ← q]; exact .opq _
            | j + 1 =>
              simp at p q
              exact (h2 j x y p (by simpa using q)).mono he2
          have henter : Frame.enter P f2 (#[] ++ #[yv] ++ ca) .normal = ({ (default : Frame) with fn := f2, kind := .normal } : Frame).atR { tmps := (#[] ++ #[yv] ++ ca) ++ Array.replicate (fn2.ntmps - (#[] ++ #[yv] ++ ca).size) undef, defers := [] } [.code c2] := by
            simp only [Frame.enter, Frame.atR, hf2, hb, Option.map_some, Option.getD_some, Option.bind_some]; rfl
          have hl2 : ([AV.opq yv] ++ caps).length = (#[] ++ #[yv] ++ ca).size := by simp [hl']; omega
          obtain ⟨m', s, v, w', fr, rfl, r1, r2, r3⟩ := hI E2 yv Y cont hE2 C Z' { tmps := (#[] ++ #[yv] ++ ca) ++ Array.replicate (fn2.ntmps - (#[] ++ #[yv] ++ ca).size) undef, defers := [] } wb
            ⟨⟨by rw [Yc, List.length_append, hl2]; simp; omega, fun i x y p q => by
                simp only [Array.toList_append (xs := #[] ++ #[yv] ++ ca), Array.toList_replicate] at q
                rw [Yc] at p
                by_cases hi : i < ([AV.opq yv] ++ caps).length
                · rw [List.getElem?_append_left hi] at p
                  rw [List.getElem?_append_left (by rw [Array.length_toList, ← hl2]; exact hi)] at q
                  exact hargs.2 i x y p q
                · rw [List.getElem?_append_right (by omega)] at p
                  rw [List.getElem?_append_right (by rw [Array.length_toList, ← hl2]; omega)] at q
                  have p' := List.mem_replicate.1 (List.mem_of_getElem? p)
                  have q' := List.mem_replicate.1 (List.mem_of_getElem? q)
                  rw [p'.2, q'.2]
                  exact .tup rfl (by simp)⟩, hm2.rebase (fun _ h => h), ⟨[], .nil, .nil, by simp⟩, ⟨rfl, fun _ _ _ h _ => by cases h⟩, .bot⟩
          rw [henter]
          exact ⟨.returned v, w', fr, ⟨v, rfl, r3⟩, s, r1, r2⟩
        · obtain ⟨q1, q2⟩ := own b hb
          exact ⟨fun h => by have := hFK b (.inl h); omega, fun h => by have := hFK b (.inr h); omega⟩
        · intro h
          rcases hm.zsub b hb with hb' | hb' | hb'
          · exact hZF b hb' h
          · exact hE.nm b hb'
          · have := hFK b (.inl h); have := hm.zlt b hb; omega
  · have := hm.frame
    exact ⟨this.os, this.tape, this.output, this.size, fun b hb _ => this.same b hb (hE.nm b)⟩

/-- Into the code that comes next. -/
def ctl1:List Item→Option (List Item)
 | .code (.seq x y) :: k=>some (.code x :: .code y :: k)
 | .code (.block id b) :: k=>some (.code b :: .inBlock id :: k)
 | _=>none
def ctlK:Nat→List Item→List Item
 | 0,K=>K
 | n+1,K=>match ctl1 K with
  | some K'=>ctlK n K'
  | none=>K
theorem GX.of_step {X:(Nat→Prop)→Ctx→Act→World→Prop} (h:∀ (a:Act) (w:World),step P (lone (E.b.atR a K) E.cs w)=.next (lone (E.b.atR a K') E.cs w)) (hg:GX P E X K' st):GX P E X K st :=
 fun C Z a w hr hx=>.step (.one (h a w)) (hg C Z a w hr hx)
theorem ctl1_step {X:(Nat→Prop)→Ctx→Act→World→Prop} (h1:ctl1 K=some K') (h:GX P E X K' st):GX P E X K st:=by
 unfold ctl1 at h1
 split at h1
 · cases h1; exact .of_step (fun a w=>stepR_seq) h
 · cases h1; exact .of_step (fun a w=>stepR_block) h
 · cases h1
theorem ctlK_step {X:(Nat→Prop)→Ctx→Act→World→Prop} (n:Nat):∀ (K:List Item),GX P E X (ctlK n K) st→GX P E X K st:=by
 induction n with
 | zero=>exact fun K h=>h
 | succ n ih =>
  intro K h
  unfold ctlK at h
  cases e:ctl1 K with
  | some K'=>rw [e] at h; exact ctl1_step e (ih _ h)
  | none=>rw [e] at h; exact h
/-- The call of such a function,and the range over what it gives. -/
def upParts:List Item→Option (Array Oper × Oper × Operand × Array Operand × Nat × List Item)
 | .inRegion ops [i] :: k=>(match ops[i]? with
  | some o=>(match o.op,o.dst with
   | .call { callee:=.value f,args,argTypes:=_ },some d=>some (ops,o,f,args,d,ctlK 20 k)
   | _,_=>none)
  | none=>none)
 | _=>none
theorem upcall_step {ops:Array Oper} {o:Oper} {f:Operand} {args:Array Operand} {d:Nat} {K2:List Item} {fv:AV} {avs:List AV} {xs:List (List AV)}
 (hK:upParts K=some (ops,o,f,args,d,K2)) (hw:YM ops st.tmps o=some true) (hfv:Yt st.tmps f=fv) (has:args.toList.map (Yt st.tmps)=avs) (hn:XO fv=true) (hns:noRefs avs=true) (hd:d<st.tmps.length)
 (hup:UpF P fv avs xs) (hg:GX P E (VN P E xs (.tmp d)) K2 ⟨st.tmps.set d .junk,st.blks⟩):G P E K st:=by
 unfold upParts at hK
 split at hK
 · rename_i ops' i k
   split at hK
   · rename_i o' ho
     split at hK
     · rename_i f' args' ats d' hop hdst
       simp only [Option.some.injEq,Prod.mk.injEq] at hK
       obtain ⟨rfl,rfl,rfl,rfl,rfl,rfl⟩:=hK
       intro C Z a w hr
       have hwc:=XE hr.tmp hw
       have hgo:=stepGR_op (P:=P) (b:=E.b) (k:=k) (cs:=E.cs) (w:=w) (rest:=[]) ho hwc
       rw [Oper.semAt_eq _ _ _ (by intro c hc; rw [hop] at hc; cases hc)] at hgo
       have hfin:∀ v,(E.b.atR a (.inRegion ops' [i] :: k)).finish v=E.b.atR (a.put o'.dst v) (.inRegion ops' [] :: k):=by
        intro v; rw [Frame.finish_atR,ho]; rfl
       have hcf:=(Xe hr.tmp f').ctx (C':=C0) (by rw [hfv]; exact hn)
       rw [hfv] at hcf
       have hca:VRs Z w C0 avs (args'.map a.eval).toList:=by
        rw [← has]
        refine ⟨by simp,fun j c v p q=>?_⟩
        have hp:=p
        simp only [List.getElem?_map,Option.map_eq_some_iff] at p
        obtain ⟨y,p1,p2⟩:=p
        simp only [Array.toList_map,List.getElem?_map,p1,Option.map_some,Option.some.injEq] at q
        rw [← q,← p2]
        refine (Xe hr.tmp y).ctx ?_
        rw [p2]
        exact QX hns (by rw [← has]; exact hp)
       obtain ⟨df,fi,ar,c1,c2,c3⟩:=hup Z w _ _ hr.mem.zlt hcf hca
       have hrun:(execOp a.eval o').run P w=.ok (.enter fi ar) w:=by
        obtain ⟨dst,op,ty,pos,after,guard⟩:=o'
        simp only at hop
        subst hop
        simp only [execOp,resolve,Sem.run_bind,Sem.run_pure,Result.andThen_ok,c1]
        simpa using c2
       obtain ⟨e,w1,fr,⟨v,rfl,hL,hfr⟩,hsteps,-,hleave⟩:=c3 (E.b.atR a (.inRegion ops' [i] :: k) :: E.cs)
       have henter:step P (lone (E.b.atR a (.inRegion ops' [i] :: k)) E.cs w) =
        .next (lone (Frame.enter P fi ar .normal) (E.b.atR a (.inRegion ops' [i] :: k) :: E.cs) w) :=
        step_lone_go (by rw [hgo]; simp [stepG.apply,hrun,Frame.atR])
       refine .step (Steps.head henter (hsteps.trans (.one (step_leave_returned hleave)))) ?_
       rw [hfin]
       refine .step (.one stepR_region_end) ?_
       replace hg:=ctlK_step _ _ hg
       obtain ⟨hm1,he1⟩:=hr.mem.keep hfr (fun _ _ h=>h) (fun _ _ h=>h) (fun _ _ _ h=>h)
       have hev:(a.put o'.dst v).eval (.tmp d')=v:=by
        rw [hdst]
        have hl:=hr.tmp.1
        have:d'<a.tmps.size:=by have h9:=hd; rw [hl] at h9; simpa using h9
        simp [Act.put,Act.eval,this]
       refine hg C Z (a.put o'.dst v) w1 ⟨?_,hm1,?_,?_,hr.base.next (.refl C) he1⟩ ?_
       · rw [hdst]
         exact VRs.put (dst:=some d') (hr.tmp.mono he1) (.junk v)
       · have:(a.put o'.dst v).defers=a.defers:=by cases o'.dst <;> rfl
         rw [this]; exact hr.marks.evo he1
       · exact hr.gh.mono he1
       · intro wb hfb yv Y cont hst hy F Kp h1 h2 h3 hY
         rw [hev]
         refine hL wb hfb yv Y cont hst hy F Kp (fun b hb=>?_) h3 hY
         rcases hb with hb | hb
         · rcases h1 b hb with ⟨k',o,h⟩ | h
           · exact .inl (hr.mem.own k' b o h).1
           · exact .inr h
         · rcases h2 b hb with h | h | h
           · exact .inl (hr.mem.zlt b h)
           · exact .inl (Nat.lt_of_lt_of_le h hr.mem.frame.size)
           · exact .inr h
     · cases hK
   · cases hK
 · cases hK
/-- All at once. -/
def upRun (K:List Item) (tmps:List AV):Option (AV × List AV × Nat × List Item) :=
 match upParts K with
 | some (ops,o,f,args,d,K2)=>(match YM ops tmps o with
  | some true=>if XO (Yt tmps f) && (noRefs (args.toList.map (Yt tmps)) && Nat.blt d tmps.length) then some (Yt tmps f,args.toList.map (Yt tmps),d,K2) else none
  | _=>none)
 | none=>none
theorem upcall_stepA {d:Nat} {K2:List Item} {fv:AV} {avs:List AV} {xs:List (List AV)} (h:upRun K st.tmps=some (fv,avs,d,K2))
 (hup:UpF P fv avs xs) (hg:GX P E (VN P E xs (.tmp d)) K2 ⟨st.tmps.set d .junk,st.blks⟩):G P E K st:=by
 unfold upRun at h
 split at h
 · rename_i ops o f args d' K2' hK
   split at h
   · rename_i hw
     split at h
     · rename_i hc
       simp only [Option.some.injEq,Prod.mk.injEq] at h
       obtain ⟨rfl,rfl,rfl,rfl⟩:=h
       simp only [Bool.and_eq_true,Nat.blt_eq] at hc
       exact upcall_step hK hw rfl rfl hc.1 hc.2.1 hc.2.2 hup hg
     · cases h
   · cases h
 · cases h
end
end Ax
namespace Ax
open Go
/-- The side of an iterator that ranges over another one: its own memory,its temporaries and marks,the loop's record,and the side of whoever ranges over it. -/
def QY (l:Nat) (tv:Array Value) (ds:List Deferred) (T:List AV) (rec:Option Nat→Loop) (B:List Blk) (Y:Option Nat→Sd) (o:Option Nat):Sd:=fun F Kp w =>
 ∃ C Z Ds F2 K2,Mem Z (fun b=>Own C b ∨ b ∈ Ds) w C Z B w∧VRs Z w C T tv.toList∧Ds.Nodup∧Mix [] Ds ds∧(∀ D ∈ Ds,Z D∧w.heap[D]?=some (.deferred (some []))) ∧
  w.heap[l]?=some (.loop (rec o))∧¬ Z l∧¬ Own C l∧Y o F2 K2 w∧(∀ b,(Own C b ∨ b=l) ∨ b ∈ Ds→¬ F2 b∧¬ K2 b)∧(∀ b,Z b→¬ F2 b) ∧
  (∀ b,F b ↔ ((Own C b ∨ b=l) ∨ F2 b))∧∀ b,Kp b ↔ (Z b ∨ K2 b)
section
variable {P:Program} {E:Env} {K K':List Item} {st st':St}
theorem QY.stable {l:Nat} {tv:Array Value} {ds:List Deferred} {T:List AV} {rec:Option Nat→Loop} {B:List Blk} {Y:Option Nat→Sd} (hY:∀ o,Stable (Y o)) {o:Option Nat}:Stable (QY l tv ds T rec B Y o):=by
 constructor
 · rintro F Kp w ⟨C,Z,Ds,F2,K2,hm,hv,hn,hx,hd,hl,hzl,hol,hy,hdj,hzf,hF,hK⟩ b hb
   rw [hF,hK] at hb
   rcases hb with ((⟨k,o',hb⟩ | rfl) | hb) | hb | hb
   · exact (hm.own k b o' hb).1
   · exact XP hl
   · exact (hY o).lt _ _ _ hy b (.inl hb)
   · exact hm.zlt b hb
   · exact (hY o).lt _ _ _ hy b (.inr hb)
 · rintro F Kp w Mi w' ⟨C,Z,Ds,F2,K2,hm,hv,hn,hx,hd,hl,hzl,hol,hy,hdj,hzf,hF,hK⟩ hf hMi
   have h1:∀ b,Own C b→¬ Mi b:=fun b hb h=>(hMi b h).1 ((hF b).2 (.inl (.inl hb)))
   have h2:∀ b,Z b→¬ Mi b:=fun b hb h=>(hMi b h).2 ((hK b).2 (.inl hb))
   obtain ⟨hm',he⟩:=hm.apart (M':=fun b=>Own C b ∨ b ∈ Ds) hf h1 h2 (fun _ h=>.inl h)
   refine ⟨C,Z,Ds,F2,K2,hm',hv.mono he,hn,hx,fun D hD=>⟨(hd D hD).1,by rw [he.same D (hd D hD).1]; exact (hd D hD).2⟩,?_,hzl,hol,(hY o).mv _ _ _ Mi _ hy hf (fun b h=>⟨fun h'=>(hMi b h).1 ((hF b).2 (.inr h')),fun h'=>(hMi b h).2 ((hK b).2 (.inr h'))⟩),hdj,hzf,hF,hK⟩
   rw [hf.same l (XP hl) (fun h=>(hMi l h).1 ((hF l).2 (.inl (.inr rfl))))]; exact hl
/-- One round: before the yield,the yield,behind it. -/
theorem relay_round {fn:FuncId} {l:Nat} {tv:Array Value} {ds:List Deferred} {T:List AV} {rec:Option Nat→Loop} {B:List Blk} {ps:Array Tmp} {assign body:Code} {D:Nat} {jump:Code} {cont:Nat→Bool}
 {yv:Value} {Y:Option Nat→Sd} {xs:List (List AV)} (hYs:∀ o,Stable (Y o)) (hyl:Qax P yv Y cont xs)
 {i:Nat} {x y:List AV} {S1 S2:St} {Ky Kz:List Item} {dst:Option Nat} (hT:T.length=tv.size) (hps:x.length=ps.size) (hxi:xs[i]?=some y)
 (hrec:∀ n,rec (some n)={ state:=.ready,pending:=none,fn,tmps:=tv,params:=ps,assign,body,defers:=D })
 (hrecN:rec none={ state:=.done,pending:=some jump,fn,tmps:=tv,params:=ps,assign,body,defers:=D })
 (hA:∀ E',RoundE T E'→E'.Fin=Wi (·=[.beginRound,.code body]) (·=S1) E'→G P E' [.code assign,.beginRound,.code body] ⟨Wn T ps.toList x,B⟩)
 (hB:∀ E',RoundE T E'→E'.Fin=Wi (·=Ky) (·=S2) E'→G P E' [.code body] S1)
 (hy:qJ Ky S2=some (Kz,dst,yv,y)) (hsy:scalars y=true)
 (hZ:∀ E',RoundE T E'→E'.Fin=Wi (fun K=>if cont i=true then K=[] else WF jump K) (fun st=>st.blks=B) E'→G P E' Kz ⟨putA S2.tmps dst (.bool (cont i)),S2.blks⟩)
 {F Kp:Nat→Prop} {w:World} (hY:QY l tv ds T rec B Y (some i) F Kp w) {cargs:Array Value} (hx:VRs (fun _=>False) w C0 x cargs.toList) :
 YCall P (.func (.yield l) #[] #[]) cargs w fun t w'=>t=cont i∧∃ F' Kp',QY l tv ds T rec B Y (nxt cont i) F' Kp' w'∧Fr w F w'∧(∀ b,F' b→F b ∨ w.heap.size≤b)∧(∀ b,Kp' b→F b ∨ Kp b ∨ w.heap.size≤b):=by
 obtain ⟨C,Z,Ds0,F2,K2,hm,hv,hn0,hx0,hd0,hl,hzl,hol,hyw,hdj,hzf,hF,hK⟩:=hY
 have hcs:cargs.size=ps.size:=by have:=hx.1; simp at this; omega
 rw [hrec] at hl
 have hlw:=XP hl
 have hltY:=(hYs _).lt _ _ _ hyw
 refine ⟨l,fn,_,assign,body,rfl,run_yield hl hcs,fun c cs=>?_⟩
 let br:Frame:={ (default:Frame) with fn:=fn,kind:=.normal,roundOf:=some l }
 let tm:Array Value:=(ps.zip cargs).foldl (fun tmps (t,a)=>tmps.setIfInBounds t a) tv
 have hround:Frame.round l fn tm assign body .normal=br.atR { tmps:=tm,defers:=[] } [.code assign,.beginRound,.code body]:=by
  simp [Frame.round,Frame.atR,br]
 have htm:VRs Z w C (Wn T ps.toList x) tm.toList:=by
  have:=qC (ps:=ps.toList) (T:=T) (x:=x) (us:=cargs.toList) (tm:=tv) hv ⟨hx.1,fun i c v p q=>((hx.2 i c v p q).zmono (fun b h=>h.elim)).of0⟩
  have e:tm=(ps.toList.zip cargs.toList).foldl (fun tm p=>tm.setIfInBounds p.1 p.2) tv:=by
   show (ps.zip cargs).foldl _ tv=_
   rw [← Array.foldl_toList,Array.toList_zip]
  rw [e]; exact this
 -- the assignment
 let E1b:Env:={ Z0:=Z,M:=Own C,w0:=w,b:=br,cs:=c :: cs,Fin:=fun _=>True,gA:=T,gV:=tv.toList }
 let E1:Env:={ E1b with Fin:=Wi (·=[.beginRound,.code body]) (·=S1) E1b }
 obtain ⟨m1,s1,C1,Z1,a1,w1,K1,st1,rfl,rfl,hr1,rfl⟩:=hA E1 ⟨⟨l,rfl⟩,rfl,rfl,rfl⟩ rfl C Z { tmps:=tm,defers:=[] } w ⟨htm,hm.rebase (fun _ h=>h),⟨[],.nil,.nil,by simp⟩,hv,.bot⟩
 have f1:Fr w (Own C) w1:=hr1.mem.frame
 have own1:∀ b,Own C1 b→Own C b ∨ w.heap.size≤b:=fun b ⟨k,o,h⟩=>(hr1.mem.own k b o h).2.2
 have z1:∀ b,Z1 b→Z b ∨ Own C b ∨ w.heap.size≤b:=fun b h=>hr1.mem.zsub b h
 have hol1:¬ Own C1 l:=fun h=>by rcases own1 l h with h | h; exact hol h; omega
 have hzl1:¬ Z1 l:=fun h=>by rcases z1 l h with h | h | h; exact hzl h; exact hol h; omega
 have hl1:w1.heap[l]?=some (.loop { state:=.ready,pending:=none,fn,tmps:=tv,params:=ps,assign,body,defers:=D }):=by rw [f1.same l hlw hol]; exact hl
 -- the round begins
 have hbeg:=stepR_beginRound (P:=P) (b:=br) (a:=a1) (k:=[.code body]) (cs:=c :: cs) (w:=w1) (l:=l) rfl (run_beginRound hl1 rfl)
 obtain ⟨hm2,he2⟩:=hr1.mem.apart (M':=Own C1) (qw (w:=w1) (l:=l) (o:=.loop { state:=.busy,pending:=none,fn,tmps:=tv,params:=ps,assign,body,defers:=D })) (fun b hb e=>hol1 (e ▸ hb)) (fun b hb e=>hzl1 (e ▸ hb)) (fun b h=>h)
 generalize hw2:w1.putObj l (.loop { state:=.busy,pending:=none,fn,tmps:=tv,params:=ps,assign,body,defers:=D })=w2 at hbeg hm2 he2
 have f2:Fr w1 (·=l) w2:=hw2 ▸ qw
 have hl2:w2.heap[l]?=some (.loop { state:=.busy,pending:=none,fn,tmps:=tv,params:=ps,assign,body,defers:=D }):=by rw [← hw2]; exact World.putObj_heap_same (Nat.lt_of_lt_of_le hlw f1.size)
 obtain ⟨Ds,d1,d2,d3⟩:=hr1.marks
 let E2b:Env:={ Z0:=Z1,M:=fun b=>Own C1 b ∨ b ∈ Ds,w0:=w2,b:=br,cs:=c :: cs,Fin:=fun _=>True,gA:=T,gV:=tv.toList }
 let E2:Env:={ E2b with Fin:=Wi (·=Ky) (·=S2) E2b }
 obtain ⟨m2,s2,C2,Z2,a2,w3,K2',st2,rfl,rfl,hr2,rfl⟩:=hB E2 ⟨⟨l,rfl⟩,rfl,rfl,rfl⟩ rfl C1 Z1 a1 w2
  ⟨hr1.tmp.mono he2,hm2.rebase (fun _ h=>.inl h),⟨Ds,d1,d2,fun D' hD=>⟨(d3 D' hD).1,.inl (.inr hD),by rw [he2.same D' (d3 D' hD).1]; exact (d3 D' hD).2.2⟩⟩,hr1.gh.mono he2,.bot⟩
 have f3:Fr w2 (fun b=>Own C1 b ∨ b ∈ Ds) w3:=hr2.mem.frame
 have dsM:∀ b,b ∈ Ds→Own C b ∨ w.heap.size≤b:=fun b h=>(d3 b h).2.1
 have m2M:∀ b,(Own C1 b ∨ b ∈ Ds)→Own C b ∨ w.heap.size≤b:=fun b h=>h.elim (own1 b) (dsM b)
 have e1:=f1.size
 have e2:=f2.size
 have e3:=f3.size
 have own2:∀ b,Own C2 b→Own C b ∨ w.heap.size≤b:=fun b ⟨k,o,h⟩=>by
  rcases (hr2.mem.own k b o h).2.2 with h | h
  · exact m2M b h
  · exact .inr (Nat.le_trans (Nat.le_trans e1 e2) h)
 have z2:∀ b,Z2 b→Z b ∨ Own C b ∨ w.heap.size≤b:=fun b h=>by
  rcases hr2.mem.zsub b h with h | h | h
  · exact z1 b h
  · exact .inr (m2M b h)
  · exact .inr (.inr (Nat.le_trans (Nat.le_trans e1 e2) h))
 have hol2:¬ Own C2 l:=fun h=>by rcases own2 l h with h | h; exact hol h; omega
 have hzl2:¬ Z2 l:=fun h=>by rcases z2 l h with h | h | h; exact hzl h; exact hol h; omega
 have hlw2:l<w2.heap.size:=XP hl2
 have hl3:w3.heap[l]?=some (.loop { state:=.busy,pending:=none,fn,tmps:=tv,params:=ps,assign,body,defers:=D }):=by
  rw [f3.same l hlw2 (fun h=>by rcases m2M l h with h | h; exact hol h; omega)]; exact hl2
 have hlw3:l<w3.heap.size:=XP hl3
 -- what turned so far is none of the other side's
 let Ours:Nat→Prop:=fun b=>Own C b ∨ b=l ∨ w.heap.size≤b
 have ours:∀ b,Ours b→¬ F2 b∧¬ K2 b:=by
  rintro b (h | h | h)
  · exact hdj b (.inl (.inl h))
  · exact hdj b (.inl (.inr h))
  · exact ⟨fun h'=>by have:=hltY b (.inl h'); omega,fun h'=>by have:=hltY b (.inr h'); omega⟩
 have g3:Fr w (fun b=>Own C b ∨ b=l) w3:=by
  have q1:Fr w (fun b=>Own C b ∨ b=l) w1:=f1.weaken fun b h=>.inl h
  have q2:Fr w (fun b=>Own C b ∨ b=l) w2:=q1.trans f2 fun b _ hn e=>hn (.inr e)
  exact q2.trans f3 fun b hb hn h=>by
   rcases m2M b h with h | h
   · exact hn (.inl h)
   · omega
 have hyw3:=(hYs _).mv _ _ _ _ _ hyw g3 (fun b h=>ours b (h.imp id .inl))
 -- the yield
 unfold qJ at hy
 split at hy
 rotate_left
 · cases hy
 rename_i ops j rest kk
 split at hy
 rotate_left
 · cases hy
 rename_i o ho
 split at hy
 rotate_left
 · cases hy
 rename_i fop args ats hop hw
 split at hy
 rotate_left
 · cases hy
 rename_i yv' hf
 simp only [Option.some.injEq,Prod.mk.injEq] at hy
 obtain ⟨rfl,rfl,rfl,rfl⟩:=hy
 have hwc:=XE hr2.tmp hw
 have hgo:=stepGR_op (P:=P) (b:=br) (k:=kk) (cs:=c :: cs) (w:=w3) (rest:=rest) ho hwc
 rw [Oper.semAt_eq _ _ _ (by intro c hc; rw [hop] at hc; cases hc)] at hgo
 have hfin:∀ v,(br.atR a2 (.inRegion ops (j :: rest) :: kk)).finish v=br.atR (a2.put o.dst v) (.inRegion ops rest :: kk):=by
  intro v; rw [Frame.finish_atR,ho]; rfl
 have hfv:=Xe hr2.tmp fop
 rw [hf] at hfv
 generalize hyv:a2.eval fop=yv2 at hfv
 cases hfv
 have hargs:VRs Z2 w3 C2 (args.toList.map (Yt st2.tmps)) (args.map a2.eval).toList:=by
  refine ⟨by simp,fun j c v p q=>?_⟩
  simp only [List.getElem?_map,Option.map_eq_some_iff] at p
  obtain ⟨y,p1,p2⟩:=p
  simp only [Array.toList_map,List.getElem?_map,p1,Option.map_some,Option.some.injEq] at q
  rw [← p2,← q]
  exact Xe hr2.tmp y
 obtain ⟨ly,fny,tmy,asgy,bdy,hyl',hrun,hst⟩:=hyl i _ hxi F2 K2 w3 hyw3 _ (KE hsy hargs)
 obtain ⟨t,w4,⟨rfl,F3,K3,hY4,f4,hF3,hK3⟩,s3⟩:=hst (br.atR a2 (.inRegion ops (j :: rest) :: kk)) (c :: cs)
 have hexec:(execOp a2.eval o).run P w3=.ok (.round ly fny tmy asgy bdy) w3:=by
  obtain ⟨dst,op,ty,pos,after,guard⟩:=o
  simp only at hop
  subst hop
  simp only [execOp,resolve,hyv,hyl',Deferred.ofValue,Sem.run_bind,Sem.run_pure,Result.andThen_ok,invoke]
  simpa using hrun
 have henter:step P (lone (br.atR a2 (.inRegion ops (j :: rest) :: kk)) (c :: cs) w3) =
  .next (lone (Frame.round ly fny tmy asgy bdy .normal) (br.atR a2 (.inRegion ops (j :: rest) :: kk) :: c :: cs) w3) :=
  step_lone_go (by rw [hgo]; simp [stepG.apply,hexec])
 rw [hfin] at s3
 have e4:=f4.size
 have hltY4:=(hYs _).lt _ _ _ hY4
 obtain ⟨Ds2,q1,q2,q3⟩:=hr2.marks
 have our2:∀ b,Own C2 b ∨ b ∈ Ds2→Ours b:=by
  rintro b (h | h)
  · exact (own2 b h).imp id .inr
  · rcases (q3 b h).2.1 with h | h
    · exact (m2M b h).imp id .inr
    · exact .inr (.inr (Nat.le_trans (Nat.le_trans e1 e2) h))
 have zF2:∀ b,Z2 b→¬ F2 b:=by
  intro b hb hF
  rcases z2 b hb with h | h | h
  · exact hzf b h hF
  · exact (ours b (.inl h)).1 hF
  · exact (ours b (.inr (.inr h))).1 hF
 obtain ⟨hmem,hevo⟩:=hr2.mem.apart (M':=fun b=>Own C2 b ∨ b ∈ Ds2) f4 (fun b hb=>(ours b (our2 b (.inl hb))).1) zF2 (fun b hb=>.inl hb)
 have hl4:w4.heap[l]?=some (.loop { state:=.busy,pending:=none,fn,tmps:=tv,params:=ps,assign,body,defers:=D }):=by
  rw [f4.same l hlw3 (ours l (.inr (.inl rfl))).1]; exact hl3
 -- behind the yield
 let E3b:Env:={ Z0:=Z2,M:=fun b=>Own C2 b ∨ b ∈ Ds2,w0:=w4,b:=br,cs:=c :: cs,Fin:=fun _=>True,gA:=T,gV:=tv.toList }
 let E3:Env:={ E3b with Fin:=Wi (fun K=>if cont i=true then K=[] else WF jump K) (fun st=>st.blks=B) E3b }
 have hdf:(a2.put o.dst (.bool (cont i))).defers=a2.defers:=by cases o.dst <;> rfl
 obtain ⟨m3,s4,C3,Z3,a3,w5,K3',st3,hK3',hS3,hr3,rfl⟩:=hZ E3 ⟨⟨l,rfl⟩,rfl,rfl,rfl⟩ rfl C2 Z2 (a2.put o.dst (.bool (cont i))) w4
  ⟨VRs.put ⟨hr2.tmp.1,fun j c v p q=>(hr2.tmp.2 j c v p q).mono hevo⟩ (.bool _) o.dst,hmem,by
   rw [hdf]
   exact ⟨Ds2,q1,q2,fun D' hD=>⟨(q3 D' hD).1,.inl (.inr hD),by rw [hevo.same D' (q3 D' hD).1]; exact (q3 D' hD).2.2⟩⟩,hr2.gh.mono hevo,.bot⟩
 have f5:Fr w4 (fun b=>Own C2 b ∨ b ∈ Ds2) w5:=hr3.mem.frame
 have e5:=f5.size
 have lt2:∀ b,Own C2 b ∨ b ∈ Ds2→b<w3.heap.size:=by
  rintro b (⟨k,o,h⟩ | h)
  · exact (hr2.mem.own k b o h).1
  · exact hr2.mem.zlt b (q3 b h).1
 have F3no:∀ b,Ours b→b<w3.heap.size→¬ F3 b∧¬ K3 b:=fun b h hb =>
  ⟨fun h'=>by rcases hF3 b h' with h' | h'; exact (ours b h).1 h'; omega,fun h'=>by rcases hK3 b h' with h' | h' | h'; exact (ours b h).1 h'; exact (ours b h).2 h'; omega⟩
 have F3no2:∀ b,w4.heap.size≤b→¬ F3 b∧¬ K3 b:=fun b hb=>⟨fun h=>by have:=hltY4 b (.inl h); omega,fun h=>by have:=hltY4 b (.inr h); omega⟩
 have own3:∀ b,Own C3 b→(Own C2 b ∨ b ∈ Ds2) ∨ w4.heap.size≤b:=fun b ⟨k,o,h⟩=>(hr3.mem.own k b o h).2.2
 have z3:∀ b,Z3 b→Z2 b ∨ (Own C2 b ∨ b ∈ Ds2) ∨ w4.heap.size≤b:=fun b h=>hr3.mem.zsub b h
 have hol3:¬ Own C3 l:=fun h=>by
  rcases own3 l h with h | h
  · rcases h with h | h
    · exact hol2 h
    · exact hzl2 (q3 l h).1
  · omega
 have hzl3:¬ Z3 l:=fun h=>by
  rcases z3 l h with h | (h | h) | h
  · exact hzl2 h
  · exact hol2 h
  · exact hzl2 (q3 l h).1
  · omega
 have hl5:w5.heap[l]?=some (.loop { state:=.busy,pending:=none,fn,tmps:=tv,params:=ps,assign,body,defers:=D }):=by
  rw [f5.same l (Nat.lt_of_lt_of_le hlw3 e4) (fun h=>by
   rcases h with h | h
   · exact hol2 h
   · exact hzl2 (q3 l h).1)]; exact hl4
 have zz:∀ b,Z b→Z3 b:=fun b h=>hr3.mem.z0 b (hr2.mem.z0 b (hr1.mem.z0 b h))
 have hds5:∀ D' ∈ Ds0,Z3 D'∧w5.heap[D']?=some (.deferred (some [])):=by
  intro D' hD
  obtain ⟨hz,hh⟩:=hd0 D' hD
  have hlt:=hm.zlt D' hz
  have hno:¬ Own C D':=fun ⟨k,o,h⟩=>(hm.own k D' o h).2.1 hz
  have hne:D' ≠ l:=fun e=>hzl (e ▸ hz)
  have hz2:Z2 D':=hr2.mem.z0 D' (hr1.mem.z0 D' hz)
  refine ⟨zz D' hz,?_⟩
  rw [f5.same D' (by omega) (fun h=>by
   rcases our2 D' h with h' | h' | h'
   · exact hno h'
   · exact hne h'
   · omega),f4.same D' (by omega) (zF2 D' hz2),f3.same D' (by omega) (fun h=>by rcases m2M D' h with h | h; exact hno h; omega),f2.same D' (by omega) hne,f1.same D' hlt hno]
  exact hh
 have g5:Fr w F w5:=by
  have p3:Fr w F w3:=g3.weaken fun b h=>(hF b).2 (.inl h)
  have p4:Fr w F w4:=p3.trans f4 fun b _ hn h=>hn ((hF b).2 (.inr h))
  exact p4.trans f5 fun b hb hn h=>by
   rcases our2 b h with h' | h' | h'
   · exact hn ((hF b).2 (.inl (.inl h')))
   · exact hn ((hF b).2 (.inl (.inr h')))
   · omega
 -- the round ends
 have fin:∀ (r':Loop) (t:Bool),(∃ v,step P (lone (br.atR a3 K3') (c :: cs) w5)=.next (lone (c.finish v) cs (w5.putObj l (.loop r')))∧v=.bool t)→t=cont i→r'=rec (nxt cont i) →
  ∃ t w',(t=cont i∧∃ F' Kp',QY l tv ds T rec B Y (nxt cont i) F' Kp' w'∧Fr w F w'∧(∀ b,F' b→F b ∨ w.heap.size≤b)∧(∀ b,Kp' b→F b ∨ Kp b ∨ w.heap.size≤b)) ∧
   Steps P (lone (Frame.round l fn tm assign body .normal) (c :: cs) w) (lone (c.finish (.bool t)) cs w'):=by
  rintro r' t ⟨v,hstep,rfl⟩ ht hr'
  have f6:Fr w5 (·=l) (w5.putObj l (.loop r')):=qw
  obtain ⟨hm6,he6⟩:=hr3.mem.apart (M':=fun b=>Own C3 b ∨ b ∈ Ds0) f6 (fun b hb e=>hol3 (e ▸ hb)) (fun b hb e=>hzl3 (e ▸ hb)) (fun b h=>.inl h)
  have hY6:Y (nxt cont i) F3 K3 (w5.putObj l (.loop r')):=by
   refine (hYs _).mv _ _ _ (fun b=>(Own C2 b ∨ b ∈ Ds2) ∨ b=l) _ hY4 ((f5.weaken fun b h=>.inl h).trans f6 fun b _ hn e=>hn (.inr e)) ?_
   rintro b (h | h)
   · exact F3no b (our2 b h) (lt2 b h)
   · exact F3no b (.inr (.inl h)) (h ▸ hlw3)
  refine ⟨t,w5.putObj l (.loop r'),⟨ht,fun b=>(Own C3 b ∨ b=l) ∨ F3 b,fun b=>Z3 b ∨ K3 b,⟨C3,Z3,Ds0,F3,K3,by rw [← hS3]; exact hm6,hr3.gh.mono he6,hn0,hx0,fun D' hD=>⟨(hds5 D' hD).1,by rw [he6.same D' (hds5 D' hD).1]; exact (hds5 D' hD).2⟩,by rw [← hr']; exact World.putObj_heap_same (XP hl5),hzl3,hol3,hY6,?_,?_,fun _=>.rfl,fun _=>.rfl⟩,?_,?_,?_⟩,?_⟩
  · rintro b ((h | h) | h)
    · rcases own3 b h with h | h
      · exact F3no b (our2 b h) (lt2 b h)
      · exact F3no2 b h
    · exact F3no b (.inr (.inl h)) (h ▸ hlw3)
    · have hz:=(hd0 b h).1
      have hlt:=hm.zlt b hz
      have hn:=hdj b (.inr h)
      exact ⟨fun h'=>by rcases hF3 b h' with h' | h'; exact hn.1 h'; omega,fun h'=>by rcases hK3 b h' with h' | h' | h'; exact hn.1 h'; exact hn.2 h'; omega⟩
  · intro b hb hf
    rcases z3 b hb with h | h | h
    · rcases hF3 b hf with h' | h'
      · exact zF2 b h h'
      · have:=hr2.mem.zlt b h; omega
    · exact (F3no b (our2 b h) (lt2 b h)).1 hf
    · exact (F3no2 b h).1 hf
  · exact g5.trans qw fun b _ hn e=>hn ((hF b).2 (.inl (.inr e)))
  · rintro b ((h | h) | h)
    · rcases own3 b h with h | h
      · rcases our2 b h with h' | h' | h'
        · exact .inl ((hF b).2 (.inl (.inl h')))
        · exact .inl ((hF b).2 (.inl (.inr h')))
        · exact .inr h'
      · exact .inr (by omega)
    · exact .inl ((hF b).2 (.inl (.inr h)))
    · rcases hF3 b h with h | h
      · exact .inl ((hF b).2 (.inr h))
      · exact .inr (by omega)
  · rintro b (h | h)
    · rcases z3 b h with h | h | h
      · rcases z2 b h with h | h | h
        · exact .inr (.inl ((hK b).2 (.inl h)))
        · exact .inl ((hF b).2 (.inl (.inl h)))
        · exact .inr (.inr h)
      · rcases our2 b h with h' | h' | h'
        · exact .inl ((hF b).2 (.inl (.inl h')))
        · exact .inl ((hF b).2 (.inl (.inr h')))
        · exact .inr (.inr h')
      · exact .inr (.inr (by omega))
    · rcases hK3 b h with h | h | h
      · exact .inl ((hF b).2 (.inr h))
      · exact .inr (.inl ((hK b).2 (.inr h)))
      · exact .inr (.inr (by omega))
  · rw [hround]
    exact s1.trans (Steps.head hbeg (s2.trans (Steps.head henter (s3.trans (s4.trans (.one hstep))))))
 cases hc:cont i with
 | true =>
  simp only [hc,if_true] at hK3'
  subst hK3'
  exact hc ▸ fin _ true ⟨_,stepR_round_end (P:=P) (b:=br) (a:=a3) (cs:=cs) (w:=w5) (c:=c) (l:=l) rfl rfl (run_endRound none hl5),rfl⟩ hc.symm (by simp [nxt,hc,hrec])
 | false =>
  simp only [hc,Bool.false_eq_true,if_false] at hK3'
  obtain ⟨k2,rfl,hj⟩:=hK3'
  refine hc ▸ fin _ false ⟨_,?_,rfl⟩ hc.symm (by simp only [nxt,hc,cond_false,hrecN]; rfl)
  rcases hj with rfl | ⟨id,rfl,hx⟩
  · exact stepR_round_ret (P:=P) (b:=br) (a:=a3) (cs:=cs) (w:=w5) (c:=c) (l:=l) rfl rfl (run_endRound (some .ret) hl5)
  · exact stepR_round_exit (P:=P) (b:=br) (a:=a3) (cs:=cs) (w:=w5) (c:=c) (l:=l) rfl rfl hx (run_endRound (some (.exit id)) hl5)
/-- An iterator's range over another one. -/
theorem relay_step {f:FuncId} {xs xs2:List (List AV)} {yv:Value} {Y:Option Nat→Sd} {cont:Nat→Bool} {fv:AV} {jump:Code} {g:Operand} {ps:Array Tmp} (S1 S2:Nat→St) (Ky Kz:List Item) (dst:Option Nat) (ys:Nat→List AV)
 (hE:IterE P f xs yv Y cont (Xi cont 0 xs.length) (some 0) E) (hlen:xs2.length=xs.length) (hys:∀ i y,xs[i]?=some y→ys i=y)
 (hK:(Wm K).map (fun r=>(r.1,r.2.1))=some (g,ps)) (hfv:Yt st.tmps g=fv) (hnr:XO fv=true) (hit:IterF P fv xs2)
 (hps:∀ (i:Nat) x,xs2[i]?=some x→x.length=ps.size)
 (hA:∀ i x,xs2[i]?=some x→∀ E',RoundE st.tmps E'→G P E' [.beginRound,.code (QW K)] (S1 i)→G P E' [.code (YT K),.beginRound,.code (QW K)] ⟨Wn st.tmps ps.toList x,st.blks⟩)
 (hB:∀ i x,xs2[i]?=some x→∀ E',RoundE st.tmps E'→G P E' Ky (S2 i)→G P E' [.code (QW K)] (S1 i))
 (hy:∀ i,i<xs.length→qJ Ky (S2 i)=some (Kz,dst,yv,ys i)) (hsy:∀ i,i<xs.length→scalars (ys i)=true)
 (hZ:∀ i,i<xs.length→∀ u:Bool,∀ E',RoundE st.tmps E'→E'.Fin=Wi (fun K=>if u=true then K=[] else WF jump K) (fun s=>s.blks=st.blks) E'→G P E' Kz ⟨putA (S2 i).tmps dst (.bool u),(S2 i).blks⟩)
 (hend:∀ E',IterE P f xs yv Y cont (Xi cont 0 xs.length) (Xi cont 0 xs.length) E'→G P E' (match Xi cont 0 xs.length with | some _=>XY K | none=>.code jump :: XY K) st):G P E K st:=by
 unfold Wm at hK
 split at hK
 rotate_left
 · simp at hK
 rename_i g' ps' assign body k
 simp only [Option.map_some,Option.some.injEq,Prod.mk.injEq] at hK
 obtain ⟨rfl,rfl⟩:=hK
 have eA:YT (.code (.rangeFunc g' ps' assign body) :: k)=assign:=rfl
 have eB:QW (.code (.rangeFunc g' ps' assign body) :: k)=body:=rfl
 have eR:XY (.code (.rangeFunc g' ps' assign body) :: k)=k:=rfl
 rw [eA,eB] at hA
 rw [eB] at hB
 rw [eR] at hend
 intro C Z a w hr
 have hTl:st.tmps.length=a.tmps.size:=by simpa using hr.tmp.1
 obtain ⟨Ds,d1,d2,d3⟩:=hr.marks
 rw [hE.df] at d2
 -- the other side
 obtain ⟨F0,Kp0,hY0,hM,hZ0⟩:=hE.at'
 have hlt:=(hE.stab _).lt F0 Kp0 E.w0 hY0
 have hYw:=(hE.stab _).mv F0 Kp0 E.w0 E.M w hY0 hr.mem.frame hM
 have hltw:=(hE.stab _).lt F0 Kp0 w hYw
 have ownF:∀ b,Own C b→¬ F0 b∧¬ Kp0 b:=by
  rintro b ⟨k',o',hb⟩
  rcases (hr.mem.own k' b o' hb).2.2 with h | h
  · exact hM b h
  · exact ⟨fun h'=>by have:=hlt b (.inl h'); omega,fun h'=>by have:=hlt b (.inr h'); omega⟩
 have zF:∀ b,Z b→¬ F0 b:=by
  intro b hb hF
  rcases hr.mem.zsub b hb with h | h | h
  · exact hZ0 b h hF
  · exact (hM b h).1 hF
  · have:=hlt b (.inl hF); omega
 have mkF:∀ D ∈ Ds,¬ F0 D∧¬ Kp0 D:=by
  intro D hD
  rcases (d3 D hD).2.1 with h | h
  · exact hM D h
  · exact ⟨fun h'=>by have:=hlt D (.inl h'); omega,fun h'=>by have:=hlt D (.inr h'); omega⟩
 -- the record is laid
 have hen:=run_enterLoop_outer (P:=P) (w:=w) E.b.fn a.tmps ps' assign body
 generalize hW:(w.alloc (.deferred (some [])))=wa at hen
 have fa:Fr w (fun _=>False) wa:=hW ▸ Kl
 have sza:wa.heap.size=w.heap.size+1:=by rw [← hW]; simp
 have hDa:wa.heap[w.heap.size]?=some (.deferred (some [])):=by rw [← hW]; exact World.alloc_heap_new w _
 obtain ⟨hma,hea⟩:=hr.mem.call fa
 generalize hL:({ state:=.ready,pending:=none,fn:=E.b.fn,tmps:=a.tmps,params:=ps',assign,body,defers:=w.heap.size }:Loop)=r0 at hen
 generalize hWb:wa.alloc (.loop r0)=wb at hen
 have fb:Fr wa (fun _=>False) wb:=hWb ▸ Kl
 have hlb:wb.heap[w.heap.size+1]?=some (.loop r0):=by rw [← hWb,← sza]; exact World.alloc_heap_new wa _
 obtain ⟨hmb,heb⟩:=hma.apart (M':=fun b=>Own C b ∨ b ∈ w.heap.size :: Ds) fb (fun _ _ h=>h) (fun _ _ h=>h) (fun _ h=>.inl h)
 have zx:∀ b,Zx Z w wa b ↔ (Z b ∨ b=w.heap.size):=fun b=>by
  unfold Zx; rw [sza]
  exact ⟨fun h=>h.imp id (fun h=>by omega),fun h=>h.imp id (fun h=>by omega)⟩
 have hlo:∀ b,Own C b→b<w.heap.size:=fun b ⟨k',o,h⟩=>(hr.mem.own k' b o h).1
 let rec':Option Nat→Loop:=fun o=>match o with
  | some _=>r0
  | none=>{ state:=.done,pending:=some jump,fn:=E.b.fn,tmps:=a.tmps,params:=ps',assign,body,defers:=w.heap.size }
 let ds:List Deferred:=mark w.heap.size :: a.defers
 let Q:Option Nat→Sd:=QY (w.heap.size+1) a.tmps ds st.tmps rec' st.blks Y
 have hQst:∀ o,Stable (Q o):=fun o=>QY.stable hE.stab
 have fab:Fr w (fun _=>False) wb:=fa.trans fb fun _ _ h=>h
 have hQ0:Q (some 0) (fun b=>(Own C b ∨ b=w.heap.size+1) ∨ F0 b) (fun b=>Zx Z w wa b ∨ Kp0 b) wb:=by
  refine ⟨C,Zx Z w wa,w.heap.size :: Ds,F0,Kp0,hmb,(hr.tmp.mono hea).mono heb,?_,.mk _ d2,?_,hlb,?_,?_,(hE.stab _).mv _ _ _ _ _ hYw fab (fun _ h=>h.elim),?_,?_,fun _=>.rfl,fun _=>.rfl⟩
  · refine List.nodup_cons.2 ⟨fun h=>?_,d1⟩
    have:=hr.mem.zlt _ (d3 _ h).1
    omega
  · intro D hD
    rcases List.mem_cons.1 hD with rfl | hD
    · exact ⟨(zx _).2 (.inr rfl),by rw [fb.same _ (by omega) (fun h=>h)]; exact hDa⟩
    · have hlt:=hr.mem.zlt _ (d3 _ hD).1
      exact ⟨(zx _).2 (.inl (d3 _ hD).1),by rw [fb.same _ (by omega) (fun h=>h),fa.same _ hlt (fun h=>h)]; exact (d3 _ hD).2.2⟩
  · rw [zx]; rintro (h | h)
    · have:=hr.mem.zlt _ h; omega
    · omega
  · intro h; have:=hlo _ h; omega
  · rintro b ((h | h) | h)
    · exact ownF b h
    · exact ⟨fun h'=>by have:=hltw b (.inl h'); omega,fun h'=>by have:=hltw b (.inr h'); omega⟩
    · rcases List.mem_cons.1 h with h | h
      · exact ⟨fun h'=>by have:=hltw b (.inl h'); omega,fun h'=>by have:=hltw b (.inr h'); omega⟩
      · exact mkF b h
  · intro b hb hF
    rcases (zx b).1 hb with h | h
    · exact zF b h hF
    · have:=hltw b (.inl hF); omega
 have hyl:Qax P (.func (.yield (w.heap.size+1)) #[] #[]) Q cont xs2:=by
  intro i x hx F Kp w' hQ cargs hca
  have hi:i<xs.length:=by rw [← hlen]; exact (List.getElem?_eq_some_iff.1 hx).1
  have hxi:xs[i]?=some (ys i):=by
   have h1:xs[i]?=some xs[i]:=List.getElem?_eq_getElem hi
   rw [hys i _ h1]; exact h1
  exact relay_round (fn:=E.b.fn) (tv:=a.tmps) (T:=st.tmps) (ps:=ps') (assign:=assign) (body:=body) (D:=w.heap.size) (jump:=jump) (S1:=S1 i) (S2:=S2 i) (Ky:=Ky) (Kz:=Kz) (dst:=dst) hE.stab hE.ylds hTl (hps i x hx) hxi (fun _=>hL.symm) rfl
   (fun E' hR hfin=>hA i x hx E' hR (Qaz hfin rfl rfl)) (fun E' hR hfin=>hB i x hx E' hR (Qaz hfin rfl rfl)) (hy i hi) (hsy i hi) (hZ i hi (cont i)) hQ hca
 -- the call
 have hcf:=Xe hr.tmp g'
 rw [hfv] at hcf
 obtain ⟨-,heab⟩:=hr.mem.keep fab (fun _ _ h=>h) (fun _ _ h=>h) (fun _ _ _ h=>h)
 obtain ⟨d,f',args',hd1,hd2,hcalls⟩:=hit Z wb _ (w.heap.size+1) Q cont hQst hyl (fun b=>(Own C b ∨ b=w.heap.size+1) ∨ F0 b) (fun b=>Zx Z w wa b ∨ Kp0 b)
  (fun b hb=>⟨Nat.lt_of_lt_of_le (hr.mem.zlt b hb) fab.size,by
    rintro ((⟨k',o,h⟩ | h) | h)
    · exact (hr.mem.own k' b o h).2.1 hb
    · have:=hr.mem.zlt b hb; omega
    · exact zF b hb h⟩) ((hcf.mono heab).ctx hnr) hQ0
 have hstep:=stepR_rangeFunc (P:=P) (b:=E.b) (a:=a) (k:=k) (cs:=E.cs) (w:=w) (g:=g') (ps:=ps') (assign:=assign) (body:=body) (l:=w.heap.size+1) (mark:=[{ target:=.collected w.heap.size,args:=#[] }]) (w₁:=wb) (w₁':=wb) (w₂:=wb) (d:=d) (f:=f') (args:=args')
  (by rw [hE.ro]; exact hen) (by
    have:a.eval (.const (.func (.yield (w.heap.size+1)) #[] #[]))=.func (.yield (w.heap.size+1)) #[] #[]:=rfl
    simp only [rangeCall,resolve,List.map_toArray,List.map_cons,List.map_nil,this]; exact hd1) hd2
 obtain ⟨e,w',fr,⟨v,rfl,F',Kp',hQe⟩,hsteps,-,hleave⟩:=hcalls (E.b.atR { a with defers:=[{ target:=.collected w.heap.size,args:=#[] }]++a.defers } (.inRangeFunc (w.heap.size+1) :: k) :: E.cs)
 refine .step (Steps.head hstep (hsteps.trans (.one (step_leave_returned hleave)))) ?_
 rw [finish_atR_inRangeFunc]
 rw [hlen] at hQe
 obtain ⟨C',Z',Ds',F2,K2,hm',hv',hn',hx',hd',hl',hzl',hol',hy',hdj',hzf',hF',hK'⟩:=hQe
 -- the loop is left
 have f6:Fr w' (·=w.heap.size+1) (w'.putObj (w.heap.size+1) (.loop { rec' (Xi cont 0 xs.length) with state:=.exhausted })):=qw
 obtain ⟨hm2,he2⟩:=hm'.apart (M':=fun b=>Own C' b ∨ b ∈ Ds') f6 (fun b hb e=>hol' (e ▸ hb)) (fun b hb e=>hzl' (e ▸ hb)) (fun b h=>.inl h)
 have hleft:=stepR_endRangeFunc (P:=P) (b:=E.b) (a:={ a with defers:=[{ target:=.collected w.heap.size,args:=#[] }]++a.defers }) (k:=k) (cs:=E.cs) (run_endLoop (P:=P) hl' (by
  rcases YN (cont:=cont) (n:=xs.length) (i:=0) with h | h
  · rw [h]; show LoopState.done ≠ _; decide
  · rw [h]; show r0.state ≠ _; rw [← hL]; show LoopState.ready ≠ _; decide))
 refine .step (.one hleft) ?_
 have hgo:=hend { E with Z0:=Z',M:=fun b=>Own C' b ∨ b ∈ Ds',w0:=w'.putObj (w.heap.size+1) (.loop { rec' (Xi cont 0 xs.length) with state:=.exhausted }) }
  ⟨hE.ro,hE.kind,hE.fn,hE.gA,hE.cb,hE.df,hE.stab,hE.ylds,⟨F2,K2,(hE.stab _).mv _ _ _ _ _ hy' f6 (fun b h=>hdj' b (.inl (.inr h))),fun b hb=>hdj' b (hb.imp .inl id),hzf'⟩,hE.fin⟩
  C' Z' { a with defers:=[{ target:=.collected w.heap.size,args:=#[] }]++a.defers } _
  ⟨hv'.mono he2,hm2,⟨Ds',hn',(by rw [hE.df]; exact hx'),fun D hD=>⟨(hd' D hD).1,.inl (.inr hD),by rw [he2.same D (hd' D hD).1]; exact (hd' D hD).2⟩⟩,⟨hr.gh.1,fun i c v h _=>by rw [hE.gA] at h; simp at h⟩,(by rw [hE.cb]; exact .bot:Base E.Cb E.wb C' _)⟩
 rcases YN (cont:=cont) (n:=xs.length) (i:=0) with h | h
 · rw [h] at hgo ⊢; exact hgo
 · rw [h] at hgo ⊢
   have hpend:(rec' (some (0+xs.length))).pending=none:=by show r0.pending=none; rw [← hL]
   have hnil:((rec' (some (0+xs.length))).pending.map Item.code).toList++k=k:=by rw [hpend]; rfl
   rw [hnil]; exact hgo
end
end Ax
namespace Ax
open Go
def PureO0 (P:Program) (f:FuncId) (args:List AV) (len sz:Nat) (cells:List AV):Prop :=
 ∀ (Z:Nat→Prop) (w:World) (cargs:Array Value),(∀ b,Z b→b<w.heap.size)→VRs Z w C0 args cargs.toList →
  Calls P f cargs w fun e w'=>∃ v,e=.returned v∧NewSl w w' v len sz cells∧Fr w (fun _=>False) w'
structure PureOE (P:Program) (f:FuncId) (len sz:Nat) (cells:List AV) (E:Env):Prop where
 ro:E.b.roundOf=none
 kind:E.b.kind=.normal
 fn:E.b.fn=f
 nm:∀ b,¬ E.M b
 gA:E.gA=[]
 fin:E.Fin=(WH P f E.cs fun v w'=>NewSl E.w0 w' v len sz cells∧Fr E.w0 (fun _=>False) w')
 cb:E.Cb=C0
 df:E.df=[]
section
variable {P:Program} {E:Env} {K K':List Item} {st st':St}
theorem PureOE.nogh {f:FuncId} {len sz:Nat} {cells:List AV} (hE:PureOE P f len sz cells E) (m:Nat):refsBelows m E.gA=true:=by rw [hE.gA]; rfl
theorem pureO_of {f:FuncId} {fn:Func} {c:Code} {args:List AV} {len sz:Nat} {cells:List AV} (hf:P.funcs[f]?=some fn) (hb:fn.body=some c)
 (h:∀ E,PureOE P f len sz cells E→G P E [.code c] ⟨args++unds (fn.ntmps - args.length),[]⟩):PureO0 P f args len sz cells:=by
 intro Z w cargs hz ha cs
 have hE:PureOE P f len sz cells (Qdk P f Z (fun _=>False) w cs fun v w'=>NewSl w w' v len sz cells∧Fr w (fun _=>False) w') :=
  ⟨rfl,rfl,rfl,fun _ h=>h,rfl,rfl,rfl,rfl⟩
 have henter:Frame.enter P f cargs .normal=({ (default:Frame) with fn:=f,kind:=.normal }:Frame).atR { tmps:=cargs++Array.replicate (fn.ntmps - cargs.size) undef,defers:=[] } [.code c]:=by
  simp only [Frame.enter,Frame.atR,hf,hb,Option.map_some,Option.getD_some,Option.bind_some]; rfl
 have hl:args.length=cargs.size:=by simpa using ha.1
 obtain ⟨m',s,v,w',fr,rfl,r1,r2,r3⟩:=h _ hE C0 Z { tmps:=cargs++Array.replicate (fn.ntmps - cargs.size) undef,defers:=[] } w
  ⟨⟨by simp [Yc,hl],fun i x y p q=>by
   simp only [Array.toList_append,Array.toList_replicate] at q
   rw [Yc] at p
   by_cases hi:i<args.length
   · rw [List.getElem?_append_left hi] at p
     rw [List.getElem?_append_left (by simpa [← hl] using hi)] at q
     exact ha.2 i x y p q
   · rw [List.getElem?_append_right (by omega)] at p
     rw [List.getElem?_append_right (by simp; omega)] at q
     have p':=List.mem_replicate.1 (List.mem_of_getElem? p)
     have q':=List.mem_replicate.1 (List.mem_of_getElem? q)
     rw [p'.2,q'.2]
     exact .tup rfl (by simp)⟩,KO hz,⟨[],.nil,.nil,by simp⟩,⟨rfl,fun _ _ _ h _=>by cases h⟩,.bot⟩
 rw [henter]
 exact ⟨.returned v,w',fr,⟨v,rfl,r3⟩,s,r1,r2⟩
theorem pureOF_of {f : FuncId} {fn : Func} {c : Code} {first args cap : List AV} {len sz : Nat} {cells : List AV} (hf : P.funcs[f]? = some fn) (hname : (fn.name == "runtime.NumGoroutine") = false) (hb : fn.body = some c)
    (h : PureO0 P f (first ++ args ++ cap) len sz cells) : PureO P (.clos f first cap) args len sz cells := by
  intro Z w cf cargs hz hcf ha
  cases hcf with
  | @clos _ _ _ _ fa ca hl h1 hl' h2 =>
    refine ⟨{ target := .fn (.func f) ca, args := fa ++ cargs }, f, fa ++ cargs ++ ca, rfl, ?_, ?_⟩
    · have := Go.Proofs.enters_of (P := P) hf hname hb (fa ++ cargs ++ ca) w
      simpa [invoke] using this
    · refine h Z w _ hz ⟨by have := ha.1; simp at this; simp [hl, hl', this], fun i x y p q => ?_⟩
      have hal : args.length = cargs.size := by simpa using ha.1
      simp only [Array.toList_append] at q
      rw [List.append_assoc] at p q
      by_cases i1 : i < first.length
      · rw [List.getElem?_append_left i1] at p
        rw [List.getElem?_append_left (by simpa [← hl] using i1)] at q
        exact h1 i x y p (by simpa using q)
      · rw [List.getElem?_append_right (by omega)] at p
        rw [List.getElem?_append_right (by simp; omega)] at q
        have e1 : fa.toList.length = first.length := by simp [hl]
        rw [e1] at q
        by_cases i2 : i - first.length < args.length
        · rw [List.getElem?_append_left i2] at p
          rw [List.getElem?_append_left (by simpa [← hal] using i2)] at q
          exact ha.2 _ x y p q
        · rw [List.getElem?_append_right (by omega)] at p
          rw [List.getElem?_append_right (by simp; omega)] at q
          have e2 : cargs.toList.length = args.length := by simp [hal]
          rw [e2] at q
          exact h2 _ x y p (by simpa using q)

/-- A slice over a flat block of scalars,or none. -/
def newO (blks:List Blk) (sz:Nat):List AV→Option (Nat × List AV × List Prop)
 | [.nilSl]=>some (0,[],[])
 | [.sl k g 0 len sz']=>(match blks[k]? with
  | some b=>(match b.live && b.flat && b.sz != 0 && b.sz == sz && sz' == sz with
   | true=>some (len,b.cells,[g=b.gen,∀ x ∈ b.cells,Yd x=true])
   | false=>none)
  | none=>none)
 | _=>none
def endO (P:Program) (fn:Func) (n:Nat) (sz:Nat) (K:List Item) (st:St) (evs:List EV):Option (Nat × List AV × List Prop) :=
 match walk P n K st evs with
 | some (K',st',evs',o1) =>
  (match isEnd K',resA P st' fn.results.toList evs' with
  | true,some (vs,_,o2) =>
   (match newO st'.blks sz vs with
   | some (len,cells,o3)=>some (len,cells,o1++(o2++o3))
   | none=>none)
  | _,_=>none)
 | none=>none
theorem newO_sound {Z Z0 M:Nat→Prop} {w0 w:World} {C:Ctx} {blks:List Blk} (hm:Mem Z0 M w0 C Z blks w) (hnm:∀ b,¬ M b) {sz len:Nat} {cells:List AV} {vs:List AV} {c:Value} {o:List Prop} (h:newO blks sz vs=some (len,cells,o)) (ho:AllP o) (hv:VR Z w C (tupA vs) c):NewSl w0 w c len sz cells:=by
 unfold newO at h
 split at h
 · simp only [Option.some.injEq,Prod.mk.injEq] at h
   obtain ⟨rfl,rfl,rfl⟩:=h
   have hv:VR Z w C .nilSl c:=hv
   cases hv
   exact .inl ⟨rfl,rfl,none,rfl⟩
 · rename_i k g len' sz'
   split at h
   · rename_i b hb
     split at h
     · rename_i hlb
       simp only [Option.some.injEq,Prod.mk.injEq] at h
       obtain ⟨rfl,rfl,rfl⟩:=h
       simp only [Bool.and_eq_true,bne_iff_ne,ne_eq,beq_iff_eq] at hlb
       obtain ⟨⟨⟨⟨hl,hf⟩,hz⟩,hbz⟩,hsz'⟩:=hlb
       subst hsz'
       have hv:VR Z w C (.sl k g 0 len' sz') c:=hv
       have hok:=Kd hm hb ho.1 hv
       obtain ⟨hk,hblk⟩:=hm.blk k b hb hl
       have hs:=hok
       unfold SlOk at hs
       cases hβ:C.β k with
       | absent=>simp [hβ] at hs
       | unborn =>
        simp only [hβ] at hs hblk
        obtain ⟨h1,a,rfl⟩:=hs
        exact .inl ⟨h1,hblk,a,rfl⟩
       | loc blk o =>
        simp only [hβ] at hs hblk
        obtain ⟨a,cp,rfl,h1,h2,arr,e,h3,h4⟩:=hs
        obtain ⟨arr',e',h5,h6,h7⟩:=hblk.cells hz
        rw [h3] at h5
        simp only [Option.some.injEq,Obj.cells.injEq] at h5
        obtain ⟨rfl,rfl,-⟩:=h5
        have hown:=(hm.own k blk o hβ).2.2
        refine .inr ⟨blk,o,a,cp,arr,e,rfl,h1,by simpa using h2,hown.resolve_left (hnm blk),h3,by simpa using h4,h6,fun i c hi=>⟨hk i c hi,?_⟩⟩
        obtain ⟨u,q1,q2⟩:=h7 i c hi
        exact ⟨u,q1,fun Z C=>VV (ho.2.1 c (List.mem_of_getElem? hi)) q2⟩
     · cases h
   · cases h
 · cases h
theorem endO_step {n:Nat} {f:FuncId} {fn:Func} {evs:List EV} {len sz len':Nat} {cells cells':List AV} {obs:List Prop} (hE:PureOE P f len sz cells E) (hf:P.funcs[f]?=some fn) (hmx:P.follows .mixedOrders=true)
 (h:endO P fn n sz K st evs=some (len',cells',obs)) (ho:AllP obs) (hl:len'=len) (hc:cells'=cells):G P E K st:=by
 subst hl hc
 unfold endO at h
 split at h
 · rename_i K' st' evs' o1 h1
   split at h
   · rename_i vs evs2 o2 hK h2
     split at h
     · rename_i l2 c2 o3 h3
       simp only [Option.some.injEq,Prod.mk.injEq] at h
       obtain ⟨rfl,rfl,rfl⟩:=h
       obtain ⟨a1,a2⟩:=Qu.1 ho
       obtain ⟨a2,a3⟩:=Qu.1 a2
       have hfn:=hE.fn
       refine QU hE.kind hmx h1 a1 (G_end (Post:=fun v w'=>NewSl E.w0 w' v l2 sz c2∧Fr E.w0 (fun _=>False) w') hE.ro hE.kind hE.df (by rw [hfn]; exact hf) (by rw [hE.fin,hfn]) h2 a2 (fun C Z w v hm hv _=>⟨newO_sound hm hE.nm h3 a3 hv,?_⟩) (Vn hK))
       have:=hm.frame
       exact ⟨this.os,this.tape,this.output,this.size,fun b hb _=>this.same b hb (hE.nm b)⟩
     · cases h
   · cases h
 · cases h
end
/-- A function that gives back a fresh slice,called with nothing of the caller's. -/
theorem QaR {P:Program} {fv:AV} {args:List AV} {len sz:Nat} {cells:List AV} (h:PureO P fv args len sz cells) (h1:XO fv=true) (h2:noRefs args=true) (hz:sz ≠ 0) :
 QO P fv args [] (.sl 0 0 0 len sz) [⟨true,0,sz,true,cells,true⟩]:=by
 intro Z w C cf cargs hm hcf hca
 obtain ⟨d,f,as',r1,r2,r3⟩:=h Z w cf cargs hm.zlt (hcf.ctx h1) ⟨hca.1,fun i c v p q=>(hca.2 i c v p q).ctx (QX h2 p)⟩
 refine ⟨d,f,as',r1,r2,r3.mono ?_⟩
 rintro e w' ⟨v,rfl,hv,hfr⟩
 obtain ⟨C',Z',q1,q2,q3,q4⟩:=newSl_res (idx:=0) hm.push rfl hfr hv hz
 exact ⟨v,C',Z',rfl,Base.refl.next q1 q2,q3,q4⟩
end Ax
namespace Go.Proofs.Ytemklbioijmjiaa
open Go Ax
open Go.Proofs
theorem Qh:Try.prog.follows .mixedOrders=true:=by kernel_rfl
structure Pt where
 x:Int
 y:Int
 z:Int
structure Mot where
 top:Int
 ease:Int
 jerk:Int
def within (n lo hi:Int):Bool:=decide (lo≤n) && decide (n≤hi)
def QbL (p:Pt):Bool:=within p.x (-10000) 10000 && within p.y (-10000) 10000 && within p.z (-10000) 10000
def ease (m:Mot) (fails:Bool):Int:=bif fails then m.jerk else m.ease
def arm (a b p:Pt):Int:=(b.x - a.x)*(p.y - a.y) - (b.y - a.y)*(p.x - a.x)
end Go.Proofs.Ytemklbioijmjiaa
namespace Go.Proofs.Ytemklbioijmjiaa
open Go Ax
open Go.Proofs
def validP (l:List Pt):Bool:=within l.length 3 60 && !l.any (fun p=>!QbL p)
end Go.Proofs.Ytemklbioijmjiaa
namespace Go.Proofs.Ytemklbioijmjiaa
open Go Ax
open Go.Proofs
structure Chg where
 phase:Int
 before:Int
 after:Int
end Go.Proofs.Ytemklbioijmjiaa
namespace Go.Proofs.Ytemklbioijmjiaa
open Go Ax
open Go.Proofs
structure Rg where
 seats:List (List Pt)
 feet:List Pt
 frame:Int
 c:Pt
 empty:Int
 full:Int
def linesOf (f:List Pt):List (Pt × Pt):=(List.range' 0 f.length).map fun i=>(f.getD i ⟨0,0,0⟩,f.getD ((i+1) % f.length) ⟨0,0,0⟩)
def phasesOf (r:Rg):Int:=match r.seats.getLast? with
 | some s=>s.length
 | none=>1
end Go.Proofs.Ytemklbioijmjiaa
namespace Go.Proofs.Ytemklbioijmjiaa
open Go Ax
open Go.Proofs
structure RgOk (r:Rg) (n:Nat):Prop where
 seats:r.seats.length≤20
 each:∀ s ∈ r.seats,s.length=n∧validP s=true
 feet0:3≤r.feet.length
 feet1:r.feet.length≤8
 foot:∀ p ∈ r.feet,QbL p=true
 center:QbL r.c=true
 frame0:0≤r.frame
 frame1:r.frame≤1000000
 empty0:0≤r.empty
 empty1:r.empty≤r.full
 full1:r.full≤1000000
end Go.Proofs.Ytemklbioijmjiaa
namespace Go.Proofs.Ytemklbioijmjiaa
open Go Ax
open Go.Proofs
def lineAt (r:Rg) (v:Nat):Pt × Pt:=(linesOf r.feet).getD v (⟨0,0,0⟩,⟨0,0,0⟩)
section
variable {L:List (Nat × Nat)} {yv:Value} {Y:Option Nat→Sd} {cont:Nat→Bool} {e:Option Nat} {r:Rg} {nn:Nat}
end
end Go.Proofs.Ytemklbioijmjiaa
namespace Go.Proofs.Ytemklbioijmjiaa
open Go Ax
open Go.Proofs
def footAt (r:Rg) (k:Nat):Pt:=r.feet.getD k ⟨0,0,0⟩
def badF (r:Rg) (i k:Nat):Bool:=((k:Int) != (i:Int)) && (((k:Int) != Int.tmod ((i:Int)+1) (r.feet.length:Int)) && decide (arm (lineAt r i).1 (lineAt r i).2 (footAt r k)≤0))
def convR (r:Rg) (i:Nat):Nat→Nat→Bool
 | _,0=>true
 | k,d+1=>!badF r i k && convR r i (k+1) d
def convP (r:Rg):Nat→Nat→Bool
 | _,0=>true
 | i,d+1=>convR r i 0 r.feet.length && convP r (i+1) d
def convexV (r:Rg):Bool:=convP r 0 r.feet.length
structure FeetOk (r:Rg):Prop where
 feet0:3≤r.feet.length
 feet1:r.feet.length≤8
 foot:∀ p ∈ r.feet,QbL p=true
end Go.Proofs.Ytemklbioijmjiaa
namespace Go.Proofs.Ytemklbioijmjiaa
open Go Ax
open Go.Proofs
structure RigSmall (r:Rg):Prop where
 seats:r.seats.length≤1000
 feet:r.feet.length≤1000
 each:∀ s ∈ r.seats,s.length≤1000
end Go.Proofs.Ytemklbioijmjiaa
namespace Go.Proofs.Ytemklbioijmjiaa
open Go Ax
open Go.Proofs
def phN (r:Rg):Nat:=(phasesOf r).toNat
structure RigMade (r:Rg):Prop where
 ok:RgOk r (phN r)
 ph:phasesOf r=(phN r:Nat)
 le:phN r≤60
 pos:1≤phN r
 conv:convexV r=true
end Go.Proofs.Ytemklbioijmjiaa
namespace Go.Proofs.Ytemklbioijmjiaa
open Go Ax
open Go.Proofs
/-! ### CheckRig,Moment,Bears,Least -/
/-! ### Least -/
end Go.Proofs.Ytemklbioijmjiaa
namespace Go.Proofs.Ytemklbioijmjiaa
open Go Ax
open Go.Proofs
/-! ### the plain law of Least -/
end Go.Proofs.Ytemklbioijmjiaa

namespace Go.Proofs.Ytemklbioijmjiaa
open Go Ax
open Go.Proofs
structure BPart where
 w:Int
 m:Int
 pins:Int
 needs:List Int
structure BKit where
 parts:List BPart
 crane:Int
 vans:List (List Int)
structure Yard where
 k:BKit
 above:List (List Int)
 below:List (List Int)
structure KitSmall (k:BKit):Prop where
 parts:k.parts.length≤20
 needs:∀ p ∈ k.parts,p.needs.length≤9223372036854775807
 vans:k.vans.length≤10
 van:∀ v ∈ k.vans,v.length≤9223372036854775807
/-! ### What can be put up -/
def InN (n:Nat) (l:List Int):Prop:=∀ x ∈ l,0≤x∧x<(n:Int)
structure YardOk (y:Yard):Prop where
 n:y.k.parts.length≤16
 needs:∀ p ∈ y.k.parts,InN y.k.parts.length p.needs∧p.needs.length≤1000
 alen:y.above.length=y.k.parts.length
 above:∀ l ∈ y.above,InN y.k.parts.length l∧l.length≤1000
def idxG {α:Type} (p:α→Bool) (l:List α):Int:=match l.findIdx? p with
 | some i=>(i:Int)
 | none=>-1
theorem Yy {α:Type} (p:α→Bool) (l:List α):∀ (d i:Nat),i+d=l.length→(∀ j x,j<i→l[j]?=some x→p x=false)→∀ (Q:Nat→Prop),(∀ i,i<l.length→(∀ x,l[i]?=some x→(p x=true→idxG p l=i))→(∀ x,l[i]?=some x→p x=false→Q (i+1))→Q i) →
 ((∀ x ∈ l,p x=false)→idxG p l=-1→Q l.length)→Q i:=by
 intro d
 induction d with
 | zero =>
  intro i hi hp Q h1 h2
  have:i=l.length:=by omega
  subst this
  have hall:∀ x ∈ l,p x=false:=fun x hx=>by
   obtain ⟨j,hj⟩:=List.getElem?_of_mem hx
   exact hp j x (List.getElem?_eq_some_iff.1 hj).1 hj
  exact h2 hall (by simp only [idxG]; rw [List.findIdx?_eq_none_iff.2 hall])
 | succ d ih =>
  intro i hi hp Q h1 h2
  refine h1 i (by omega) (fun x hx hpx=>?_) (fun x hx hpx=>ih (i+1) (by omega) (fun j y hj hy=>?_) Q h1 h2)
  · have:l.findIdx? p=some i:=by
     rw [List.findIdx?_eq_some_iff_getElem]
     have hlt:=(List.getElem?_eq_some_iff.1 hx).1
     have he:=(List.getElem?_eq_some_iff.1 hx).2
     refine ⟨hlt,by rw [he]; exact hpx,fun j hj=>?_⟩
     have:=hp j _ hj (List.getElem?_eq_getElem (by omega))
     simp [this]
    simp only [idxG,this]
  · rcases Nat.lt_or_ge j i with h | h
    · exact hp j y h hy
    · have:j=i:=by omega
      subst this
      rw [hx] at hy; cases hy; exact hpx
theorem VI {α:Type} (p:α→Bool) (l:List α):decide (idxG p l≥0)=l.any p:=by
 cases h:l.findIdx? p with
 | none =>
  have e:idxG p l=-1:=by simp only [idxG,h]
  rw [e]
  rw [List.findIdx?_eq_none_iff] at h
  rw [show l.any p=false from by simpa using fun x hx=>by simpa using h x hx]; rfl
 | some i =>
  have e:idxG p l=(i:Int):=by simp only [idxG,h]
  rw [e]
  have:=List.findIdx?_eq_some_iff_getElem.1 h
  obtain ⟨h1,h2,-⟩:=this
  have:l.any p=true:=by rw [List.any_eq_true]; exact ⟨l[i],List.getElem_mem _,h2⟩
  rw [this]; simp
def Qa (n lo hi:Int):Bool:=decide (n≥lo) && decide (n≤hi)
theorem QH {n lo hi:Int}:Qa n lo hi=true ↔ lo≤n∧n≤hi:=by
 simp only [Qa,Bool.and_eq_true,decide_eq_true_eq,ge_iff_le]
theorem Xx {α:Type} {l:List α} {i:Int} (d:α) (h:0≤i∧i<(l.length:Int)):l[Int.toNat i]?=some (l.getD (Int.toNat i) d):=by
 have:Int.toNat i<l.length:=by omega
 simp [List.getD,this]
end Go.Proofs.Ytemklbioijmjiaa
namespace Go.Proofs.Ytemklbioijmjiaa
open Go Ax
open Go.Proofs
/-! ### Stacking -/
structure StSt where
 many:Nat
 lies:List Int
 above:List (List Int)
 below:List (List Int)
/-! ### Which kits are right -/
/-- How many parts lie on the lorries so far. -/
def ones (l:List Int):Nat:=l.countP fun x=>decide (x > 0)
theorem scal_Int (l:List Int):∀ x ∈ rowI l,Yd x=true:=fun x hx=>by
 simp only [rowI,List.mem_flatMap] at hx
 obtain ⟨a,-,ha⟩:=hx
 simp only [cI,List.mem_singleton] at ha
 subst ha; rfl
end Go.Proofs.Ytemklbioijmjiaa
namespace Go.Proofs.Ytemklbioijmjiaa
open Go Ax
open Go.Proofs
theorem and_mask {y:Int} (h:0≤y∧y<4294967296):bits .and .u64 y 4294967295=y:=by
 obtain ⟨n,rfl⟩:=Int.eq_ofNat_of_zero_le h.1
 have h1:=bits_and_u64_nat n 4294967295 (by omega) (by omega)
 have h2:n &&& 4294967295=n:=by
  have:=Nat.and_two_pow_sub_one_eq_mod n 32
  rw [show (2:Nat) ^ 32 - 1=4294967295 from rfl,show (2:Nat) ^ 32=4294967296 from rfl] at this
  rw [this]; exact Nat.mod_eq_of_lt (by omega)
 rw [h2] at h1
 exact h1
theorem inU {n:Int} (h:0≤n∧n≤18446744073709551615):InR .u64 n:=by
 have e1:IntKind.u64.min=0:=rfl
 have e2:IntKind.u64.max=18446744073709551615:=rfl
 unfold InR
 exact ⟨by rw [e1]; omega,by rw [e2]; omega⟩
theorem div32 {y:Int} (h:0≤y∧y<4294967296):y / 2 ^ (Int.toNat 32)=0:=by
 show y / 4294967296=0
 omega
theorem f194b:Try.f194.body=some (Qd Try.prog 194):=by kernel_rfl
theorem u194 {a c k:List AV} {r:AV} (h:Pure Try.prog 194 (a++c++k) r):Qe Try.prog (.clos 194 a k) c r:=Qj Try.func194 (by kernel_rfl) f194b h
theorem p194_start_0 (y:Int) {E:Env} {res:AV} (hE:Qf Try.prog 194 res E) (ho:AllP [(0:Int)≤32∧32≤((IntKind.bits .u64:Nat):Int),(0:Int)≤32∧32≤((IntKind.bits .u64:Nat):Int),InR .u64 (1*(bits .and .u64 y 4294967295)),InR .u64 (0*(bits .and .u64 y 4294967295)),(0:Int)≤32∧32≤((IntKind.bits .u64:Nat):Int),InR .u64 ((0*(bits .and .u64 y 4294967295))+((1*(bits .and .u64 y 4294967295)) / 2 ^ (Int.toNat 32))),(0:Int)≤32∧32≤((IntKind.bits .u64:Nat):Int),InR .u64 (1*(y / 2 ^ (Int.toNat 32))),InR .u64 ((bits .and .u64 ((0*(bits .and .u64 y 4294967295))+((1*(bits .and .u64 y 4294967295)) / 2 ^ (Int.toNat 32))) 4294967295)+(1*(y / 2 ^ (Int.toNat 32)))),InR .u64 (0*(y / 2 ^ (Int.toNat 32))),InR .u64 ((0*(y / 2 ^ (Int.toNat 32)))+(((0*(bits .and .u64 y 4294967295))+((1*(bits .and .u64 y 4294967295)) / 2 ^ (Int.toNat 32))) / 2 ^ (Int.toNat 32))),(0:Int)≤32∧32≤((IntKind.bits .u64:Nat):Int),InR .u64 (((0*(y / 2 ^ (Int.toNat 32)))+(((0*(bits .and .u64 y 4294967295))+((1*(bits .and .u64 y 4294967295)) / 2 ^ (Int.toNat 32))) / 2 ^ (Int.toNat 32)))+(((bits .and .u64 ((0*(bits .and .u64 y 4294967295))+((1*(bits .and .u64 y 4294967295)) / 2 ^ (Int.toNat 32))) 4294967295)+(1*(y / 2 ^ (Int.toNat 32)))) / 2 ^ (Int.toNat 32))),InR .u64 (1*y)])
 (hr:AvLe (.tup [.int .u64 (((0*(y / 2 ^ (Int.toNat 32)))+(((0*(bits .and .u64 y 4294967295))+((1*(bits .and .u64 y 4294967295)) / 2 ^ (Int.toNat 32))) / 2 ^ (Int.toNat 32)))+(((bits .and .u64 ((0*(bits .and .u64 y 4294967295))+((1*(bits .and .u64 y 4294967295)) / 2 ^ (Int.toNat 32))) 4294967295)+(1*(y / 2 ^ (Int.toNat 32)))) / 2 ^ (Int.toNat 32))),.int .u64 (1*y)]) res):G Try.prog E [.code (Qd Try.prog 194)] ⟨[.int .u64 1,.int .u64 y]++unds (Try.f194.ntmps - 2),[]⟩ :=
 Qb (n:=400) (evs:=[]) (obs:=_) hE Try.func194 Qh (by kernel_rfl) ho hr
theorem f194W (y:Int) {E:Env} {rv:(Int × Int)} (hE:Qf Try.prog 194 (.tup [.int .u64 rv.1,.int .u64 rv.2]) E)
 (h:(InR .u64 (1*(bits .and .u64 y 4294967295))∧(InR .u64 (0*(bits .and .u64 y 4294967295))∧(InR .u64 ((0*(bits .and .u64 y 4294967295))+((1*(bits .and .u64 y 4294967295)) / 2 ^ (Int.toNat 32)))∧(InR .u64 (1*(y / 2 ^ (Int.toNat 32)))∧(InR .u64 ((bits .and .u64 ((0*(bits .and .u64 y 4294967295))+((1*(bits .and .u64 y 4294967295)) / 2 ^ (Int.toNat 32))) 4294967295)+(1*(y / 2 ^ (Int.toNat 32))))∧(InR .u64 (0*(y / 2 ^ (Int.toNat 32)))∧(InR .u64 ((0*(y / 2 ^ (Int.toNat 32)))+(((0*(bits .and .u64 y 4294967295))+((1*(bits .and .u64 y 4294967295)) / 2 ^ (Int.toNat 32))) / 2 ^ (Int.toNat 32)))∧(InR .u64 (((0*(y / 2 ^ (Int.toNat 32)))+(((0*(bits .and .u64 y 4294967295))+((1*(bits .and .u64 y 4294967295)) / 2 ^ (Int.toNat 32))) / 2 ^ (Int.toNat 32)))+(((bits .and .u64 ((0*(bits .and .u64 y 4294967295))+((1*(bits .and .u64 y 4294967295)) / 2 ^ (Int.toNat 32))) 4294967295)+(1*(y / 2 ^ (Int.toNat 32)))) / 2 ^ (Int.toNat 32)))∧(InR .u64 (1*y)∧rv=((((0*(y / 2 ^ (Int.toNat 32)))+(((0*(bits .and .u64 y 4294967295))+((1*(bits .and .u64 y 4294967295)) / 2 ^ (Int.toNat 32))) / 2 ^ (Int.toNat 32)))+(((bits .and .u64 ((0*(bits .and .u64 y 4294967295))+((1*(bits .and .u64 y 4294967295)) / 2 ^ (Int.toNat 32))) 4294967295)+(1*(y / 2 ^ (Int.toNat 32)))) / 2 ^ (Int.toNat 32))),(1*y)))))))))))):G Try.prog E [.code (Qd Try.prog 194)] ⟨[.int .u64 1,.int .u64 y]++unds (Try.f194.ntmps - 2),[]⟩:=by
 obtain ⟨q2_0,h⟩:=h
 obtain ⟨q3_0,h⟩:=h
 obtain ⟨q5_0,h⟩:=h
 obtain ⟨q7_0,h⟩:=h
 obtain ⟨q8_0,h⟩:=h
 obtain ⟨q9_0,h⟩:=h
 obtain ⟨q10_0,h⟩:=h
 obtain ⟨q12_0,h⟩:=h
 obtain ⟨q13_0,h⟩:=h
 exact p194_start_0 y hE ⟨(⟨by decide,by decide⟩),(⟨by decide,by decide⟩),q2_0,q3_0,(⟨by decide,by decide⟩),q5_0,(⟨by decide,by decide⟩),q7_0,q8_0,q9_0,q10_0,(⟨by decide,by decide⟩),q12_0,q13_0,trivial⟩ (AvLe.of_eq (by rw [h]; try rfl))
theorem mul64_ok (y:Int) (h:0≤y∧y<4294967296):Pure Try.prog 194 [.int .u64 1,.int .u64 y] (.tup [.int .u64 0,.int .u64 y]):=Qv Try.func194 f194b fun E hE=>by
 have d0:(0:Int) / 2 ^ (Int.toNat 32)=0:=rfl
 have a0:=and_mask (y:=0) (by omega)
 refine f194W y (rv:=(0,y)) hE ?_
 rw [and_mask h]
 simp only [Int.one_mul,Int.zero_mul,Int.zero_add,div32 h,Int.add_zero,a0,d0]
 exact ⟨inU (by omega),inU (by omega),inU (by omega),inU (by omega),inU (by omega),inU (by omega),inU (by omega),inU (by omega),inU (by omega),trivial⟩
theorem f130b:Try.f130.body=some (Qd Try.prog 130):=by kernel_rfl
theorem u130 {a c k:List AV} {r:AV} (h:Pure Try.prog 130 (a++c++k) r):Qe Try.prog (.clos 130 a k) c r:=Qj Try.func130 (by kernel_rfl) f130b h
theorem p130_start_0 (y:Int) {E:Env} {res:AV} (hE:Qf Try.prog 130 res E) (ho:AllP [false=false,Qe Try.prog (.clos 194 [] []) [.int .u64 1,.int .u64 y] (.tup [.int .u64 0,.int .u64 y])])
 (hr:AvLe (.tup [.int .u64 0,.int .u64 y]) res):G Try.prog E [.code (Qd Try.prog 130)] ⟨[.int .u64 1,.int .u64 y]++unds (Try.f130.ntmps - 2),[]⟩ :=
 Qb (n:=400) (evs:=[.b false,.v (.tup [.int .u64 0,.int .u64 y])]) (obs:=_) hE Try.func130 Qh (by kernel_rfl) ho hr
theorem f130W (y:Int) {E:Env} {rv:(Int × Int)} (hE:Qf Try.prog 130 (.tup [.int .u64 rv.1,.int .u64 rv.2]) E)
 (h:((0≤y∧y<4294967296)∧rv=(0,y))):G Try.prog E [.code (Qd Try.prog 130)] ⟨[.int .u64 1,.int .u64 y]++unds (Try.f130.ntmps - 2),[]⟩:=by
 obtain ⟨h1,h⟩:=h
 exact p130_start_0 y hE ⟨rfl,(u194 (mul64_ok y h1)),trivial⟩ (AvLe.of_eq (by rw [h]; try rfl))
theorem mul_ok (y:Int) (h:0≤y∧y<4294967296):Pure Try.prog 130 [.int .u64 1,.int .u64 y] (.tup [.int .u64 0,.int .u64 y]):=Qv Try.func130 f130b fun E hE=>f130W y (rv:=(0,y)) hE ⟨h,rfl⟩
theorem f55b:Try.f55.body=some (Qd Try.prog 55):=by kernel_rfl
def f55K0 (P:Program):List Item:=kAt 400 [.code (Qd P 55)] [.b false,.b false,.stop]
def f55S0 (n:Int) (v:Int) (v0:List Int) (n1:Nat):St:=⟨(jj 7 ([.sl 0 0 0 v0.length 1,.int .i64 (n1:Int)]++Js 39)),[⟨true,0,1,true,(rowI v0),true⟩]⟩
def f55G0 (E:Env) (n:Int) (v:Int) (v0:List Int) (n1:Nat):Prop:=G Try.prog E (f55K0 Try.prog) (f55S0 n v v0 n1 )
theorem p55_start_2 (n:Int) (v:Int) {E:Env} {rv:AV} {bs2:List Blk} (hE:LentE Try.prog 55 [] rv bs2 E) (ho:AllP [(decide (n<0))=false,InR .u64 1,InR .u64 n,Qe Try.prog (.clos 130 [] []) [.int .u64 1,.int .u64 n] (.tup [.int .u64 0,.int .u64 n]),false=false,(decide (n > 9223372036854775807))=false,InR .i64 n,0≤n∧n≤n∧n≤2147483648,(0+(Nat.min 1 (Int.toNat n))*1)≤((List.replicate (Int.toNat n) ([.int .i64 0]:List AV)).flatten).length,(Nat.min 1 (Int.toNat n)) ≠ 0,0=0,(([.int .i64 v]).drop 0).take ((Nat.min 1 (Int.toNat n))*1)=(rowI ((([v]:List Int).drop 0).take (Nat.min 1 (Int.toNat n)))),(rowI ((([v]:List Int).drop 0).take (Nat.min 1 (Int.toNat n)))).length=(Nat.min 1 (Int.toNat n))*1,noRefs (rowI ((([v]:List Int).drop 0).take (Nat.min 1 (Int.toNat n))))=true])
 (hg:G Try.prog E (f55K0 Try.prog) ⟨(jj 7 ([.sl 0 0 0 (Int.toNat n) 1,.int .i64 (((Nat.min 1 (Int.toNat n)):Nat):Int)]++Js 39)),[⟨true,0,1,true,(QT ((List.replicate (Int.toNat n) ([.int .i64 0]:List AV)).flatten) 0 (rowI ((([v]:List Int).drop 0).take (Nat.min 1 (Int.toNat n))))),true⟩]⟩):G Try.prog E [.code (Qd Try.prog 55)] ⟨[.rsl [.int .i64 v] 0 1,.int .i64 n]++unds (Try.f55.ntmps - 2),[]⟩ :=
 Ql (n:=400) (ds:=[]) (cs:=[]) (live:=[7,8]) (m:=1) (evs:=[.b false,.v (.tup [.int .u64 0,.int .u64 n]),.b false,.b false,.cs (rowI ((([v]:List Int).drop 0).take (Nat.min 1 (Int.toNat n)))),.stop]) (obs:=_) hE.kind (hE.nogh0 _) Qh (by kernel_rfl) ho hg
theorem f55W (n:Int) (v:Int) {E:Env} {rv:Unit} {l2:List Int} (hE:LentE Try.prog 55 [] (.sl 0 0 0 l2.length 1) [⟨true,0,1,true,(rowI l2),true⟩] E)
 (h:((n<0→False)∧(¬ (n<0)→(InR .u64 n∧((0≤n∧n<4294967296)∧((n > 9223372036854775807→False)∧(¬ (n > 9223372036854775807)→((I6 (n))∧((0≤n∧n≤2147483648)∧(0+(Nat.min 1 (Int.toNat n))≤(List.replicate (Int.toNat n) (0:Int)).length∧((Nat.min 1 (Int.toNat n)) ≠ 0∧(0+(Nat.min 1 (Int.toNat n))≤([v]:List Int).length∧f55G0 E n v (Kh (List.replicate (Int.toNat n) (0:Int)) 0 ((([v]:List Int).drop 0).take (Nat.min 1 (Int.toNat n)))) (Nat.min 1 (Int.toNat n)))))))))))))):G Try.prog E [.code (Qd Try.prog 55)] ⟨[.rsl [.int .i64 v] 0 1,.int .i64 n]++unds (Try.f55.ntmps - 2),[]⟩:=by
 rcases bft (decide (n<0)) with hc0 | hc0
 · have h:=h.1 (odt hc0)
   exact h.elim
 · have h:=h.2 (odf hc0)
   obtain ⟨q2_1,h⟩:=h
   obtain ⟨h1,h⟩:=h
   rcases bft (decide (n > 9223372036854775807)) with hc1 | hc1
   · have h:=h.1 (odt hc1)
     exact h.elim
   · have h:=h.2 (odf hc1)
     obtain ⟨q6_2,h⟩:=h
     obtain ⟨h2,h⟩:=h
     obtain ⟨h3,h⟩:=h
     obtain ⟨h4,h⟩:=h
     obtain ⟨h5,h⟩:=h
     refine p55_start_2 n v hE ⟨hc0,(⟨by decide,by decide⟩),q2_1,(u130 (mul_ok n h1)),rfl,hc1,q6_2,⟨h2.1,by omega,h2.2⟩,(by rw [(show (List.replicate (Int.toNat n) ([.int .i64 0]:List AV)).flatten=rowI (List.replicate (Int.toNat n) (0:Int)) from row_rep cI _ _)]; exact copy_fits cI (s:=1) (fun _=>rfl) h3 (by first | rfl | omega | simp)),h4,rfl,(by rw [(show [.int .i64 v]=rowI ([v]:List Int) from rfl)]; exact copy_src cI (s:=1) (fun _=>rfl) _ (by first | rfl | omega | simp)),(copy_len cI (s:=1) (fun _=>rfl) h5),(WE cI (fun _=>rfl) _),trivial⟩ ?_
     have h:=h
     simp only [f55G0,f55S0,List.length_set,List.length_replicate,YE] at h
     rw [(show (List.replicate (Int.toNat n) ([.int .i64 0]:List AV)).flatten=rowI (List.replicate (Int.toNat n) (0:Int)) from row_rep cI _ _)]; rw [(show QT (rowI (List.replicate (Int.toNat n) (0:Int))) 0 (rowI ((([v]:List Int).drop 0).take (Nat.min 1 (Int.toNat n))))=rowI (Kh (List.replicate (Int.toNat n) (0:Int)) 0 ((([v]:List Int).drop 0).take (Nat.min 1 (Int.toNat n)))) from copy_row cI (s:=1) (fun _=>rfl) h3 h5 (by first | rfl | omega | simp))]
     exact h
theorem p55_0_0 (n:Int) (v:Int) (v0:List Int) (n1:Nat) {E:Env} {rv:AV} {bs2:List Blk} (hE:LentE Try.prog 55 [] rv bs2 E) (ho:AllP [0=0,(decide ((n1:Int)<(v0.length:Int)))=true,(Int.toNat (n1:Int))≤v0.length,v0.length≤v0.length,0≤(n1:Int),0=0,0≤(Int.toNat (n1:Int)),(Int.toNat (n1:Int))≤v0.length,0≤(n1:Int),0=0,((0+((Int.toNat (n1:Int))*1))+(Nat.min (Int.toNat (n1:Int)) (v0.length - (Int.toNat (n1:Int))))*1)≤(rowI v0).length,(Nat.min (Int.toNat (n1:Int)) (v0.length - (Int.toNat (n1:Int)))) ≠ 0,0=0,0=0,((rowI v0).drop 0).take ((Nat.min (Int.toNat (n1:Int)) (v0.length - (Int.toNat (n1:Int))))*1)=(rowI ((v0.drop 0).take (Nat.min (Int.toNat (n1:Int)) (v0.length - (Int.toNat (n1:Int)))))),(rowI ((v0.drop 0).take (Nat.min (Int.toNat (n1:Int)) (v0.length - (Int.toNat (n1:Int)))))).length=(Nat.min (Int.toNat (n1:Int)) (v0.length - (Int.toNat (n1:Int))))*1,noRefs (rowI ((v0.drop 0).take (Nat.min (Int.toNat (n1:Int)) (v0.length - (Int.toNat (n1:Int))))))=true,InR .i64 ((n1:Int)+(((Nat.min (Int.toNat (n1:Int)) (v0.length - (Int.toNat (n1:Int)))):Nat):Int))])
 (hg:G Try.prog E (f55K0 Try.prog) ⟨(jj 7 ([.sl 0 0 0 v0.length 1,.int .i64 ((n1:Int)+(((Nat.min (Int.toNat (n1:Int)) (v0.length - (Int.toNat (n1:Int)))):Nat):Int))]++Js 39)),[⟨true,0,1,true,(QT (rowI v0) (0+((Int.toNat (n1:Int))*1)) (rowI ((v0.drop 0).take (Nat.min (Int.toNat (n1:Int)) (v0.length - (Int.toNat (n1:Int))))))),true⟩]⟩):G Try.prog E (f55K0 Try.prog) (f55S0 n v v0 n1 ) :=
 Ql (n:=400) (ds:=[]) (cs:=[]) (live:=[7,8]) (m:=1) (evs:=[.b true,.cs (rowI ((v0.drop 0).take (Nat.min (Int.toNat (n1:Int)) (v0.length - (Int.toNat (n1:Int)))))),.stop]) (obs:=_) hE.kind (hE.nogh0 _) Qh (by kernel_rfl) ho hg
theorem p55_0_1 (n:Int) (v:Int) (v0:List Int) (n1:Nat) {E:Env} {res:AV} {bs2:List Blk} (hE:LentE Try.prog 55 [] res bs2 E) (ho:AllP [0=0,(decide ((n1:Int)<(v0.length:Int)))=false])
 (hr:(.sl 0 0 0 v0.length 1)=res) (hb:[⟨true,0,1,true,(rowI v0),true⟩]=bs2):G Try.prog E (f55K0 Try.prog) (f55S0 n v v0 n1 ) :=
 Wf (n:=400) (live:=[4]) (m:=1) (evs:=[.b false]) (obs:=_) hE (hE.nogh0 _) Try.func55 Qh (by kernel_rfl) ho hr hb
theorem f55W0 (n:Int) (v:Int) (v0:List Int) (n1:Nat) {E:Env} {rv:Unit} {l2:List Int} (hE:LentE Try.prog 55 [] (.sl 0 0 0 l2.length 1) [⟨true,0,1,true,(rowI l2),true⟩] E)
 (h:(((n1:Int)<(v0.length:Int)→((Int.toNat (n1:Int))≤v0.length∧((Int.toNat (n1:Int))≤v0.length∧((Int.toNat (n1:Int))+(Nat.min (Int.toNat (n1:Int)) (v0.length - (Int.toNat (n1:Int))))≤v0.length∧((Nat.min (Int.toNat (n1:Int)) (v0.length - (Int.toNat (n1:Int)))) ≠ 0∧(0+(Nat.min (Int.toNat (n1:Int)) (v0.length - (Int.toNat (n1:Int))))≤v0.length∧((I6 ((n1:Int)+(((Nat.min (Int.toNat (n1:Int)) (v0.length - (Int.toNat (n1:Int)))):Nat):Int)))∧f55G0 E n v (Kh v0 (Int.toNat (n1:Int)) ((v0.drop 0).take (Nat.min (Int.toNat (n1:Int)) (v0.length - (Int.toNat (n1:Int)))))) (n1+(Nat.min (Int.toNat (n1:Int)) (v0.length - (Int.toNat (n1:Int))))))))))))∧(¬ ((n1:Int)<(v0.length:Int))→l2=v0))):f55G0 E n v v0 n1:=by
 rcases bft (decide ((n1:Int)<(v0.length:Int))) with hc0 | hc0
 · have h:=h.1 (odt hc0)
   obtain ⟨q2_1,h⟩:=h
   obtain ⟨q7_1,h⟩:=h
   obtain ⟨h1,h⟩:=h
   obtain ⟨h2,h⟩:=h
   obtain ⟨h3,h⟩:=h
   obtain ⟨q17_1,h⟩:=h
   refine p55_0_0 n v v0 n1 hE ⟨rfl,hc0,q2_1,(Nat.le_refl _),(by omega),rfl,(Nat.zero_le _),q7_1,(by omega),rfl,(by exact copy_fits cI (s:=1) (fun _=>rfl) h1 (by first | rfl | omega | simp)),h2,rfl,rfl,(by exact copy_src cI (s:=1) (fun _=>rfl) _ (by first | rfl | omega | simp)),(copy_len cI (s:=1) (fun _=>rfl) h3),(WE cI (fun _=>rfl) _),q17_1,trivial⟩ ?_
   have h:=h
   simp only [f55G0,f55S0,List.length_set,YE] at h
   rw [(show QT (rowI v0) (0+((Int.toNat (n1:Int))*1)) (rowI ((v0.drop 0).take (Nat.min (Int.toNat (n1:Int)) (v0.length - (Int.toNat (n1:Int))))))=rowI (Kh v0 (Int.toNat (n1:Int)) ((v0.drop 0).take (Nat.min (Int.toNat (n1:Int)) (v0.length - (Int.toNat (n1:Int)))))) from copy_row cI (s:=1) (fun _=>rfl) h1 h3 (by first | rfl | omega | simp))]
   exact h
 · have h:=h.2 (odf hc0)
   have qe0:=h
   exact p55_0_1 n v v0 n1 hE ⟨rfl,hc0,trivial⟩ (by rw [qe0]; try rfl) (by rw [qe0]; all_goals (first | rfl | (simp only [List.length_set]; done) | (simp only [List.length_set]; rfl) | (simp only [List.length_set,List.length_replicate]; done)))
theorem KF (v n:Int) (h:1≤n∧n≤2147483648):Lent Try.prog 55 [.rsl [.int .i64 v] 0 1,.int .i64 n] [] (.sl 0 0 0 (List.replicate (Int.toNat n) v).length 1) [⟨true,0,1,true,rowI (List.replicate (Int.toNat n) v),true⟩]:=lent_of0 Try.func55 f55b fun E hE=>by
 have key:∀ (d:Nat) (v0:List Int) (k:Nat),v0.length=Int.toNat n→1≤k→k≤v0.length→v0.length - k≤d→(∀ i,i<k→v0[i]?=some v)→f55G0 E n v v0 k:=by
  intro d
  induction d with
  | zero =>
   intro v0 k hl h1 h2 hd hv
   refine f55W0 n v v0 k (rv:=()) hE ⟨fun h=>by omega,fun _=>?_⟩
   refine (List.ext_getElem? fun i=>?_).symm
   by_cases hi:i<Int.toNat n
   · rw [hv i (by omega),List.getElem?_replicate,if_pos hi]
   · rw [List.getElem?_eq_none (by omega),List.getElem?_eq_none (by simp; omega)]
  | succ d ih =>
   intro v0 k hl h1 h2 hd hv
   refine f55W0 n v v0 k (rv:=()) hE ⟨fun hk=>?_,fun _=>?_⟩
   · have e0:Int.toNat (k:Int)=k:=by omega
     rw [e0,List.drop_zero]
     have hm:Nat.min k (v0.length - k)≤k:=Nat.min_le_left _ _
     have hm2:Nat.min k (v0.length - k)≤v0.length - k:=Nat.min_le_right _ _
     have hm0:Nat.min k (v0.length - k) ≠ 0:=by
      intro h0
      have h0':min k (v0.length - k)=0:=h0
      omega
     generalize Nat.min k (v0.length - k)=m at hm hm2 hm0
     refine ⟨h2,h2,by omega,hm0,by omega,by omega,?_⟩
     have hlt:(v0.take m).length=m:=by rw [List.length_take]; omega
     refine ih _ (k+m) (by rw [YE]; exact hl) (by omega) (by rw [YE]; omega) (by rw [YE]; omega) (fun i hi=>?_)
     rw [Qaq (by rw [hlt]; omega),hlt]
     split
     · rw [List.getElem?_take,if_pos (by omega)]; exact hv _ (by omega)
     · exact hv _ (by omega)
   · refine (List.ext_getElem? fun i=>?_).symm
     by_cases hi:i<Int.toNat n
     · rw [hv i (by omega),List.getElem?_replicate,if_pos hi]
     · rw [List.getElem?_eq_none (by omega),List.getElem?_eq_none (by simp; omega)]
 have e1:Nat.min 1 (Int.toNat n)=1:=by
  have:min 1 (Int.toNat n)=1:=by omega
  exact this
 refine f55W n v (rv:=()) hE ⟨fun h=>by omega,fun _=>⟨inU (by omega),by omega,fun h=>by omega,fun _=>⟨by omega,by omega,?_⟩⟩⟩
 rw [e1]
 refine ⟨by simp; omega,by omega,by simp,?_⟩
 refine key (Int.toNat n) _ 1 (by rw [YE,List.length_replicate]) (by omega) (by rw [YE,List.length_replicate]; omega) (by rw [YE,List.length_replicate]; omega) (fun i hi=>?_)
 have:i=0:=by omega
 subst this
 rw [Qaq (by simp; omega)]
 simp
end Go.Proofs.Ytemklbioijmjiaa
namespace Go.Proofs.Ytemklbioijmjiaa
open Go Ax
open Go.Proofs
structure Bndl where
 tokens:Int
 price:Int
def cBd (t:Bndl):List AV:=[.int .i64 t.tokens,.int .i64 t.price]
def YY (l:List Bndl):List AV:=l.flatMap cBd
structure Fair where
 purses:Int
 boxes:Int
 stock:List Int
 cash:List Int
 bundles:List Bndl
 refund:Int
 band:Int
 hours:Int
def outB (lo hi:Int) (n:Int):Bool:=!Qa n lo hi
theorem f115b:Try.f115.body=some (Qd Try.prog 115):=by kernel_rfl
theorem u115 {a c k:List AV} {r:AV} (h:Pure Try.prog 115 (a++c++k) r):Qe Try.prog (.clos 115 a k) c r:=Qj Try.func115 (by kernel_rfl) f115b h
theorem p115_start_0 (n:Int) (lo:Int) (hi:Int) {E:Env} {res:AV} (hE:Qf Try.prog 115 res E) (ho:AllP [(decide (n≥lo))=true])
 (hr:AvLe (.bool (decide (n≤hi))) res):G Try.prog E [.code (Qd Try.prog 115)] ⟨[.int .i64 n,.int .i64 lo,.int .i64 hi]++unds (Try.f115.ntmps - 3),[]⟩ :=
 Qb (n:=400) (evs:=[.b true]) (obs:=_) hE Try.func115 Qh (by kernel_rfl) ho hr
theorem p115_start_1 (n:Int) (lo:Int) (hi:Int) {E:Env} {res:AV} (hE:Qf Try.prog 115 res E) (ho:AllP [(decide (n≥lo))=false])
 (hr:AvLe (.bool false) res):G Try.prog E [.code (Qd Try.prog 115)] ⟨[.int .i64 n,.int .i64 lo,.int .i64 hi]++unds (Try.f115.ntmps - 3),[]⟩ :=
 Qb (n:=400) (evs:=[.b false]) (obs:=_) hE Try.func115 Qh (by kernel_rfl) ho hr
theorem f115W (n:Int) (lo:Int) (hi:Int) {E:Env} {rv:Bool} (hE:Qf Try.prog 115 (.bool rv) E)
 (h:((n≥lo→rv=(decide (n≤hi)))∧(¬ (n≥lo)→rv=false))):G Try.prog E [.code (Qd Try.prog 115)] ⟨[.int .i64 n,.int .i64 lo,.int .i64 hi]++unds (Try.f115.ntmps - 3),[]⟩:=by
 rcases bft (decide (n≥lo)) with hc0 | hc0
 · have h:=h.1 (odt hc0)
   exact p115_start_0 n lo hi hE ⟨hc0,trivial⟩ (AvLe.of_eq (by rw [h]; try rfl))
 · have h:=h.2 (odf hc0)
   exact p115_start_1 n lo hi hE ⟨hc0,trivial⟩ (AvLe.of_eq (by rw [h]; try rfl))
theorem Qt (n lo hi:Int):Pure Try.prog 115 [.int .i64 n,.int .i64 lo,.int .i64 hi] (.bool (Qa n lo hi)):=Qv Try.func115 f115b fun E hE=>by
 refine f115W n lo hi hE ⟨fun h=>by simp [Qa,h],fun h=>by simp [Qa,h]⟩
theorem f183b:Try.f183.body=some (Qd Try.prog 183):=by kernel_rfl
theorem u183 {a c k:List AV} {r:AV} (h:Pure Try.prog 183 (a++c++k) r):Qe Try.prog (.clos 183 a k) c r:=Qj Try.func183 (by kernel_rfl) f183b h
theorem p183_start_0 (n:Int) (lo hi:Int) {E:Env} {res:AV} (hE:Qf Try.prog 183 res E) (ho:AllP [Qe Try.prog (.clos 115 [] []) [.int .i64 n,.int .i64 lo,.int .i64 hi] (.bool (Qa n lo hi))])
 (hr:AvLe (.bool (!(Qa n lo hi))) res):G Try.prog E [.code (Qd Try.prog 183)] ⟨[.int .i64 n,.rptr [.int .i64 lo] 0,.rptr [.int .i64 hi] 0]++unds (Try.f183.ntmps - 3),[]⟩ :=
 Qb (n:=400) (evs:=[.v (.bool (Qa n lo hi))]) (obs:=_) hE Try.func183 Qh (by kernel_rfl) ho hr
theorem f183W (n:Int) (lo hi:Int) {E:Env} {rv:Bool} (hE:Qf Try.prog 183 (.bool rv) E)
 (h:rv=(!(Qa n lo hi))):G Try.prog E [.code (Qd Try.prog 183)] ⟨[.int .i64 n,.rptr [.int .i64 lo] 0,.rptr [.int .i64 hi] 0]++unds (Try.f183.ntmps - 3),[]⟩:=by
 exact p183_start_0 n lo hi hE ⟨(u115 (Qt n lo hi)),trivial⟩ (AvLe.of_eq (by rw [h]; try rfl))
theorem f182b:Try.f182.body=some (Qd Try.prog 182):=by kernel_rfl
theorem u182 {a c k:List AV} {r:AV} (h:Pure Try.prog 182 (a++c++k) r):Qe Try.prog (.clos 182 a k) c r:=Qj Try.func182 (by kernel_rfl) f182b h
theorem p182_start_0 (lo:Int) (hi:Int) {E:Env} {res:AV} (hE:Qf Try.prog 182 res E) (ho:AllP [])
 (hr:AvLe (.clos 183 [] [.rptr [.int .i64 lo] 0,.rptr [.int .i64 hi] 0]) res):G Try.prog E [.code (Qd Try.prog 182)] ⟨[.int .i64 lo,.int .i64 hi]++unds (Try.f182.ntmps - 2),[]⟩ :=
 Qb (n:=400) (evs:=[]) (obs:=_) hE Try.func182 Qh (by kernel_rfl) ho hr
theorem f182W (lo:Int) (hi:Int) {E:Env} {rv:AV} (hE:Qf Try.prog 182 rv E)
 (h:rv=(.clos 183 [] [.rptr [.int .i64 lo] 0,.rptr [.int .i64 hi] 0])):G Try.prog E [.code (Qd Try.prog 182)] ⟨[.int .i64 lo,.int .i64 hi]++unds (Try.f182.ntmps - 2),[]⟩:=by
 exact p182_start_0 lo hi hE trivial (AvLe.of_eq (by rw [h]; try rfl))
theorem out1_ok (n lo hi:Int):Pure Try.prog 183 [.int .i64 n,.rptr [.int .i64 lo] 0,.rptr [.int .i64 hi] 0] (.bool (outB lo hi n)):=Qv Try.func183 f183b fun E hE=>f183W n lo hi (rv:=outB lo hi n) hE rfl
theorem VY (lo hi:Int):Pure Try.prog 182 [.int .i64 lo,.int .i64 hi] (.clos 183 [] [.rptr [.int .i64 lo] 0,.rptr [.int .i64 hi] 0]):=Qv Try.func182 f182b fun E hE=>f182W lo hi (rv:=.clos 183 [] [.rptr [.int .i64 lo] 0,.rptr [.int .i64 hi] 0]) hE rfl
theorem f59ob:Try.f59.body=some (Qd Try.prog 59):=by kernel_rfl
def Qbq (P:Program):List Item:=kAt 400 [.code (Qd P 59)] [.stop]
def f59oS0 (l:(List Int)) (lo hi:Int) (i:Nat):St:=⟨([.rsl (rowI l) 0 l.length,.clos 183 [] [.rptr [.int .i64 lo] 0,.rptr [.int .i64 hi] 0]]++jj 5 ([.int .i64 (l.length:Int),.int .i64 (i:Int)]++Js 10)),[]⟩
def f59oG0 (E:Env) (l:(List Int)) (lo hi:Int) (i:Nat):Prop:=G Try.prog E (Qbq Try.prog) (f59oS0 l lo hi i )
abbrev z59o_1 (lo:Int) (hi:Int):List AV:=[.rptr [.int .i64 lo] 0,.rptr [.int .i64 hi] 0]
theorem p59o_start_0 (l:(List Int)) (lo hi:Int) {E:Env} {rv:AV} (hE:Qf Try.prog 59 rv E) (ho:AllP [])
 (hg:G Try.prog E (Qbq Try.prog) ⟨([.rsl (rowI l) 0 l.length,.clos 183 [] (z59o_1 lo hi)]++jj 5 ([.int .i64 (l.length:Int),.int .i64 0]++Js 10)),[]⟩):G Try.prog E [.code (Qd Try.prog 59)] ⟨[.rsl (rowI l) 0 l.length,.clos 183 [] (z59o_1 lo hi)]++unds (Try.f59.ntmps - 2),[]⟩ :=
 Ql (n:=400) (ds:=[]) (cs:=[]) (live:=[0,1,7,8]) (m:=0) (evs:=[.stop]) (obs:=_) hE.2.1 (hE.nogh _) Qh (by kernel_rfl) ho hg
theorem f59oW (l:(List Int)) (lo hi:Int) {E:Env} {rv:Int} (hE:Qf Try.prog 59 (.int .i64 rv) E)
 (h:f59oG0 E l lo hi 0):G Try.prog E [.code (Qd Try.prog 59)] ⟨[.rsl (rowI l) 0 l.length,.clos 183 [] [.rptr [.int .i64 lo] 0,.rptr [.int .i64 hi] 0]]++unds (Try.f59.ntmps - 2),[]⟩:=by
 exact p59o_start_0 l lo hi hE trivial h
theorem p59o_0_0 (l:(List Int)) (lo hi:Int) (i:Nat) (e:Int) {E:Env} {res:AV} (hE:Qf Try.prog 59 res E) (ho:AllP [(decide ((i:Int)<(l.length:Int)))=true,0≤(i:Int)∧(i:Int)<(l.length:Int),((rowI l).drop (0+(Int.toNat (i:Int))*1)).take 1=[.int .i64 e],Qe Try.prog (.clos 183 [] (z59o_1 lo hi)) [.int .i64 e] (.bool (outB lo hi e)),(outB lo hi e)=true])
 (hr:AvLe (.int .i64 (i:Int)) res):G Try.prog E (Qbq Try.prog) (f59oS0 l lo hi i ) :=
 Qb (n:=400) (evs:=[.b true,.ld (.int .i64 e),.v (.bool (outB lo hi e)),.b true]) (obs:=_) hE Try.func59 Qh (by kernel_rfl) ho hr
theorem p59o_0_1 (l:(List Int)) (lo hi:Int) (i:Nat) (e:Int) {E:Env} {rv:AV} (hE:Qf Try.prog 59 rv E) (ho:AllP [(decide ((i:Int)<(l.length:Int)))=true,0≤(i:Int)∧(i:Int)<(l.length:Int),((rowI l).drop (0+(Int.toNat (i:Int))*1)).take 1=[.int .i64 e],Qe Try.prog (.clos 183 [] (z59o_1 lo hi)) [.int .i64 e] (.bool (outB lo hi e)),(outB lo hi e)=false,InR .i64 ((i:Int)+1)])
 (hg:G Try.prog E (Qbq Try.prog) ⟨([.rsl (rowI l) 0 l.length,.clos 183 [] (z59o_1 lo hi)]++jj 5 ([.int .i64 (l.length:Int),.int .i64 ((i:Int)+1)]++Js 10)),[]⟩):G Try.prog E (Qbq Try.prog) (f59oS0 l lo hi i ) :=
 Ql (n:=400) (ds:=[]) (cs:=[]) (live:=[0,1,7,8]) (m:=0) (evs:=[.b true,.ld (.int .i64 e),.v (.bool (outB lo hi e)),.b false,.stop]) (obs:=_) hE.2.1 (hE.nogh _) Qh (by kernel_rfl) ho hg
theorem p59o_0_2 (l:(List Int)) (lo hi:Int) (i:Nat) {E:Env} {res:AV} (hE:Qf Try.prog 59 res E) (ho:AllP [(decide ((i:Int)<(l.length:Int)))=false])
 (hr:AvLe (.int .i64 (-1)) res):G Try.prog E (Qbq Try.prog) (f59oS0 l lo hi i ) :=
 Qb (n:=400) (evs:=[.b false]) (obs:=_) hE Try.func59 Qh (by kernel_rfl) ho hr
theorem f59oW0 (l:(List Int)) (lo hi:Int) (i:Nat) {E:Env} {rv:Int} (hE:Qf Try.prog 59 (.int .i64 rv) E)
 (h:(((i:Int)<(l.length:Int)→(∃ e:Int,l[i]?=some e∧(((outB lo hi e)=true→rv=(i:Int))∧((outB lo hi e)=false→((I6 ((i:Int)+1))∧f59oG0 E l lo hi (i+1))))))∧(¬ ((i:Int)<(l.length:Int))→rv=(-1)))):f59oG0 E l lo hi i:=by
 rcases bft (decide ((i:Int)<(l.length:Int))) with hc0 | hc0
 · have h:=h.1 (odt hc0)
   obtain ⟨e,h1,h⟩:=h
   rcases bft (outB lo hi e) with hc1 | hc1
   · have h:=h.1 hc1
     exact p59o_0_0 l lo hi i e hE ⟨hc0,(QE h1),(rp cI 1 0 1 h1),(u183 (out1_ok e lo hi)),hc1,trivial⟩ (AvLe.of_eq (by rw [h]; try rfl))
   · have h:=h.2 hc1
     obtain ⟨q6_2,h⟩:=h
     exact p59o_0_1 l lo hi i e hE ⟨hc0,(QE h1),(rp cI 1 0 1 h1),(u183 (out1_ok e lo hi)),hc1,q6_2,trivial⟩ h
 · have h:=h.2 (odf hc0)
   exact p59o_0_2 l lo hi i hE ⟨hc0,trivial⟩ (AvLe.of_eq (by rw [h]; try rfl))
theorem idxOut_ok (l:List Int) (lo hi:Int) (h:l.length≤9223372036854775807):Pure Try.prog 59 [.rsl (rowI l) 0 l.length,.clos 183 [] [.rptr [.int .i64 lo] 0,.rptr [.int .i64 hi] 0]] (.int .i64 (idxG (outB lo hi) l)):=Qv Try.func59 f59ob fun E hE=>by
 have hl:=h
 refine f59oW l lo hi (rv:=idxG (outB lo hi) l) hE (Yy (outB lo hi) l l.length 0 (by omega) (fun j x hj=>by omega) (fun i=>f59oG0 E l lo hi i) (fun i hi' h1 h2=>?_) (fun _ h2=>?_))
 · have hx:l[i]?=some l[i]:=List.getElem?_eq_getElem hi'
   have hm:=List.mem_of_getElem? hx
   exact f59oW0 l lo hi i (rv:=idxG (outB lo hi) l) hE ⟨fun _=>⟨_,hx,fun hp=>h1 _ hx (by simpa using hp),fun hp=>⟨by omega,h2 _ hx (by simpa using hp)⟩⟩,fun h=>by omega⟩
 · exact f59oW0 l lo hi _ (rv:=idxG (outB lo hi) l) hE ⟨fun h=>by omega,fun _=>h2⟩
theorem qR:Try.f76.body=some (Qd Try.prog 76):=by kernel_rfl
theorem p76o_start_0 (l:(List Int)) (lo hi:Int) {E:Env} {res:AV} (hE:Qf Try.prog 76 res E) (ho:AllP [Qe Try.prog (.clos 59 [] []) [.rsl (rowI l) 0 l.length,.clos 183 [] [.rptr [.int .i64 lo] 0,.rptr [.int .i64 hi] 0]] (.int .i64 (idxG (outB lo hi) l))])
 (hr:AvLe (.bool (decide ((idxG (outB lo hi) l)≥0))) res):G Try.prog E [.code (Qd Try.prog 76)] ⟨[.rsl (rowI l) 0 l.length,.clos 183 [] [.rptr [.int .i64 lo] 0,.rptr [.int .i64 hi] 0]]++unds (Try.f76.ntmps - 2),[]⟩ :=
 Qb (n:=400) (evs:=[.v (.int .i64 (idxG (outB lo hi) l))]) (obs:=_) hE Try.func76 Qh (by kernel_rfl) ho hr
theorem f76oW (l:(List Int)) (lo hi:Int) {E:Env} {rv:Bool} (hE:Qf Try.prog 76 (.bool rv) E)
 (h:((l.length≤9223372036854775807)∧rv=(decide ((idxG (outB lo hi) l)≥0)))):G Try.prog E [.code (Qd Try.prog 76)] ⟨[.rsl (rowI l) 0 l.length,.clos 183 [] [.rptr [.int .i64 lo] 0,.rptr [.int .i64 hi] 0]]++unds (Try.f76.ntmps - 2),[]⟩:=by
 obtain ⟨h1,h⟩:=h
 exact p76o_start_0 l lo hi hE ⟨(Qj Try.func59 (by kernel_rfl) f59ob (idxOut_ok l lo hi h1)),trivial⟩ (AvLe.of_eq (by rw [h]; try rfl))
theorem XQ (l:List Int) (lo hi:Int) (h:l.length≤9223372036854775807):Pure Try.prog 76 [.rsl (rowI l) 0 l.length,.clos 183 [] [.rptr [.int .i64 lo] 0,.rptr [.int .i64 hi] 0]] (.bool (l.any (outB lo hi))):=Qv Try.func76 qR fun E hE =>
 f76oW l lo hi (rv:=l.any (outB lo hi)) hE ⟨h,(VI _ _).symm⟩
theorem f185b:Try.f185.body=some (Qd Try.prog 185):=by kernel_rfl
theorem u185 {a c k:List AV} {r:AV} (h:Pure Try.prog 185 (a++c++k) r):Qe Try.prog (.clos 185 a k) c r:=Qj Try.func185 (by kernel_rfl) f185b h
abbrev z185_1 (b:Bndl) (f:Fair):List AV:=[.agg [.int .i64 b.tokens,.int .i64 b.price],.rptr [.int .i64 f.purses,.int .i64 f.boxes,.rsl (rowI f.stock) 0 f.stock.length,.rsl (rowI f.cash) 0 f.cash.length,.rsl (YY f.bundles) 0 f.bundles.length,.int .i64 f.refund,.int .i64 f.band,.int .i64 f.hours] 0]
theorem p185_start_0 (b:Bndl) (f:Fair) {E:Env} {res:AV} (hE:Qf Try.prog 185 res E) (ho:AllP [Qe Try.prog (.clos 115 [] []) [.int .i64 b.tokens,.int .i64 1,.int .i64 1000] (.bool (Qa b.tokens 1 1000)),(!(Qa b.tokens 1 1000))=true,true=true])
 (hr:AvLe (.bool true) res):G Try.prog E [.code (Qd Try.prog 185)] ⟨(z185_1 b f)++unds (Try.f185.ntmps - 2),[]⟩ :=
 Qb (n:=400) (evs:=[.v (.bool (Qa b.tokens 1 1000)),.b true,.b true]) (obs:=_) hE Try.func185 Qh (by kernel_rfl) ho hr
theorem p185_start_1 (b:Bndl) (f:Fair) {E:Env} {res:AV} (hE:Qf Try.prog 185 res E) (ho:AllP [Qe Try.prog (.clos 115 [] []) [.int .i64 b.tokens,.int .i64 1,.int .i64 1000] (.bool (Qa b.tokens 1 1000)),(!(Qa b.tokens 1 1000))=false,Qe Try.prog (.clos 115 [] []) [.int .i64 b.price,.int .i64 1,.int .i64 1000000] (.bool (Qa b.price 1 1000000)),(!(Qa b.price 1 1000000))=true])
 (hr:AvLe (.bool true) res):G Try.prog E [.code (Qd Try.prog 185)] ⟨(z185_1 b f)++unds (Try.f185.ntmps - 2),[]⟩ :=
 Qb (n:=400) (evs:=[.v (.bool (Qa b.tokens 1 1000)),.b false,.v (.bool (Qa b.price 1 1000000)),.b true]) (obs:=_) hE Try.func185 Qh (by kernel_rfl) ho hr
theorem p185_start_2 (b:Bndl) (f:Fair) {E:Env} {res:AV} (hE:Qf Try.prog 185 res E) (ho:AllP [Qe Try.prog (.clos 115 [] []) [.int .i64 b.tokens,.int .i64 1,.int .i64 1000] (.bool (Qa b.tokens 1 1000)),(!(Qa b.tokens 1 1000))=false,Qe Try.prog (.clos 115 [] []) [.int .i64 b.price,.int .i64 1,.int .i64 1000000] (.bool (Qa b.price 1 1000000)),(!(Qa b.price 1 1000000))=false,InR .i64 (f.refund*b.tokens)])
 (hr:AvLe (.bool (decide ((f.refund*b.tokens) > b.price))) res):G Try.prog E [.code (Qd Try.prog 185)] ⟨(z185_1 b f)++unds (Try.f185.ntmps - 2),[]⟩ :=
 Qb (n:=400) (evs:=[.v (.bool (Qa b.tokens 1 1000)),.b false,.v (.bool (Qa b.price 1 1000000)),.b false]) (obs:=_) hE Try.func185 Qh (by kernel_rfl) ho hr
theorem f185W (b:Bndl) (f:Fair) {E:Env} {rv:Bool} (hE:Qf Try.prog 185 (.bool rv) E)
 (h:(((Qa b.tokens 1 1000)=false→rv=true)∧((Qa b.tokens 1 1000)=true→(((Qa b.price 1 1000000)=false→rv=true)∧((Qa b.price 1 1000000)=true→((I6 (f.refund*b.tokens))∧rv=(decide ((f.refund*b.tokens) > b.price)))))))):G Try.prog E [.code (Qd Try.prog 185)] ⟨[.agg [.int .i64 b.tokens,.int .i64 b.price],.rptr [.int .i64 f.purses,.int .i64 f.boxes,.rsl (rowI f.stock) 0 f.stock.length,.rsl (rowI f.cash) 0 f.cash.length,.rsl (YY f.bundles) 0 f.bundles.length,.int .i64 f.refund,.int .i64 f.band,.int .i64 f.hours] 0]++unds (Try.f185.ntmps - 2),[]⟩:=by
 rcases bft (!(Qa b.tokens 1 1000)) with hc0 | hc0
 · have h:=h.1 (bnT hc0)
   exact p185_start_0 b f hE ⟨(u115 (Qt b.tokens 1 1000)),hc0,rfl,trivial⟩ (AvLe.of_eq (by rw [h]; try rfl))
 · have h:=h.2 (bnF hc0)
   rcases bft (!(Qa b.price 1 1000000)) with hc1 | hc1
   · have h:=h.1 (bnT hc1)
     exact p185_start_1 b f hE ⟨(u115 (Qt b.tokens 1 1000)),hc0,(u115 (Qt b.price 1 1000000)),hc1,trivial⟩ (AvLe.of_eq (by rw [h]; try rfl))
   · have h:=h.2 (bnF hc1)
     obtain ⟨q4_2,h⟩:=h
     exact p185_start_2 b f hE ⟨(u115 (Qt b.tokens 1 1000)),hc0,(u115 (Qt b.price 1 1000000)),hc1,q4_2,trivial⟩ (AvLe.of_eq (by rw [h]; try rfl))
/-- A bundle that is not right. -/
def badB (f:Fair) (b:Bndl):Bool:=if Qa b.tokens 1 1000=true then (if Qa b.price 1 1000000=true then decide (f.refund*b.tokens > b.price) else true) else true
theorem badB_ok (b:Bndl) (f:Fair) (h:0≤f.refund∧f.refund≤1000):Pure Try.prog 185 [.agg [.int .i64 b.tokens,.int .i64 b.price],.rptr [.int .i64 f.purses,.int .i64 f.boxes,.rsl (rowI f.stock) 0 f.stock.length,.rsl (rowI f.cash) 0 f.cash.length,.rsl (YY f.bundles) 0 f.bundles.length,.int .i64 f.refund,.int .i64 f.band,.int .i64 f.hours] 0] (.bool (badB f b)):=Qv Try.func185 f185b fun E hE=>by
 refine f185W b f (rv:=badB f b) hE ⟨fun h1=>?_,fun h1=>⟨fun h2=>?_,fun h2=>⟨?_,?_⟩⟩⟩
 · unfold badB; rw [h1]; rfl
 · unfold badB; rw [h1,h2]; rfl
 · have h3:=QH.1 h1
   have m1:=Int.mul_le_mul h.2 h3.2 (by omega) (by omega)
   have m2:=Int.mul_nonneg h.1 (show 0≤b.tokens by omega)
   omega
 · unfold badB; rw [h1,h2]; rfl
theorem f240bb:Try.f240.body=some (Qd Try.prog 240):=by kernel_rfl
def yw (P:Program):List Item:=kAt 400 [.code (Qd P 240)] [.stop]
def Qdh (l:(List Bndl)) (f:Fair) (i:Nat):St:=⟨([.rsl (YY l) 0 l.length,.clos 185 [] [.rptr [.int .i64 f.purses,.int .i64 f.boxes,.rsl (rowI f.stock) 0 f.stock.length,.rsl (rowI f.cash) 0 f.cash.length,.rsl (YY f.bundles) 0 f.bundles.length,.int .i64 f.refund,.int .i64 f.band,.int .i64 f.hours] 0]]++jj 5 ([.int .i64 (l.length:Int),.int .i64 (i:Int)]++Js 10)),[]⟩
def Qdi (E:Env) (l:(List Bndl)) (f:Fair) (i:Nat):Prop:=G Try.prog E (yw Try.prog) (Qdh l f i )
abbrev Kv (f:Fair):List AV:=[.rptr [.int .i64 f.purses,.int .i64 f.boxes,.rsl (rowI f.stock) 0 f.stock.length,.rsl (rowI f.cash) 0 f.cash.length,.rsl (YY f.bundles) 0 f.bundles.length,.int .i64 f.refund,.int .i64 f.band,.int .i64 f.hours] 0]
theorem QbX (l:(List Bndl)) (f:Fair) {E:Env} {rv:AV} (hE:Qf Try.prog 240 rv E) (ho:AllP [])
 (hg:G Try.prog E (yw Try.prog) ⟨([.rsl (YY l) 0 l.length,.clos 185 [] (Kv f)]++jj 5 ([.int .i64 (l.length:Int),.int .i64 0]++Js 10)),[]⟩):G Try.prog E [.code (Qd Try.prog 240)] ⟨[.rsl (YY l) 0 l.length,.clos 185 [] (Kv f)]++unds (Try.f240.ntmps - 2),[]⟩ :=
 Ql (n:=400) (ds:=[]) (cs:=[]) (live:=[0,1,7,8]) (m:=0) (evs:=[.stop]) (obs:=_) hE.2.1 (hE.nogh _) Qh (by kernel_rfl) ho hg
theorem f240bW (l:(List Bndl)) (f:Fair) {E:Env} {rv:Int} (hE:Qf Try.prog 240 (.int .i64 rv) E)
 (h:Qdi E l f 0):G Try.prog E [.code (Qd Try.prog 240)] ⟨[.rsl (YY l) 0 l.length,.clos 185 [] [.rptr [.int .i64 f.purses,.int .i64 f.boxes,.rsl (rowI f.stock) 0 f.stock.length,.rsl (rowI f.cash) 0 f.cash.length,.rsl (YY f.bundles) 0 f.bundles.length,.int .i64 f.refund,.int .i64 f.band,.int .i64 f.hours] 0]]++unds (Try.f240.ntmps - 2),[]⟩:=by
 exact QbX l f hE trivial h
theorem p240b_0_0 (l:(List Bndl)) (f:Fair) (i:Nat) (be:Bndl) {E:Env} {res:AV} (hE:Qf Try.prog 240 res E) (ho:AllP [(decide ((i:Int)<(l.length:Int)))=true,0≤(i:Int)∧(i:Int)<(l.length:Int),((YY l).drop (0+(Int.toNat (i:Int))*2)).take 2=[.int .i64 be.tokens,.int .i64 be.price],Qe Try.prog (.clos 185 [] (Kv f)) [.agg [.int .i64 be.tokens,.int .i64 be.price]] (.bool (badB f be)),(badB f be)=true])
 (hr:AvLe (.int .i64 (i:Int)) res):G Try.prog E (yw Try.prog) (Qdh l f i ) :=
 Qb (n:=400) (evs:=[.b true,.ld (.agg [.int .i64 be.tokens,.int .i64 be.price]),.v (.bool (badB f be)),.b true]) (obs:=_) hE Try.func240 Qh (by kernel_rfl) ho hr
theorem p240b_0_1 (l:(List Bndl)) (f:Fair) (i:Nat) (be:Bndl) {E:Env} {rv:AV} (hE:Qf Try.prog 240 rv E) (ho:AllP [(decide ((i:Int)<(l.length:Int)))=true,0≤(i:Int)∧(i:Int)<(l.length:Int),((YY l).drop (0+(Int.toNat (i:Int))*2)).take 2=[.int .i64 be.tokens,.int .i64 be.price],Qe Try.prog (.clos 185 [] (Kv f)) [.agg [.int .i64 be.tokens,.int .i64 be.price]] (.bool (badB f be)),(badB f be)=false,InR .i64 ((i:Int)+1)])
 (hg:G Try.prog E (yw Try.prog) ⟨([.rsl (YY l) 0 l.length,.clos 185 [] (Kv f)]++jj 5 ([.int .i64 (l.length:Int),.int .i64 ((i:Int)+1)]++Js 10)),[]⟩):G Try.prog E (yw Try.prog) (Qdh l f i ) :=
 Ql (n:=400) (ds:=[]) (cs:=[]) (live:=[0,1,7,8]) (m:=0) (evs:=[.b true,.ld (.agg [.int .i64 be.tokens,.int .i64 be.price]),.v (.bool (badB f be)),.b false,.stop]) (obs:=_) hE.2.1 (hE.nogh _) Qh (by kernel_rfl) ho hg
theorem p240b_0_2 (l:(List Bndl)) (f:Fair) (i:Nat) {E:Env} {res:AV} (hE:Qf Try.prog 240 res E) (ho:AllP [(decide ((i:Int)<(l.length:Int)))=false])
 (hr:AvLe (.int .i64 (-1)) res):G Try.prog E (yw Try.prog) (Qdh l f i ) :=
 Qb (n:=400) (evs:=[.b false]) (obs:=_) hE Try.func240 Qh (by kernel_rfl) ho hr
theorem f240bW0 (l:(List Bndl)) (f:Fair) (i:Nat) {E:Env} {rv:Int} (hE:Qf Try.prog 240 (.int .i64 rv) E)
 (h:(((i:Int)<(l.length:Int)→(∃ be:Bndl,l[i]?=some be∧((0≤f.refund∧f.refund≤1000)∧(((badB f be)=true→rv=(i:Int))∧((badB f be)=false→((I6 ((i:Int)+1))∧Qdi E l f (i+1)))))))∧(¬ ((i:Int)<(l.length:Int))→rv=(-1)))):Qdi E l f i:=by
 rcases bft (decide ((i:Int)<(l.length:Int))) with hc0 | hc0
 · have h:=h.1 (odt hc0)
   obtain ⟨be,h1,h⟩:=h
   obtain ⟨h2,h⟩:=h
   rcases bft (badB f be) with hc1 | hc1
   · have h:=h.1 hc1
     exact p240b_0_0 l f i be hE ⟨hc0,(QE h1),(rp cBd 2 0 2 h1),(u185 (badB_ok be f h2)),hc1,trivial⟩ (AvLe.of_eq (by rw [h]; try rfl))
   · have h:=h.2 hc1
     obtain ⟨q6_2,h⟩:=h
     exact p240b_0_1 l f i be hE ⟨hc0,(QE h1),(rp cBd 2 0 2 h1),(u185 (badB_ok be f h2)),hc1,q6_2,trivial⟩ h
 · have h:=h.2 (odf hc0)
   exact p240b_0_2 l f i hE ⟨hc0,trivial⟩ (AvLe.of_eq (by rw [h]; try rfl))
theorem idxBad_ok (l:List Bndl) (f:Fair) (h:(∀ x ∈ l,0≤f.refund∧f.refund≤1000)∧l.length≤9223372036854775807):Pure Try.prog 240 [.rsl (YY l) 0 l.length,.clos 185 [] [.rptr [.int .i64 f.purses,.int .i64 f.boxes,.rsl (rowI f.stock) 0 f.stock.length,.rsl (rowI f.cash) 0 f.cash.length,.rsl (YY f.bundles) 0 f.bundles.length,.int .i64 f.refund,.int .i64 f.band,.int .i64 f.hours] 0]] (.int .i64 (idxG (badB f) l)):=Qv Try.func240 f240bb fun E hE=>by
 have hl:=h.2
 refine f240bW l f (rv:=idxG (badB f) l) hE (Yy (badB f) l l.length 0 (by omega) (fun j x hj=>by omega) (fun i=>Qdi E l f i) (fun i hi' h1 h2=>?_) (fun _ h2=>?_))
 · have hx:l[i]?=some l[i]:=List.getElem?_eq_getElem hi'
   have hm:=List.mem_of_getElem? hx
   exact f240bW0 l f i (rv:=idxG (badB f) l) hE ⟨fun _=>⟨_,hx,h.1 _ hm,fun hp=>h1 _ hx (by simpa using hp),fun hp=>⟨by omega,h2 _ hx (by simpa using hp)⟩⟩,fun h=>by omega⟩
 · exact f240bW0 l f _ (rv:=idxG (badB f) l) hE ⟨fun h=>by omega,fun _=>h2⟩
theorem f184bb:Try.f184.body=some (Qd Try.prog 184):=by kernel_rfl
abbrev z184b_1 (l:(List Bndl)) (f:Fair):List AV:=[.rsl (YY l) 0 l.length,.clos 185 [] [.rptr [.int .i64 f.purses,.int .i64 f.boxes,.rsl (rowI f.stock) 0 f.stock.length,.rsl (rowI f.cash) 0 f.cash.length,.rsl (YY f.bundles) 0 f.bundles.length,.int .i64 f.refund,.int .i64 f.band,.int .i64 f.hours] 0]]
theorem QcF (l:(List Bndl)) (f:Fair) {E:Env} {res:AV} (hE:Qf Try.prog 184 res E) (ho:AllP [Qe Try.prog (.clos 240 [] []) (z184b_1 l f) (.int .i64 (idxG (badB f) l))])
 (hr:AvLe (.bool (decide ((idxG (badB f) l)≥0))) res):G Try.prog E [.code (Qd Try.prog 184)] ⟨(z184b_1 l f)++unds (Try.f184.ntmps - 2),[]⟩ :=
 Qb (n:=400) (evs:=[.v (.int .i64 (idxG (badB f) l))]) (obs:=_) hE Try.func184 Qh (by kernel_rfl) ho hr
theorem f184bW (l:(List Bndl)) (f:Fair) {E:Env} {rv:Bool} (hE:Qf Try.prog 184 (.bool rv) E)
 (h:(((∀ x ∈ l,0≤f.refund∧f.refund≤1000)∧l.length≤9223372036854775807)∧rv=(decide ((idxG (badB f) l)≥0)))):G Try.prog E [.code (Qd Try.prog 184)] ⟨[.rsl (YY l) 0 l.length,.clos 185 [] [.rptr [.int .i64 f.purses,.int .i64 f.boxes,.rsl (rowI f.stock) 0 f.stock.length,.rsl (rowI f.cash) 0 f.cash.length,.rsl (YY f.bundles) 0 f.bundles.length,.int .i64 f.refund,.int .i64 f.band,.int .i64 f.hours] 0]]++unds (Try.f184.ntmps - 2),[]⟩:=by
 obtain ⟨h1,h⟩:=h
 exact QcF l f hE ⟨(Qj Try.func240 (by kernel_rfl) f240bb (idxBad_ok l f h1)),trivial⟩ (AvLe.of_eq (by rw [h]; try rfl))
theorem anyBad_ok (l:List Bndl) (f:Fair) (h:(∀ x ∈ l,0≤f.refund∧f.refund≤1000)∧l.length≤9223372036854775807):Pure Try.prog 184 [.rsl (YY l) 0 l.length,.clos 185 [] [.rptr [.int .i64 f.purses,.int .i64 f.boxes,.rsl (rowI f.stock) 0 f.stock.length,.rsl (rowI f.cash) 0 f.cash.length,.rsl (YY f.bundles) 0 f.bundles.length,.int .i64 f.refund,.int .i64 f.band,.int .i64 f.hours] 0]] (.bool (l.any (badB f))):=Qv Try.func184 f184bb fun E hE =>
 f184bW l f (rv:=l.any (badB f)) hE ⟨h,(VI _ _).symm⟩
theorem f114b:Try.f114.body=some (Qd Try.prog 114):=by kernel_rfl
theorem u114 {a c k:List AV} {r:AV} (h:Pure Try.prog 114 (a++c++k) r):Qe Try.prog (.clos 114 a k) c r:=Qj Try.func114 (by kernel_rfl) f114b h
abbrev VD (f:Fair):List AV:=[.int .i64 f.purses,.int .i64 f.boxes,.rsl (rowI f.stock) 0 f.stock.length,.rsl (rowI f.cash) 0 f.cash.length,.rsl (YY f.bundles) 0 f.bundles.length,.int .i64 f.refund,.int .i64 f.band,.int .i64 f.hours]
abbrev Vp:List AV:=[.rptr [.int .i64 0] 0,.rptr [.int .i64 100000] 0]
abbrev VU:List AV:=[.rptr [.int .i64 0] 0,.rptr [.int .i64 1000000] 0]
abbrev WD (f:Fair):List AV:=[.int .i64 (f.stock.length:Int),.int .i64 1,.int .i64 8]
abbrev Kx (f:Fair):List AV:=[.rsl (rowI f.stock) 0 f.stock.length,.clos 183 [] Vp]
abbrev QaY (f:Fair):List AV:=[.rsl (rowI f.cash) 0 f.cash.length,.clos 183 [] VU]
abbrev z114_7 (f:Fair):List AV:=[.int .i64 f.refund,.int .i64 0,.int .i64 1000]
abbrev z114_8 (f:Fair):List AV:=[.int .i64 f.band,.int .i64 0,.int .i64 1000000]
theorem p114_start_0 (f:Fair) {E:Env} {res:AV} (hE:Qf Try.prog 114 res E) (ho:AllP [Qe Try.prog (.clos 115 [] []) (WD f) (.bool (Qa (f.stock.length:Int) 1 8)),(!(Qa (f.stock.length:Int) 1 8))=true,true=true,true=true,true=true,true=true,true=true,true=true,true=true,true=true,true=true,true=true])
 (hr:AvLe (.int .i64 10) res):G Try.prog E [.code (Qd Try.prog 114)] ⟨[.agg (VD f)]++unds (Try.f114.ntmps - 1),[]⟩ :=
 Qb (n:=400) (evs:=[.v (.bool (Qa (f.stock.length:Int) 1 8)),.b true,.b true,.b true,.b true,.b true,.b true,.b true,.b true,.b true,.b true,.b true]) (obs:=_) hE Try.func114 Qh (by kernel_rfl) ho hr
theorem p114_start_1 (f:Fair) {E:Env} {res:AV} (hE:Qf Try.prog 114 res E) (ho:AllP [Qe Try.prog (.clos 115 [] []) (WD f) (.bool (Qa (f.stock.length:Int) 1 8)),(!(Qa (f.stock.length:Int) 1 8))=false,((f.cash.length:Int) != (f.stock.length:Int))=true,true=true,true=true,true=true,true=true,true=true,true=true,true=true,true=true,true=true])
 (hr:AvLe (.int .i64 10) res):G Try.prog E [.code (Qd Try.prog 114)] ⟨[.agg (VD f)]++unds (Try.f114.ntmps - 1),[]⟩ :=
 Qb (n:=400) (evs:=[.v (.bool (Qa (f.stock.length:Int) 1 8)),.b false,.b true,.b true,.b true,.b true,.b true,.b true,.b true,.b true,.b true,.b true]) (obs:=_) hE Try.func114 Qh (by kernel_rfl) ho hr
theorem p114_start_2 (f:Fair) {E:Env} {res:AV} (hE:Qf Try.prog 114 res E) (ho:AllP [Qe Try.prog (.clos 115 [] []) (WD f) (.bool (Qa (f.stock.length:Int) 1 8)),(!(Qa (f.stock.length:Int) 1 8))=false,((f.cash.length:Int) != (f.stock.length:Int))=false,Qe Try.prog (.clos 115 [] []) [.int .i64 f.purses,.int .i64 0,.int .i64 20] (.bool (Qa f.purses 0 20)),(!(Qa f.purses 0 20))=true,true=true,true=true,true=true,true=true,true=true,true=true,true=true,true=true])
 (hr:AvLe (.int .i64 10) res):G Try.prog E [.code (Qd Try.prog 114)] ⟨[.agg (VD f)]++unds (Try.f114.ntmps - 1),[]⟩ :=
 Qb (n:=400) (evs:=[.v (.bool (Qa (f.stock.length:Int) 1 8)),.b false,.b false,.v (.bool (Qa f.purses 0 20)),.b true,.b true,.b true,.b true,.b true,.b true,.b true,.b true,.b true]) (obs:=_) hE Try.func114 Qh (by kernel_rfl) ho hr
theorem p114_start_3 (f:Fair) {E:Env} {res:AV} (hE:Qf Try.prog 114 res E) (ho:AllP [Qe Try.prog (.clos 115 [] []) (WD f) (.bool (Qa (f.stock.length:Int) 1 8)),(!(Qa (f.stock.length:Int) 1 8))=false,((f.cash.length:Int) != (f.stock.length:Int))=false,Qe Try.prog (.clos 115 [] []) [.int .i64 f.purses,.int .i64 0,.int .i64 20] (.bool (Qa f.purses 0 20)),(!(Qa f.purses 0 20))=false,Qe Try.prog (.clos 115 [] []) [.int .i64 f.boxes,.int .i64 0,.int .i64 12] (.bool (Qa f.boxes 0 12)),(!(Qa f.boxes 0 12))=true,true=true,true=true,true=true,true=true,true=true,true=true,true=true])
 (hr:AvLe (.int .i64 10) res):G Try.prog E [.code (Qd Try.prog 114)] ⟨[.agg (VD f)]++unds (Try.f114.ntmps - 1),[]⟩ :=
 Qb (n:=400) (evs:=[.v (.bool (Qa (f.stock.length:Int) 1 8)),.b false,.b false,.v (.bool (Qa f.purses 0 20)),.b false,.v (.bool (Qa f.boxes 0 12)),.b true,.b true,.b true,.b true,.b true,.b true,.b true,.b true]) (obs:=_) hE Try.func114 Qh (by kernel_rfl) ho hr
theorem p114_start_4 (f:Fair) {E:Env} {res:AV} (hE:Qf Try.prog 114 res E) (ho:AllP [Qe Try.prog (.clos 115 [] []) (WD f) (.bool (Qa (f.stock.length:Int) 1 8)),(!(Qa (f.stock.length:Int) 1 8))=false,((f.cash.length:Int) != (f.stock.length:Int))=false,Qe Try.prog (.clos 115 [] []) [.int .i64 f.purses,.int .i64 0,.int .i64 20] (.bool (Qa f.purses 0 20)),(!(Qa f.purses 0 20))=false,Qe Try.prog (.clos 115 [] []) [.int .i64 f.boxes,.int .i64 0,.int .i64 12] (.bool (Qa f.boxes 0 12)),(!(Qa f.boxes 0 12))=false,(decide ((f.bundles.length:Int) > 6))=true,true=true,true=true,true=true,true=true,true=true,true=true])
 (hr:AvLe (.int .i64 10) res):G Try.prog E [.code (Qd Try.prog 114)] ⟨[.agg (VD f)]++unds (Try.f114.ntmps - 1),[]⟩ :=
 Qb (n:=400) (evs:=[.v (.bool (Qa (f.stock.length:Int) 1 8)),.b false,.b false,.v (.bool (Qa f.purses 0 20)),.b false,.v (.bool (Qa f.boxes 0 12)),.b false,.b true,.b true,.b true,.b true,.b true,.b true,.b true]) (obs:=_) hE Try.func114 Qh (by kernel_rfl) ho hr
theorem p114_start_5 (f:Fair) {E:Env} {res:AV} (hE:Qf Try.prog 114 res E) (ho:AllP [Qe Try.prog (.clos 115 [] []) (WD f) (.bool (Qa (f.stock.length:Int) 1 8)),(!(Qa (f.stock.length:Int) 1 8))=false,((f.cash.length:Int) != (f.stock.length:Int))=false,Qe Try.prog (.clos 115 [] []) [.int .i64 f.purses,.int .i64 0,.int .i64 20] (.bool (Qa f.purses 0 20)),(!(Qa f.purses 0 20))=false,Qe Try.prog (.clos 115 [] []) [.int .i64 f.boxes,.int .i64 0,.int .i64 12] (.bool (Qa f.boxes 0 12)),(!(Qa f.boxes 0 12))=false,(decide ((f.bundles.length:Int) > 6))=false,Qe Try.prog (.clos 182 [] []) [.int .i64 0,.int .i64 100000] (.clos 183 [] Vp),Qe Try.prog (.clos 76 [] []) (Kx f) (.bool (f.stock.any (outB 0 100000))),(f.stock.any (outB 0 100000))=true,true=true,true=true,true=true,true=true,true=true])
 (hr:AvLe (.int .i64 10) res):G Try.prog E [.code (Qd Try.prog 114)] ⟨[.agg (VD f)]++unds (Try.f114.ntmps - 1),[]⟩ :=
 Qb (n:=400) (evs:=[.v (.bool (Qa (f.stock.length:Int) 1 8)),.b false,.b false,.v (.bool (Qa f.purses 0 20)),.b false,.v (.bool (Qa f.boxes 0 12)),.b false,.b false,.v (.clos 183 [] Vp),.v (.bool (f.stock.any (outB 0 100000))),.b true,.b true,.b true,.b true,.b true,.b true]) (obs:=_) hE Try.func114 Qh (by kernel_rfl) ho hr
theorem p114_start_6 (f:Fair) {E:Env} {res:AV} (hE:Qf Try.prog 114 res E) (ho:AllP [Qe Try.prog (.clos 115 [] []) (WD f) (.bool (Qa (f.stock.length:Int) 1 8)),(!(Qa (f.stock.length:Int) 1 8))=false,((f.cash.length:Int) != (f.stock.length:Int))=false,Qe Try.prog (.clos 115 [] []) [.int .i64 f.purses,.int .i64 0,.int .i64 20] (.bool (Qa f.purses 0 20)),(!(Qa f.purses 0 20))=false,Qe Try.prog (.clos 115 [] []) [.int .i64 f.boxes,.int .i64 0,.int .i64 12] (.bool (Qa f.boxes 0 12)),(!(Qa f.boxes 0 12))=false,(decide ((f.bundles.length:Int) > 6))=false,Qe Try.prog (.clos 182 [] []) [.int .i64 0,.int .i64 100000] (.clos 183 [] Vp),Qe Try.prog (.clos 76 [] []) (Kx f) (.bool (f.stock.any (outB 0 100000))),(f.stock.any (outB 0 100000))=false,Qe Try.prog (.clos 182 [] []) [.int .i64 0,.int .i64 1000000] (.clos 183 [] VU),Qe Try.prog (.clos 76 [] []) (QaY f) (.bool (f.cash.any (outB 0 1000000))),(f.cash.any (outB 0 1000000))=true,true=true,true=true,true=true,true=true])
 (hr:AvLe (.int .i64 10) res):G Try.prog E [.code (Qd Try.prog 114)] ⟨[.agg (VD f)]++unds (Try.f114.ntmps - 1),[]⟩ :=
 Qb (n:=400) (evs:=[.v (.bool (Qa (f.stock.length:Int) 1 8)),.b false,.b false,.v (.bool (Qa f.purses 0 20)),.b false,.v (.bool (Qa f.boxes 0 12)),.b false,.b false,.v (.clos 183 [] Vp),.v (.bool (f.stock.any (outB 0 100000))),.b false,.v (.clos 183 [] VU),.v (.bool (f.cash.any (outB 0 1000000))),.b true,.b true,.b true,.b true,.b true]) (obs:=_) hE Try.func114 Qh (by kernel_rfl) ho hr
theorem p114_start_7 (f:Fair) {E:Env} {res:AV} (hE:Qf Try.prog 114 res E) (ho:AllP [Qe Try.prog (.clos 115 [] []) (WD f) (.bool (Qa (f.stock.length:Int) 1 8)),(!(Qa (f.stock.length:Int) 1 8))=false,((f.cash.length:Int) != (f.stock.length:Int))=false,Qe Try.prog (.clos 115 [] []) [.int .i64 f.purses,.int .i64 0,.int .i64 20] (.bool (Qa f.purses 0 20)),(!(Qa f.purses 0 20))=false,Qe Try.prog (.clos 115 [] []) [.int .i64 f.boxes,.int .i64 0,.int .i64 12] (.bool (Qa f.boxes 0 12)),(!(Qa f.boxes 0 12))=false,(decide ((f.bundles.length:Int) > 6))=false,Qe Try.prog (.clos 182 [] []) [.int .i64 0,.int .i64 100000] (.clos 183 [] Vp),Qe Try.prog (.clos 76 [] []) (Kx f) (.bool (f.stock.any (outB 0 100000))),(f.stock.any (outB 0 100000))=false,Qe Try.prog (.clos 182 [] []) [.int .i64 0,.int .i64 1000000] (.clos 183 [] VU),Qe Try.prog (.clos 76 [] []) (QaY f) (.bool (f.cash.any (outB 0 1000000))),(f.cash.any (outB 0 1000000))=false,Qe Try.prog (.clos 115 [] []) (z114_7 f) (.bool (Qa f.refund 0 1000)),(!(Qa f.refund 0 1000))=true,true=true,true=true,true=true])
 (hr:AvLe (.int .i64 10) res):G Try.prog E [.code (Qd Try.prog 114)] ⟨[.agg (VD f)]++unds (Try.f114.ntmps - 1),[]⟩ :=
 Qb (n:=400) (evs:=[.v (.bool (Qa (f.stock.length:Int) 1 8)),.b false,.b false,.v (.bool (Qa f.purses 0 20)),.b false,.v (.bool (Qa f.boxes 0 12)),.b false,.b false,.v (.clos 183 [] Vp),.v (.bool (f.stock.any (outB 0 100000))),.b false,.v (.clos 183 [] VU),.v (.bool (f.cash.any (outB 0 1000000))),.b false,.v (.bool (Qa f.refund 0 1000)),.b true,.b true,.b true,.b true]) (obs:=_) hE Try.func114 Qh (by kernel_rfl) ho hr
theorem p114_start_8 (f:Fair) {E:Env} {res:AV} (hE:Qf Try.prog 114 res E) (ho:AllP [Qe Try.prog (.clos 115 [] []) (WD f) (.bool (Qa (f.stock.length:Int) 1 8)),(!(Qa (f.stock.length:Int) 1 8))=false,((f.cash.length:Int) != (f.stock.length:Int))=false,Qe Try.prog (.clos 115 [] []) [.int .i64 f.purses,.int .i64 0,.int .i64 20] (.bool (Qa f.purses 0 20)),(!(Qa f.purses 0 20))=false,Qe Try.prog (.clos 115 [] []) [.int .i64 f.boxes,.int .i64 0,.int .i64 12] (.bool (Qa f.boxes 0 12)),(!(Qa f.boxes 0 12))=false,(decide ((f.bundles.length:Int) > 6))=false,Qe Try.prog (.clos 182 [] []) [.int .i64 0,.int .i64 100000] (.clos 183 [] Vp),Qe Try.prog (.clos 76 [] []) (Kx f) (.bool (f.stock.any (outB 0 100000))),(f.stock.any (outB 0 100000))=false,Qe Try.prog (.clos 182 [] []) [.int .i64 0,.int .i64 1000000] (.clos 183 [] VU),Qe Try.prog (.clos 76 [] []) (QaY f) (.bool (f.cash.any (outB 0 1000000))),(f.cash.any (outB 0 1000000))=false,Qe Try.prog (.clos 115 [] []) (z114_7 f) (.bool (Qa f.refund 0 1000)),(!(Qa f.refund 0 1000))=false,Qe Try.prog (.clos 115 [] []) (z114_8 f) (.bool (Qa f.band 0 1000000)),(!(Qa f.band 0 1000000))=true,true=true,true=true])
 (hr:AvLe (.int .i64 10) res):G Try.prog E [.code (Qd Try.prog 114)] ⟨[.agg (VD f)]++unds (Try.f114.ntmps - 1),[]⟩ :=
 Qb (n:=400) (evs:=[.v (.bool (Qa (f.stock.length:Int) 1 8)),.b false,.b false,.v (.bool (Qa f.purses 0 20)),.b false,.v (.bool (Qa f.boxes 0 12)),.b false,.b false,.v (.clos 183 [] Vp),.v (.bool (f.stock.any (outB 0 100000))),.b false,.v (.clos 183 [] VU),.v (.bool (f.cash.any (outB 0 1000000))),.b false,.v (.bool (Qa f.refund 0 1000)),.b false,.v (.bool (Qa f.band 0 1000000)),.b true,.b true,.b true]) (obs:=_) hE Try.func114 Qh (by kernel_rfl) ho hr
theorem p114_start_9 (f:Fair) {E:Env} {res:AV} (hE:Qf Try.prog 114 res E) (ho:AllP [Qe Try.prog (.clos 115 [] []) (WD f) (.bool (Qa (f.stock.length:Int) 1 8)),(!(Qa (f.stock.length:Int) 1 8))=false,((f.cash.length:Int) != (f.stock.length:Int))=false,Qe Try.prog (.clos 115 [] []) [.int .i64 f.purses,.int .i64 0,.int .i64 20] (.bool (Qa f.purses 0 20)),(!(Qa f.purses 0 20))=false,Qe Try.prog (.clos 115 [] []) [.int .i64 f.boxes,.int .i64 0,.int .i64 12] (.bool (Qa f.boxes 0 12)),(!(Qa f.boxes 0 12))=false,(decide ((f.bundles.length:Int) > 6))=false,Qe Try.prog (.clos 182 [] []) [.int .i64 0,.int .i64 100000] (.clos 183 [] Vp),Qe Try.prog (.clos 76 [] []) (Kx f) (.bool (f.stock.any (outB 0 100000))),(f.stock.any (outB 0 100000))=false,Qe Try.prog (.clos 182 [] []) [.int .i64 0,.int .i64 1000000] (.clos 183 [] VU),Qe Try.prog (.clos 76 [] []) (QaY f) (.bool (f.cash.any (outB 0 1000000))),(f.cash.any (outB 0 1000000))=false,Qe Try.prog (.clos 115 [] []) (z114_7 f) (.bool (Qa f.refund 0 1000)),(!(Qa f.refund 0 1000))=false,Qe Try.prog (.clos 115 [] []) (z114_8 f) (.bool (Qa f.band 0 1000000)),(!(Qa f.band 0 1000000))=false,Qe Try.prog (.clos 115 [] []) [.int .i64 f.hours,.int .i64 1,.int .i64 1440] (.bool (Qa f.hours 1 1440)),(!(Qa f.hours 1 1440))=true,true=true])
 (hr:AvLe (.int .i64 10) res):G Try.prog E [.code (Qd Try.prog 114)] ⟨[.agg (VD f)]++unds (Try.f114.ntmps - 1),[]⟩ :=
 Qb (n:=400) (evs:=[.v (.bool (Qa (f.stock.length:Int) 1 8)),.b false,.b false,.v (.bool (Qa f.purses 0 20)),.b false,.v (.bool (Qa f.boxes 0 12)),.b false,.b false,.v (.clos 183 [] Vp),.v (.bool (f.stock.any (outB 0 100000))),.b false,.v (.clos 183 [] VU),.v (.bool (f.cash.any (outB 0 1000000))),.b false,.v (.bool (Qa f.refund 0 1000)),.b false,.v (.bool (Qa f.band 0 1000000)),.b false,.v (.bool (Qa f.hours 1 1440)),.b true,.b true]) (obs:=_) hE Try.func114 Qh (by kernel_rfl) ho hr
theorem QcJ (f:Fair) {E:Env} {res:AV} (hE:Qf Try.prog 114 res E) (ho:AllP [Qe Try.prog (.clos 115 [] []) (WD f) (.bool (Qa (f.stock.length:Int) 1 8)),(!(Qa (f.stock.length:Int) 1 8))=false,((f.cash.length:Int) != (f.stock.length:Int))=false,Qe Try.prog (.clos 115 [] []) [.int .i64 f.purses,.int .i64 0,.int .i64 20] (.bool (Qa f.purses 0 20)),(!(Qa f.purses 0 20))=false,Qe Try.prog (.clos 115 [] []) [.int .i64 f.boxes,.int .i64 0,.int .i64 12] (.bool (Qa f.boxes 0 12)),(!(Qa f.boxes 0 12))=false,(decide ((f.bundles.length:Int) > 6))=false,Qe Try.prog (.clos 182 [] []) [.int .i64 0,.int .i64 100000] (.clos 183 [] Vp),Qe Try.prog (.clos 76 [] []) (Kx f) (.bool (f.stock.any (outB 0 100000))),(f.stock.any (outB 0 100000))=false,Qe Try.prog (.clos 182 [] []) [.int .i64 0,.int .i64 1000000] (.clos 183 [] VU),Qe Try.prog (.clos 76 [] []) (QaY f) (.bool (f.cash.any (outB 0 1000000))),(f.cash.any (outB 0 1000000))=false,Qe Try.prog (.clos 115 [] []) (z114_7 f) (.bool (Qa f.refund 0 1000)),(!(Qa f.refund 0 1000))=false,Qe Try.prog (.clos 115 [] []) (z114_8 f) (.bool (Qa f.band 0 1000000)),(!(Qa f.band 0 1000000))=false,Qe Try.prog (.clos 115 [] []) [.int .i64 f.hours,.int .i64 1,.int .i64 1440] (.bool (Qa f.hours 1 1440)),(!(Qa f.hours 1 1440))=false,Qe Try.prog (.clos 184 [] []) [.rsl (YY f.bundles) 0 f.bundles.length,.clos 185 [] [.rptr (VD f) 0]] (.bool (f.bundles.any (badB f))),(f.bundles.any (badB f))=true])
 (hr:AvLe (.int .i64 10) res):G Try.prog E [.code (Qd Try.prog 114)] ⟨[.agg (VD f)]++unds (Try.f114.ntmps - 1),[]⟩ :=
 Qb (n:=400) (evs:=[.v (.bool (Qa (f.stock.length:Int) 1 8)),.b false,.b false,.v (.bool (Qa f.purses 0 20)),.b false,.v (.bool (Qa f.boxes 0 12)),.b false,.b false,.v (.clos 183 [] Vp),.v (.bool (f.stock.any (outB 0 100000))),.b false,.v (.clos 183 [] VU),.v (.bool (f.cash.any (outB 0 1000000))),.b false,.v (.bool (Qa f.refund 0 1000)),.b false,.v (.bool (Qa f.band 0 1000000)),.b false,.v (.bool (Qa f.hours 1 1440)),.b false,.v (.bool (f.bundles.any (badB f))),.b true]) (obs:=_) hE Try.func114 Qh (by kernel_rfl) ho hr
theorem QcI (f:Fair) {E:Env} {res:AV} (hE:Qf Try.prog 114 res E) (ho:AllP [Qe Try.prog (.clos 115 [] []) (WD f) (.bool (Qa (f.stock.length:Int) 1 8)),(!(Qa (f.stock.length:Int) 1 8))=false,((f.cash.length:Int) != (f.stock.length:Int))=false,Qe Try.prog (.clos 115 [] []) [.int .i64 f.purses,.int .i64 0,.int .i64 20] (.bool (Qa f.purses 0 20)),(!(Qa f.purses 0 20))=false,Qe Try.prog (.clos 115 [] []) [.int .i64 f.boxes,.int .i64 0,.int .i64 12] (.bool (Qa f.boxes 0 12)),(!(Qa f.boxes 0 12))=false,(decide ((f.bundles.length:Int) > 6))=false,Qe Try.prog (.clos 182 [] []) [.int .i64 0,.int .i64 100000] (.clos 183 [] Vp),Qe Try.prog (.clos 76 [] []) (Kx f) (.bool (f.stock.any (outB 0 100000))),(f.stock.any (outB 0 100000))=false,Qe Try.prog (.clos 182 [] []) [.int .i64 0,.int .i64 1000000] (.clos 183 [] VU),Qe Try.prog (.clos 76 [] []) (QaY f) (.bool (f.cash.any (outB 0 1000000))),(f.cash.any (outB 0 1000000))=false,Qe Try.prog (.clos 115 [] []) (z114_7 f) (.bool (Qa f.refund 0 1000)),(!(Qa f.refund 0 1000))=false,Qe Try.prog (.clos 115 [] []) (z114_8 f) (.bool (Qa f.band 0 1000000)),(!(Qa f.band 0 1000000))=false,Qe Try.prog (.clos 115 [] []) [.int .i64 f.hours,.int .i64 1,.int .i64 1440] (.bool (Qa f.hours 1 1440)),(!(Qa f.hours 1 1440))=false,Qe Try.prog (.clos 184 [] []) [.rsl (YY f.bundles) 0 f.bundles.length,.clos 185 [] [.rptr (VD f) 0]] (.bool (f.bundles.any (badB f))),(f.bundles.any (badB f))=false])
 (hr:AvLe (.int .i64 0) res):G Try.prog E [.code (Qd Try.prog 114)] ⟨[.agg (VD f)]++unds (Try.f114.ntmps - 1),[]⟩ :=
 Qb (n:=400) (evs:=[.v (.bool (Qa (f.stock.length:Int) 1 8)),.b false,.b false,.v (.bool (Qa f.purses 0 20)),.b false,.v (.bool (Qa f.boxes 0 12)),.b false,.b false,.v (.clos 183 [] Vp),.v (.bool (f.stock.any (outB 0 100000))),.b false,.v (.clos 183 [] VU),.v (.bool (f.cash.any (outB 0 1000000))),.b false,.v (.bool (Qa f.refund 0 1000)),.b false,.v (.bool (Qa f.band 0 1000000)),.b false,.v (.bool (Qa f.hours 1 1440)),.b false,.v (.bool (f.bundles.any (badB f))),.b false]) (obs:=_) hE Try.func114 Qh (by kernel_rfl) ho hr
theorem f114W (f:Fair) {E:Env} {rv:Int} (hE:Qf Try.prog 114 (.int .i64 rv) E)
 (h:(((Qa (f.stock.length:Int) 1 8)=false→rv=10)∧((Qa (f.stock.length:Int) 1 8)=true→((¬ ((f.cash.length:Int)=(f.stock.length:Int))→rv=10)∧((f.cash.length:Int)=(f.stock.length:Int)→(((Qa f.purses 0 20)=false→rv=10)∧((Qa f.purses 0 20)=true→(((Qa f.boxes 0 12)=false→rv=10)∧((Qa f.boxes 0 12)=true→(((f.bundles.length:Int) > 6→rv=10)∧(¬ ((f.bundles.length:Int) > 6)→((f.stock.length≤9223372036854775807)∧(((f.stock.any (outB 0 100000))=true→rv=10)∧((f.stock.any (outB 0 100000))=false→((f.cash.length≤9223372036854775807)∧(((f.cash.any (outB 0 1000000))=true→rv=10)∧((f.cash.any (outB 0 1000000))=false→(((Qa f.refund 0 1000)=false→rv=10)∧((Qa f.refund 0 1000)=true→(((Qa f.band 0 1000000)=false→rv=10)∧((Qa f.band 0 1000000)=true→(((Qa f.hours 1 1440)=false→rv=10)∧((Qa f.hours 1 1440)=true→(((∀ x ∈ f.bundles,0≤f.refund∧f.refund≤1000)∧f.bundles.length≤9223372036854775807)∧(((f.bundles.any (badB f))=true→rv=10)∧((f.bundles.any (badB f))=false→rv=0)))))))))))))))))))))))))):G Try.prog E [.code (Qd Try.prog 114)] ⟨[.agg [.int .i64 f.purses,.int .i64 f.boxes,.rsl (rowI f.stock) 0 f.stock.length,.rsl (rowI f.cash) 0 f.cash.length,.rsl (YY f.bundles) 0 f.bundles.length,.int .i64 f.refund,.int .i64 f.band,.int .i64 f.hours]]++unds (Try.f114.ntmps - 1),[]⟩:=by
 rcases bft (!(Qa (f.stock.length:Int) 1 8)) with hc0 | hc0
 · have h:=h.1 (bnT hc0)
   exact p114_start_0 f hE ⟨(u115 (Qt (f.stock.length:Int) 1 8)),hc0,rfl,rfl,rfl,rfl,rfl,rfl,rfl,rfl,rfl,rfl,trivial⟩ (AvLe.of_eq (by rw [h]; try rfl))
 · have h:=h.2 (bnF hc0)
   rcases bft ((f.cash.length:Int) != (f.stock.length:Int)) with hc1 | hc1
   · have h:=h.1 (bneT hc1)
     exact p114_start_1 f hE ⟨(u115 (Qt (f.stock.length:Int) 1 8)),hc0,hc1,rfl,rfl,rfl,rfl,rfl,rfl,rfl,rfl,rfl,trivial⟩ (AvLe.of_eq (by rw [h]; try rfl))
   · have h:=h.2 (bneF hc1)
     rcases bft (!(Qa f.purses 0 20)) with hc2 | hc2
     · have h:=h.1 (bnT hc2)
       exact p114_start_2 f hE ⟨(u115 (Qt (f.stock.length:Int) 1 8)),hc0,hc1,(u115 (Qt f.purses 0 20)),hc2,rfl,rfl,rfl,rfl,rfl,rfl,rfl,rfl,trivial⟩ (AvLe.of_eq (by rw [h]; try rfl))
     · have h:=h.2 (bnF hc2)
       rcases bft (!(Qa f.boxes 0 12)) with hc3 | hc3
       · have h:=h.1 (bnT hc3)
         exact p114_start_3 f hE ⟨(u115 (Qt (f.stock.length:Int) 1 8)),hc0,hc1,(u115 (Qt f.purses 0 20)),hc2,(u115 (Qt f.boxes 0 12)),hc3,rfl,rfl,rfl,rfl,rfl,rfl,rfl,trivial⟩ (AvLe.of_eq (by rw [h]; try rfl))
       · have h:=h.2 (bnF hc3)
         rcases bft (decide ((f.bundles.length:Int) > 6)) with hc4 | hc4
         · have h:=h.1 (odt hc4)
           exact p114_start_4 f hE ⟨(u115 (Qt (f.stock.length:Int) 1 8)),hc0,hc1,(u115 (Qt f.purses 0 20)),hc2,(u115 (Qt f.boxes 0 12)),hc3,hc4,rfl,rfl,rfl,rfl,rfl,rfl,trivial⟩ (AvLe.of_eq (by rw [h]; try rfl))
         · have h:=h.2 (odf hc4)
           obtain ⟨h1,h⟩:=h
           rcases bft (f.stock.any (outB 0 100000)) with hc5 | hc5
           · have h:=h.1 hc5
             exact p114_start_5 f hE ⟨(u115 (Qt (f.stock.length:Int) 1 8)),hc0,hc1,(u115 (Qt f.purses 0 20)),hc2,(u115 (Qt f.boxes 0 12)),hc3,hc4,(u182 (VY 0 100000)),(Qj Try.func76 (by kernel_rfl) qR (XQ f.stock 0 100000 h1)),hc5,rfl,rfl,rfl,rfl,rfl,trivial⟩ (AvLe.of_eq (by rw [h]; try rfl))
           · have h:=h.2 hc5
             obtain ⟨h2,h⟩:=h
             rcases bft (f.cash.any (outB 0 1000000)) with hc6 | hc6
             · have h:=h.1 hc6
               exact p114_start_6 f hE ⟨(u115 (Qt (f.stock.length:Int) 1 8)),hc0,hc1,(u115 (Qt f.purses 0 20)),hc2,(u115 (Qt f.boxes 0 12)),hc3,hc4,(u182 (VY 0 100000)),(Qj Try.func76 (by kernel_rfl) qR (XQ f.stock 0 100000 h1)),hc5,(u182 (VY 0 1000000)),(Qj Try.func76 (by kernel_rfl) qR (XQ f.cash 0 1000000 h2)),hc6,rfl,rfl,rfl,rfl,trivial⟩ (AvLe.of_eq (by rw [h]; try rfl))
             · have h:=h.2 hc6
               rcases bft (!(Qa f.refund 0 1000)) with hc7 | hc7
               · have h:=h.1 (bnT hc7)
                 exact p114_start_7 f hE ⟨(u115 (Qt (f.stock.length:Int) 1 8)),hc0,hc1,(u115 (Qt f.purses 0 20)),hc2,(u115 (Qt f.boxes 0 12)),hc3,hc4,(u182 (VY 0 100000)),(Qj Try.func76 (by kernel_rfl) qR (XQ f.stock 0 100000 h1)),hc5,(u182 (VY 0 1000000)),(Qj Try.func76 (by kernel_rfl) qR (XQ f.cash 0 1000000 h2)),hc6,(u115 (Qt f.refund 0 1000)),hc7,rfl,rfl,rfl,trivial⟩ (AvLe.of_eq (by rw [h]; try rfl))
               · have h:=h.2 (bnF hc7)
                 rcases bft (!(Qa f.band 0 1000000)) with hc8 | hc8
                 · have h:=h.1 (bnT hc8)
                   exact p114_start_8 f hE ⟨(u115 (Qt (f.stock.length:Int) 1 8)),hc0,hc1,(u115 (Qt f.purses 0 20)),hc2,(u115 (Qt f.boxes 0 12)),hc3,hc4,(u182 (VY 0 100000)),(Qj Try.func76 (by kernel_rfl) qR (XQ f.stock 0 100000 h1)),hc5,(u182 (VY 0 1000000)),(Qj Try.func76 (by kernel_rfl) qR (XQ f.cash 0 1000000 h2)),hc6,(u115 (Qt f.refund 0 1000)),hc7,(u115 (Qt f.band 0 1000000)),hc8,rfl,rfl,trivial⟩ (AvLe.of_eq (by rw [h]; try rfl))
                 · have h:=h.2 (bnF hc8)
                   rcases bft (!(Qa f.hours 1 1440)) with hc9 | hc9
                   · have h:=h.1 (bnT hc9)
                     exact p114_start_9 f hE ⟨(u115 (Qt (f.stock.length:Int) 1 8)),hc0,hc1,(u115 (Qt f.purses 0 20)),hc2,(u115 (Qt f.boxes 0 12)),hc3,hc4,(u182 (VY 0 100000)),(Qj Try.func76 (by kernel_rfl) qR (XQ f.stock 0 100000 h1)),hc5,(u182 (VY 0 1000000)),(Qj Try.func76 (by kernel_rfl) qR (XQ f.cash 0 1000000 h2)),hc6,(u115 (Qt f.refund 0 1000)),hc7,(u115 (Qt f.band 0 1000000)),hc8,(u115 (Qt f.hours 1 1440)),hc9,rfl,trivial⟩ (AvLe.of_eq (by rw [h]; try rfl))
                   · have h:=h.2 (bnF hc9)
                     obtain ⟨h3,h⟩:=h
                     rcases bft (f.bundles.any (badB f)) with hc10 | hc10
                     · have h:=h.1 hc10
                       exact QcJ f hE ⟨(u115 (Qt (f.stock.length:Int) 1 8)),hc0,hc1,(u115 (Qt f.purses 0 20)),hc2,(u115 (Qt f.boxes 0 12)),hc3,hc4,(u182 (VY 0 100000)),(Qj Try.func76 (by kernel_rfl) qR (XQ f.stock 0 100000 h1)),hc5,(u182 (VY 0 1000000)),(Qj Try.func76 (by kernel_rfl) qR (XQ f.cash 0 1000000 h2)),hc6,(u115 (Qt f.refund 0 1000)),hc7,(u115 (Qt f.band 0 1000000)),hc8,(u115 (Qt f.hours 1 1440)),hc9,(Qj Try.func184 (by kernel_rfl) f184bb (anyBad_ok f.bundles f h3)),hc10,trivial⟩ (AvLe.of_eq (by rw [h]; try rfl))
                     · have h:=h.2 hc10
                       exact QcI f hE ⟨(u115 (Qt (f.stock.length:Int) 1 8)),hc0,hc1,(u115 (Qt f.purses 0 20)),hc2,(u115 (Qt f.boxes 0 12)),hc3,hc4,(u182 (VY 0 100000)),(Qj Try.func76 (by kernel_rfl) qR (XQ f.stock 0 100000 h1)),hc5,(u182 (VY 0 1000000)),(Qj Try.func76 (by kernel_rfl) qR (XQ f.cash 0 1000000 h2)),hc6,(u115 (Qt f.refund 0 1000)),hc7,(u115 (Qt f.band 0 1000000)),hc8,(u115 (Qt f.hours 1 1440)),hc9,(Qj Try.func184 (by kernel_rfl) f184bb (anyBad_ok f.bundles f h3)),hc10,trivial⟩ (AvLe.of_eq (by rw [h]; try rfl))
def VL (f:Fair):Bool:=Qa f.stock.length 1 8 && (decide (f.cash.length=f.stock.length) && (Qa f.purses 0 20 && (Qa f.boxes 0 12 && (decide (f.bundles.length≤6) && (!(f.stock.any (outB 0 100000)) && (!(f.cash.any (outB 0 1000000)) && (Qa f.refund 0 1000 && (Qa f.band 0 1000000 && (Qa f.hours 1 1440 && !(f.bundles.any (badB f)))))))))))
def Wc (f:Fair):Int:=if VL f=true then 0 else 10
structure FairSmall (f:Fair):Prop where
 stock:f.stock.length≤1000
 cash:f.cash.length≤1000
 bundles:f.bundles.length≤1000
theorem Yh {f:Fair} (h:VL f=false):Wc f=10:=by unfold Wc; rw [if_neg (by rw [h]; exact Bool.false_ne_true)]
theorem KC (f:Fair) (hs:FairSmall f):Pure Try.prog 114 [.agg [.int .i64 f.purses,.int .i64 f.boxes,.rsl (rowI f.stock) 0 f.stock.length,.rsl (rowI f.cash) 0 f.cash.length,.rsl (YY f.bundles) 0 f.bundles.length,.int .i64 f.refund,.int .i64 f.band,.int .i64 f.hours]] (.int .i64 (Wc f)):=Qv Try.func114 f114b fun E hE=>by
 have s1:=hs.stock
 have s2:=hs.cash
 have s3:=hs.bundles
 refine f114W f (rv:=Wc f) hE ⟨fun h1=>Yh ?_,fun h1=>⟨fun h2=>Yh ?_,fun h2=>⟨fun h3=>Yh ?_,fun h3=>⟨fun h4=>Yh ?_,fun h4=>⟨fun h5=>Yh ?_,fun h5=>⟨by omega,fun h6=>Yh ?_,fun h6=>⟨by omega,fun h7=>Yh ?_,fun h7=>⟨fun h8=>Yh ?_,fun h8=>⟨fun h9=>Yh ?_,fun h9=>⟨fun h10=>Yh ?_,fun h10=>⟨⟨fun x _=>?_,by omega⟩,fun h11=>Yh ?_,fun h11=>?_⟩⟩⟩⟩⟩⟩⟩⟩⟩⟩⟩
 · unfold VL; rw [h1]; rfl
 · unfold VL; rw [decide_eq_false (show ¬ f.cash.length=f.stock.length by omega),Bool.false_and,Bool.and_false]
 · unfold VL; rw [h3]; simp
 · unfold VL; rw [h4]; simp
 · unfold VL; rw [decide_eq_false (show ¬ f.bundles.length≤6 by omega)]; simp
 · unfold VL; rw [h6]; simp
 · unfold VL; rw [h7]; simp
 · unfold VL; rw [h8]; simp
 · unfold VL; rw [h9]; simp
 · unfold VL; rw [h10]; simp
 · exact QH.1 h8
 · unfold VL; rw [h11]; simp
 · unfold Wc
   rw [if_pos]
   unfold VL
   rw [h1,h3,h4,h6,h7,h8,h9,h10,h11,decide_eq_true (show f.cash.length=f.stock.length by omega),decide_eq_true (show f.bundles.length≤6 by omega)]; rfl
end Go.Proofs.Ytemklbioijmjiaa
namespace Go.Proofs.Ytemklbioijmjiaa
open Go Ax
open Go.Proofs
abbrev NN:Int:=1152921504606846976
/-- The prices so far. -/
def LP (f:Nat→Int) (j:Nat):List Int:=(List.range 1008).map fun i=>if i<j then f i else NN
theorem QbG {f:Nat→Int} {j:Nat}:(LP f j).length=1008:=by simp [LP]
theorem VO {f:Nat→Int} {j i:Nat} (h:i<1008):(LP f j)[i]?=some (if i<j then f i else NN):=by
 unfold LP; rw [List.getElem?_map,List.getElem?_range h]; rfl
theorem LP_set {f:Nat→Int} {j:Nat} (h:j<1008):(LP f j).set j (f j)=LP f (j+1):=by
 refine List.ext_getElem? fun i=>?_
 by_cases hi:i<1008
 · rw [VO hi]
   by_cases e:j=i
   · subst e
     rw [List.getElem?_set_self (by rw [QbG]; omega),if_pos (by omega)]
   · rw [List.getElem?_set_ne e,VO hi]
     by_cases c:i<j
     · rw [if_pos c,if_pos (by omega)]
     · rw [if_neg c,if_neg (by omega)]
 · rw [List.getElem?_eq_none (by rw [List.length_set,QbG]; omega),List.getElem?_eq_none (by rw [QbG]; omega)]
theorem LP_zero {f:Nat→Int}:List.replicate 1008 NN=LP f 0:=by
 refine List.ext_getElem? fun i=>?_
 by_cases hi:i<1008
 · rw [VO hi,List.getElem?_replicate,if_pos hi,if_neg (by omega)]
 · rw [List.getElem?_eq_none (by simp; omega),List.getElem?_eq_none (by rw [QbG]; omega)]
def c1 (t:Nat):Int:=if t % 6=0 then 1000*((t / 6:Nat):Int) else NN
def c0 (t:Nat):Int:=1000*((t / 6:Nat):Int)+200*((t % 6:Nat):Int)
def r2:List Int:=(List.replicate 1008 NN).set 0 0
theorem r2_get {j:Nat} (h:j<1008):r2[j]?=some (if j=0 then 0 else NN):=by
 unfold r2
 by_cases e:j=0
 · subst e; rw [List.getElem?_set_self (by simp),if_pos rfl]
 · rw [List.getElem?_set_ne (by omega),List.getElem?_replicate,if_pos h,if_neg e]
theorem qX {t:Nat} (h:t<1008) (h6:t % 6=0):c1 t=1000*((t / 6:Nat):Int)∧0≤c1 t∧c1 t≤200000:=by
 unfold c1; rw [if_pos h6]; omega
theorem Qau {t:Nat} (h6:¬ t % 6=0):c1 t=NN:=by unfold c1; rw [if_neg h6]
theorem c0_bd {t:Nat} (h:t<1008):0≤c0 t∧c0 t≤200000:=by unfold c0; omega
theorem c0_step {j:Nat} (h0:1≤j) (h:j<1008):iMin (c1 j) (c0 (j - 1)+200)=c0 j:=by
 unfold iMin
 by_cases h6:j % 6=0
 · obtain ⟨e,-,-⟩:=qX h h6
   rw [e]
   unfold c0
   rw [if_neg (by omega)]; omega
 · rw [Qau h6]
   unfold c0 NN
   rw [if_pos (by omega)]; omega
theorem c1_step {j:Nat} (h0:6≤j) (h:j<1008) (h6:(j - 6) % 6=0):iMin NN (c1 (j - 6)+1000)=c1 j:=by
 obtain ⟨e,-,-⟩:=qX (t:=j - 6) (by omega) h6
 obtain ⟨e',-,-⟩:=qX (t:=j) (by omega) (by omega)
 rw [e,e']
 unfold iMin NN
 rw [if_pos (by omega)]; omega
theorem f186b:Try.f186.body=some (Qd Try.prog 186):=by kernel_rfl
theorem u186 {a c k:List AV} {r:AV} (h:Pure Try.prog 186 (a++c++k) r):Qe Try.prog (.clos 186 a k) c r:=Qj Try.func186 (by kernel_rfl) f186b h
def qU (P:Program):List Item:=kAt 400 [.code (Qd P 186)] [.b true,.b true,.b true,.b false,.b true,.b false,.b true,.stop]
def yT (v4:List Int) (v6:List Int) (j:Nat) (v2:List Int) (g4:Nat) (g6:Nat) (g2:Nat):St:=⟨([.rsl [.int .i64 1,.int .i64 200,.int .i64 6,.int .i64 1000] 0 2,.int .i64 7,J,J,J,J,.int .i64 1007,.sl 0 0 0 3 1,J,.int .i64 0]++jj 43 ([.int .i64 (((List.replicate (Int.toNat (1008:Int)) (1152921504606846976:Int)).length:Nat):Int),.int .i64 (j:Int)]++Js 163)),[⟨true,0,1,false,[.sl 2 g2 0 v2.length 1,.sl 4 g4 0 v4.length 1,.sl 6 g6 0 v6.length 1],true⟩,⟨false,1,1,true,[],false⟩,⟨true,g2,1,true,(rowI v2),true⟩,⟨false,1,1,true,[],false⟩,⟨true,g4,1,true,(rowI v4),true⟩,⟨false,1,1,true,[],false⟩,⟨true,g6,1,true,(rowI v6),true⟩]⟩
def Qbv (E:Env) (v4:List Int) (v6:List Int) (j:Nat) (v2:List Int):Prop:=∀ g4 g6 g2:Nat,G Try.prog E (qU Try.prog) (yT v4 v6 j v2 g4 g6 g2)
def yU (P:Program):List Item:=kAt 400 [.code (Qd P 186)] [.b true,.b true,.b true,.b false,.b true,.b false,.b true,.b false,.b false,.stop]
def f186S3 (v2:List Int) (v4:List Int) (v6:List Int) (t:Nat) (tokens:Nat) (g2:Nat) (g4:Nat) (g6:Nat):St:=⟨([.rsl [.int .i64 1,.int .i64 200,.int .i64 6,.int .i64 1000] 0 2]++jj 5 ([.int .i64 1007,.sl 0 0 0 3 1,J,J,J,J,.int .i64 (tokens:Int),.int .i64 (t:Int)]++Js 204)),[⟨true,0,1,false,[.sl 2 g2 0 v2.length 1,.sl 4 g4 0 v4.length 1,.sl 6 g6 0 v6.length 1],true⟩,⟨false,1,1,true,[],false⟩,⟨true,g2,1,true,(rowI v2),true⟩,⟨false,1,1,true,[],false⟩,⟨true,g4,1,true,(rowI v4),true⟩,⟨false,1,1,true,[],false⟩,⟨true,g6,1,true,(rowI v6),true⟩]⟩
def f186G3 (E:Env) (v2:List Int) (v4:List Int) (v6:List Int) (t:Nat) (tokens:Nat):Prop:=∀ g2 g4 g6:Nat,G Try.prog E (yU Try.prog) (f186S3 v2 v4 v6 t tokens g2 g4 g6)
def Qai (P:Program):List Item:=kAt 400 [.code (Qd P 186)] [.b true,.b true,.b true,.b false,.b true,.b false,.b true,.b false,.b false,.b false,.b false,.b true,.stop]
def f186S5 (price:Int) (tokens:Int) (left:Int) (v2:List Int) (v4:List Int) (v6:List Int) (v7_0:Nat) (g2:Nat) (g4:Nat) (g6:Nat):St:=⟨([J,J,J,J,.sl 7 0 0 2 1,.int .i64 price,J,.sl 0 0 0 3 1,J,J,J,J,.int .i64 tokens,J,.int .i64 0,.ptr 8 0 0,.int .i64 left]++jj 133 ([.rsl [.int .i64 1,.int .i64 200,.int .i64 6,.int .i64 1000] 0 2,.int .i64 2,.int .i64 0]++Js 65)),[⟨true,0,1,false,[.sl 2 g2 0 v2.length 1,.sl 4 g4 0 v4.length 1,.sl 6 g6 0 v6.length 1],true⟩,⟨false,1,1,true,[],false⟩,⟨true,g2,1,true,(rowI v2),true⟩,⟨false,1,1,true,[],false⟩,⟨true,g4,1,true,(rowI v4),true⟩,⟨false,1,1,true,[],false⟩,⟨true,g6,1,true,(rowI v6),true⟩,⟨true,0,1,true,[.int .i64 (v7_0:Int),.int .i64 0],true⟩,⟨true,0,1,true,[.int .i64 1,.int .i64 200],false⟩]⟩
def f186G5 (E:Env) (price:Int) (tokens:Int) (left:Int) (v2:List Int) (v4:List Int) (v6:List Int) (v7_0:Nat):Prop:=∀ g2 g4 g6:Nat,G Try.prog E (Qai Try.prog) (f186S5 price tokens left v2 v4 v6 v7_0 g2 g4 g6)
def YB (P:Program):List Item:=kAt 400 [.code (Qd P 186)] [.b true,.b true,.b true,.b false,.b true,.stop]
def Yz (v6:List Int) (j:Nat) (v4:List Int) (g6:Nat) (g4:Nat):St:=⟨([.rsl [.int .i64 1,.int .i64 200,.int .i64 6,.int .i64 1000] 0 2,.int .i64 7,J,J,J,J,.int .i64 1007,.sl 0 0 0 3 1,J,.int .i64 1]++jj 43 ([.int .i64 (((List.replicate (Int.toNat (1008:Int)) (1152921504606846976:Int)).length:Nat):Int),.int .i64 (j:Int)]++Js 163)),[⟨true,0,1,false,[.sl 2 0 0 ((List.replicate (Int.toNat (1008:Int)) (1152921504606846976:Int)).length) 1,.sl 4 g4 0 v4.length 1,.sl 6 g6 0 v6.length 1],true⟩,⟨false,1,1,true,[],false⟩,⟨true,0,1,true,(rowI (List.replicate (Int.toNat (1008:Int)) (1152921504606846976:Int))),true⟩,⟨false,1,1,true,[],false⟩,⟨true,g4,1,true,(rowI v4),true⟩,⟨false,1,1,true,[],false⟩,⟨true,g6,1,true,(rowI v6),true⟩]⟩
def Wd (E:Env) (v6:List Int) (j:Nat) (v4:List Int):Prop:=∀ g6 g4:Nat,G Try.prog E (YB Try.prog) (Yz v6 j v4 g6 g4)
def YA (P:Program):List Item:=kAt 400 [.code (Qd P 186)] [.b true,.b true,.b true,.b false,.b true,.b false,.b true,.b false,.b false,.b false,.b false,.b true,.b false,.b true,.stop]
def WP (price:Int) (tokens:Int) (left:Int) (v2:List Int) (v4:List Int) (v6:List Int) (v7_0:Nat) (v7_1:Nat) (g2:Nat) (g4:Nat) (g6:Nat):St:=⟨([J,J,J,J,.sl 7 0 0 2 1,.int .i64 price,J,.sl 0 0 0 3 1,J,J,J,J,.int .i64 tokens,J,.int .i64 1,.ptr 9 0 0,.int .i64 left]++jj 133 ([.rsl [.int .i64 1,.int .i64 200,.int .i64 6,.int .i64 1000] 0 2,.int .i64 2,.int .i64 1]++Js 65)),[⟨true,0,1,false,[.sl 2 g2 0 v2.length 1,.sl 4 g4 0 v4.length 1,.sl 6 g6 0 v6.length 1],true⟩,⟨false,1,1,true,[],false⟩,⟨true,g2,1,true,(rowI v2),true⟩,⟨false,1,1,true,[],false⟩,⟨true,g4,1,true,(rowI v4),true⟩,⟨false,1,1,true,[],false⟩,⟨true,g6,1,true,(rowI v6),true⟩,⟨true,0,1,true,[.int .i64 (v7_0:Int),.int .i64 (v7_1:Int)],true⟩,⟨true,0,1,true,[.int .i64 1,.int .i64 200],false⟩,⟨true,0,1,true,[.int .i64 6,.int .i64 1000],false⟩]⟩
def Vw (E:Env) (price:Int) (tokens:Int) (left:Int) (v2:List Int) (v4:List Int) (v6:List Int) (v7_0:Nat) (v7_1:Nat):Prop:=∀ g2 g4 g6:Nat,G Try.prog E (YA Try.prog) (WP price tokens left v2 v4 v6 v7_0 v7_1 g2 g4 g6)
abbrev QaW (g2:Nat) (v2:List Int) (g4:Nat) (v4:List Int) (g6:Nat) (v6:List Int):List AV:=[.sl 2 g2 0 v2.length 1,.sl 4 g4 0 v4.length 1,.sl 6 g6 0 v6.length 1]
abbrev z186_1 (g2:Nat) (v2:List Int) (g4:Nat) (v4:List Int) (g6:Nat) (v6:List Int) (v7_0:Nat):List Blk:=[⟨true,0,1,false,(QaW g2 v2 g4 v4 g6 v6),true⟩,⟨false,1,1,true,[],false⟩,⟨true,g2,1,true,(rowI v2),true⟩,⟨false,1,1,true,[],false⟩,⟨true,g4,1,true,(rowI v4),true⟩,⟨false,1,1,true,[],false⟩,⟨true,g6,1,true,(rowI v6),true⟩,⟨true,0,1,true,[.int .i64 (v7_0:Int),.int .i64 0],true⟩,⟨true,0,1,true,[.int .i64 1,.int .i64 200],false⟩,⟨true,0,1,true,[.int .i64 6,.int .i64 1000],false⟩]
abbrev WI:List AV:=[.int .i64 1,.int .i64 200,.int .i64 6,.int .i64 1000]
abbrev z186_3 (g2:Nat) (v2:List Int) (g4:Nat) (v4:List Int) (g6:Nat) (v6:List Int):List Blk:=[⟨true,0,1,false,(QaW g2 v2 g4 v4 g6 v6),true⟩,⟨false,1,1,true,[],false⟩,⟨true,g2,1,true,(rowI v2),true⟩,⟨false,1,1,true,[],false⟩,⟨true,g4,1,true,(rowI v4),true⟩,⟨false,1,1,true,[],false⟩,⟨true,g6,1,true,(rowI v6),true⟩]
abbrev z186_4:List AV:=[.rsl WI 0 2,.int .i64 2,.int .i64 1]++Js 65
theorem p186_start_0 (e:Int) {E:Env} {rv:AV} (hE:Qf Try.prog 186 rv E) (ho:AllP [InR .i64 1007,InR .i64 3,(0:Int)≤3∧(3:Int)≤3∧(3:Int)≤2147483648,0=0,true=true,(∀ k,slOf 0 k (.sl k 0 0 1 1)=true),InR .i64 1008,QO Try.prog (.clos 55 [] []) [.rsl [.int .i64 1152921504606846976] 0 1,.int .i64 1008] [] (.sl 0 0 0 ((List.replicate (Int.toNat (1008:Int)) (1152921504606846976:Int)).length) 1) [⟨true,0,1,true,(rowI (List.replicate (Int.toNat (1008:Int)) (1152921504606846976:Int))),true⟩],(0:Int)≤0∧(0:Int)<((3:Nat):Int),0=0,1≤3,0=0,InR .i64 1,true=true,(∀ k,slOf 0 k (.sl k 0 0 1 1)=true),InR .i64 1008,QO Try.prog (.clos 55 [] []) [.rsl [.int .i64 1152921504606846976] 0 1,.int .i64 1008] [] (.sl 0 0 0 ((List.replicate (Int.toNat (1008:Int)) (1152921504606846976:Int)).length) 1) [⟨true,0,1,true,(rowI (List.replicate (Int.toNat (1008:Int)) (1152921504606846976:Int))),true⟩],(0:Int)≤1∧(1:Int)<((3:Nat):Int),0=0,2≤3,0=0,InR .i64 2,true=true,(∀ k,slOf 0 k (.sl k 0 0 1 1)=true),InR .i64 1008,QO Try.prog (.clos 55 [] []) [.rsl [.int .i64 1152921504606846976] 0 1,.int .i64 1008] [] (.sl 0 0 0 ((List.replicate (Int.toNat (1008:Int)) (1152921504606846976:Int)).length) 1) [⟨true,0,1,true,(rowI (List.replicate (Int.toNat (1008:Int)) (1152921504606846976:Int))),true⟩],(0:Int)≤2∧(2:Int)<((3:Nat):Int),0=0,3≤3,0=0,InR .i64 3,false=false,(0:Int)≤2∧(2:Int)<((3:Nat):Int),0=0,0=0,(0:Int)≤0∧(0:Int)<(((List.replicate (Int.toNat (1008:Int)) (1152921504606846976:Int)).length:Nat):Int),0=0,((0+0*1)+1)≤(rowI (List.replicate (Int.toNat (1008:Int)) (1152921504606846976:Int))).length,0=0,InR .i64 1,true=true,(0:Int)≤1∧(1:Int)<((3:Nat):Int),0=0,0=0,0=0])
 (hg:G Try.prog E (YB Try.prog) ⟨([.rsl WI 0 2,.int .i64 7,J,J,J,J,.int .i64 1007,.sl 0 0 0 3 1,J,.int .i64 1]++jj 43 ([.int .i64 (((List.replicate (Int.toNat (1008:Int)) (1152921504606846976:Int)).length:Nat):Int),.int .i64 0]++Js 163)),[⟨true,0,1,false,[.sl 2 0 0 ((List.replicate (Int.toNat (1008:Int)) (1152921504606846976:Int)).length) 1,.sl 4 0 0 ((List.replicate (Int.toNat (1008:Int)) (1152921504606846976:Int)).length) 1,.sl 6 0 0 ((List.replicate (Int.toNat (1008:Int)) (1152921504606846976:Int)).length) 1],true⟩,⟨false,1,1,true,[],false⟩,⟨true,0,1,true,(rowI (List.replicate (Int.toNat (1008:Int)) (1152921504606846976:Int))),true⟩,⟨false,1,1,true,[],false⟩,⟨true,0,1,true,(rowI (List.replicate (Int.toNat (1008:Int)) (1152921504606846976:Int))),true⟩,⟨false,1,1,true,[],false⟩,⟨true,0,1,true,(QT (rowI (List.replicate (Int.toNat (1008:Int)) (1152921504606846976:Int))) (0+0*1) [.int .i64 0]),true⟩]⟩):G Try.prog E [.code (Qd Try.prog 186)] ⟨[.rsl WI 0 2,.int .i64 7]++unds (Try.f186.ntmps - 2),[]⟩ :=
 Ql (n:=400) (ds:=[]) (cs:=[]) (live:=[0,1,6,7,9,53,54]) (m:=7) (evs:=[.b true,.vn .junk,.lent [] (.sl 0 0 0 ((List.replicate (Int.toNat (1008:Int)) (1152921504606846976:Int)).length) 1) [⟨true,0,1,true,(rowI (List.replicate (Int.toNat (1008:Int)) (1152921504606846976:Int))),true⟩],.b true,.vn .junk,.lent [] (.sl 0 0 0 ((List.replicate (Int.toNat (1008:Int)) (1152921504606846976:Int)).length) 1) [⟨true,0,1,true,(rowI (List.replicate (Int.toNat (1008:Int)) (1152921504606846976:Int))),true⟩],.b true,.vn .junk,.lent [] (.sl 0 0 0 ((List.replicate (Int.toNat (1008:Int)) (1152921504606846976:Int)).length) 1) [⟨true,0,1,true,(rowI (List.replicate (Int.toNat (1008:Int)) (1152921504606846976:Int))),true⟩],.b false,.b true,.stop]) (obs:=_) hE.2.1 (hE.nogh _) Qh (by kernel_rfl) ho hg
theorem f186W {E:Env} {rv:((List Int) × Int)} (hE:Qf Try.prog 186 (.tup [.rsl (rowI rv.1) 0 rv.1.length,.int .i64 rv.2]) E)
 (h:(((1:Int)≤(1008:Int)∧(1008:Int)≤2147483648)∧(((1:Int)≤(1008:Int)∧(1008:Int)≤2147483648)∧(((1:Int)≤(1008:Int)∧(1008:Int)≤2147483648)∧(∃ e:Int,(List.replicate (Int.toNat (1008:Int)) (1152921504606846976:Int))[0]?=some e∧Wd E ((List.replicate (Int.toNat (1008:Int)) (1152921504606846976:Int)).set 0 0) 0 (List.replicate (Int.toNat (1008:Int)) (1152921504606846976:Int))))))):G Try.prog E [.code (Qd Try.prog 186)] ⟨[.rsl [.int .i64 1,.int .i64 200,.int .i64 6,.int .i64 1000] 0 2,.int .i64 7]++unds (Try.f186.ntmps - 2),[]⟩:=by
 obtain ⟨h1,h⟩:=h
 obtain ⟨h2,h⟩:=h
 obtain ⟨h3,h⟩:=h
 obtain ⟨e,h4,h⟩:=h
 refine p186_start_0 e hE ⟨(⟨by decide,by decide⟩),(⟨by decide,by decide⟩),(⟨by decide,by decide,by decide⟩),rfl,rfl,(fun k=>by simp [slOf]),(⟨by decide,by decide⟩),(Qq Try.func55 (by kernel_rfl) f55b (KF (1152921504606846976:Int) (1008:Int) h1)),(⟨by decide,by decide⟩),rfl,(by decide),rfl,(⟨by decide,by decide⟩),rfl,(fun k=>by simp [slOf]),(⟨by decide,by decide⟩),(Qq Try.func55 (by kernel_rfl) f55b (KF (1152921504606846976:Int) (1008:Int) h2)),(⟨by decide,by decide⟩),rfl,(by decide),rfl,(⟨by decide,by decide⟩),rfl,(fun k=>by simp [slOf]),(⟨by decide,by decide⟩),(Qq Try.func55 (by kernel_rfl) f55b (KF (1152921504606846976:Int) (1008:Int) h3)),(⟨by decide,by decide⟩),rfl,(by decide),rfl,(⟨by decide,by decide⟩),rfl,(⟨by decide,by decide⟩),rfl,rfl,(QE h4),rfl,(rf cI 1 0 1 h4),rfl,(⟨by decide,by decide⟩),rfl,(⟨by decide,by decide⟩),rfl,rfl,rfl,trivial⟩ ?_
 have h:=(h 0 0)
 simp only [Yz,List.length_set] at h
 rw [(show QT (rowI (List.replicate (Int.toNat (1008:Int)) (1152921504606846976:Int))) (0+0*1) [.int .i64 0]=rowI ((List.replicate (Int.toNat (1008:Int)) (1152921504606846976:Int)).set 0 0) from Xs cI (s:=1) (k:=0) (fun _=>rfl) h4 rfl (by first | decide | simp))]
 exact h
theorem p186_1002_0 (v6:List Int) (j:Nat) (v4:List Int) (g6:Nat) (g4:Nat) (e:Int) (e1:Int) (e2:Int) (e3:Int) {E:Env} {rv:AV} (hE:Qf Try.prog 186 rv E) (ho:AllP [(decide ((j:Int)<(((List.replicate (Int.toNat (1008:Int)) (1152921504606846976:Int)).length:Nat):Int)))=true,(0:Int)≤1∧(1:Int)<((3:Nat):Int),0=0,0=0,InR .i64 2,(0:Int)≤2∧(2:Int)<((3:Nat):Int),0=0,0=0,0≤(j:Int)∧(j:Int)<(v6.length:Int),g6=g6,g6=g6,((rowI v6).drop (0+(Int.toNat (j:Int))*1)).take 1=[.int .i64 e],0≤(j:Int)∧(j:Int)<(v4.length:Int),g4=g4,((0+(Int.toNat (j:Int))*1)+1)≤(rowI v4).length,g4=g4,(0:Int)≤1∧(1:Int)<((2:Nat):Int),InR .i64 ((j:Int) - 6),(decide (((j:Int) - 6)≥0))=true,(0:Int)≤1∧(1:Int)<((3:Nat):Int),0=0,0=0,0≤((j:Int) - 6)∧((j:Int) - 6)<(v4.length:Int),g4=g4,g4=g4,((QT (rowI v4) (0+(Int.toNat (j:Int))*1) [.int .i64 e]).drop (0+(Int.toNat ((j:Int) - 6))*1)).take 1=[.int .i64 e2],(decide (e2<1152921504606846976))=true,(0:Int)≤1∧(1:Int)<((3:Nat):Int),0=0,0=0,(0:Int)≤1∧(1:Int)<((3:Nat):Int),0=0,0=0,0≤(j:Int)∧(j:Int)<(v4.length:Int),g4=g4,g4=g4,((QT (rowI v4) (0+(Int.toNat (j:Int))*1) [.int .i64 e]).drop (0+(Int.toNat (j:Int))*1)).take 1=[.int .i64 e3],(0:Int)≤1∧(1:Int)<((3:Nat):Int),0=0,0=0,0≤((j:Int) - 6)∧((j:Int) - 6)<(v4.length:Int),g4=g4,g4=g4,((QT (rowI v4) (0+(Int.toNat (j:Int))*1) [.int .i64 e]).drop (0+(Int.toNat ((j:Int) - 6))*1)).take 1=[.int .i64 e2],(0:Int)≤1∧(1:Int)<((2:Nat):Int),InR .i64 (e2+1000),0≤(j:Int)∧(j:Int)<(v4.length:Int),g4=g4,((0+(Int.toNat (j:Int))*1)+1)≤(QT (rowI v4) (0+(Int.toNat (j:Int))*1) [.int .i64 e]).length,g4=g4,InR .i64 ((j:Int)+1)])
 (hg:G Try.prog E (YB Try.prog) ⟨([.rsl [.int .i64 1,.int .i64 200,.int .i64 6,.int .i64 1000] 0 2,.int .i64 7,J,J,J,J,.int .i64 1007,.sl 0 0 0 3 1,J,.int .i64 1]++jj 43 ([.int .i64 (((List.replicate (Int.toNat (1008:Int)) (1152921504606846976:Int)).length:Nat):Int),.int .i64 ((j:Int)+1)]++Js 163)),[⟨true,0,1,false,[.sl 2 0 0 ((List.replicate (Int.toNat (1008:Int)) (1152921504606846976:Int)).length) 1,.sl 4 g4 0 v4.length 1,.sl 6 g6 0 v6.length 1],true⟩,⟨false,1,1,true,[],false⟩,⟨true,0,1,true,(rowI (List.replicate (Int.toNat (1008:Int)) (1152921504606846976:Int))),true⟩,⟨false,1,1,true,[],false⟩,⟨true,g4,1,true,(QT (QT (rowI v4) (0+(Int.toNat (j:Int))*1) [.int .i64 e]) (0+(Int.toNat (j:Int))*1) [.int .i64 (iMin e3 (e2+1000))]),true⟩,⟨false,1,1,true,[],false⟩,⟨true,g6,1,true,(rowI v6),true⟩]⟩):G Try.prog E (YB Try.prog) (Yz v6 j v4 g6 g4) :=
 Ql (n:=400) (ds:=[]) (cs:=[]) (live:=[0,1,6,7,9,53,54]) (m:=7) (evs:=[.b true,.auto,.auto,.ld (.int .i64 e),.b true,.auto,.ld (.int .i64 e2),.b true,.auto,.auto,.ld (.int .i64 e3),.auto,.ld (.int .i64 e2),.stop]) (obs:=_) hE.2.1 (hE.nogh _) Qh (by kernel_rfl) ho hg
theorem p186_1002_1 (v6:List Int) (j:Nat) (v4:List Int) (g6:Nat) (g4:Nat) (e:Int) (e1:Int) (e2:Int) {E:Env} {rv:AV} (hE:Qf Try.prog 186 rv E) (ho:AllP [(decide ((j:Int)<(((List.replicate (Int.toNat (1008:Int)) (1152921504606846976:Int)).length:Nat):Int)))=true,(0:Int)≤1∧(1:Int)<((3:Nat):Int),0=0,0=0,InR .i64 2,(0:Int)≤2∧(2:Int)<((3:Nat):Int),0=0,0=0,0≤(j:Int)∧(j:Int)<(v6.length:Int),g6=g6,g6=g6,((rowI v6).drop (0+(Int.toNat (j:Int))*1)).take 1=[.int .i64 e],0≤(j:Int)∧(j:Int)<(v4.length:Int),g4=g4,((0+(Int.toNat (j:Int))*1)+1)≤(rowI v4).length,g4=g4,(0:Int)≤1∧(1:Int)<((2:Nat):Int),InR .i64 ((j:Int) - 6),(decide (((j:Int) - 6)≥0))=true,(0:Int)≤1∧(1:Int)<((3:Nat):Int),0=0,0=0,0≤((j:Int) - 6)∧((j:Int) - 6)<(v4.length:Int),g4=g4,g4=g4,((QT (rowI v4) (0+(Int.toNat (j:Int))*1) [.int .i64 e]).drop (0+(Int.toNat ((j:Int) - 6))*1)).take 1=[.int .i64 e2],(decide (e2<1152921504606846976))=false,InR .i64 ((j:Int)+1)])
 (hg:G Try.prog E (YB Try.prog) ⟨([.rsl [.int .i64 1,.int .i64 200,.int .i64 6,.int .i64 1000] 0 2,.int .i64 7,J,J,J,J,.int .i64 1007,.sl 0 0 0 3 1,J,.int .i64 1]++jj 43 ([.int .i64 (((List.replicate (Int.toNat (1008:Int)) (1152921504606846976:Int)).length:Nat):Int),.int .i64 ((j:Int)+1)]++Js 163)),[⟨true,0,1,false,[.sl 2 0 0 ((List.replicate (Int.toNat (1008:Int)) (1152921504606846976:Int)).length) 1,.sl 4 g4 0 v4.length 1,.sl 6 g6 0 v6.length 1],true⟩,⟨false,1,1,true,[],false⟩,⟨true,0,1,true,(rowI (List.replicate (Int.toNat (1008:Int)) (1152921504606846976:Int))),true⟩,⟨false,1,1,true,[],false⟩,⟨true,g4,1,true,(QT (rowI v4) (0+(Int.toNat (j:Int))*1) [.int .i64 e]),true⟩,⟨false,1,1,true,[],false⟩,⟨true,g6,1,true,(rowI v6),true⟩]⟩):G Try.prog E (YB Try.prog) (Yz v6 j v4 g6 g4) :=
 Ql (n:=400) (ds:=[]) (cs:=[]) (live:=[0,1,6,7,9,53,54]) (m:=7) (evs:=[.b true,.auto,.auto,.ld (.int .i64 e),.b true,.auto,.ld (.int .i64 e2),.b false,.stop]) (obs:=_) hE.2.1 (hE.nogh _) Qh (by kernel_rfl) ho hg
theorem p186_1002_2 (v6:List Int) (j:Nat) (v4:List Int) (g6:Nat) (g4:Nat) (e:Int) (e1:Int) {E:Env} {rv:AV} (hE:Qf Try.prog 186 rv E) (ho:AllP [(decide ((j:Int)<(((List.replicate (Int.toNat (1008:Int)) (1152921504606846976:Int)).length:Nat):Int)))=true,(0:Int)≤1∧(1:Int)<((3:Nat):Int),0=0,0=0,InR .i64 2,(0:Int)≤2∧(2:Int)<((3:Nat):Int),0=0,0=0,0≤(j:Int)∧(j:Int)<(v6.length:Int),g6=g6,g6=g6,((rowI v6).drop (0+(Int.toNat (j:Int))*1)).take 1=[.int .i64 e],0≤(j:Int)∧(j:Int)<(v4.length:Int),g4=g4,((0+(Int.toNat (j:Int))*1)+1)≤(rowI v4).length,g4=g4,(0:Int)≤1∧(1:Int)<((2:Nat):Int),InR .i64 ((j:Int) - 6),(decide (((j:Int) - 6)≥0))=false,false=false,InR .i64 ((j:Int)+1)])
 (hg:G Try.prog E (YB Try.prog) ⟨([.rsl WI 0 2,.int .i64 7,J,J,J,J,.int .i64 1007,.sl 0 0 0 3 1,J,.int .i64 1]++jj 43 ([.int .i64 (((List.replicate (Int.toNat (1008:Int)) (1152921504606846976:Int)).length:Nat):Int),.int .i64 ((j:Int)+1)]++Js 163)),[⟨true,0,1,false,[.sl 2 0 0 ((List.replicate (Int.toNat (1008:Int)) (1152921504606846976:Int)).length) 1,.sl 4 g4 0 v4.length 1,.sl 6 g6 0 v6.length 1],true⟩,⟨false,1,1,true,[],false⟩,⟨true,0,1,true,(rowI (List.replicate (Int.toNat (1008:Int)) (1152921504606846976:Int))),true⟩,⟨false,1,1,true,[],false⟩,⟨true,g4,1,true,(QT (rowI v4) (0+(Int.toNat (j:Int))*1) [.int .i64 e]),true⟩,⟨false,1,1,true,[],false⟩,⟨true,g6,1,true,(rowI v6),true⟩]⟩):G Try.prog E (YB Try.prog) (Yz v6 j v4 g6 g4) :=
 Ql (n:=400) (ds:=[]) (cs:=[]) (live:=[0,1,6,7,9,53,54]) (m:=7) (evs:=[.b true,.auto,.auto,.ld (.int .i64 e),.b false,.b false,.stop]) (obs:=_) hE.2.1 (hE.nogh _) Qh (by kernel_rfl) ho hg
theorem p186_1002_3 (v6:List Int) (j:Nat) (v4:List Int) (g6:Nat) (g4:Nat) {E:Env} {rv:AV} (hE:Qf Try.prog 186 rv E) (ho:AllP [(decide ((j:Int)<(((List.replicate (Int.toNat (1008:Int)) (1152921504606846976:Int)).length:Nat):Int)))=false,InR .i64 0,true=true,(0:Int)≤0∧(0:Int)<((3:Nat):Int),0=0,0=0,0=0])
 (hg:G Try.prog E (qU Try.prog) ⟨([.rsl WI 0 2,.int .i64 7,J,J,J,J,.int .i64 1007,.sl 0 0 0 3 1,J,.int .i64 0]++jj 43 ([.int .i64 (((List.replicate (Int.toNat (1008:Int)) (1152921504606846976:Int)).length:Nat):Int),.int .i64 0]++Js 163)),[⟨true,0,1,false,[.sl 2 0 0 ((List.replicate (Int.toNat (1008:Int)) (1152921504606846976:Int)).length) 1,.sl 4 g4 0 v4.length 1,.sl 6 g6 0 v6.length 1],true⟩,⟨false,1,1,true,[],false⟩,⟨true,0,1,true,(rowI (List.replicate (Int.toNat (1008:Int)) (1152921504606846976:Int))),true⟩,⟨false,1,1,true,[],false⟩,⟨true,g4,1,true,(rowI v4),true⟩,⟨false,1,1,true,[],false⟩,⟨true,g6,1,true,(rowI v6),true⟩]⟩):G Try.prog E (YB Try.prog) (Yz v6 j v4 g6 g4) :=
 Ql (n:=400) (ds:=[]) (cs:=[]) (live:=[0,1,6,7,9,53,54]) (m:=7) (evs:=[.b false,.b true,.stop]) (obs:=_) hE.2.1 (hE.nogh _) Qh (by kernel_rfl) ho hg
theorem f186W1002 (v6:List Int) (j:Nat) (v4:List Int) {E:Env} {rv:((List Int) × Int)} (hE:Qf Try.prog 186 (.tup [.rsl (rowI rv.1) 0 rv.1.length,.int .i64 rv.2]) E)
 (h:(((j:Int)<(((List.replicate (Int.toNat (1008:Int)) (1152921504606846976:Int)).length:Nat):Int)→(∃ e:Int,v6[j]?=some e∧(∃ e1:Int,v4[j]?=some e1∧((I6 ((j:Int) - 6))∧((((j:Int) - 6)≥0→(0≤((j:Int) - 6)∧(∃ e2:Int,(v4.set j e)[Int.toNat ((j:Int) - 6)]?=some e2∧((e2<1152921504606846976→(∃ e3:Int,(v4.set j e)[j]?=some e3∧((I6 (e2+1000))∧((I6 ((j:Int)+1))∧Wd E v6 (j+1) ((v4.set j e).set j (iMin e3 (e2+1000)))))))∧(¬ (e2<1152921504606846976)→((I6 ((j:Int)+1))∧Wd E v6 (j+1) (v4.set j e)))))))∧(¬ (((j:Int) - 6)≥0)→((I6 ((j:Int)+1))∧Wd E v6 (j+1) (v4.set j e))))))))∧(¬ ((j:Int)<(((List.replicate (Int.toNat (1008:Int)) (1152921504606846976:Int)).length:Nat):Int))→Qbv E v4 v6 0 (List.replicate (Int.toNat (1008:Int)) (1152921504606846976:Int))))):Wd E v6 j v4:=by
 intro g6 g4
 rcases bft (decide ((j:Int)<(((List.replicate (Int.toNat (1008:Int)) (1152921504606846976:Int)).length:Nat):Int))) with hc0 | hc0
 · have h:=h.1 (odt hc0)
   obtain ⟨e,h1,h⟩:=h
   obtain ⟨e1,h2,h⟩:=h
   obtain ⟨q19_1,h⟩:=h
   rcases bft (decide (((j:Int) - 6)≥0)) with hc1 | hc1
   · have h:=h.1 (odt hc1)
     obtain ⟨h4,h⟩:=h
     obtain ⟨e2,h3,h⟩:=h
     rcases bft (decide (e2<1152921504606846976)) with hc2 | hc2
     · have h:=h.1 (odt hc2)
       obtain ⟨e3,h5,h⟩:=h
       obtain ⟨q49_3,h⟩:=h
       obtain ⟨q54_3,h⟩:=h
       refine p186_1002_0 v6 j v4 g6 g4 e e1 e2 e3 hE ⟨hc0,(⟨by decide,by decide⟩),rfl,rfl,(⟨by decide,by decide⟩),(⟨by decide,by decide⟩),rfl,rfl,(QE h1),rfl,rfl,(rp cI 1 0 1 h1),(QE h2),rfl,(rf cI 1 0 1 h2),rfl,(⟨by decide,by decide⟩),q19_1,hc1,(⟨by decide,by decide⟩),rfl,rfl,(by have hx:=Qx h4 h3; simpa using hx),rfl,rfl,(by rw [(show QT (rowI v4) (0+(Int.toNat (j:Int))*1) [.int .i64 e]=rowI (v4.set j e) from Xs cI (s:=1) (k:=0) (fun _=>rfl) h2 rfl (by first | decide | simp))]; exact rp cI 1 0 1 h3),hc2,(⟨by decide,by decide⟩),rfl,rfl,(⟨by decide,by decide⟩),rfl,rfl,(by have hx:=QE h5; simpa using hx),rfl,rfl,(by rw [(show QT (rowI v4) (0+(Int.toNat (j:Int))*1) [.int .i64 e]=rowI (v4.set j e) from Xs cI (s:=1) (k:=0) (fun _=>rfl) h2 rfl (by first | decide | simp))]; exact rp cI 1 0 1 h5),(⟨by decide,by decide⟩),rfl,rfl,(by have hx:=Qx h4 h3; simpa using hx),rfl,rfl,(by rw [(show QT (rowI v4) (0+(Int.toNat (j:Int))*1) [.int .i64 e]=rowI (v4.set j e) from Xs cI (s:=1) (k:=0) (fun _=>rfl) h2 rfl (by first | decide | simp))]; exact rp cI 1 0 1 h3),(⟨by decide,by decide⟩),q49_3,(by have hx:=QE h5; simpa using hx),rfl,(by rw [(show QT (rowI v4) (0+(Int.toNat (j:Int))*1) [.int .i64 e]=rowI (v4.set j e) from Xs cI (s:=1) (k:=0) (fun _=>rfl) h2 rfl (by first | decide | simp))]; exact rf cI 1 0 1 h5),rfl,q54_3,trivial⟩ ?_
       have h:=(h g6 g4)
       simp only [Yz,List.length_set] at h
       rw [(show QT (rowI v4) (0+(Int.toNat (j:Int))*1) [.int .i64 e]=rowI (v4.set j e) from Xs cI (s:=1) (k:=0) (fun _=>rfl) h2 rfl (by first | decide | simp))]; rw [(show QT (rowI (v4.set j e)) (0+(Int.toNat (j:Int))*1) [.int .i64 (iMin e3 (e2+1000))]=rowI ((v4.set j e).set j (iMin e3 (e2+1000))) from Xs cI (s:=1) (k:=0) (fun _=>rfl) h5 rfl (by first | decide | simp))]
       exact h
     · have h:=h.2 (odf hc2)
       obtain ⟨q30_3,h⟩:=h
       refine p186_1002_1 v6 j v4 g6 g4 e e1 e2 hE ⟨hc0,(⟨by decide,by decide⟩),rfl,rfl,(⟨by decide,by decide⟩),(⟨by decide,by decide⟩),rfl,rfl,(QE h1),rfl,rfl,(rp cI 1 0 1 h1),(QE h2),rfl,(rf cI 1 0 1 h2),rfl,(⟨by decide,by decide⟩),q19_1,hc1,(⟨by decide,by decide⟩),rfl,rfl,(by have hx:=Qx h4 h3; simpa using hx),rfl,rfl,(by rw [(show QT (rowI v4) (0+(Int.toNat (j:Int))*1) [.int .i64 e]=rowI (v4.set j e) from Xs cI (s:=1) (k:=0) (fun _=>rfl) h2 rfl (by first | decide | simp))]; exact rp cI 1 0 1 h3),hc2,q30_3,trivial⟩ ?_
       have h:=(h g6 g4)
       simp only [Yz,List.length_set] at h
       rw [(show QT (rowI v4) (0+(Int.toNat (j:Int))*1) [.int .i64 e]=rowI (v4.set j e) from Xs cI (s:=1) (k:=0) (fun _=>rfl) h2 rfl (by first | decide | simp))]
       exact h
   · have h:=h.2 (odf hc1)
     obtain ⟨q22_2,h⟩:=h
     refine p186_1002_2 v6 j v4 g6 g4 e e1 hE ⟨hc0,(⟨by decide,by decide⟩),rfl,rfl,(⟨by decide,by decide⟩),(⟨by decide,by decide⟩),rfl,rfl,(QE h1),rfl,rfl,(rp cI 1 0 1 h1),(QE h2),rfl,(rf cI 1 0 1 h2),rfl,(⟨by decide,by decide⟩),q19_1,hc1,rfl,q22_2,trivial⟩ ?_
     have h:=(h g6 g4)
     simp only [Yz,List.length_set] at h
     rw [(show QT (rowI v4) (0+(Int.toNat (j:Int))*1) [.int .i64 e]=rowI (v4.set j e) from Xs cI (s:=1) (k:=0) (fun _=>rfl) h2 rfl (by first | decide | simp))]
     exact h
 · have h:=h.2 (odf hc0)
   exact p186_1002_3 v6 j v4 g6 g4 hE ⟨hc0,(⟨by decide,by decide⟩),rfl,(⟨by decide,by decide⟩),rfl,rfl,rfl,trivial⟩ (h g4 g6 0)
theorem p186_1005_0 (price:Int) (tokens:Int) (left:Int) (v2:List Int) (v4:List Int) (v6:List Int) (v7_0:Nat) (v7_1:Nat) (g2:Nat) (g4:Nat) (g6:Nat) (e:Int) {E:Env} {rv:AV} (hE:Qf Try.prog 186 rv E) (ho:AllP [(decide (tokens≥6))=true,(0:Int)≤1∧(1:Int)<((3:Nat):Int),0=0,0=0,InR .i64 (tokens - 6),0≤(tokens - 6)∧(tokens - 6)<(v4.length:Int),g4=g4,g4=g4,((rowI v4).drop (0+(Int.toNat (tokens - 6))*1)).take 1=[.int .i64 e],(decide (e<1152921504606846976))=true,(0:Int)≤1∧(1:Int)<((3:Nat):Int),0=0,0=0,InR .i64 (tokens - 6),0≤(tokens - 6)∧(tokens - 6)<(v4.length:Int),g4=g4,g4=g4,((rowI v4).drop (0+(Int.toNat (tokens - 6))*1)).take 1=[.int .i64 e],InR .i64 (e+1000),((e+1000) == left)=true,InR .i64 (tokens - 6),(0:Int)≤1∧(1:Int)<((2:Nat):Int),0=0,0=0,InR .i64 ((v7_1:Int)+1),(0:Int)≤1∧(1:Int)<((2:Nat):Int),0=0,2≤2,0=0,(0:Int)≤1∧(1:Int)<((3:Nat):Int),0=0,0=0,0≤(tokens - 6)∧(tokens - 6)<(v4.length:Int),g4=g4,g4=g4,((rowI v4).drop (0+(Int.toNat (tokens - 6))*1)).take 1=[.int .i64 e]])
 (hg:G Try.prog E (YA Try.prog) ⟨([J,J,J,J,.sl 7 0 0 2 1,.int .i64 price,J,.sl 0 0 0 3 1,J,J,J,J,.int .i64 (tokens - 6),J,.int .i64 1,.ptr 9 0 0,.int .i64 e]++jj 133 z186_4),[⟨true,0,1,false,(QaW g2 v2 g4 v4 g6 v6),true⟩,⟨false,1,1,true,[],false⟩,⟨true,g2,1,true,(rowI v2),true⟩,⟨false,1,1,true,[],false⟩,⟨true,g4,1,true,(rowI v4),true⟩,⟨false,1,1,true,[],false⟩,⟨true,g6,1,true,(rowI v6),true⟩,⟨true,0,1,true,[.int .i64 (v7_0:Int),.int .i64 ((v7_1:Int)+1)],true⟩,⟨true,0,1,true,[.int .i64 1,.int .i64 200],false⟩,⟨true,0,1,true,[.int .i64 6,.int .i64 1000],false⟩]⟩):G Try.prog E (YA Try.prog) (WP price tokens left v2 v4 v6 v7_0 v7_1 g2 g4 g6) :=
 Ql (n:=400) (ds:=[]) (cs:=[]) (live:=[4,5,7,12,14,15,16,150,151,152]) (m:=10) (evs:=[.b true,.auto,.auto,.ld (.int .i64 e),.b true,.auto,.auto,.ld (.int .i64 e),.b true,.auto,.auto,.auto,.ld (.int .i64 e),.stop]) (obs:=_) hE.2.1 (hE.nogh _) Qh (by kernel_rfl) ho hg
theorem p186_1005_1 (price:Int) (tokens:Int) (left:Int) (v2:List Int) (v4:List Int) (v6:List Int) (v7_0:Nat) (v7_1:Nat) (g2:Nat) (g4:Nat) (g6:Nat) (e:Int) {E:Env} {res:AV} (hE:Qf Try.prog 186 res E) (ho:AllP [(decide (tokens≥6))=true,(0:Int)≤1∧(1:Int)<((3:Nat):Int),0=0,0=0,InR .i64 (tokens - 6),0≤(tokens - 6)∧(tokens - 6)<(v4.length:Int),g4=g4,g4=g4,((rowI v4).drop (0+(Int.toNat (tokens - 6))*1)).take 1=[.int .i64 e],(decide (e<1152921504606846976))=true,(0:Int)≤1∧(1:Int)<((3:Nat):Int),0=0,0=0,InR .i64 (tokens - 6),0≤(tokens - 6)∧(tokens - 6)<(v4.length:Int),g4=g4,g4=g4,((rowI v4).drop (0+(Int.toNat (tokens - 6))*1)).take 1=[.int .i64 e],InR .i64 (e+1000),((e+1000) == left)=false,InR .i64 2,false=false,0=0])
 (hr:AvLe (.tup [.rsl [.int .i64 (v7_0:Int),.int .i64 (v7_1:Int)] 0 2,.int .i64 price]) res):G Try.prog E (YA Try.prog) (WP price tokens left v2 v4 v6 v7_0 v7_1 g2 g4 g6) :=
 Qb (n:=400) (evs:=[.b true,.auto,.auto,.ld (.int .i64 e),.b true,.auto,.auto,.ld (.int .i64 e),.b false,.b false]) (obs:=_) hE Try.func186 Qh (by kernel_rfl) ho hr
theorem p186_1005_2 (price:Int) (tokens:Int) (left:Int) (v2:List Int) (v4:List Int) (v6:List Int) (v7_0:Nat) (v7_1:Nat) (g2:Nat) (g4:Nat) (g6:Nat) (e:Int) {E:Env} {res:AV} (hE:Qf Try.prog 186 res E) (ho:AllP [(decide (tokens≥6))=true,(0:Int)≤1∧(1:Int)<((3:Nat):Int),0=0,0=0,InR .i64 (tokens - 6),0≤(tokens - 6)∧(tokens - 6)<(v4.length:Int),g4=g4,g4=g4,((rowI v4).drop (0+(Int.toNat (tokens - 6))*1)).take 1=[.int .i64 e],(decide (e<1152921504606846976))=false,false=false,InR .i64 2,false=false,0=0])
 (hr:AvLe (.tup [.rsl [.int .i64 (v7_0:Int),.int .i64 (v7_1:Int)] 0 2,.int .i64 price]) res):G Try.prog E (YA Try.prog) (WP price tokens left v2 v4 v6 v7_0 v7_1 g2 g4 g6) :=
 Qb (n:=400) (evs:=[.b true,.auto,.auto,.ld (.int .i64 e),.b false,.b false,.b false]) (obs:=_) hE Try.func186 Qh (by kernel_rfl) ho hr
theorem p186_1005_3 (price:Int) (tokens:Int) (left:Int) (v2:List Int) (v4:List Int) (v6:List Int) (v7_0:Nat) (v7_1:Nat) (g2:Nat) (g4:Nat) (g6:Nat) {E:Env} {res:AV} (hE:Qf Try.prog 186 res E) (ho:AllP [(decide (tokens≥6))=false,false=false,false=false,InR .i64 2,false=false,0=0])
 (hr:AvLe (.tup [.rsl [.int .i64 (v7_0:Int),.int .i64 (v7_1:Int)] 0 2,.int .i64 price]) res):G Try.prog E (YA Try.prog) (WP price tokens left v2 v4 v6 v7_0 v7_1 g2 g4 g6) :=
 Qb (n:=400) (evs:=[.b false,.b false,.b false,.b false]) (obs:=_) hE Try.func186 Qh (by kernel_rfl) ho hr
theorem f186W1005 (price:Int) (tokens:Int) (left:Int) (v2:List Int) (v4:List Int) (v6:List Int) (v7_0:Nat) (v7_1:Nat) {E:Env} {rv:((List Int) × Int)} (hE:Qf Try.prog 186 (.tup [.rsl (rowI rv.1) 0 rv.1.length,.int .i64 rv.2]) E)
 (h:((tokens≥6→((I6 (tokens - 6))∧(0≤(tokens - 6)∧(∃ e:Int,v4[Int.toNat (tokens - 6)]?=some e∧((e<1152921504606846976→((I6 (tokens - 6))∧((I6 (e+1000))∧(((e+1000)=left→((I6 (tokens - 6))∧((I6 ((v7_1:Int)+1))∧Vw E price (tokens - 6) e v2 v4 v6 v7_0 (v7_1+1))))∧(¬ ((e+1000)=left)→rv=([(v7_0:Int),(v7_1:Int)],price))))))∧(¬ (e<1152921504606846976)→rv=([(v7_0:Int),(v7_1:Int)],price)))))))∧(¬ (tokens≥6)→rv=([(v7_0:Int),(v7_1:Int)],price)))):Vw E price tokens left v2 v4 v6 v7_0 v7_1:=by
 intro g2 g4 g6
 rcases bft (decide (tokens≥6)) with hc0 | hc0
 · have h:=h.1 (odt hc0)
   obtain ⟨q4_1,h⟩:=h
   obtain ⟨h2,h⟩:=h
   obtain ⟨e,h1,h⟩:=h
   rcases bft (decide (e<1152921504606846976)) with hc1 | hc1
   · have h:=h.1 (odt hc1)
     obtain ⟨q14_2,h⟩:=h
     obtain ⟨q19_2,h⟩:=h
     rcases bft ((e+1000) == left) with hc2 | hc2
     · have h:=h.1 (eq_of_beq hc2)
       obtain ⟨q21_3,h⟩:=h
       obtain ⟨q25_3,h⟩:=h
       exact p186_1005_0 price tokens left v2 v4 v6 v7_0 v7_1 g2 g4 g6 e hE ⟨hc0,(⟨by decide,by decide⟩),rfl,rfl,q4_1,(Qx h2 h1),rfl,rfl,(rp cI 1 0 1 h1),hc1,(⟨by decide,by decide⟩),rfl,rfl,q14_2,(Qx h2 h1),rfl,rfl,(rp cI 1 0 1 h1),q19_2,hc2,q21_3,(⟨by decide,by decide⟩),rfl,rfl,q25_3,(⟨by decide,by decide⟩),rfl,(by decide),rfl,(⟨by decide,by decide⟩),rfl,rfl,(Qx h2 h1),rfl,rfl,(rp cI 1 0 1 h1),trivial⟩ (h g2 g4 g6)
     · have h:=h.2 (ne_of_beq_false hc2)
       exact p186_1005_1 price tokens left v2 v4 v6 v7_0 v7_1 g2 g4 g6 e hE ⟨hc0,(⟨by decide,by decide⟩),rfl,rfl,q4_1,(Qx h2 h1),rfl,rfl,(rp cI 1 0 1 h1),hc1,(⟨by decide,by decide⟩),rfl,rfl,q14_2,(Qx h2 h1),rfl,rfl,(rp cI 1 0 1 h1),q19_2,hc2,(⟨by decide,by decide⟩),rfl,rfl,trivial⟩ (AvLe.of_eq (by rw [h]; try rfl))
   · have h:=h.2 (odf hc1)
     exact p186_1005_2 price tokens left v2 v4 v6 v7_0 v7_1 g2 g4 g6 e hE ⟨hc0,(⟨by decide,by decide⟩),rfl,rfl,q4_1,(Qx h2 h1),rfl,rfl,(rp cI 1 0 1 h1),hc1,rfl,(⟨by decide,by decide⟩),rfl,rfl,trivial⟩ (AvLe.of_eq (by rw [h]; try rfl))
 · have h:=h.2 (odf hc0)
   exact p186_1005_3 price tokens left v2 v4 v6 v7_0 v7_1 g2 g4 g6 hE ⟨hc0,rfl,rfl,(⟨by decide,by decide⟩),rfl,rfl,trivial⟩ (AvLe.of_eq (by rw [h]; try rfl))
theorem p186_2_0 (v4:List Int) (v6:List Int) (j:Nat) (v2:List Int) (g4:Nat) (g6:Nat) (g2:Nat) (e:Int) (e1:Int) (e2:Int) (e3:Int) {E:Env} {rv:AV} (hE:Qf Try.prog 186 rv E) (ho:AllP [(decide ((j:Int)<(((List.replicate (Int.toNat (1008:Int)) (1152921504606846976:Int)).length:Nat):Int)))=true,(0:Int)≤0∧(0:Int)<((3:Nat):Int),0=0,0=0,InR .i64 1,(0:Int)≤1∧(1:Int)<((3:Nat):Int),0=0,0=0,0≤(j:Int)∧(j:Int)<(v4.length:Int),g4=g4,g4=g4,((rowI v4).drop (0+(Int.toNat (j:Int))*1)).take 1=[.int .i64 e],0≤(j:Int)∧(j:Int)<(v2.length:Int),g2=g2,((0+(Int.toNat (j:Int))*1)+1)≤(rowI v2).length,g2=g2,(0:Int)≤0∧(0:Int)<((2:Nat):Int),InR .i64 ((j:Int) - 1),(decide (((j:Int) - 1)≥0))=true,(0:Int)≤0∧(0:Int)<((3:Nat):Int),0=0,0=0,0≤((j:Int) - 1)∧((j:Int) - 1)<(v2.length:Int),g2=g2,g2=g2,((QT (rowI v2) (0+(Int.toNat (j:Int))*1) [.int .i64 e]).drop (0+(Int.toNat ((j:Int) - 1))*1)).take 1=[.int .i64 e2],(decide (e2<1152921504606846976))=true,(0:Int)≤0∧(0:Int)<((3:Nat):Int),0=0,0=0,(0:Int)≤0∧(0:Int)<((3:Nat):Int),0=0,0=0,0≤(j:Int)∧(j:Int)<(v2.length:Int),g2=g2,g2=g2,((QT (rowI v2) (0+(Int.toNat (j:Int))*1) [.int .i64 e]).drop (0+(Int.toNat (j:Int))*1)).take 1=[.int .i64 e3],(0:Int)≤0∧(0:Int)<((3:Nat):Int),0=0,0=0,0≤((j:Int) - 1)∧((j:Int) - 1)<(v2.length:Int),g2=g2,g2=g2,((QT (rowI v2) (0+(Int.toNat (j:Int))*1) [.int .i64 e]).drop (0+(Int.toNat ((j:Int) - 1))*1)).take 1=[.int .i64 e2],(0:Int)≤0∧(0:Int)<((2:Nat):Int),InR .i64 (e2+200),0≤(j:Int)∧(j:Int)<(v2.length:Int),g2=g2,((0+(Int.toNat (j:Int))*1)+1)≤(QT (rowI v2) (0+(Int.toNat (j:Int))*1) [.int .i64 e]).length,g2=g2,InR .i64 ((j:Int)+1)])
 (hg:G Try.prog E (qU Try.prog) ⟨([.rsl [.int .i64 1,.int .i64 200,.int .i64 6,.int .i64 1000] 0 2,.int .i64 7,J,J,J,J,.int .i64 1007,.sl 0 0 0 3 1,J,.int .i64 0]++jj 43 ([.int .i64 (((List.replicate (Int.toNat (1008:Int)) (1152921504606846976:Int)).length:Nat):Int),.int .i64 ((j:Int)+1)]++Js 163)),[⟨true,0,1,false,[.sl 2 g2 0 v2.length 1,.sl 4 g4 0 v4.length 1,.sl 6 g6 0 v6.length 1],true⟩,⟨false,1,1,true,[],false⟩,⟨true,g2,1,true,(QT (QT (rowI v2) (0+(Int.toNat (j:Int))*1) [.int .i64 e]) (0+(Int.toNat (j:Int))*1) [.int .i64 (iMin e3 (e2+200))]),true⟩,⟨false,1,1,true,[],false⟩,⟨true,g4,1,true,(rowI v4),true⟩,⟨false,1,1,true,[],false⟩,⟨true,g6,1,true,(rowI v6),true⟩]⟩):G Try.prog E (qU Try.prog) (yT v4 v6 j v2 g4 g6 g2) :=
 Ql (n:=400) (ds:=[]) (cs:=[]) (live:=[0,1,6,7,9,53,54]) (m:=7) (evs:=[.b true,.auto,.auto,.ld (.int .i64 e),.b true,.auto,.ld (.int .i64 e2),.b true,.auto,.auto,.ld (.int .i64 e3),.auto,.ld (.int .i64 e2),.stop]) (obs:=_) hE.2.1 (hE.nogh _) Qh (by kernel_rfl) ho hg
theorem p186_2_1 (v4:List Int) (v6:List Int) (j:Nat) (v2:List Int) (g4:Nat) (g6:Nat) (g2:Nat) (e:Int) (e1:Int) (e2:Int) {E:Env} {rv:AV} (hE:Qf Try.prog 186 rv E) (ho:AllP [(decide ((j:Int)<(((List.replicate (Int.toNat (1008:Int)) (1152921504606846976:Int)).length:Nat):Int)))=true,(0:Int)≤0∧(0:Int)<((3:Nat):Int),0=0,0=0,InR .i64 1,(0:Int)≤1∧(1:Int)<((3:Nat):Int),0=0,0=0,0≤(j:Int)∧(j:Int)<(v4.length:Int),g4=g4,g4=g4,((rowI v4).drop (0+(Int.toNat (j:Int))*1)).take 1=[.int .i64 e],0≤(j:Int)∧(j:Int)<(v2.length:Int),g2=g2,((0+(Int.toNat (j:Int))*1)+1)≤(rowI v2).length,g2=g2,(0:Int)≤0∧(0:Int)<((2:Nat):Int),InR .i64 ((j:Int) - 1),(decide (((j:Int) - 1)≥0))=true,(0:Int)≤0∧(0:Int)<((3:Nat):Int),0=0,0=0,0≤((j:Int) - 1)∧((j:Int) - 1)<(v2.length:Int),g2=g2,g2=g2,((QT (rowI v2) (0+(Int.toNat (j:Int))*1) [.int .i64 e]).drop (0+(Int.toNat ((j:Int) - 1))*1)).take 1=[.int .i64 e2],(decide (e2<1152921504606846976))=false,InR .i64 ((j:Int)+1)])
 (hg:G Try.prog E (qU Try.prog) ⟨([.rsl [.int .i64 1,.int .i64 200,.int .i64 6,.int .i64 1000] 0 2,.int .i64 7,J,J,J,J,.int .i64 1007,.sl 0 0 0 3 1,J,.int .i64 0]++jj 43 ([.int .i64 (((List.replicate (Int.toNat (1008:Int)) (1152921504606846976:Int)).length:Nat):Int),.int .i64 ((j:Int)+1)]++Js 163)),[⟨true,0,1,false,[.sl 2 g2 0 v2.length 1,.sl 4 g4 0 v4.length 1,.sl 6 g6 0 v6.length 1],true⟩,⟨false,1,1,true,[],false⟩,⟨true,g2,1,true,(QT (rowI v2) (0+(Int.toNat (j:Int))*1) [.int .i64 e]),true⟩,⟨false,1,1,true,[],false⟩,⟨true,g4,1,true,(rowI v4),true⟩,⟨false,1,1,true,[],false⟩,⟨true,g6,1,true,(rowI v6),true⟩]⟩):G Try.prog E (qU Try.prog) (yT v4 v6 j v2 g4 g6 g2) :=
 Ql (n:=400) (ds:=[]) (cs:=[]) (live:=[0,1,6,7,9,53,54]) (m:=7) (evs:=[.b true,.auto,.auto,.ld (.int .i64 e),.b true,.auto,.ld (.int .i64 e2),.b false,.stop]) (obs:=_) hE.2.1 (hE.nogh _) Qh (by kernel_rfl) ho hg
theorem p186_2_2 (v4:List Int) (v6:List Int) (j:Nat) (v2:List Int) (g4:Nat) (g6:Nat) (g2:Nat) (e:Int) (e1:Int) {E:Env} {rv:AV} (hE:Qf Try.prog 186 rv E) (ho:AllP [(decide ((j:Int)<(((List.replicate (Int.toNat (1008:Int)) (1152921504606846976:Int)).length:Nat):Int)))=true,(0:Int)≤0∧(0:Int)<((3:Nat):Int),0=0,0=0,InR .i64 1,(0:Int)≤1∧(1:Int)<((3:Nat):Int),0=0,0=0,0≤(j:Int)∧(j:Int)<(v4.length:Int),g4=g4,g4=g4,((rowI v4).drop (0+(Int.toNat (j:Int))*1)).take 1=[.int .i64 e],0≤(j:Int)∧(j:Int)<(v2.length:Int),g2=g2,((0+(Int.toNat (j:Int))*1)+1)≤(rowI v2).length,g2=g2,(0:Int)≤0∧(0:Int)<((2:Nat):Int),InR .i64 ((j:Int) - 1),(decide (((j:Int) - 1)≥0))=false,false=false,InR .i64 ((j:Int)+1)])
 (hg:G Try.prog E (qU Try.prog) ⟨([.rsl WI 0 2,.int .i64 7,J,J,J,J,.int .i64 1007,.sl 0 0 0 3 1,J,.int .i64 0]++jj 43 ([.int .i64 (((List.replicate (Int.toNat (1008:Int)) (1152921504606846976:Int)).length:Nat):Int),.int .i64 ((j:Int)+1)]++Js 163)),[⟨true,0,1,false,(QaW g2 v2 g4 v4 g6 v6),true⟩,⟨false,1,1,true,[],false⟩,⟨true,g2,1,true,(QT (rowI v2) (0+(Int.toNat (j:Int))*1) [.int .i64 e]),true⟩,⟨false,1,1,true,[],false⟩,⟨true,g4,1,true,(rowI v4),true⟩,⟨false,1,1,true,[],false⟩,⟨true,g6,1,true,(rowI v6),true⟩]⟩):G Try.prog E (qU Try.prog) (yT v4 v6 j v2 g4 g6 g2) :=
 Ql (n:=400) (ds:=[]) (cs:=[]) (live:=[0,1,6,7,9,53,54]) (m:=7) (evs:=[.b true,.auto,.auto,.ld (.int .i64 e),.b false,.b false,.stop]) (obs:=_) hE.2.1 (hE.nogh _) Qh (by kernel_rfl) ho hg
theorem p186_2_3 (v4:List Int) (v6:List Int) (j:Nat) (v2:List Int) (g4:Nat) (g6:Nat) (g2:Nat) {E:Env} {rv:AV} (hE:Qf Try.prog 186 rv E) (ho:AllP [(decide ((j:Int)<(((List.replicate (Int.toNat (1008:Int)) (1152921504606846976:Int)).length:Nat):Int)))=false,InR .i64 (-1),false=false])
 (hg:G Try.prog E (yU Try.prog) ⟨([.rsl WI 0 2]++jj 5 ([.int .i64 1007,.sl 0 0 0 3 1,J,J,J,J,.int .i64 7,.int .i64 7]++Js 204)),(z186_3 g2 v2 g4 v4 g6 v6)⟩):G Try.prog E (qU Try.prog) (yT v4 v6 j v2 g4 g6 g2) :=
 Ql (n:=400) (ds:=[]) (cs:=[]) (live:=[0,6,7,12,13]) (m:=7) (evs:=[.b false,.b false,.stop]) (obs:=_) hE.2.1 (hE.nogh _) Qh (by kernel_rfl) ho hg
theorem f186W2 (v4:List Int) (v6:List Int) (j:Nat) (v2:List Int) {E:Env} {rv:((List Int) × Int)} (hE:Qf Try.prog 186 (.tup [.rsl (rowI rv.1) 0 rv.1.length,.int .i64 rv.2]) E)
 (h:(((j:Int)<(((List.replicate (Int.toNat (1008:Int)) (1152921504606846976:Int)).length:Nat):Int)→(∃ e:Int,v4[j]?=some e∧(∃ e1:Int,v2[j]?=some e1∧((I6 ((j:Int) - 1))∧((((j:Int) - 1)≥0→(0≤((j:Int) - 1)∧(∃ e2:Int,(v2.set j e)[Int.toNat ((j:Int) - 1)]?=some e2∧((e2<1152921504606846976→(∃ e3:Int,(v2.set j e)[j]?=some e3∧((I6 (e2+200))∧((I6 ((j:Int)+1))∧Qbv E v4 v6 (j+1) ((v2.set j e).set j (iMin e3 (e2+200)))))))∧(¬ (e2<1152921504606846976)→((I6 ((j:Int)+1))∧Qbv E v4 v6 (j+1) (v2.set j e)))))))∧(¬ (((j:Int) - 1)≥0)→((I6 ((j:Int)+1))∧Qbv E v4 v6 (j+1) (v2.set j e))))))))∧(¬ ((j:Int)<(((List.replicate (Int.toNat (1008:Int)) (1152921504606846976:Int)).length:Nat):Int))→f186G3 E v2 v4 v6 7 7))):Qbv E v4 v6 j v2:=by
 intro g4 g6 g2
 rcases bft (decide ((j:Int)<(((List.replicate (Int.toNat (1008:Int)) (1152921504606846976:Int)).length:Nat):Int))) with hc0 | hc0
 · have h:=h.1 (odt hc0)
   obtain ⟨e,h1,h⟩:=h
   obtain ⟨e1,h2,h⟩:=h
   obtain ⟨q19_1,h⟩:=h
   rcases bft (decide (((j:Int) - 1)≥0)) with hc1 | hc1
   · have h:=h.1 (odt hc1)
     obtain ⟨h4,h⟩:=h
     obtain ⟨e2,h3,h⟩:=h
     rcases bft (decide (e2<1152921504606846976)) with hc2 | hc2
     · have h:=h.1 (odt hc2)
       obtain ⟨e3,h5,h⟩:=h
       obtain ⟨q49_3,h⟩:=h
       obtain ⟨q54_3,h⟩:=h
       refine p186_2_0 v4 v6 j v2 g4 g6 g2 e e1 e2 e3 hE ⟨hc0,(⟨by decide,by decide⟩),rfl,rfl,(⟨by decide,by decide⟩),(⟨by decide,by decide⟩),rfl,rfl,(QE h1),rfl,rfl,(rp cI 1 0 1 h1),(QE h2),rfl,(rf cI 1 0 1 h2),rfl,(⟨by decide,by decide⟩),q19_1,hc1,(⟨by decide,by decide⟩),rfl,rfl,(by have hx:=Qx h4 h3; simpa using hx),rfl,rfl,(by rw [(show QT (rowI v2) (0+(Int.toNat (j:Int))*1) [.int .i64 e]=rowI (v2.set j e) from Xs cI (s:=1) (k:=0) (fun _=>rfl) h2 rfl (by first | decide | simp))]; exact rp cI 1 0 1 h3),hc2,(⟨by decide,by decide⟩),rfl,rfl,(⟨by decide,by decide⟩),rfl,rfl,(by have hx:=QE h5; simpa using hx),rfl,rfl,(by rw [(show QT (rowI v2) (0+(Int.toNat (j:Int))*1) [.int .i64 e]=rowI (v2.set j e) from Xs cI (s:=1) (k:=0) (fun _=>rfl) h2 rfl (by first | decide | simp))]; exact rp cI 1 0 1 h5),(⟨by decide,by decide⟩),rfl,rfl,(by have hx:=Qx h4 h3; simpa using hx),rfl,rfl,(by rw [(show QT (rowI v2) (0+(Int.toNat (j:Int))*1) [.int .i64 e]=rowI (v2.set j e) from Xs cI (s:=1) (k:=0) (fun _=>rfl) h2 rfl (by first | decide | simp))]; exact rp cI 1 0 1 h3),(⟨by decide,by decide⟩),q49_3,(by have hx:=QE h5; simpa using hx),rfl,(by rw [(show QT (rowI v2) (0+(Int.toNat (j:Int))*1) [.int .i64 e]=rowI (v2.set j e) from Xs cI (s:=1) (k:=0) (fun _=>rfl) h2 rfl (by first | decide | simp))]; exact rf cI 1 0 1 h5),rfl,q54_3,trivial⟩ ?_
       have h:=(h g4 g6 g2)
       simp only [yT,List.length_set] at h
       rw [(show QT (rowI v2) (0+(Int.toNat (j:Int))*1) [.int .i64 e]=rowI (v2.set j e) from Xs cI (s:=1) (k:=0) (fun _=>rfl) h2 rfl (by first | decide | simp))]; rw [(show QT (rowI (v2.set j e)) (0+(Int.toNat (j:Int))*1) [.int .i64 (iMin e3 (e2+200))]=rowI ((v2.set j e).set j (iMin e3 (e2+200))) from Xs cI (s:=1) (k:=0) (fun _=>rfl) h5 rfl (by first | decide | simp))]
       exact h
     · have h:=h.2 (odf hc2)
       obtain ⟨q30_3,h⟩:=h
       refine p186_2_1 v4 v6 j v2 g4 g6 g2 e e1 e2 hE ⟨hc0,(⟨by decide,by decide⟩),rfl,rfl,(⟨by decide,by decide⟩),(⟨by decide,by decide⟩),rfl,rfl,(QE h1),rfl,rfl,(rp cI 1 0 1 h1),(QE h2),rfl,(rf cI 1 0 1 h2),rfl,(⟨by decide,by decide⟩),q19_1,hc1,(⟨by decide,by decide⟩),rfl,rfl,(by have hx:=Qx h4 h3; simpa using hx),rfl,rfl,(by rw [(show QT (rowI v2) (0+(Int.toNat (j:Int))*1) [.int .i64 e]=rowI (v2.set j e) from Xs cI (s:=1) (k:=0) (fun _=>rfl) h2 rfl (by first | decide | simp))]; exact rp cI 1 0 1 h3),hc2,q30_3,trivial⟩ ?_
       have h:=(h g4 g6 g2)
       simp only [yT,List.length_set] at h
       rw [(show QT (rowI v2) (0+(Int.toNat (j:Int))*1) [.int .i64 e]=rowI (v2.set j e) from Xs cI (s:=1) (k:=0) (fun _=>rfl) h2 rfl (by first | decide | simp))]
       exact h
   · have h:=h.2 (odf hc1)
     obtain ⟨q22_2,h⟩:=h
     refine p186_2_2 v4 v6 j v2 g4 g6 g2 e e1 hE ⟨hc0,(⟨by decide,by decide⟩),rfl,rfl,(⟨by decide,by decide⟩),(⟨by decide,by decide⟩),rfl,rfl,(QE h1),rfl,rfl,(rp cI 1 0 1 h1),(QE h2),rfl,(rf cI 1 0 1 h2),rfl,(⟨by decide,by decide⟩),q19_1,hc1,rfl,q22_2,trivial⟩ ?_
     have h:=(h g4 g6 g2)
     simp only [yT,List.length_set] at h
     rw [(show QT (rowI v2) (0+(Int.toNat (j:Int))*1) [.int .i64 e]=rowI (v2.set j e) from Xs cI (s:=1) (k:=0) (fun _=>rfl) h2 rfl (by first | decide | simp))]
     exact h
 · have h:=h.2 (odf hc0)
   exact p186_2_3 v4 v6 j v2 g4 g6 g2 hE ⟨hc0,(⟨by decide,by decide⟩),rfl,trivial⟩ (h g2 g4 g6)
theorem p186_3_0 (v2:List Int) (v4:List Int) (v6:List Int) (t:Nat) (tokens:Nat) (g2:Nat) (g4:Nat) (g6:Nat) (e:Int) (e1:Int) {E:Env} {rv:AV} (hE:Qf Try.prog 186 rv E) (ho:AllP [(decide ((t:Int)≤1007))=true,(0:Int)≤0∧(0:Int)<((3:Nat):Int),0=0,0=0,0≤(t:Int)∧(t:Int)<(v2.length:Int),g2=g2,g2=g2,((rowI v2).drop (0+(Int.toNat (t:Int))*1)).take 1=[.int .i64 e],(0:Int)≤0∧(0:Int)<((3:Nat):Int),0=0,0=0,0≤(tokens:Int)∧(tokens:Int)<(v2.length:Int),g2=g2,g2=g2,((rowI v2).drop (0+(Int.toNat (tokens:Int))*1)).take 1=[.int .i64 e1],(decide (e<e1))=true,InR .i64 ((t:Int)+1)])
 (hg:G Try.prog E (yU Try.prog) ⟨([.rsl WI 0 2]++jj 5 ([.int .i64 1007,.sl 0 0 0 3 1,J,J,J,J,.int .i64 (t:Int),.int .i64 ((t:Int)+1)]++Js 204)),(z186_3 g2 v2 g4 v4 g6 v6)⟩):G Try.prog E (yU Try.prog) (f186S3 v2 v4 v6 t tokens g2 g4 g6) :=
 Ql (n:=400) (ds:=[]) (cs:=[]) (live:=[0,6,7,12,13]) (m:=7) (evs:=[.b true,.auto,.ld (.int .i64 e),.auto,.ld (.int .i64 e1),.b true,.stop]) (obs:=_) hE.2.1 (hE.nogh _) Qh (by kernel_rfl) ho hg
theorem p186_3_1 (v2:List Int) (v4:List Int) (v6:List Int) (t:Nat) (tokens:Nat) (g2:Nat) (g4:Nat) (g6:Nat) (e:Int) (e1:Int) {E:Env} {rv:AV} (hE:Qf Try.prog 186 rv E) (ho:AllP [(decide ((t:Int)≤1007))=true,(0:Int)≤0∧(0:Int)<((3:Nat):Int),0=0,0=0,0≤(t:Int)∧(t:Int)<(v2.length:Int),g2=g2,g2=g2,((rowI v2).drop (0+(Int.toNat (t:Int))*1)).take 1=[.int .i64 e],(0:Int)≤0∧(0:Int)<((3:Nat):Int),0=0,0=0,0≤(tokens:Int)∧(tokens:Int)<(v2.length:Int),g2=g2,g2=g2,((rowI v2).drop (0+(Int.toNat (tokens:Int))*1)).take 1=[.int .i64 e1],(decide (e<e1))=false,InR .i64 ((t:Int)+1)])
 (hg:G Try.prog E (yU Try.prog) ⟨([.rsl WI 0 2]++jj 5 ([.int .i64 1007,.sl 0 0 0 3 1,J,J,J,J,.int .i64 (tokens:Int),.int .i64 ((t:Int)+1)]++Js 204)),(z186_3 g2 v2 g4 v4 g6 v6)⟩):G Try.prog E (yU Try.prog) (f186S3 v2 v4 v6 t tokens g2 g4 g6) :=
 Ql (n:=400) (ds:=[]) (cs:=[]) (live:=[0,6,7,12,13]) (m:=7) (evs:=[.b true,.auto,.ld (.int .i64 e),.auto,.ld (.int .i64 e1),.b false,.stop]) (obs:=_) hE.2.1 (hE.nogh _) Qh (by kernel_rfl) ho hg
theorem p186_3_2 (v2:List Int) (v4:List Int) (v6:List Int) (t:Nat) (tokens:Nat) (g2:Nat) (g4:Nat) (g6:Nat) (e:Int) {E:Env} {res:AV} (hE:Qf Try.prog 186 res E) (ho:AllP [(decide ((t:Int)≤1007))=false,(0:Int)≤0∧(0:Int)<((3:Nat):Int),0=0,0=0,0≤(tokens:Int)∧(tokens:Int)<(v2.length:Int),g2=g2,g2=g2,((rowI v2).drop (0+(Int.toNat (tokens:Int))*1)).take 1=[.int .i64 e],(e == 1152921504606846976)=true])
 (hr:AvLe (.tup [.nilSl,.int .i64 0]) res):G Try.prog E (yU Try.prog) (f186S3 v2 v4 v6 t tokens g2 g4 g6) :=
 Qb (n:=400) (evs:=[.b false,.auto,.ld (.int .i64 e),.b true]) (obs:=_) hE Try.func186 Qh (by kernel_rfl) ho hr
theorem p186_3_3 (v2:List Int) (v4:List Int) (v6:List Int) (t:Nat) (tokens:Nat) (g2:Nat) (g4:Nat) (g6:Nat) (e:Int) {E:Env} {rv:AV} (hE:Qf Try.prog 186 rv E) (ho:AllP [(decide ((t:Int)≤1007))=false,(0:Int)≤0∧(0:Int)<((3:Nat):Int),0=0,0=0,0≤(tokens:Int)∧(tokens:Int)<(v2.length:Int),g2=g2,g2=g2,((rowI v2).drop (0+(Int.toNat (tokens:Int))*1)).take 1=[.int .i64 e],(e == 1152921504606846976)=false,(0:Int)≤2∧(2:Int)≤2∧(2:Int)≤2147483648,true=true,(0:Int)≤0∧(0:Int)<((2:Nat):Int),2≤2,(0:Int)≤0∧(0:Int)<((3:Nat):Int),0=0,0=0,0≤(tokens:Int)∧(tokens:Int)<(v2.length:Int),g2=g2,g2=g2,((rowI v2).drop (0+(Int.toNat (tokens:Int))*1)).take 1=[.int .i64 e]])
 (hg:G Try.prog E (Qai Try.prog) ⟨([J,J,J,J,.sl 7 0 0 2 1,.int .i64 e,J,.sl 0 0 0 3 1,J,J,J,J,.int .i64 (tokens:Int),J,.int .i64 0,.ptr 8 0 0,.int .i64 e]++jj 133 ([.rsl WI 0 2,.int .i64 2,.int .i64 0]++Js 65)),[⟨true,0,1,false,(QaW g2 v2 g4 v4 g6 v6),true⟩,⟨false,1,1,true,[],false⟩,⟨true,g2,1,true,(rowI v2),true⟩,⟨false,1,1,true,[],false⟩,⟨true,g4,1,true,(rowI v4),true⟩,⟨false,1,1,true,[],false⟩,⟨true,g6,1,true,(rowI v6),true⟩,⟨true,0,1,true,[.int .i64 0,.int .i64 0],true⟩,⟨true,0,1,true,[.int .i64 1,.int .i64 200],false⟩]⟩):G Try.prog E (yU Try.prog) (f186S3 v2 v4 v6 t tokens g2 g4 g6) :=
 Ql (n:=400) (ds:=[]) (cs:=[]) (live:=[4,5,7,12,14,15,16,150,151,152]) (m:=9) (evs:=[.b false,.auto,.ld (.int .i64 e),.b false,.b true,.auto,.auto,.ld (.int .i64 e),.stop]) (obs:=_) hE.2.1 (hE.nogh _) Qh (by kernel_rfl) ho hg
theorem f186W3 (v2:List Int) (v4:List Int) (v6:List Int) (t:Nat) (tokens:Nat) {E:Env} {rv:((List Int) × Int)} (hE:Qf Try.prog 186 (.tup [.rsl (rowI rv.1) 0 rv.1.length,.int .i64 rv.2]) E)
 (h:(((t:Int)≤1007→(∃ e:Int,v2[t]?=some e∧(∃ e1:Int,v2[tokens]?=some e1∧((e<e1→((I6 ((t:Int)+1))∧f186G3 E v2 v4 v6 (t+1) t))∧(¬ (e<e1)→((I6 ((t:Int)+1))∧f186G3 E v2 v4 v6 (t+1) tokens))))))∧(¬ ((t:Int)≤1007)→(∃ e:Int,v2[tokens]?=some e∧((e=1152921504606846976→rv=(([]:List Int),0))∧(¬ (e=1152921504606846976)→f186G5 E e (tokens:Int) e v2 v4 v6 0)))))):f186G3 E v2 v4 v6 t tokens:=by
 intro g2 g4 g6
 rcases bft (decide ((t:Int)≤1007)) with hc0 | hc0
 · have h:=h.1 (odt hc0)
   obtain ⟨e,h1,h⟩:=h
   obtain ⟨e1,h2,h⟩:=h
   rcases bft (decide (e<e1)) with hc1 | hc1
   · have h:=h.1 (odt hc1)
     obtain ⟨q18_2,h⟩:=h
     exact p186_3_0 v2 v4 v6 t tokens g2 g4 g6 e e1 hE ⟨hc0,(⟨by decide,by decide⟩),rfl,rfl,(QE h1),rfl,rfl,(rp cI 1 0 1 h1),(⟨by decide,by decide⟩),rfl,rfl,(QE h2),rfl,rfl,(rp cI 1 0 1 h2),hc1,q18_2,trivial⟩ (h g2 g4 g6)
   · have h:=h.2 (odf hc1)
     obtain ⟨q18_2,h⟩:=h
     exact p186_3_1 v2 v4 v6 t tokens g2 g4 g6 e e1 hE ⟨hc0,(⟨by decide,by decide⟩),rfl,rfl,(QE h1),rfl,rfl,(rp cI 1 0 1 h1),(⟨by decide,by decide⟩),rfl,rfl,(QE h2),rfl,rfl,(rp cI 1 0 1 h2),hc1,q18_2,trivial⟩ (h g2 g4 g6)
 · have h:=h.2 (odf hc0)
   obtain ⟨e,h1,h⟩:=h
   rcases bft (e == 1152921504606846976) with hc1 | hc1
   · have h:=h.1 (eq_of_beq hc1)
     exact p186_3_2 v2 v4 v6 t tokens g2 g4 g6 e hE ⟨hc0,(⟨by decide,by decide⟩),rfl,rfl,(QE h1),rfl,rfl,(rp cI 1 0 1 h1),hc1,trivial⟩ (by rw [h]; exact (QaZ ⟨VZ,⟨AvLe.of_eq rfl,trivial⟩⟩))
   · have h:=h.2 (ne_of_beq_false hc1)
     exact p186_3_3 v2 v4 v6 t tokens g2 g4 g6 e hE ⟨hc0,(⟨by decide,by decide⟩),rfl,rfl,(QE h1),rfl,rfl,(rp cI 1 0 1 h1),hc1,(⟨by decide,by decide,by decide⟩),rfl,(⟨by decide,by decide⟩),(by decide),(⟨by decide,by decide⟩),rfl,rfl,(QE h1),rfl,rfl,(rp cI 1 0 1 h1),trivial⟩ (h g2 g4 g6)
theorem p186_5_0 (price:Int) (tokens:Int) (left:Int) (v2:List Int) (v4:List Int) (v6:List Int) (v7_0:Nat) (g2:Nat) (g4:Nat) (g6:Nat) (e:Int) {E:Env} {rv:AV} (hE:Qf Try.prog 186 rv E) (ho:AllP [(decide (tokens≥1))=true,(0:Int)≤0∧(0:Int)<((3:Nat):Int),0=0,0=0,InR .i64 (tokens - 1),0≤(tokens - 1)∧(tokens - 1)<(v2.length:Int),g2=g2,g2=g2,((rowI v2).drop (0+(Int.toNat (tokens - 1))*1)).take 1=[.int .i64 e],(decide (e<1152921504606846976))=true,(0:Int)≤0∧(0:Int)<((3:Nat):Int),0=0,0=0,InR .i64 (tokens - 1),0≤(tokens - 1)∧(tokens - 1)<(v2.length:Int),g2=g2,g2=g2,((rowI v2).drop (0+(Int.toNat (tokens - 1))*1)).take 1=[.int .i64 e],InR .i64 (e+200),((e+200) == left)=true,InR .i64 (tokens - 1),(0:Int)≤0∧(0:Int)<((2:Nat):Int),0=0,0=0,InR .i64 ((v7_0:Int)+1),(0:Int)≤0∧(0:Int)<((2:Nat):Int),0=0,1≤2,0=0,(0:Int)≤0∧(0:Int)<((3:Nat):Int),0=0,0=0,0≤(tokens - 1)∧(tokens - 1)<(v2.length:Int),g2=g2,g2=g2,((rowI v2).drop (0+(Int.toNat (tokens - 1))*1)).take 1=[.int .i64 e]])
 (hg:G Try.prog E (Qai Try.prog) ⟨([J,J,J,J,.sl 7 0 0 2 1,.int .i64 price,J,.sl 0 0 0 3 1,J,J,J,J,.int .i64 (tokens - 1),J,.int .i64 0,.ptr 8 0 0,.int .i64 e]++jj 133 ([.rsl WI 0 2,.int .i64 2,.int .i64 0]++Js 65)),[⟨true,0,1,false,(QaW g2 v2 g4 v4 g6 v6),true⟩,⟨false,1,1,true,[],false⟩,⟨true,g2,1,true,(rowI v2),true⟩,⟨false,1,1,true,[],false⟩,⟨true,g4,1,true,(rowI v4),true⟩,⟨false,1,1,true,[],false⟩,⟨true,g6,1,true,(rowI v6),true⟩,⟨true,0,1,true,[.int .i64 ((v7_0:Int)+1),.int .i64 0],true⟩,⟨true,0,1,true,[.int .i64 1,.int .i64 200],false⟩]⟩):G Try.prog E (Qai Try.prog) (f186S5 price tokens left v2 v4 v6 v7_0 g2 g4 g6) :=
 Ql (n:=400) (ds:=[]) (cs:=[]) (live:=[4,5,7,12,14,15,16,150,151,152]) (m:=9) (evs:=[.b true,.auto,.auto,.ld (.int .i64 e),.b true,.auto,.auto,.ld (.int .i64 e),.b true,.auto,.auto,.auto,.ld (.int .i64 e),.stop]) (obs:=_) hE.2.1 (hE.nogh _) Qh (by kernel_rfl) ho hg
theorem p186_5_1 (price:Int) (tokens:Int) (left:Int) (v2:List Int) (v4:List Int) (v6:List Int) (v7_0:Nat) (g2:Nat) (g4:Nat) (g6:Nat) (e:Int) (e1:Int) {E:Env} {rv:AV} (hE:Qf Try.prog 186 rv E) (ho:AllP [(decide (tokens≥1))=true,(0:Int)≤0∧(0:Int)<((3:Nat):Int),0=0,0=0,InR .i64 (tokens - 1),0≤(tokens - 1)∧(tokens - 1)<(v2.length:Int),g2=g2,g2=g2,((rowI v2).drop (0+(Int.toNat (tokens - 1))*1)).take 1=[.int .i64 e],(decide (e<1152921504606846976))=true,(0:Int)≤0∧(0:Int)<((3:Nat):Int),0=0,0=0,InR .i64 (tokens - 1),0≤(tokens - 1)∧(tokens - 1)<(v2.length:Int),g2=g2,g2=g2,((rowI v2).drop (0+(Int.toNat (tokens - 1))*1)).take 1=[.int .i64 e],InR .i64 (e+200),((e+200) == left)=false,InR .i64 1,true=true,(0:Int)≤1∧(1:Int)<((2:Nat):Int),2≤2,(0:Int)≤1∧(1:Int)<((3:Nat):Int),0=0,0=0,0≤tokens∧tokens<(v4.length:Int),g4=g4,g4=g4,((rowI v4).drop (0+(Int.toNat tokens)*1)).take 1=[.int .i64 e1]])
 (hg:G Try.prog E (YA Try.prog) ⟨([J,J,J,J,.sl 7 0 0 2 1,.int .i64 price,J,.sl 0 0 0 3 1,J,J,J,J,.int .i64 tokens,J,.int .i64 1,.ptr 9 0 0,.int .i64 e1]++jj 133 z186_4),(z186_1 g2 v2 g4 v4 g6 v6 v7_0)⟩):G Try.prog E (Qai Try.prog) (f186S5 price tokens left v2 v4 v6 v7_0 g2 g4 g6) :=
 Ql (n:=400) (ds:=[]) (cs:=[]) (live:=[4,5,7,12,14,15,16,150,151,152]) (m:=10) (evs:=[.b true,.auto,.auto,.ld (.int .i64 e),.b true,.auto,.auto,.ld (.int .i64 e),.b false,.b true,.auto,.auto,.ld (.int .i64 e1),.stop]) (obs:=_) hE.2.1 (hE.nogh _) Qh (by kernel_rfl) ho hg
theorem p186_5_2 (price:Int) (tokens:Int) (left:Int) (v2:List Int) (v4:List Int) (v6:List Int) (v7_0:Nat) (g2:Nat) (g4:Nat) (g6:Nat) (e:Int) (e1:Int) {E:Env} {rv:AV} (hE:Qf Try.prog 186 rv E) (ho:AllP [(decide (tokens≥1))=true,(0:Int)≤0∧(0:Int)<((3:Nat):Int),0=0,0=0,InR .i64 (tokens - 1),0≤(tokens - 1)∧(tokens - 1)<(v2.length:Int),g2=g2,g2=g2,((rowI v2).drop (0+(Int.toNat (tokens - 1))*1)).take 1=[.int .i64 e],(decide (e<1152921504606846976))=false,false=false,InR .i64 1,true=true,(0:Int)≤1∧(1:Int)<((2:Nat):Int),2≤2,(0:Int)≤1∧(1:Int)<((3:Nat):Int),0=0,0=0,0≤tokens∧tokens<(v4.length:Int),g4=g4,g4=g4,((rowI v4).drop (0+(Int.toNat tokens)*1)).take 1=[.int .i64 e1]])
 (hg:G Try.prog E (YA Try.prog) ⟨([J,J,J,J,.sl 7 0 0 2 1,.int .i64 price,J,.sl 0 0 0 3 1,J,J,J,J,.int .i64 tokens,J,.int .i64 1,.ptr 9 0 0,.int .i64 e1]++jj 133 z186_4),(z186_1 g2 v2 g4 v4 g6 v6 v7_0)⟩):G Try.prog E (Qai Try.prog) (f186S5 price tokens left v2 v4 v6 v7_0 g2 g4 g6) :=
 Ql (n:=400) (ds:=[]) (cs:=[]) (live:=[4,5,7,12,14,15,16,150,151,152]) (m:=10) (evs:=[.b true,.auto,.auto,.ld (.int .i64 e),.b false,.b false,.b true,.auto,.auto,.ld (.int .i64 e1),.stop]) (obs:=_) hE.2.1 (hE.nogh _) Qh (by kernel_rfl) ho hg
theorem p186_5_3 (price:Int) (tokens:Int) (left:Int) (v2:List Int) (v4:List Int) (v6:List Int) (v7_0:Nat) (g2:Nat) (g4:Nat) (g6:Nat) (e:Int) {E:Env} {rv:AV} (hE:Qf Try.prog 186 rv E) (ho:AllP [(decide (tokens≥1))=false,false=false,false=false,InR .i64 1,true=true,(0:Int)≤1∧(1:Int)<((2:Nat):Int),2≤2,(0:Int)≤1∧(1:Int)<((3:Nat):Int),0=0,0=0,0≤tokens∧tokens<(v4.length:Int),g4=g4,g4=g4,((rowI v4).drop (0+(Int.toNat tokens)*1)).take 1=[.int .i64 e]])
 (hg:G Try.prog E (YA Try.prog) ⟨([J,J,J,J,.sl 7 0 0 2 1,.int .i64 price,J,.sl 0 0 0 3 1,J,J,J,J,.int .i64 tokens,J,.int .i64 1,.ptr 9 0 0,.int .i64 e]++jj 133 z186_4),(z186_1 g2 v2 g4 v4 g6 v6 v7_0)⟩):G Try.prog E (Qai Try.prog) (f186S5 price tokens left v2 v4 v6 v7_0 g2 g4 g6) :=
 Ql (n:=400) (ds:=[]) (cs:=[]) (live:=[4,5,7,12,14,15,16,150,151,152]) (m:=10) (evs:=[.b false,.b false,.b false,.b true,.auto,.auto,.ld (.int .i64 e),.stop]) (obs:=_) hE.2.1 (hE.nogh _) Qh (by kernel_rfl) ho hg
theorem f186W5 (price:Int) (tokens:Int) (left:Int) (v2:List Int) (v4:List Int) (v6:List Int) (v7_0:Nat) {E:Env} {rv:((List Int) × Int)} (hE:Qf Try.prog 186 (.tup [.rsl (rowI rv.1) 0 rv.1.length,.int .i64 rv.2]) E)
 (h:((tokens≥1→((I6 (tokens - 1))∧(0≤(tokens - 1)∧(∃ e:Int,v2[Int.toNat (tokens - 1)]?=some e∧((e<1152921504606846976→((I6 (tokens - 1))∧((I6 (e+200))∧(((e+200)=left→((I6 (tokens - 1))∧((I6 ((v7_0:Int)+1))∧f186G5 E price (tokens - 1) e v2 v4 v6 (v7_0+1))))∧(¬ ((e+200)=left)→(0≤tokens∧(∃ e1:Int,v4[Int.toNat tokens]?=some e1∧Vw E price tokens e1 v2 v4 v6 v7_0 0)))))))∧(¬ (e<1152921504606846976)→(0≤tokens∧(∃ e1:Int,v4[Int.toNat tokens]?=some e1∧Vw E price tokens e1 v2 v4 v6 v7_0 0))))))))∧(¬ (tokens≥1)→(0≤tokens∧(∃ e:Int,v4[Int.toNat tokens]?=some e∧Vw E price tokens e v2 v4 v6 v7_0 0))))):f186G5 E price tokens left v2 v4 v6 v7_0:=by
 intro g2 g4 g6
 rcases bft (decide (tokens≥1)) with hc0 | hc0
 · have h:=h.1 (odt hc0)
   obtain ⟨q4_1,h⟩:=h
   obtain ⟨h2,h⟩:=h
   obtain ⟨e,h1,h⟩:=h
   rcases bft (decide (e<1152921504606846976)) with hc1 | hc1
   · have h:=h.1 (odt hc1)
     obtain ⟨q14_2,h⟩:=h
     obtain ⟨q19_2,h⟩:=h
     rcases bft ((e+200) == left) with hc2 | hc2
     · have h:=h.1 (eq_of_beq hc2)
       obtain ⟨q21_3,h⟩:=h
       obtain ⟨q25_3,h⟩:=h
       exact p186_5_0 price tokens left v2 v4 v6 v7_0 g2 g4 g6 e hE ⟨hc0,(⟨by decide,by decide⟩),rfl,rfl,q4_1,(Qx h2 h1),rfl,rfl,(rp cI 1 0 1 h1),hc1,(⟨by decide,by decide⟩),rfl,rfl,q14_2,(Qx h2 h1),rfl,rfl,(rp cI 1 0 1 h1),q19_2,hc2,q21_3,(⟨by decide,by decide⟩),rfl,rfl,q25_3,(⟨by decide,by decide⟩),rfl,(by decide),rfl,(⟨by decide,by decide⟩),rfl,rfl,(Qx h2 h1),rfl,rfl,(rp cI 1 0 1 h1),trivial⟩ (h g2 g4 g6)
     · have h:=h.2 (ne_of_beq_false hc2)
       obtain ⟨h4,h⟩:=h
       obtain ⟨e1,h3,h⟩:=h
       exact p186_5_1 price tokens left v2 v4 v6 v7_0 g2 g4 g6 e e1 hE ⟨hc0,(⟨by decide,by decide⟩),rfl,rfl,q4_1,(Qx h2 h1),rfl,rfl,(rp cI 1 0 1 h1),hc1,(⟨by decide,by decide⟩),rfl,rfl,q14_2,(Qx h2 h1),rfl,rfl,(rp cI 1 0 1 h1),q19_2,hc2,(⟨by decide,by decide⟩),rfl,(⟨by decide,by decide⟩),(by decide),(⟨by decide,by decide⟩),rfl,rfl,(Qx h4 h3),rfl,rfl,(rp cI 1 0 1 h3),trivial⟩ (h g2 g4 g6)
   · have h:=h.2 (odf hc1)
     obtain ⟨h4,h⟩:=h
     obtain ⟨e1,h3,h⟩:=h
     exact p186_5_2 price tokens left v2 v4 v6 v7_0 g2 g4 g6 e e1 hE ⟨hc0,(⟨by decide,by decide⟩),rfl,rfl,q4_1,(Qx h2 h1),rfl,rfl,(rp cI 1 0 1 h1),hc1,rfl,(⟨by decide,by decide⟩),rfl,(⟨by decide,by decide⟩),(by decide),(⟨by decide,by decide⟩),rfl,rfl,(Qx h4 h3),rfl,rfl,(rp cI 1 0 1 h3),trivial⟩ (h g2 g4 g6)
 · have h:=h.2 (odf hc0)
   obtain ⟨h2,h⟩:=h
   obtain ⟨e,h1,h⟩:=h
   exact p186_5_3 price tokens left v2 v4 v6 v7_0 g2 g4 g6 e hE ⟨hc0,rfl,rfl,(⟨by decide,by decide⟩),rfl,(⟨by decide,by decide⟩),(by decide),(⟨by decide,by decide⟩),rfl,rfl,(Qx h2 h1),rfl,rfl,(rp cI 1 0 1 h1),trivial⟩ (h g2 g4 g6)
theorem buy_ok:Pure Try.prog 186 [.rsl [.int .i64 1,.int .i64 200,.int .i64 6,.int .i64 1000] 0 2,.int .i64 7] (.tup [.rsl (rowI [1,1]) 0 2,.int .i64 1200]):=Qv Try.func186 f186b fun E hE=>by
 have hl:(List.replicate (Int.toNat (1008:Int)) (1152921504606846976:Int)).length=1008:=by rw [List.length_replicate]; rfl
 -- the last loops
 have e5:Vw E 1200 0 0 (LP c0 1008) (LP c1 1008) r2 1 1:=f186W1005 1200 0 0 _ _ _ 1 1 (rv:=([1,1],1200)) hE ⟨fun h=>by omega,fun _=>rfl⟩
 have a0:(LP c1 1008)[0]?=some 0:=VO (by omega)
 have a6:(LP c1 1008)[6]?=some 1000:=VO (by omega)
 have b6:(LP c0 1008)[6]?=some 1000:=VO (by omega)
 have b5:(LP c0 1008)[5]?=some 1000:=VO (by omega)
 have b7:(LP c0 1008)[7]?=some 1200:=VO (by omega)
 have e4:Vw E 1200 6 1000 (LP c0 1008) (LP c1 1008) r2 1 0:=f186W1005 1200 6 1000 _ _ _ 1 0 (rv:=([1,1],1200)) hE
  ⟨fun _=>⟨by omega,by omega,0,a0,fun _=>⟨by omega,by omega,fun _=>⟨by omega,by omega,e5⟩,fun h=>absurd rfl h⟩,fun h=>absurd (by omega) h⟩,fun h=>absurd (by omega) h⟩
 have e3:f186G5 E 1200 6 1000 (LP c0 1008) (LP c1 1008) r2 1:=f186W5 1200 6 1000 _ _ _ 1 (rv:=([1,1],1200)) hE
  ⟨fun _=>⟨by omega,by omega,1000,b5,fun _=>⟨by omega,by omega,fun h=>absurd h (by omega),fun _=>⟨by omega,1000,a6,e4⟩⟩,fun h=>absurd (by omega) h⟩,fun h=>absurd (by omega) h⟩
 have e2:f186G5 E 1200 7 1200 (LP c0 1008) (LP c1 1008) r2 0:=f186W5 1200 7 1200 _ _ _ 0 (rv:=([1,1],1200)) hE
  ⟨fun _=>⟨by omega,by omega,1000,b6,fun _=>⟨by omega,by omega,fun _=>⟨by omega,by omega,e3⟩,fun h=>absurd rfl h⟩,fun h=>absurd (by omega) h⟩,fun h=>absurd (by omega) h⟩
 -- the least price
 have l3:∀ (d t:Nat),t+d=1008→7≤t→f186G3 E (LP c0 1008) (LP c1 1008) r2 t 7:=by
  intro d
  induction d with
  | zero =>
   intro t ht h7
   exact f186W3 _ _ _ t 7 (rv:=([1,1],1200)) hE ⟨fun h=>by omega,fun _=>⟨1200,b7,fun h=>absurd h (by omega),fun _=>e2⟩⟩
  | succ d ih =>
   intro t ht h7
   have hg:(LP c0 1008)[t]?=some (c0 t):=by rw [VO (by omega),if_pos (by omega)]
   have hge:¬ c0 t<1200:=by unfold c0; omega
   exact f186W3 _ _ _ t 7 (rv:=([1,1],1200)) hE ⟨fun _=>⟨_,hg,1200,b7,fun h=>absurd h hge,fun _=>⟨by omega,ih (t+1) (by omega) (by omega)⟩⟩,fun h=>by omega⟩
 -- the rows
 have l2:∀ (d j:Nat),j+d=1008→Qbv E (LP c1 1008) r2 j (LP c0 j):=by
  intro d
  induction d with
  | zero =>
   intro j hj
   have ej:j=1008:=by omega
   subst ej
   exact f186W2 _ _ _ _ (rv:=([1,1],1200)) hE ⟨fun h=>by rw [hl] at h; omega,fun _=>l3 1001 7 (by omega) (by omega)⟩
  | succ d ih =>
   intro j hj
   have g1:(LP c1 1008)[j]?=some (c1 j):=by rw [VO (by omega),if_pos (by omega)]
   have g2:(LP c0 j)[j]?=some NN:=by rw [VO (by omega),if_neg (by omega)]
   have nx:=ih (j+1) (by omega)
   rw [← LP_set (f:=c0) (j:=j) (by omega)] at nx
   refine f186W2 _ _ j _ (rv:=([1,1],1200)) hE ⟨fun _=>⟨_,g1,_,g2,by omega,fun h1=>?_,fun h1=>⟨by omega,?_⟩⟩,fun h=>by rw [hl] at h; omega⟩
   · have ej:Int.toNat ((j:Int) - 1)=j - 1:=by omega
     have bd:=c0_bd (t:=j - 1) (by omega)
     have g3:((LP c0 j).set j (c1 j))[Int.toNat ((j:Int) - 1)]?=some (c0 (j - 1)):=by rw [ej,List.getElem?_set_ne (by omega),VO (by omega),if_pos (by omega)]
     have g4:((LP c0 j).set j (c1 j))[j]?=some (c1 j):=List.getElem?_set_self (by rw [QbG]; omega)
     refine ⟨by omega,_,g3,fun _=>⟨_,g4,by omega,by omega,?_⟩,fun h=>absurd (by omega) h⟩
     rw [List.set_set,c0_step (by omega) (by omega)]
     exact nx
   · have e0:j=0:=by omega
     subst e0
     exact nx
 have l1:∀ (d j:Nat),j+d=1008→Wd E r2 j (LP c1 j):=by
  intro d
  induction d with
  | zero =>
   intro j hj
   have ej:j=1008:=by omega
   subst ej
   refine f186W1002 _ _ _ (rv:=([1,1],1200)) hE ⟨fun h=>by rw [hl] at h; omega,fun _=>?_⟩
   have:=l2 1008 0 (by omega)
   rw [← LP_zero] at this
   exact this
  | succ d ih =>
   intro j hj
   have g1:=r2_get (j:=j) (by omega)
   have g2:(LP c1 j)[j]?=some NN:=by rw [VO (by omega),if_neg (by omega)]
   have nx:=ih (j+1) (by omega)
   rw [← LP_set (f:=c1) (j:=j) (by omega)] at nx
   refine f186W1002 _ j _ (rv:=([1,1],1200)) hE ⟨fun _=>⟨_,g1,_,g2,by omega,fun h1=>?_,fun h1=>⟨by omega,?_⟩⟩,fun h=>by rw [hl] at h; omega⟩
   · have ej:Int.toNat ((j:Int) - 6)=j - 6:=by omega
     rw [if_neg (show ¬ j=0 by omega)]
     have g3:((LP c1 j).set j NN)[Int.toNat ((j:Int) - 6)]?=some (c1 (j - 6)):=by rw [ej,List.getElem?_set_ne (by omega),VO (by omega),if_pos (by omega)]
     have g4:((LP c1 j).set j NN)[j]?=some NN:=List.getElem?_set_self (by rw [QbG]; omega)
     refine ⟨by omega,_,g3,fun h2=>⟨_,g4,?_,by omega,?_⟩,fun h2=>⟨by omega,?_⟩⟩
     · by_cases h6:(j - 6) % 6=0
       · have:=qX (t:=j - 6) (by omega) h6
         omega
       · rw [Qau h6] at h2
         exact absurd h2 (by decide)
     · have h6:(j - 6) % 6=0:=Decidable.byContradiction fun h6=>by
        rw [Qau h6] at h2
        exact absurd h2 (by decide)
       rw [List.set_set,c1_step (by omega) (by omega) h6]
       exact nx
     · have h6:¬ j % 6=0:=fun h6=>by
        have:=qX (t:=j - 6) (by omega) (by omega)
        omega
       rw [Qau h6] at nx
       exact nx
   · by_cases e0:j=0
     · subst e0
       exact nx
     · rw [if_neg e0]
       have h6:¬ j % 6=0:=by omega
       rw [Qau h6] at nx
       exact nx
 have z:(List.replicate (Int.toNat (1008:Int)) (1152921504606846976:Int))[0]?=some NN:=by rw [List.getElem?_replicate,if_pos (by decide)]
 have fin:=l1 1008 0 (by omega)
 rw [← LP_zero] at fin
 exact f186W (rv:=([1,1],1200)) hE ⟨by omega,by omega,by omega,NN,z,fin⟩
end Go.Proofs.Ytemklbioijmjiaa
namespace Go.Proofs.Ytemklbioijmjiaa
open Go Ax
open Go.Proofs
def exF:Fair:=⟨0,0,[5],[0],[⟨1,200⟩,⟨6,1000⟩],0,0,1⟩
theorem f116b:Try.f116.body=some (Qd Try.prog 116):=by kernel_rfl
theorem u116 {a c k:List AV} {r:AV} (h:Pure Try.prog 116 (a++c++k) r):Qe Try.prog (.clos 116 a k) c r:=Qj Try.func116 (by kernel_rfl) f116b h
theorem p116_start_0 {E:Env} {res:AV} (hE:Qf Try.prog 116 res E) (ho:AllP [Qe Try.prog (.clos 186 [] []) [.rsl [.int .i64 1,.int .i64 200,.int .i64 6,.int .i64 1000] 0 2,.int .i64 7] (.tup [.rsl (rowI [1,1]) 0 2,.int .i64 1200]),2 ≠ 0,false=false])
 (hr:AvLe (.tup [.rsl (rowI [1,1]) 0 2,.int .i64 1200,.int .i64 0]) res):G Try.prog E [.code (Qd Try.prog 116)] ⟨[.agg [.int .i64 0,.int .i64 0,.rsl [.int .i64 5] 0 1,.rsl [.int .i64 0] 0 1,.rsl [.int .i64 1,.int .i64 200,.int .i64 6,.int .i64 1000] 0 2,.int .i64 0,.int .i64 0,.int .i64 1],.int .i64 7]++unds (Try.f116.ntmps - 2),[]⟩ :=
 Qb (n:=400) (evs:=[.v (.tup [.rsl (rowI [1,1]) 0 2,.int .i64 1200]),.b false]) (obs:=_) hE Try.func116 Qh (by kernel_rfl) ho hr
theorem f116W {E:Env} {rv:((List Int) × Int × Int)} (hE:Qf Try.prog 116 (.tup [.rsl (rowI rv.1) 0 rv.1.length,.int .i64 rv.2.1,.int .i64 rv.2.2]) E)
 (h:rv=((([1,1]:List Int).take 2),1200,0)):G Try.prog E [.code (Qd Try.prog 116)] ⟨[.agg [.int .i64 0,.int .i64 0,.rsl [.int .i64 5] 0 1,.rsl [.int .i64 0] 0 1,.rsl [.int .i64 1,.int .i64 200,.int .i64 6,.int .i64 1000] 0 2,.int .i64 0,.int .i64 0,.int .i64 1],.int .i64 7]++unds (Try.f116.ntmps - 2),[]⟩:=by
 exact p116_start_0 hE ⟨(u186 buy_ok),(by decide),rfl,trivial⟩ (AvLe.of_eq (by rw [h]; rw [(show AV.rsl (rowI [1,1]) 0 2=AV.rsl (rowI ([1,1]:List Int)) 0 ([1,1]:List Int).length from by rw [show 2=([1,1]:List Int).length from by simp]; try rfl)]; try rfl))
theorem bought_ok:Pure Try.prog 116 [.agg [.int .i64 0,.int .i64 0,.rsl [.int .i64 5] 0 1,.rsl [.int .i64 0] 0 1,.rsl [.int .i64 1,.int .i64 200,.int .i64 6,.int .i64 1000] 0 2,.int .i64 0,.int .i64 0,.int .i64 1],.int .i64 7] (.tup [.rsl (rowI [1,1]) 0 2,.int .i64 1200,.int .i64 0]):=Qv Try.func116 f116b fun E hE=>f116W (rv:=([1,1],1200,0)) hE rfl
theorem f48b:Try.f48.body=some (Qd Try.prog 48):=by kernel_rfl
theorem u48 {a c k:List AV} {r:AV} (h:Pure Try.prog 48 (a++c++k) r):Qe Try.prog (.clos 48 a k) c r:=Qj Try.func48 (by kernel_rfl) f48b h
abbrev z48_1:List AV:=[.int .i64 0,.int .i64 0,.rsl [.int .i64 5] 0 1,.rsl [.int .i64 0] 0 1,.rsl [.int .i64 1,.int .i64 200,.int .i64 6,.int .i64 1000] 0 2,.int .i64 0,.int .i64 0,.int .i64 1]
theorem p48_start_0 {E:Env} {res:AV} (hE:Qf Try.prog 48 res E) (ho:AllP [Qe Try.prog (.clos 114 [] []) [.agg z48_1] (.int .i64 (Wc exF)),((Wc exF) != 0)=true])
 (hr:AvLe (.tup [.nilSl,.int .i64 0,.int .i64 (Wc exF)]) res):G Try.prog E [.code (Qd Try.prog 48)] ⟨[.agg z48_1,.int .i64 7]++unds (Try.f48.ntmps - 2),[]⟩ :=
 Qb (n:=400) (evs:=[.v (.int .i64 (Wc exF)),.b true]) (obs:=_) hE Try.func48 Qh (by kernel_rfl) ho hr
theorem p48_start_1 {E:Env} {res:AV} (hE:Qf Try.prog 48 res E) (ho:AllP [Qe Try.prog (.clos 114 [] []) [.agg z48_1] (.int .i64 (Wc exF)),((Wc exF) != 0)=false,Qe Try.prog (.clos 115 [] []) [.int .i64 7,.int .i64 0,.int .i64 1000] (.bool (Qa 7 0 1000)),(!(Qa 7 0 1000))=true])
 (hr:AvLe (.tup [.nilSl,.int .i64 0,.int .i64 1]) res):G Try.prog E [.code (Qd Try.prog 48)] ⟨[.agg z48_1,.int .i64 7]++unds (Try.f48.ntmps - 2),[]⟩ :=
 Qb (n:=400) (evs:=[.v (.int .i64 (Wc exF)),.b false,.v (.bool (Qa 7 0 1000)),.b true]) (obs:=_) hE Try.func48 Qh (by kernel_rfl) ho hr
theorem p48_start_2 {E:Env} {res:AV} (hE:Qf Try.prog 48 res E) (ho:AllP [Qe Try.prog (.clos 114 [] []) [.agg [.int .i64 0,.int .i64 0,.rsl [.int .i64 5] 0 1,.rsl [.int .i64 0] 0 1,.rsl [.int .i64 1,.int .i64 200,.int .i64 6,.int .i64 1000] 0 2,.int .i64 0,.int .i64 0,.int .i64 1]] (.int .i64 (Wc exF)),((Wc exF) != 0)=false,Qe Try.prog (.clos 115 [] []) [.int .i64 7,.int .i64 0,.int .i64 1000] (.bool (Qa 7 0 1000)),(!(Qa 7 0 1000))=false,Qe Try.prog (.clos 116 [] []) [.agg [.int .i64 0,.int .i64 0,.rsl [.int .i64 5] 0 1,.rsl [.int .i64 0] 0 1,.rsl [.int .i64 1,.int .i64 200,.int .i64 6,.int .i64 1000] 0 2,.int .i64 0,.int .i64 0,.int .i64 1],.int .i64 7] (.tup [.rsl (rowI [1,1]) 0 2,.int .i64 1200,.int .i64 0])])
 (hr:AvLe (.tup [.rsl (rowI [1,1]) 0 2,.int .i64 1200,.int .i64 0]) res):G Try.prog E [.code (Qd Try.prog 48)] ⟨[.agg [.int .i64 0,.int .i64 0,.rsl [.int .i64 5] 0 1,.rsl [.int .i64 0] 0 1,.rsl [.int .i64 1,.int .i64 200,.int .i64 6,.int .i64 1000] 0 2,.int .i64 0,.int .i64 0,.int .i64 1],.int .i64 7]++unds (Try.f48.ntmps - 2),[]⟩ :=
 Qb (n:=400) (evs:=[.v (.int .i64 (Wc exF)),.b false,.v (.bool (Qa 7 0 1000)),.b false,.v (.tup [.rsl (rowI [1,1]) 0 2,.int .i64 1200,.int .i64 0])]) (obs:=_) hE Try.func48 Qh (by kernel_rfl) ho hr
theorem f48W {E:Env} {rv:((List Int) × Int × Int)} (hE:Qf Try.prog 48 (.tup [.rsl (rowI rv.1) 0 rv.1.length,.int .i64 rv.2.1,.int .i64 rv.2.2]) E)
 (h:((¬ ((Wc exF)=0)→rv=(([]:List Int),0,(Wc exF)))∧((Wc exF)=0→(((Qa 7 0 1000)=false→rv=(([]:List Int),0,1))∧((Qa 7 0 1000)=true→rv=((([1,1]:List Int).take 2),1200,0)))))):G Try.prog E [.code (Qd Try.prog 48)] ⟨[.agg [.int .i64 0,.int .i64 0,.rsl [.int .i64 5] 0 1,.rsl [.int .i64 0] 0 1,.rsl [.int .i64 1,.int .i64 200,.int .i64 6,.int .i64 1000] 0 2,.int .i64 0,.int .i64 0,.int .i64 1],.int .i64 7]++unds (Try.f48.ntmps - 2),[]⟩:=by
 rcases bft ((Wc exF) != 0) with hc0 | hc0
 · have h:=h.1 (bneT hc0)
   exact p48_start_0 hE ⟨(u114 (KC exF ⟨by decide,by decide,by decide⟩)),hc0,trivial⟩ (by rw [h]; exact (QaZ ⟨VZ,⟨AvLe.of_eq rfl,⟨AvLe.of_eq rfl,trivial⟩⟩⟩))
 · have h:=h.2 (bneF hc0)
   rcases bft (!(Qa 7 0 1000)) with hc1 | hc1
   · have h:=h.1 (bnT hc1)
     exact p48_start_1 hE ⟨(u114 (KC exF ⟨by decide,by decide,by decide⟩)),hc0,(u115 (Qt 7 0 1000)),hc1,trivial⟩ (by rw [h]; exact (QaZ ⟨VZ,⟨AvLe.of_eq rfl,⟨AvLe.of_eq rfl,trivial⟩⟩⟩))
   · have h:=h.2 (bnF hc1)
     exact p48_start_2 hE ⟨(u114 (KC exF ⟨by decide,by decide,by decide⟩)),hc0,(u115 (Qt 7 0 1000)),hc1,(u116 bought_ok),trivial⟩ (AvLe.of_eq (by rw [h]; rw [(show AV.rsl (rowI [1,1]) 0 2=AV.rsl (rowI ([1,1]:List Int)) 0 ([1,1]:List Int).length from by rw [show 2=([1,1]:List Int).length from by simp]; try rfl)]; try rfl))
theorem exF_ok:Wc exF=0:=by decide
theorem Buy_ok:Pure Try.prog 48 [.agg [.int .i64 0,.int .i64 0,.rsl [.int .i64 5] 0 1,.rsl [.int .i64 0] 0 1,.rsl [.int .i64 1,.int .i64 200,.int .i64 6,.int .i64 1000] 0 2,.int .i64 0,.int .i64 0,.int .i64 1],.int .i64 7] (.tup [.rsl (rowI [1,1]) 0 2,.int .i64 1200,.int .i64 0]):=Qv Try.func48 f48b fun E hE=>f48W (rv:=([1,1],1200,0)) hE ⟨fun h=>absurd exF_ok h,fun _=>⟨fun h=>absurd h (by decide),fun _=>rfl⟩⟩
theorem f31b:Try.f31.body=some (Qd Try.prog 31):=by kernel_rfl
theorem u31 {a c k:List AV} {r:AV} (h:Pure Try.prog 31 (a++c++k) r):Qe Try.prog (.clos 31 a k) c r:=Qj Try.func31 (by kernel_rfl) f31b h
def f31K0 (P:Program):List Item:=kAt 400 [.code (Qd P 31)] [.b false,.stop]
def f31S0 (a:(List Int)) (b:(List Int)) (i:Nat):St:=⟨([.rsl (rowI a) 0 a.length,.rsl (rowI b) 0 b.length,J,J,J,.int .i64 (i:Int)]++Js 20),[]⟩
def f31G0 (E:Env) (a:(List Int)) (b:(List Int)) (i:Nat):Prop:=G Try.prog E (f31K0 Try.prog) (f31S0 a b i )
theorem p31_start_0 (a:(List Int)) (b:(List Int)) {E:Env} {res:AV} (hE:Qf Try.prog 31 res E) (ho:AllP [((a.length:Int) != (b.length:Int))=true])
 (hr:AvLe (.bool false) res):G Try.prog E [.code (Qd Try.prog 31)] ⟨[.rsl (rowI a) 0 a.length,.rsl (rowI b) 0 b.length]++unds (Try.f31.ntmps - 2),[]⟩ :=
 Qb (n:=400) (evs:=[.b true]) (obs:=_) hE Try.func31 Qh (by kernel_rfl) ho hr
theorem p31_start_1 (a:(List Int)) (b:(List Int)) {E:Env} {rv:AV} (hE:Qf Try.prog 31 rv E) (ho:AllP [((a.length:Int) != (b.length:Int))=false])
 (hg:G Try.prog E (f31K0 Try.prog) ⟨([.rsl (rowI a) 0 a.length,.rsl (rowI b) 0 b.length,J,J,J,.int .i64 0]++Js 20),[]⟩):G Try.prog E [.code (Qd Try.prog 31)] ⟨[.rsl (rowI a) 0 a.length,.rsl (rowI b) 0 b.length]++unds (Try.f31.ntmps - 2),[]⟩ :=
 Ql (n:=400) (ds:=[]) (cs:=[]) (live:=[0,1,5]) (m:=0) (evs:=[.b false,.stop]) (obs:=_) hE.2.1 (hE.nogh _) Qh (by kernel_rfl) ho hg
theorem f31W (a:(List Int)) (b:(List Int)) {E:Env} {rv:Bool} (hE:Qf Try.prog 31 (.bool rv) E)
 (h:((¬ ((a.length:Int)=(b.length:Int))→rv=false)∧((a.length:Int)=(b.length:Int)→f31G0 E a b 0))):G Try.prog E [.code (Qd Try.prog 31)] ⟨[.rsl (rowI a) 0 a.length,.rsl (rowI b) 0 b.length]++unds (Try.f31.ntmps - 2),[]⟩:=by
 rcases bft ((a.length:Int) != (b.length:Int)) with hc0 | hc0
 · have h:=h.1 (bneT hc0)
   exact p31_start_0 a b hE ⟨hc0,trivial⟩ (AvLe.of_eq (by rw [h]; try rfl))
 · have h:=h.2 (bneF hc0)
   exact p31_start_1 a b hE ⟨hc0,trivial⟩ h
theorem p31_0_0 (a:(List Int)) (b:(List Int)) (i:Nat) (e:Int) (e1:Int) {E:Env} {res:AV} (hE:Qf Try.prog 31 res E) (ho:AllP [(decide ((i:Int)<(a.length:Int)))=true,0≤(i:Int)∧(i:Int)<(a.length:Int),((rowI a).drop (0+(Int.toNat (i:Int))*1)).take 1=[.int .i64 e],0≤(i:Int)∧(i:Int)<(b.length:Int),((rowI b).drop (0+(Int.toNat (i:Int))*1)).take 1=[.int .i64 e1],(e != e1)=true])
 (hr:AvLe (.bool false) res):G Try.prog E (f31K0 Try.prog) (f31S0 a b i ) :=
 Qb (n:=400) (evs:=[.b true,.ld (.int .i64 e),.ld (.int .i64 e1),.b true]) (obs:=_) hE Try.func31 Qh (by kernel_rfl) ho hr
theorem p31_0_1 (a:(List Int)) (b:(List Int)) (i:Nat) (e:Int) (e1:Int) {E:Env} {rv:AV} (hE:Qf Try.prog 31 rv E) (ho:AllP [(decide ((i:Int)<(a.length:Int)))=true,0≤(i:Int)∧(i:Int)<(a.length:Int),((rowI a).drop (0+(Int.toNat (i:Int))*1)).take 1=[.int .i64 e],0≤(i:Int)∧(i:Int)<(b.length:Int),((rowI b).drop (0+(Int.toNat (i:Int))*1)).take 1=[.int .i64 e1],(e != e1)=false,InR .i64 ((i:Int)+1)])
 (hg:G Try.prog E (f31K0 Try.prog) ⟨([.rsl (rowI a) 0 a.length,.rsl (rowI b) 0 b.length,J,J,J,.int .i64 ((i:Int)+1)]++Js 20),[]⟩):G Try.prog E (f31K0 Try.prog) (f31S0 a b i ) :=
 Ql (n:=400) (ds:=[]) (cs:=[]) (live:=[0,1,5]) (m:=0) (evs:=[.b true,.ld (.int .i64 e),.ld (.int .i64 e1),.b false,.stop]) (obs:=_) hE.2.1 (hE.nogh _) Qh (by kernel_rfl) ho hg
theorem p31_0_2 (a:(List Int)) (b:(List Int)) (i:Nat) {E:Env} {res:AV} (hE:Qf Try.prog 31 res E) (ho:AllP [(decide ((i:Int)<(a.length:Int)))=false])
 (hr:AvLe (.bool true) res):G Try.prog E (f31K0 Try.prog) (f31S0 a b i ) :=
 Qb (n:=400) (evs:=[.b false]) (obs:=_) hE Try.func31 Qh (by kernel_rfl) ho hr
theorem f31W0 (a:(List Int)) (b:(List Int)) (i:Nat) {E:Env} {rv:Bool} (hE:Qf Try.prog 31 (.bool rv) E)
 (h:(((i:Int)<(a.length:Int)→(∃ e:Int,a[i]?=some e∧(∃ e1:Int,b[i]?=some e1∧((¬ (e=e1)→rv=false)∧(e=e1→((I6 ((i:Int)+1))∧f31G0 E a b (i+1)))))))∧(¬ ((i:Int)<(a.length:Int))→rv=true))):f31G0 E a b i:=by
 rcases bft (decide ((i:Int)<(a.length:Int))) with hc0 | hc0
 · have h:=h.1 (odt hc0)
   obtain ⟨e,h1,h⟩:=h
   obtain ⟨e1,h2,h⟩:=h
   rcases bft (e != e1) with hc1 | hc1
   · have h:=h.1 (bneT hc1)
     exact p31_0_0 a b i e e1 hE ⟨hc0,(QE h1),(rp cI 1 0 1 h1),(QE h2),(rp cI 1 0 1 h2),hc1,trivial⟩ (AvLe.of_eq (by rw [h]; try rfl))
   · have h:=h.2 (bneF hc1)
     obtain ⟨q8_2,h⟩:=h
     exact p31_0_1 a b i e e1 hE ⟨hc0,(QE h1),(rp cI 1 0 1 h1),(QE h2),(rp cI 1 0 1 h2),hc1,q8_2,trivial⟩ h
 · have h:=h.2 (odf hc0)
   exact p31_0_2 a b i hE ⟨hc0,trivial⟩ (AvLe.of_eq (by rw [h]; try rfl))
theorem Wj (a b:List Int) (h:a=b∧a.length≤1000000):Pure Try.prog 31 [.rsl (rowI a) 0 a.length,.rsl (rowI b) 0 b.length] (.bool true):=Qv Try.func31 f31b fun E hE=>by
 obtain ⟨rfl,hl⟩:=h
 have key:∀ (d i:Nat),i+d=a.length→f31G0 E a a i:=by
  intro d
  induction d with
  | zero=>intro i hi; exact f31W0 a a i (rv:=true) hE ⟨fun h=>by omega,fun _=>rfl⟩
  | succ d ih =>
   intro i hi
   have hx:a[i]?=some (a[i]'(by omega)):=List.getElem?_eq_getElem (by omega)
   exact f31W0 a a i (rv:=true) hE ⟨fun _=>⟨_,hx,_,hx,fun h=>absurd rfl h,fun _=>⟨by omega,ih (i+1) (by omega)⟩⟩,fun h=>by omega⟩
 exact f31W a a (rv:=true) hE ⟨fun h=>absurd rfl h,fun _=>key a.length 0 (by omega)⟩
theorem f13b:Try.f13.body=some (Qd Try.prog 13):=by kernel_rfl
theorem u13 {a c k:List AV} {r:AV} (h:Pure Try.prog 13 (a++c++k) r):Qe Try.prog (.clos 13 a k) c r:=Qj Try.func13 (by kernel_rfl) f13b h
theorem p13_start_0 {E:Env} {res:AV} (hE:Qf Try.prog 13 res E) (ho:AllP [8≤8,QO Try.prog (.clos 48 [] []) [.agg [.int .i64 0,.int .i64 0,.sl 0 0 0 1 1,.sl 1 0 0 1 1,.sl 2 0 0 2 2,.int .i64 0,.int .i64 0,.int .i64 1],.int .i64 7] [⟨true,0,1,true,[.int .i64 5],true⟩,⟨true,0,1,true,[.int .i64 0],true⟩,⟨true,0,2,true,[.int .i64 1,.int .i64 200,.int .i64 6,.int .i64 1000],true⟩] (.tup [.rsl (rowI [1,1]) 0 2,.int .i64 1200,.int .i64 0]) [⟨false,1,1,true,[],false⟩,⟨false,1,1,true,[],false⟩,⟨false,1,2,true,[],false⟩],true=true,true=true,Qe Try.prog (.clos 31 [] []) [.rsl (rowI [1,1]) 0 2,.rsl [.int .i64 1,.int .i64 1] 0 2] (.bool true),0=0])
 (hr:AvLe (.bool true) res):G Try.prog E [.code (Qd Try.prog 13)] ⟨[]++unds (Try.f13.ntmps - 0),[]⟩ :=
 Qb (n:=400) (evs:=[.lent [0,1,2] (.tup [.rsl (rowI [1,1]) 0 2,.int .i64 1200,.int .i64 0]) [⟨false,1,1,true,[],false⟩,⟨false,1,1,true,[],false⟩,⟨false,1,2,true,[],false⟩],.b true,.b true,.v (.bool true)]) (obs:=_) hE Try.func13 Qh (by kernel_rfl) ho hr
theorem f13W {E:Env} {rv:Bool} (hE:Qf Try.prog 13 (.bool rv) E)
 (h:(((([1,1]:List Int).take 2)=([1,1])∧(([1,1]:List Int).take 2).length≤1000000)∧rv=true)):G Try.prog E [.code (Qd Try.prog 13)] ⟨[]++unds (Try.f13.ntmps - 0),[]⟩:=by
 obtain ⟨h1,h⟩:=h
 exact p13_start_0 hE ⟨(by decide),(QcS (fv':=.clos 48 [] []) (args':=[.agg [.int .i64 0,.int .i64 0,.rsl [.int .i64 5] 0 1,.rsl [.int .i64 0] 0 1,.rsl [.int .i64 1,.int .i64 200,.int .i64 6,.int .i64 1000] 0 2,.int .i64 0,.int .i64 0,.int .i64 1],.int .i64 7]) (o1:=[]) (o2:=[0=0,0=0,0=0]) (by kernel_rfl) trivial (by kernel_rfl) ⟨rfl,rfl,rfl,trivial⟩ (u48 Buy_ok)),rfl,rfl,(Qe.le (args:=[.rsl (rowI (([1,1]:List Int).take 2)) 0 ((([1,1]:List Int).take 2).length),.rsl (rowI ([1,1])) 0 (([1,1]).length)]) (u31 (Wj (([1,1]:List Int).take 2) ([1,1]) h1)) ⟨(by exact rsl_take cI (s:=1) (fun _=>rfl) (by first | omega | decide | simp)),⟨AvLe.of_eq rfl,trivial⟩⟩),rfl,trivial⟩ (AvLe.of_eq (by rw [h]; try rfl))
theorem WS:Pure Try.prog 13 [] (.bool true):=Qv Try.func13 f13b fun E hE=>f13W (rv:=true) hE ⟨⟨rfl,by decide⟩,rfl⟩
end Go.Proofs.Ytemklbioijmjiaa