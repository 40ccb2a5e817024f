/- A part of the proof: several texts, one behind the other. -/
import Derived.Test.YtfgmlaeikcfpbaaLStallsDrawsA
import Derived.RangeFuncRecord
import Derived.Laws.Sem
import Derived.Orders
import Derived.Shelf.Abstract
import Derived.ProofKit
import Derived.OpenShut
import Derived.WideShapes
import Derived.WideKeyArgs
import Derived.ChangeSame
import Derived.Test.YtfgmlaeikcfpbaaChecked
set_option linter.unusedVariables false
set_option linter.unusedSimpArgs false
set_option maxRecDepth 100000
namespace Ax
open Go
section
variable {P:Program} {E:Env} {K K':List Item} {st st':St}
def Wh (P:Program) (f:FuncId) (cs:List Frame) (Post:Value→World→Prop) (m:Machine):Prop :=
 ∃ v w' fr,m=lone fr cs w'∧fr.fn=f∧fr.leaving P w' (.returned v)∧Post v w'
theorem qE {cs:List Frame} {M Z:Nat→Prop} {w0:World}:∀ (Ds:List Nat) (fr:Frame) (w:World),fr.mode=.returning→fr.defers=Ds.map mark→Ds.Nodup →
 (∀ D ∈ Ds,Z D∧(M D ∨ w0.heap.size≤D)∧w.heap[D]?=some (.deferred (some []))) →
 ∃ w',Steps P (lone fr cs w) (lone { fr with defers:=[] } cs w')∧EvoC w w'∧(Fr w0 M w→Fr w0 M w')
 | [],fr,w,hm,hd,hn,h=>by
  refine ⟨w,?_,⟨fun _ _ _ h=>h,rfl⟩,fun h=>h⟩
  have:fr={ fr with defers:=[] }:=by cases fr; simp at hd; simp [hd]
  rw [← this]; exact .refl _ _
 | D :: Ds,fr,w,hm,hd,hn,h=>by
  obtain ⟨h1,h2,h3⟩:=h D (by simp)
  have s1:=step_collected (P:=P) (cs:=cs) (fr:=fr) (by rw [hm]; simp) (d:=mark D) (ds:=Ds.map mark) (by simpa using hd) rfl (run_takeDeferred h3)
  obtain ⟨w',s2,e2,f2⟩:=qE (M:=M) Ds { fr with defers:=[]++Ds.map mark } (w.putObj D (.deferred none)) hm rfl (List.nodup_cons.1 hn).2 fun D' hD'=>by
   obtain ⟨a,b,c⟩:=h D' (by simp [hD'])
   refine ⟨a,b,?_⟩
   have:D ≠ D':=fun e=>(List.nodup_cons.1 hn).1 (e ▸ hD')
   simp [World.putObj,this,c]
  refine ⟨w',.trans (.one s1) s2,⟨fun b ob hnd hb=>e2.objs b ob hnd ?_,by rw [e2.size]; simp [World.putObj]⟩,fun hf=>f2 ?_⟩
  · have:D ≠ b:=by rintro rfl; rw [h3] at hb; cases hb; exact hnd _ rfl
    simp [World.putObj,this,hb]
  · refine ⟨hf.os,hf.tape,hf.output,by simpa [World.putObj] using hf.size,fun b hb hM=>?_⟩
    have:D ≠ b:=by rintro rfl; rcases h2 with h2 | h2; exact hM h2; omega
    simp [World.putObj,this]; exact hf.same b hb hM
def tupV:List Value→Value
 | [v]=>v
 | cs=>.tuple cs.toArray
theorem results_run {fn:Func} {arr:Array Value} {w:World} {cs:List Value}
 (h:(fn.results.toList.mapM (resF arr)).run P w=.ok cs w) :
 (results fn arr).run P w=.ok (tupV cs) w:=by
 have hF:results fn arr=(do let vs ← fn.results.mapM (resF arr); pure (if h:vs.size=1 then vs[0] else .tuple vs):Sem Value):=by
  unfold results
  congr 2
 rw [hF,Array.mapM_eq_mapM_toList]
 simp only [Sem.run_bind,map_eq_pure_bind,Sem.run_pure]
 rw [h]
 simp only [Result.andThen_ok,Sem.run_pure]
 split
 · rename_i h1
   match cs,h1 with
   | [v],_=>rfl
 · rename_i h1
   match cs,h1 with
   | [],_=>rfl
   | [v],h1=>simp at h1
   | a :: b :: c,_=>rfl
def tupA:List AV→AV
 | [v]=>v
 | vs=>.tup vs
theorem tupA_sound {Z:Nat→Prop} {w:World} {C:Ctx} {vs:List AV} {cs:List Value} (h:VRs Z w C vs cs):VR Z w C (tupA vs) (tupV cs):=by
 obtain ⟨h1,h2⟩:=h
 match vs,cs,h1 with
 | [],[],_=>exact .tup rfl (by simp)
 | [v],[c],_=>exact h2 0 v c rfl rfl
 | a :: b :: r,a' :: b' :: r',h1=>exact .tup (by simpa using h1) fun i c v p q=>h2 i c v p (by simpa using q)
/-- The end of a function's body. -/
theorem G_end {fn:Func} {evs evs':List EV} {vs:List AV} {obs:List Prop} {Post:Value→World→Prop}
 (hr:E.b.roundOf=none) (hk:E.b.kind=.normal) (hdf:E.df=[]) (hf:P.funcs[E.b.fn]?=some fn) (hfin:E.Fin=Wh P E.b.fn E.cs Post)
 (h:resA P st fn.results.toList evs=some (vs,evs',obs)) (ho:AllP obs)
 (hp:∀ (C:Ctx) (Z:Nat→Prop) (w:World) (v:Value),Mem E.Z0 E.M E.w0 C Z st.blks w→VR Z w C (tupA vs) v→Base E.Cb E.w0 C w→Post v w)
 (hK:K=[] ∨ ∃ k,K=.code .ret :: k):G P E K st:=by
 intro C Z a w hrel
 have hs:step P (lone (E.b.atR a K) E.cs w)=.next (lone { E.b.atR a K with mode:=.returning } E.cs w):=by
  rcases hK with rfl | ⟨k,rfl⟩
  · exact stepR_end hr
  · exact stepR_ret hr
 obtain ⟨Ds,d1,d2,d3⟩:=hrel.marks
 obtain ⟨w',s2,e2,f2⟩:=qE (P:=P) (cs:=E.cs) (M:=E.M) (w0:=E.w0) Ds { E.b.atR a K with mode:=.returning } w rfl (d2.eq hdf) d1 d3
 have hm':=hrel.mem.evoC e2 (f2 hrel.mem.frame)
 have ht':VRs Z w' C st.tmps a.tmps.toList:=⟨hrel.tmp.1,fun i c v p q=>(hrel.tmp.2 i c v p q).evoC e2⟩
 obtain ⟨cs,r1,r2⟩:=VO hm' ht' h ho
 refine ⟨_,.trans (.one hs) s2,?_⟩
 rw [hfin]
 exact ⟨_,w',_,rfl,rfl,⟨rfl,rfl,hk,fn,hf,results_run r1⟩,hp C Z w' _ hm' (tupA_sound r2) (hrel.base.evoC e2)⟩
/-- A function that only reads what it is handed. -/
def Pure (P:Program) (f:FuncId) (args:List AV) (res:AV):Prop :=
 ∀ (Z:Nat→Prop) (w:World) (cargs:Array Value),(∀ b,Z b→b<w.heap.size)→VRs Z w C0 args cargs.toList →
  Calls P f cargs w fun e w'=>∃ v,e=.returned v∧VR (Zx Z w w') w' C0 res v∧Fr w (fun _=>False) w'
def unds:Nat→List AV
 | 0=>[]
 | n+1=>.tup [] :: unds n
theorem WV:∀ n,unds n=List.replicate n (.tup [])
 | 0=>rfl
 | n+1=>by simp [unds,WV n,List.replicate_succ]
/-- The frame of a called function,and what it must come to. -/
def callEnv (P:Program) (f:FuncId) (Z:Nat→Prop) (M:Nat→Prop) (w:World) (cs:List Frame) (Post:Value→World→Prop):Env :=
 { Z0:=Z,M:=M,w0:=w,b:={ (default:Frame) with fn:=f,kind:=.normal },cs:=cs,Fin:=Wh P f cs Post }
def Qf (P:Program) (f:FuncId) (res:AV) (E:Env):Prop :=
 E.b.roundOf=none∧E.b.kind=.normal∧E.b.fn=f∧(∀ b,¬ E.M b) ∧
  E.gA=[]∧E.Fin=(Wh P f E.cs fun v w'=>VR (Zx E.Z0 E.w0 w') w' C0 res v∧Fr E.w0 (fun _=>False) w')∧E.Cb=C0∧E.df=[]
theorem Qf.kind {f:FuncId} {res:AV} (hE:Qf P f res E):E.b.kind=.normal:=hE.2.1
theorem Qf.cb {f:FuncId} {res:AV} (hE:Qf P f res E):E.Cb=C0:=hE.2.2.2.2.2.2.1
theorem mem_nil {Z:Nat→Prop} {w:World} (hz:∀ b,Z b→b<w.heap.size):Mem Z (fun _=>False) w C0 Z [] w :=
 ⟨by simp,by simp,by simp,fun _ _=>⟨rfl,rfl⟩,fun _ _ _ _ _ h=>by simp [C0] at h,fun _ _ _ h=>by simp [C0] at h,hz,fun _ h=>h,fun _ h=>.inl h,Fr.refl _ _⟩
theorem Qq {f:FuncId} {fn:Func} {c:Code} {args:List AV} {res:AV} (hf:P.funcs[f]?=some fn) (hb:fn.body=some c)
 (h:∀ E,Qf P f res E→G P E [.code c] ⟨args++unds (fn.ntmps - args.length),[]⟩):Pure P f args res:=by
 intro Z w cargs hz ha cs
 have hE:Qf P f res (callEnv P f Z (fun _=>False) w cs fun v w'=>VR (Zx Z w w') w' C0 res v∧Fr w (fun _=>False) w') :=
  ⟨rfl,rfl,rfl,fun _ h=>h,rfl,rfl,rfl,rfl⟩
 have henter:Frame.enter P f cargs .normal=({ (default:Frame) with fn:=f,kind:=.normal }:Frame).atR { tmps:=cargs++Array.replicate (fn.ntmps - cargs.size) undef,defers:=[] } [.code c]:=by
  simp only [Frame.enter,Frame.atR,hf,hb,Option.map_some,Option.getD_some,Option.bind_some]; rfl
 have hl:args.length=cargs.size:=by simpa using ha.1
 obtain ⟨m',s,v,w',fr,rfl,r1,r2,r3⟩:=h _ hE C0 Z { tmps:=cargs++Array.replicate (fn.ntmps - cargs.size) undef,defers:=[] } w
  ⟨⟨by simp [WV,hl],fun i x y p q=>by
   simp only [Array.toList_append,Array.toList_replicate] at q
   rw [WV] at p
   by_cases hi:i<args.length
   · rw [List.getElem?_append_left hi] at p
     rw [List.getElem?_append_left (by simpa [← hl] using hi)] at q
     exact ha.2 i x y p q
   · rw [List.getElem?_append_right (by omega)] at p
     rw [List.getElem?_append_right (by simp; omega)] at q
     have p':=List.mem_replicate.1 (List.mem_of_getElem? p)
     have q':=List.mem_replicate.1 (List.mem_of_getElem? q)
     rw [p'.2,q'.2]
     exact .tup rfl (by simp)⟩,mem_nil hz,⟨[],.nil,.nil,by simp⟩,⟨rfl,fun _ _ _ h _=>by cases h⟩,.bot⟩
 rw [henter]
 exact ⟨.returned v,w',fr,⟨v,rfl,r3⟩,s,r1,r2⟩
/-- The end of a function that only reads: its result,laid down. -/
theorem G_pure {f:FuncId} {fn:Func} {evs evs':List EV} {vs:List AV} {obs o2:List Prop} {res:AV} (hE:Qf P f res E) (hf:P.funcs[f]?=some fn)
 (h:resA P st fn.results.toList evs=some (vs,evs',obs)) (ho:AllP obs) (h2:(frz 8 (tupA vs)).run (st.blks[·]?)=some (res,o2)) (ho2:AllP o2)
 (hK:K=[] ∨ ∃ k,K=.code .ret :: k):G P E K st:=by
 obtain ⟨e1,e2,rfl,e4,-,e5,-,e6⟩:=hE
 refine G_end e1 e2 e6 hf e5 h ho (fun C Z w v hm hv _=>⟨?_,?_⟩) hK
 · refine (XU hm h2 ho2 hv).zmono fun b hb=>?_
   rcases hb with hb | ⟨k,o,hb⟩
   · rcases hm.zsub b hb with hb' | hb' | hb'
     · exact .inl hb'
     · exact absurd hb' (e4 b)
     · exact .inr ⟨hb',hm.zlt b hb⟩
   · obtain ⟨q1,q2,q3⟩:=hm.own k b o hb
     exact .inr ⟨q3.resolve_left (e4 b),q1⟩
 · have:=hm.frame
   exact ⟨this.os,this.tape,this.output,this.size,fun b hb _=>this.same b hb (e4 b)⟩
end
end Ax
namespace Ax
open Go
section
variable {P:Program} {E:Env} {K K':List Item} {st st':St}
theorem aop_congr {o:Oper} {ev ev':Operand→AV} {evs:List EV} (h:∀ x ∈ o.op.operands,ev x=ev' x):aop P o ev evs=aop P o ev' evs:=by
 obtain ⟨dst,op,type,pos,after,guard⟩:=o
 have pairs:∀ ps:Array (Nat × Operand),(∀ x ∈ (ps.toList.map (·.2)).toArray,ev x=ev' x)→(ps.toList.map fun p=>(p.1,ev p.2))=(ps.toList.map fun p=>(p.1,ev' p.2)):=fun ps hp =>
  List.map_congr_left fun p hm=>by rw [hp p.2 (by simp; exact ⟨p.1,by simpa using hm⟩)]
 cases op <;> simp only [Op.operands] at h <;> simp only [aop]
 case build t ps=>rw [pairs ps h]
 case buildSlice t n ps=>rw [pairs ps h]
 case makeFunc fn first captured =>
  cases fn <;> simp only
  rw [List.map_congr_left (l:=first.toList) fun x hx=>h x (by simp; exact .inl (by simpa using hx)),List.map_congr_left (l:=captured.toList) fun x hx=>h x (by simp; exact .inr (by simpa using hx))]
 case call c =>
  obtain ⟨callee,args,ats⟩:=c
  have hargs:args.toList.map ev=args.toList.map ev':=List.map_congr_left fun x hx=>h x (by simp [Call.operands]; exact .inr (by simpa using hx))
  cases callee with
  | value f=>have hf:ev f=ev' f:=h f (by simp [Call.operands]); simp only [hf,hargs]
  | invoke r m=>rfl
  | builtin b=>simp only [hargs]
 case slice t x lo hi mx=>cases lo <;> cases hi <;> cases mx <;> simp_all
 case makeMap t r=>cases r <;> rfl
 all_goals (first | rfl | (simp_all; done))
theorem Rd.run_congr {α:Type} {gb gb':Nat→Option Blk}:∀ {x:Rd α} {r:α},(∀ k ∈ x.log gb,gb' k=gb k)→x.run gb=some r→x.run gb'=some r∧x.log gb'=x.log gb
 | .ok a,r,h,hr=>⟨hr,rfl⟩
 | .fail,r,h,hr=>by cases hr
 | .get k f,r,h,hr=>by
  obtain ⟨b,hb,hr⟩:=QF hr
  have hk:gb' k=some b:=by rw [h k (by simp [Rd.log,hb]),hb]
  obtain ⟨h1,h2⟩:=Rd.run_congr (gb':=gb') (fun j hj=>h j (by simp [Rd.log,hb,hj])) hr
  exact ⟨by simp only [Rd.run,hk]; exact h1,by simp only [Rd.log,hk,hb,h2]⟩
def conc1 (g:Bool) (v:AV) (evs:List EV):Option (AV × List EV × List Prop) :=
 match g with
 | true=>(match v,evs with
  | .bool c,.b x :: r=>some (.bool x,r,[c=x])
  | _,_=>none)
 | false=>some (v,evs,[])
theorem conc1_sound {Z:Nat→Prop} {w:World} {C:Ctx} {g:Bool} {v tv:AV} {c:Value} {evs evs':List EV} {obs:List Prop} (h:VR Z w C v c)
 (hc:conc1 g v evs=some (tv,evs',obs)) (ho:AllP obs):VR Z w C tv c:=by
 unfold conc1 at hc
 split at hc
 · split at hc
   · simp only [Option.some.injEq,Prod.mk.injEq] at hc
     obtain ⟨rfl,-,rfl⟩:=hc
     rw [← ho.1]; exact h
   · cases hc
 · simp only [Option.some.injEq,Prod.mk.injEq] at hc
   obtain ⟨rfl,-,-⟩:=hc
   exact h
structure Rec where
 dst:Option Nat
 tv:AV
 blk:Option (Nat × Blk)
 rt:List Nat
 rb:List Nat
 fresh:Bool
def app1 (s:St) (r:Rec):St:=⟨putA s.tmps r.dst r.tv,match r.blk with | some (k,b)=>s.blks.set k b | none=>s.blks⟩
def recA (P:Program) (ops:Array Oper) (idx i:Nat) (o:Oper) (st:St) (evs:List EV):Option (Rec × List EV × List Prop) :=
 match Yy ops st.tmps o with
 | none=>none
 | some false=>some (⟨o.dst,.tup [],none,o.looksAt ops,[],false⟩,evs,[])
 | some true =>
  match (aop P o (YD st.tmps) evs).run (st.blks[·]?) with
  | none=>none
  | some (eff,evs1,o1) =>
   match conc1 (isGuard ops i) (eff.av idx) evs1 with
   | none=>none
   | some (tv,evs2,o2) =>
    match eff with
    | .val _=>some (⟨o.dst,tv,none,o.looksAt ops,(aop P o (YD st.tmps) evs).log (st.blks[·]?),false⟩,evs2,o1++o2)
    | .upd k b _=>some (⟨o.dst,tv,some (k,b),o.looksAt ops,(aop P o (YD st.tmps) evs).log (st.blks[·]?),false⟩,evs2,o1++o2)
    | .new b _=>match st.blks[idx]? with
     | some ⟨false,0,0,true,[],false⟩=>some (⟨o.dst,tv,some (idx,b),o.looksAt ops,idx :: (aop P o (YD st.tmps) evs).log (st.blks[·]?),true⟩,evs2,o1++o2)
     | _=>none
theorem Mem.pushN {Z0 M Z:Nat→Prop} {w0 w:World} {C:Ctx} {blks:List Blk} (hm:Mem Z0 M w0 C Z blks w):∀ m,Mem Z0 M w0 C Z (blks++List.replicate m dead) w
 | 0=>by simpa using hm
 | m+1=>by
  rw [List.replicate_succ',← List.append_assoc]
  exact (hm.pushN m).push
theorem Mem.popN {Z0 M Z:Nat→Prop} {w0 w:World} {C:Ctx} {blks:List Blk}:∀ m,Mem Z0 M w0 C Z (blks++List.replicate m dead) w→Mem Z0 M w0 C Z blks w
 | 0,hm=>by simpa using hm
 | m+1,hm=>by
  rw [List.replicate_succ',← List.append_assoc] at hm
  exact hm.pop.popN m
/-- One operation,with its new block's place told. -/
theorem op_core {ops:Array Oper} {i idx:Nat} {o:Oper} {rest:List Nat} {k:List Item} {eff:Eff} {tv:AV} {g:Bool} {evs evs1 evs2:List EV} {obs1 obs2:List Prop} (ho:ops[i]?=some o) {HK:Prop} (hk:HK)
 (hw:Yy ops st.tmps o=some true) (ha:(aop P o (YD st.tmps) evs).run (st.blks[·]?)=some (eff,evs1,obs1)) (ob1:AllP obs1)
 (hc:conc1 g (eff.av idx) evs1=some (tv,evs2,obs2)) (ob2:AllP obs2) (hidx:st.blks[idx]?=some dead)
 (hg:G P E (.inRegion ops rest :: k) ⟨putA st.tmps o.dst tv,eff.blks idx st.blks⟩):G P E (.inRegion ops (i :: rest) :: k) st:=by
 intro C Z a w hr
 have hwc:=XK hr.tmp hw
 have hop:=aop_sound (idx:=idx) hr.mem hidx (XD hr.tmp) ha ob1
 have hgo:=stepGR_op (P:=P) (b:=E.b) (k:=k) (cs:=E.cs) (w:=w) (rest:=rest) ho hwc
 rw [Oper.semAt_eq _ _ _ (not_defer ha)] at hgo
 have hfin:∀ v,(E.b.atR a (.inRegion ops (i :: rest) :: k)).finish v=E.b.atR (a.put o.dst v) (.inRegion ops rest :: k):=by
  intro v; rw [Frame.finish_atR,ho]; rfl
 have next:∀ (c:Value) (w':World),Res E.Z0 E.M E.w0 C Z st.blks w idx eff c w'→Reach P (lone (E.b.atR (a.put o.dst c) (.inRegion ops rest :: k)) E.cs w') E.Fin:=by
  rintro c w' ⟨C',Z',hle,hevo,hm,hv⟩
  refine hg C' Z' _ w' ⟨(hr.tmp.next hle hevo).put (conc1_sound hv hc ob2) o.dst,hm,?_,hr.gh.next hle hevo,hr.base.next hle hevo⟩
  have:(a.put o.dst c).defers=a.defers:=by cases o.dst <;> rfl
  rw [this]; exact hr.marks.evo hevo
 rcases hop with ⟨c,w',hrun,hq⟩ | ⟨w',hrun,hq⟩ | ⟨f,args,hrun,hcall⟩
 · refine .step (.one (step_lone_go ?_)) (next c w' hq)
   rw [hgo,← hfin]; simp [stepG.apply,hrun]
 · refine .step (.one (step_lone_go ?_)) (next undef w' hq)
   rw [hgo,← hfin]; simp [stepG.apply,hrun]
 · obtain ⟨e,w'',fr,⟨v,rfl,hq⟩,hsteps,-,hleave⟩:=hcall (E.b.atR a (.inRegion ops (i :: rest) :: k) :: E.cs)
   have henter:step P (lone (E.b.atR a (.inRegion ops (i :: rest) :: k)) E.cs w) =
    .next (lone (Frame.enter P f args .normal) (E.b.atR a (.inRegion ops (i :: rest) :: k) :: E.cs) w) :=
    step_lone_go (by rw [hgo]; simp [stepG.apply,hrun,Frame.atR])
   refine .step (Steps.head henter (hsteps.trans (.one ?_))) (next v w'' hq)
   rw [← hfin]; exact step_leave_returned hleave
theorem G_push {m:Nat} (hg:G P E K ⟨st.tmps,st.blks++List.replicate m dead⟩):G P E K st :=
 fun C Z a w hr=>hg C Z a w ⟨hr.tmp,hr.mem.pushN m,hr.marks,hr.gh,hr.base⟩
theorem G_pop {tmps:List AV} {blks:List Blk} {m:Nat} (hg:G P E K ⟨tmps,blks⟩):G P E K ⟨tmps,blks++List.replicate m dead⟩ :=
 fun C Z a w hr=>hg C Z a w ⟨hr.tmp,Mem.popN m hr.mem,hr.marks,hr.gh,hr.base⟩
theorem eff_idx {eff:Eff} {blks:List Blk} {j j':Nat} (h:∀ b mk,eff ≠ .new b mk):eff.blks j blks=eff.blks j' blks∧eff.av j=eff.av j':=by
 cases eff with
 | val v=>exact ⟨rfl,rfl⟩
 | upd k b v=>exact ⟨rfl,rfl⟩
 | new b mk=>exact absurd rfl (h b mk)
theorem rec_step {ops:Array Oper} {i idx:Nat} {o:Oper} {rest:List Nat} {k:List Item} {r:Rec} {evs evs':List EV} {obs:List Prop} (ho:ops[i]?=some o) {HK:Prop} (hk:HK)
 (h:recA P ops idx i o st evs=some (r,evs',obs)) (hob:AllP obs) (hg:G P E (.inRegion ops rest :: k) (app1 st r)):G P E (.inRegion ops (i :: rest) :: k) st:=by
 unfold recA at h
 split at h
 · cases h
 · rename_i hw
   simp only [Option.some.injEq,Prod.mk.injEq] at h
   obtain ⟨rfl,-,-⟩:=h
   intro C Z a w hr
   have hwc:=XK hr.tmp hw
   have hs:=stepR_op_skip (P:=P) (b:=E.b) (a:=a) (k:=k) (cs:=E.cs) (w:=w) (ops:=ops) (i:=i) (rest:=rest) (by simp [ho,hwc])
   simp only [ho,Option.bind_some] at hs
   refine .step (.one hs) (hg C Z _ w ⟨hr.tmp.put (.tup (by simp) (by simp)) o.dst,hr.mem,?_,hr.gh,hr.base⟩)
   cases hd:o.dst <;> exact hr.marks
 · rename_i hw
   split at h
   · cases h
   · rename_i eff evs1 obs1 ha
     split at h
     · cases h
     · rename_i tv evs2 obs2 hc
       -- where nothing is new,the place is a dead one behind
       have old:(∀ b mk,eff ≠ .new b mk)→G P E (.inRegion ops rest :: k) ⟨putA st.tmps o.dst tv,eff.blks st.blks.length st.blks⟩→AllP obs1→AllP obs2→G P E (.inRegion ops (i :: rest) :: k) st:=by
        intro hn hg ob1 ob2
        refine G_push (m:=1) ?_
        have ha':=Rd.run_mono (gb':=fun k=>(st.blks++[dead])[k]?) (fun k b h=>by rw [List.getElem?_append_left (List.getElem?_eq_some_iff.1 h).1]; exact h) ha
        refine op_core (st:=⟨st.tmps,st.blks++[dead]⟩) (idx:=st.blks.length) ho hk hw ha' ob1 (tv:=tv) (by rw [(eff_idx (blks:=st.blks) (j:=st.blks.length) (j':=idx) hn).2]; exact hc) ob2 (by simp) ?_
        have:eff.blks st.blks.length (st.blks++[dead])=eff.blks st.blks.length st.blks++List.replicate 1 dead:=by
         cases eff with
         | val v=>rfl
         | new b mk=>exact absurd rfl (hn b mk)
         | upd kk b v=>exact List.set_append_left kk b (aop_upd ha)
        rw [this]
        exact G_pop hg
       split at h
       · simp only [Option.some.injEq,Prod.mk.injEq] at h
         obtain ⟨rfl,-,rfl⟩:=h
         obtain ⟨ob1,ob2⟩:=Qm.1 hob
         exact old (by simp) hg ob1 ob2
       · simp only [Option.some.injEq,Prod.mk.injEq] at h
         obtain ⟨rfl,-,rfl⟩:=h
         obtain ⟨ob1,ob2⟩:=Qm.1 hob
         exact old (by simp) hg ob1 ob2
       · split at h
         · rename_i hidx
           simp only [Option.some.injEq,Prod.mk.injEq] at h
           obtain ⟨rfl,-,rfl⟩:=h
           obtain ⟨ob1,ob2⟩:=Qm.1 hob
           exact op_core ho hk hw ha ob1 hc ob2 hidx hg
         · cases h
theorem mem_looks {ops:Array Oper} {o:Oper} {t:Nat} (h:.tmp t ∈ o.op.operands):t ∈ o.looksAt ops :=
 List.mem_append_left _ (List.mem_filterMap.2 ⟨.tmp t,by simpa using h,rfl⟩)
theorem recA_congr {ops:Array Oper} {i idx:Nat} {o:Oper} {r:Rec} {evs evs':List EV} {obs:List Prop} (h:recA P ops idx i o st evs=some (r,evs',obs))
 (ht:∀ t ∈ r.rt,st'.tmps[t]?=st.tmps[t]?) (hb:∀ k ∈ r.rb,st'.blks[k]?=st.blks[k]?):recA P ops idx i o st' evs=some (r,evs',obs):=by
 have hrt:r.rt=o.looksAt ops:=by
  unfold recA at h
  repeat' (split at h)
  all_goals first | (cases h; done) | (simp only [Option.some.injEq,Prod.mk.injEq] at h; obtain ⟨rfl,-,-⟩:=h; rfl)
 rw [hrt] at ht
 have hwa:Yy ops st'.tmps o=Yy ops st.tmps o:=by
  unfold Yy
  cases hg:o.guard with
  | none=>rfl
  | some g =>
   obtain ⟨j,want⟩:=g
   simp only
   cases hd:(ops[j]?).bind (·.dst) with
   | none=>rfl
   | some d =>
    have:st'.tmps[d]?=st.tmps[d]?:=ht d (by
     unfold Oper.looksAt
     refine List.mem_append_right _ ?_
     simp only [hg]
     rw [hd]; simp)
    simp only [this]
 have hev:∀ x ∈ o.op.operands,YD st.tmps x=YD st'.tmps x:=by
  intro x hx
  cases x with
  | tmp t=>simp only [YD,List.getD_eq_getElem?_getD,ht t (mem_looks hx)]
  | _=>rfl
 unfold recA at h ⊢
 rw [hwa]
 split at h
 · cases h
 · exact h
 · rename_i hw
   rw [← aop_congr (P:=P) (evs:=evs) hev]
   split at h
   · cases h
   · rename_i eff evs1 obs1 ha
     split at h
     · cases h
     · rename_i tv evs2 obs2 hc
       split at h
       · simp only [Option.some.injEq,Prod.mk.injEq] at h
         obtain ⟨rfl,rfl,rfl⟩:=h
         obtain ⟨h1,h2⟩:=Rd.run_congr (gb':=(st'.blks[·]?)) hb ha
         simp only [h1,hc,h2]
       · simp only [Option.some.injEq,Prod.mk.injEq] at h
         obtain ⟨rfl,rfl,rfl⟩:=h
         obtain ⟨h1,h2⟩:=Rd.run_congr (gb':=(st'.blks[·]?)) hb ha
         simp only [h1,hc,h2]
       · split at h
         · rename_i hidx
           simp only [Option.some.injEq,Prod.mk.injEq] at h
           obtain ⟨rfl,rfl,rfl⟩:=h
           obtain ⟨h1,h2⟩:=Rd.run_congr (gb':=(st'.blks[·]?)) (fun k hk=>hb k (List.mem_cons_of_mem _ hk)) ha
           have h3:=hb idx (List.mem_cons_self ..)
           simp only [h1,hc,h2,h3,hidx]
         · cases h
end
end Ax
namespace Ax
open Go
section
variable {P:Program} {E:Env} {K K':List Item} {st st':St}
/-- The records of 'D' alone,in the text's order. -/
def mix (D:Nat→Bool):Nat→List Rec→St→St
 | _,[],s=>s
 | i,r :: rs,s=>mix D (i+1) rs (bif D i then app1 s r else s)
theorem Wr {s:St} {r:Rec} {t:Nat} (h:r.dst ≠ some t):(app1 s r).tmps[t]?=s.tmps[t]?:=by
 unfold app1 putA
 cases hd:r.dst with
 | none=>rfl
 | some d=>simp only; rw [List.getElem?_set_ne (fun e=>h (by rw [hd,e]))]
theorem Ws {s:St} {r:Rec} {k:Nat} (h:∀ b,r.blk ≠ some (k,b)):(app1 s r).blks[k]?=s.blks[k]?:=by
 unfold app1
 cases hd:r.blk with
 | none=>rfl
 | some p =>
  obtain ⟨j,b⟩:=p
  simp only; rw [List.getElem?_set_ne (fun e=>h b (by rw [hd,e]))]
theorem app1_tmps_eq {s s':St} {r:Rec} {t:Nat} (h:s.tmps[t]?=s'.tmps[t]?):(app1 s r).tmps[t]?=(app1 s' r).tmps[t]?:=by
 unfold app1 putA
 cases hd:r.dst with
 | none=>exact h
 | some d =>
  simp only
  by_cases e:d=t
  · subst e; rw [List.getElem?_set_self',List.getElem?_set_self',h]
  · rw [List.getElem?_set_ne e,List.getElem?_set_ne e,h]
theorem app1_blks_eq {s s':St} {r:Rec} {k:Nat} (h:s.blks[k]?=s'.blks[k]?):(app1 s r).blks[k]?=(app1 s' r).blks[k]?:=by
 unfold app1
 cases hd:r.blk with
 | none=>exact h
 | some p =>
  obtain ⟨j,b⟩:=p
  simp only
  by_cases e:j=k
  · subst e; rw [List.getElem?_set_self',List.getElem?_set_self',h]
  · rw [List.getElem?_set_ne e,List.getElem?_set_ne e,h]
theorem mix_tmps {D D':Nat→Bool} {t:Nat}:∀ {a:Nat} {rs:List Rec} {s s':St},(∀ j r,rs[j]?=some r→r.dst=some t→D (a+j)=D' (a+j))→s.tmps[t]?=s'.tmps[t]? →
 (mix D a rs s).tmps[t]?=(mix D' a rs s').tmps[t]?
 | a,[],s,s',h,hs=>hs
 | a,r :: rs,s,s',h,hs=>by
  simp only [mix]
  refine mix_tmps (fun j r' hj hd=>by have:=h (j+1) r' (by simpa using hj) hd; rw [show a+1+j=a+(j+1) by omega]; exact this) ?_
  by_cases hd:r.dst=some t
  · have:=h 0 r rfl hd
    simp only [Nat.add_zero] at this
    rw [this]
    cases D' a with
    | false=>exact hs
    | true=>exact app1_tmps_eq hs
  · cases D a <;> cases D' a <;> simp only [cond_true,cond_false] <;> (try rw [Wr hd]) <;> (try rw [Wr hd]) <;> exact hs
theorem mix_blks {D D':Nat→Bool} {k:Nat}:∀ {a:Nat} {rs:List Rec} {s s':St},(∀ j r b,rs[j]?=some r→r.blk=some (k,b)→D (a+j)=D' (a+j))→s.blks[k]?=s'.blks[k]? →
 (mix D a rs s).blks[k]?=(mix D' a rs s').blks[k]?
 | a,[],s,s',h,hs=>hs
 | a,r :: rs,s,s',h,hs=>by
  simp only [mix]
  refine mix_blks (fun j r' b hj hd=>by have:=h (j+1) r' b (by simpa using hj) hd; rw [show a+1+j=a+(j+1) by omega]; exact this) ?_
  by_cases hd:∃ b,r.blk=some (k,b)
  · obtain ⟨b,hd⟩:=hd
    have:=h 0 r b rfl hd
    simp only [Nat.add_zero] at this
    rw [this]
    cases D' a with
    | false=>exact hs
    | true=>exact app1_blks_eq hs
  · have hd':∀ b,r.blk ≠ some (k,b):=fun b e=>hd ⟨b,e⟩
    cases D a <;> cases D' a <;> simp only [cond_true,cond_false] <;> (try rw [Ws hd']) <;> (try rw [Ws hd']) <;> exact hs
def wr2 (r r':Rec):Bool :=
 (match r.dst,r'.dst with | some d,some d'=>Nat.beq d d' | _,_=>false) || (match r.blk,r'.blk with | some (k,_),some (k',_)=>Nat.beq k k' | _,_=>false)
def wrd (r r':Rec):Bool :=
 (match r.dst with | some d=>r'.rt.any (Nat.beq d) | none=>false) || (match r.blk with | some (k,_)=>r'.rb.any (Nat.beq k) | none=>false)
def qF (r r':Rec):Bool:=wr2 r r' || wrd r r' || wrd r' r
theorem wr2_symm (r r':Rec):wr2 r r'=wr2 r' r:=by
 have hb:∀ a b:Nat,Nat.beq a b=Nat.beq b a:=fun a b=>by
  rw [Bool.eq_iff_iff,Nat.beq_eq,Nat.beq_eq]; exact eq_comm
 unfold wr2
 cases r.dst <;> cases r'.dst <;> cases r.blk <;> cases r'.blk <;> simp [hb]
theorem yO (r r':Rec):qF r r'=qF r' r:=by
 unfold qF; rw [wr2_symm]
 cases wr2 r' r <;> cases wrd r r' <;> cases wrd r' r <;> rfl
theorem app1_comm {s:St} {r r':Rec} (h:wr2 r r'=false):app1 (app1 s r) r'=app1 (app1 s r') r:=by
 simp only [wr2,Bool.or_eq_false_iff] at h
 obtain ⟨h1,h2⟩:=h
 unfold app1 putA
 simp only [St.mk.injEq]
 constructor
 · cases hd:r.dst with
   | none=>cases hd':r'.dst <;> rfl
   | some d =>
    cases hd':r'.dst with
    | none=>rfl
    | some d' =>
     simp only [hd,hd'] at h1
     exact List.set_comm _ _ fun e=>by subst e; simp at h1
 · cases hd:r.blk with
   | none=>cases hd':r'.blk <;> rfl
   | some d =>
    cases hd':r'.blk with
    | none=>rfl
    | some d' =>
     simp only [hd,hd'] at h2
     exact List.set_comm _ _ fun e=>by rw [e] at h2; simp at h2
theorem mix_comm {D:Nat→Bool} {r:Rec}:∀ {a:Nat} {rs:List Rec} {s:St},(∀ j r',rs[j]?=some r'→D (a+j)=true→wr2 r r'=false)→mix D a rs (app1 s r)=app1 (mix D a rs s) r
 | a,[],s,h=>rfl
 | a,r' :: rs,s,h=>by
  simp only [mix]
  have ih:=fun s=>mix_comm (D:=D) (r:=r) (a:=a+1) (rs:=rs) (s:=s) fun j r'' hj hd=>h (j+1) r'' (by simpa using hj) (by rw [← hd]; congr 1; omega)
  cases hD:D a with
  | false=>simp only [cond_false]; exact ih s
  | true =>
   simp only [cond_true]
   rw [app1_comm (h 0 r' rfl (by simpa using hD))]; exact ih _
theorem mix_cong {D D':Nat→Bool}:∀ {a:Nat} {rs:List Rec} {s:St},(∀ j,a≤j→D j=D' j)→mix D a rs s=mix D' a rs s
 | a,[],s,h=>rfl
 | a,r' :: rs,s,h=>by
  simp only [mix,h a (Nat.le_refl a)]
  exact mix_cong fun j hj=>h j (by omega)
theorem yw {D D':Nat→Bool} {i:Nat} {r:Rec} (hi:D i=false) (hD:∀ j,D' j=(D j || Nat.beq j i)):∀ {a:Nat} {rs:List Rec} {s:St},a≤i→rs[i - a]?=some r →
 (∀ j r',rs[j]?=some r'→i<a+j→D (a+j)=true→wr2 r r'=false)→mix D' a rs s=app1 (mix D a rs s) r
 | a,[],s,ha,hr,h=>by simp at hr
 | a,r0 :: rs,s,ha,hr,h=>by
  simp only [mix]
  by_cases e:a=i
  · subst e
    simp only [Nat.sub_self,List.getElem?_cons_zero,Option.some.injEq] at hr
    subst hr
    have:D' a=true:=by simp [hD]
    rw [this,hi,cond_true,cond_false]
    rw [mix_cong (D:=D') (D':=D) fun j hj=>by
     rw [hD]; have:Nat.beq j a=false:=by rw [← Bool.not_eq_true,Nat.beq_eq]; omega
     simp [this]]
    exact mix_comm fun j r' hj hd=>h (j+1) r' (by simpa using hj) (by omega) (by rw [← hd]; congr 1; omega)
  · have hDa:D' a=D a:=by
     rw [hD]; have:Nat.beq a i=false:=by rw [← Bool.not_eq_true,Nat.beq_eq]; exact e
     simp [this]
    rw [hDa]
    refine yw hi hD (by omega) ?_ fun j r' hj hlt hd=>h (j+1) r' (by simpa using hj) (by omega) (by rw [← hd]; congr 1; omega)
    have:i - a=(i - (a+1))+1:=by omega
    rw [this] at hr
    simpa using hr
theorem mix_none {D:Nat→Bool}:∀ {a:Nat} {rs:List Rec} {s:St},(∀ j,D j=false)→mix D a rs s=s
 | a,[],s,h=>rfl
 | a,r :: rs,s,h=>by simp only [mix,h a,cond_false]; exact mix_none h
theorem mix_all {D:Nat→Bool}:∀ {a:Nat} {rs:List Rec} {s:St},(∀ j,j<rs.length→D (a+j)=true)→mix D a rs s=rs.foldl app1 s
 | a,[],s,h=>rfl
 | a,r :: rs,s,h=>by
  have h0:=h 0 (by simp)
  simp only [Nat.add_zero] at h0
  simp only [mix,h0,cond_true,List.foldl_cons]
  exact mix_all fun j hj=>by have:=h (j+1) (by simpa using hj); rw [show a+1+j=a+(j+1) by omega]; exact this
theorem mix_pre:∀ {a i:Nat} {rs:List Rec} {s:St},mix (fun j=>Nat.blt j (a+i)) a rs s=(rs.take i).foldl app1 s
 | a,0,rs,s=>by
  have:∀ {b:Nat} {rs:List Rec} {s:St},a≤b→mix (fun j=>Nat.blt j a) b rs s=s:=by
   intro b rs
   induction rs generalizing b with
   | nil=>intros; rfl
   | cons r rs ih =>
    intro s hb
    have:Nat.blt b a=false:=by rw [← Bool.not_eq_true]; simp [Nat.blt_eq]; omega
    simp only [mix,this,cond_false]; exact ih (by omega)
  simpa using this (Nat.le_refl a)
 | a,i+1,[],s=>by simp [mix]
 | a,i+1,r :: rs,s=>by
  have:Nat.blt a (a+(i+1))=true:=by simp [Nat.blt_eq]
  simp only [mix,this,cond_true,List.take_succ_cons,List.foldl_cons]
  have h:=mix_pre (a:=a+1) (i:=i) (rs:=rs) (s:=app1 s r)
  rw [show a+1+i=a+(i+1) by omega] at h
  exact h
/-! ### The text's order -/
def recsA (P:Program) (ops:Array Oper):Nat→List Nat→St→List EV→Option (List Rec × St × List EV × List Prop)
 | idx,[],st,evs=>some ([],st,evs,[])
 | idx,i :: rest,st,evs =>
  match ops[i]? with
  | none=>none
  | some o =>
   match recA P ops idx i o st evs with
   | none=>none
   | some (r,evs1,o1) =>
    match recsA P ops (bif r.fresh then idx+1 else idx) rest (app1 st r) evs1 with
    | none=>none
    | some (rs,st',evs2,o2)=>some (r :: rs,st',evs2,o1++o2)
theorem yq {ops:Array Oper}:∀ {a n idx:Nat} {st st':St} {evs evs':List EV} {rs:List Rec} {obs:List Prop},recsA P ops idx (List.range' a n) st evs=some (rs,st',evs',obs)→AllP obs →
 rs.length=n∧st'=rs.foldl app1 st∧∀ j r,rs[j]?=some r→∃ o idx' evs1 evs2 obs1,ops[a+j]?=some o∧recA P ops idx' (a+j) o ((rs.take j).foldl app1 st) evs1=some (r,evs2,obs1)∧AllP obs1
 | a,0,idx,st,st',evs,evs',rs,obs,h,ho=>by
  simp only [List.range'_zero,recsA,Option.some.injEq,Prod.mk.injEq] at h
  obtain ⟨rfl,rfl,-,-⟩:=h
  exact ⟨rfl,rfl,by simp⟩
 | a,n+1,idx,st,st',evs,evs',rs,obs,h,ho=>by
  rw [List.range'_succ] at h
  simp only [recsA] at h
  split at h
  · cases h
  · rename_i o hoi
    split at h
    · cases h
    · rename_i r evs1 o1 h1
      split at h
      · cases h
      · rename_i rs1 st1 evs2 o2 h2
        simp only [Option.some.injEq,Prod.mk.injEq] at h
        obtain ⟨rfl,rfl,-,rfl⟩:=h
        obtain ⟨ho1,ho2⟩:=Qm.1 ho
        obtain ⟨l,e,f⟩:=yq h2 ho2
        refine ⟨by simp [l],by simpa using e,fun j r' hj=>?_⟩
        cases j with
        | zero=>simp at hj; subst hj; exact ⟨o,idx,evs,evs1,o1,by simpa using hoi,by simpa using h1,ho1⟩
        | succ j =>
         obtain ⟨o',idx',e1,e2,ob,q1,q2,q3⟩:=f j r' (by simpa using hj)
         exact ⟨o',idx',e1,e2,ob,by rw [show a+(j+1)=a+1+j by omega]; exact q1,by rw [show a+(j+1)=a+1+j by omega]; simpa using q2,q3⟩
/-! ### What must come before what -/
def hard (e:Edge):Bool :=
 match e.ground with
 | .textOnly _=>false
 | .gcOnly _=>false
 | _=>true
def foldE (acc:List Nat) (i:Nat):List Edge→Option Nat
 | []=>some 0
 | e :: es=>match foldE acc i es with
  | none=>none
  | some m=>bif hard e then (bif Nat.blt e.on i then some (m ||| 2 ^ e.on ||| acc.getD e.on 0) else none) else some m
def ancsA:Nat→List Oper→List Nat→Option (List Nat)
 | _,[],acc=>some acc
 | i,o :: os,acc=>match foldE acc i o.after.toList with
  | some m=>ancsA (i+1) os (acc++[m])
  | none=>none
theorem yD {acc:List Nat} {i:Nat}:∀ {es:List Edge} {m:Nat},foldE acc i es=some m →
 (∀ e ∈ es,hard e=true→e.on<i)∧∀ j,m.testBit j=true→∃ e ∈ es,hard e=true∧(j=e.on ∨ (acc.getD e.on 0).testBit j=true)
 | [],m,h=>by simp [foldE] at h; subst h; simp
 | e :: es,m,h=>by
  simp only [foldE] at h
  split at h
  · cases h
  · rename_i m' hm
    obtain ⟨h1,h2⟩:=yD hm
    cases he:hard e with
    | false =>
     simp only [he,cond_false,Option.some.injEq] at h
     subst h
     refine ⟨fun e' hm hh=>?_,fun j hj=>?_⟩
     · rcases List.mem_cons.1 hm with rfl | hm
       · rw [he] at hh; cases hh
       · exact h1 e' hm hh
     · obtain ⟨e',q1,q2⟩:=h2 j hj
       exact ⟨e',List.mem_cons_of_mem _ q1,q2⟩
    | true =>
     simp only [he,cond_true] at h
     cases hb:Nat.blt e.on i with
     | false=>simp [hb] at h
     | true =>
      simp only [hb,cond_true,Option.some.injEq] at h
      subst h
      refine ⟨fun e' hm hh=>?_,fun j hj=>?_⟩
      · rcases List.mem_cons.1 hm with rfl | hm
        · simpa [Nat.blt_eq] using hb
        · exact h1 e' hm hh
      · rw [Nat.testBit_or,Nat.testBit_or,Bool.or_eq_true,Bool.or_eq_true] at hj
        rcases hj with (hj | hj) | hj
        · obtain ⟨e',q1,q2⟩:=h2 j hj
          exact ⟨e',List.mem_cons_of_mem _ q1,q2⟩
        · rw [Nat.testBit_two_pow] at hj
          exact ⟨e,by simp,he,.inl (by simpa using hj:e.on=j).symm⟩
        · exact ⟨e,by simp,he,.inr hj⟩
/-- The masks: what must lie behind,for each operation. -/
theorem yQ:∀ {i:Nat} {os:List Oper} {acc ms:List Nat},acc.length=i→ancsA i os acc=some ms →
 (∀ j,j<i→ms[j]?=acc[j]?)∧ms.length=i+os.length∧∀ j o,os[j]?=some o→∃ m,ms[i+j]?=some m ∧
   (∀ e ∈ o.after,hard e=true→e.on<i+j)∧∀ p,m.testBit p=true→∃ e ∈ o.after,hard e=true∧(p=e.on ∨ (ms.getD e.on 0).testBit p=true)
 | i,[],acc,ms,hl,h=>by
  simp only [ancsA,Option.some.injEq] at h; subst h
  exact ⟨fun _ _=>rfl,by simpa using hl,by simp⟩
 | i,o :: os,acc,ms,hl,h=>by
  simp only [ancsA] at h
  split at h
  · rename_i m hm
    obtain ⟨h1,h2,h3⟩:=yQ (i:=i+1) (acc:=acc++[m]) (by simp [hl]) h
    refine ⟨fun j hj=>by rw [h1 j (by omega),List.getElem?_append_left (by omega)],by simp [h2]; omega,fun j o' hj=>?_⟩
    cases j with
    | zero =>
     simp at hj; subst hj
     obtain ⟨f1,f2⟩:=yD hm
     refine ⟨m,?_,fun e he hh=>by simpa using f1 e (by simpa using he) hh,fun p hp=>?_⟩
     · rw [Nat.add_zero,h1 i (by omega),List.getElem?_append_right (by omega)]; simp [hl]
     · obtain ⟨e,q1,q2,q3⟩:=f2 p hp
       refine ⟨e,by simpa using q1,q2,q3.imp id fun q=>?_⟩
       have hlt:=f1 e q1 q2
       have:=h1 e.on (by omega)
       rw [List.getElem?_append_left (by omega)] at this
       rw [List.getD_eq_getElem?_getD] at q ⊢
       rw [this]; exact q
    | succ j =>
     obtain ⟨m',q1,q2⟩:=h3 j o' (by simpa using hj)
     rw [show i+1+j=i+(j+1) by omega] at q1 q2
     exact ⟨m',q1,q2⟩
  · cases h
def later (i:Nat) (r:Rec):List Rec→List Nat→Bool
 | r' :: rs,m :: ms=>(!qF r r' || m.testBit i) && later i r rs ms
 | _,_=>true
def VQ:Nat→List Rec→List Nat→Bool
 | i,r :: rs,_ :: ms=>later i r rs ms && VQ (i+1) rs ms
 | _,_,_=>true
theorem yy {i:Nat} {r:Rec}:∀ {rs:List Rec} {ms:List Nat},later i r rs ms=true→∀ {j:Nat} {r':Rec} {m:Nat},rs[j]?=some r'→ms[j]?=some m→qF r r'=true→m.testBit i=true
 | [],ms,h,j,r',m,h1,h2,h3=>by simp at h1
 | a :: rs,[],h,j,r',m,h1,h2,h3=>by simp at h2
 | a :: rs,b :: ms,h,j,r',m,h1,h2,h3=>by
  simp only [later,Bool.and_eq_true,Bool.or_eq_true,Bool.not_eq_true'] at h
  cases j with
  | zero=>simp at h1 h2; subst h1; subst h2; exact h.1.resolve_left (by simp [h3])
  | succ j=>exact yy h.2 (by simpa using h1) (by simpa using h2) h3
theorem YQ:∀ {a:Nat} {rs:List Rec} {ms:List Nat},VQ a rs ms=true→∀ {i j:Nat} {r r':Rec} {m:Nat},i<j→rs[i]?=some r→rs[j]?=some r'→ms[j]?=some m→qF r r'=true →
 m.testBit (a+i)=true
 | a,[],ms,h,i,j,r,r',m,hij,h1,h2,h3,h4=>by simp at h1
 | a,x :: rs,[],h,i,j,r,r',m,hij,h1,h2,h3,h4=>by simp at h3
 | a,x :: rs,y :: ms,h,i,j,r,r',m,hij,h1,h2,h3,h4=>by
  simp only [VQ,Bool.and_eq_true] at h
  obtain ⟨j,rfl⟩:∃ k,j=k+1:=⟨j - 1,by omega⟩
  cases i with
  | zero=>simp at h1; subst h1; exact yy h.1 (by simpa using h2) (by simpa using h3) h4
  | succ i =>
   have:=YQ h.2 (i:=i) (j:=j) (by omega) (by simpa using h1) (by simpa using h2) (by simpa using h3) h4
   rw [show a+(i+1)=a+1+i by omega]; exact this
def trim:List Blk→List Blk
 | []=>[]
 | b :: bs=>match trim bs,b with
  | [],⟨false,0,0,true,[],false⟩=>[]
  | bs,b=>b :: bs
theorem trim_spec:∀ bs:List Blk,∃ m,bs=trim bs++List.replicate m dead
 | []=>⟨0,rfl⟩
 | b :: bs=>by
  obtain ⟨m,hm⟩:=trim_spec bs
  unfold trim
  split
  · rename_i h1
    rw [h1] at hm
    exact ⟨m+1,by rw [hm]; simp [List.replicate_succ,dead]⟩
  · exact ⟨m,by rw [List.cons_append,← hm]⟩
def mayNew (o:Oper):Bool :=
 match o.op with
 | .alloc _=>true
 | .box ..=>true
 | .build ..=>true
 | .buildSlice ..=>true
 | .makeSlice ..=>true
 | .call _=>true
 | _=>false
def drawA (P:Program) (ops:Array Oper) (st:St) (evs:List EV):Option (St × List EV × List Prop) :=
 match recsA P ops st.blks.length (List.range' 0 ops.size) ⟨st.tmps,st.blks++List.replicate (ops.toList.countP mayNew) dead⟩ evs with
 | none=>none
 | some (rs,st',evs',obs) =>
  match ancsA 0 ops.toList [] with
  | none=>none
  | some ms=>bif VQ 0 rs ms then some (⟨st'.tmps,trim st'.blks⟩,evs',obs) else none
end
end Ax
namespace Ax
open Go
section
variable {P:Program} {E:Env} {K K':List Item} {st st':St}
theorem qI {e:Edge}:Region.binds .any e=hard e:=by
 unfold hard; unfold Region.binds
 cases hg:e.ground <;> simp [hg]
structure Draw (P:Program) (ops:Array Oper) (st0:St) (rs:List Rec) (ms:List Nat):Prop where
 len:rs.length=ops.size
 mlen:ms.length=ops.size
 rec':∀ j r,rs[j]?=some r→∃ o idx' evs1 evs2 obs1,ops[j]?=some o∧recA P ops idx' j o ((rs.take j).foldl app1 st0) evs1=some (r,evs2,obs1)∧AllP obs1
 anc:∀ j o,ops[j]?=some o→∃ m,ms[j]?=some m∧(∀ e ∈ o.after,hard e=true→e.on<j)∧∀ p,m.testBit p=true→∃ e ∈ o.after,hard e=true∧(p=e.on ∨ (ms.getD e.on 0).testBit p=true)
 pairs:VQ 0 rs ms=true
/-- Downwards closed. -/
def Down (ops:Array Oper) (D:Nat→Bool):Prop:=∀ i o,ops[i]?=some o→D i=true→∀ e ∈ o.after,hard e=true→D e.on=true
theorem Draw.down {ops:Array Oper} {st0:St} {rs:List Rec} {ms:List Nat} (h:Draw P ops st0 rs ms) {D:Nat→Bool} (hd:Down ops D) :
 ∀ (i:Nat) (o:Oper) (m:Nat),ops[i]?=some o→ms[i]?=some m→D i=true→∀ p,m.testBit p=true→D p=true:=by
 intro i
 induction i using Nat.strongRecOn with
 | ind i ih =>
  intro o m ho hm hD p hp
  obtain ⟨m',q1,q2,q3⟩:=h.anc i o ho
  rw [hm] at q1; cases q1
  obtain ⟨e,e1,e2,e3⟩:=q3 p hp
  have hDe:=hd i o ho hD e e1 e2
  rcases e3 with rfl | e3
  · exact hDe
  · have hlt:=q2 e e1 e2
    have hs:i<ops.size:=(Array.getElem?_eq_some_iff.1 ho).1
    have ho':ops[e.on]?=some ops[e.on]:=by simp
    have hm':ms[e.on]?=some (ms.getD e.on 0):=by
     have:e.on<ms.length:=by rw [h.mlen]; omega
     simp [List.getD,List.getElem?_eq_getElem this]
    exact ih e.on hlt _ _ ho' hm' hDe p e3
theorem draw_one {ops:Array Oper} {st0:St} {rs:List Rec} {ms:List Nat} (h:Draw P ops st0 rs ms) {HK:Prop} (hk:HK) {D D':Nat→Bool} (hd:Down ops D) {i:Nat} {o:Oper} {rest:List Nat} {k:List Item}
 (ho:ops[i]?=some o) (hi:D i=false) (hpre:∀ e ∈ o.after,hard e=true→D e.on=true) (hD':∀ j,D' j=(D j || Nat.beq j i))
 (hlt:∀ j,D j=true→j<ops.size)
 (hg:G P E (.inRegion ops rest :: k) (mix D' 0 rs st0)):G P E (.inRegion ops (i :: rest) :: k) (mix D 0 rs st0):=by
 have his:i<ops.size:=(Array.getElem?_eq_some_iff.1 ho).1
 have hir:i<rs.length:=by rw [h.len]; exact his
 obtain ⟨r,hr⟩:∃ r,rs[i]?=some r:=⟨rs[i],by simp [hir]⟩
 obtain ⟨o',idx',evs1,evs2,obs1,q1,q2,q3⟩:=h.rec' i r hr
 rw [ho] at q1; cases q1
 obtain ⟨m,m1,m2,m3⟩:=h.anc i o ho
 have anc:∀ p,m.testBit p=true→D p=true:=by
  intro p hp
  obtain ⟨e,e1,e2,e3⟩:=m3 p hp
  have hDe:=hpre e e1 e2
  rcases e3 with rfl | e3
  · exact hDe
  · have hl:=m2 e e1 e2
    have ho':ops[e.on]?=some ops[e.on]:=by simp
    have hm':ms[e.on]?=some (ms.getD e.on 0):=by
     have:e.on<ms.length:=by rw [h.mlen]; omega
     simp [List.getD,List.getElem?_eq_getElem this]
    exact h.down hd e.on _ _ ho' hm' hDe p e3
 -- who clashes with 'i'
 have clsh:∀ j r',rs[j]?=some r'→qF r' r=true→(j<i→D j=true)∧(i<j→D j=false):=by
  intro j r' hj hc
  refine ⟨fun hji=>?_,fun hij=>?_⟩
  · exact anc j (by simpa using YQ h.pairs hji hj hr m1 hc)
  · cases hDj:D j with
    | false=>rfl
    | true =>
     have hjs:=hlt j hDj
     have hm':ms[j]?=some (ms.getD j 0):=by
      have:j<ms.length:=by rw [h.mlen]; omega
      simp [List.getD,List.getElem?_eq_getElem this]
     have:=YQ h.pairs hij hr hj hm' (by rw [yO]; exact hc)
     have h2:=h.down hd j ops[j] _ (by simp [hjs]) hm' hDj i (by simpa using this)
     rw [hi] at h2; cases h2
 have blt:∀ {a b:Nat},Nat.blt a b=decide (a<b):=fun {a b}=>by
  rw [Bool.eq_iff_iff,Nat.blt_eq]; simp
 have same:∀ j r',rs[j]?=some r'→(qF r' r=true ∨ j=i)→D j=Nat.blt j i:=by
  intro j r' hj hc
  rcases Nat.lt_trichotomy j i with hlt' | rfl | hgt
  · rw [(clsh j r' hj (hc.resolve_right (by omega))).1 hlt',blt]; simp [hlt']
  · rw [hi,blt]; simp
  · rw [(clsh j r' hj (hc.resolve_right (by omega))).2 hgt,blt]; simp; omega
 have hrec:recA P ops idx' i o (mix D 0 rs st0) evs1=some (r,evs2,obs1):=by
  refine recA_congr q2 (fun t ht=>?_) (fun kk hk=>?_)
  · have:=mix_pre (a:=0) (i:=i) (rs:=rs) (s:=st0)
    simp only [Nat.zero_add] at this
    rw [← this]
    refine mix_tmps (fun j r' hj hd=>?_) rfl
    simp only [Nat.zero_add]
    refine same j r' hj (.inl ?_)
    have hw:wrd r' r=true:=by
     simp only [wrd,hd,Bool.or_eq_true,List.any_eq_true]
     exact .inl ⟨t,ht,by simp⟩
    simp [qF,hw]
  · have:=mix_pre (a:=0) (i:=i) (rs:=rs) (s:=st0)
    simp only [Nat.zero_add] at this
    rw [← this]
    refine mix_blks (fun j r' b hj hd=>?_) rfl
    simp only [Nat.zero_add]
    refine same j r' hj (.inl ?_)
    have hw:wrd r' r=true:=by
     simp only [wrd,hd,Bool.or_eq_true,List.any_eq_true]
     exact .inr ⟨kk,hk,by simp⟩
    simp [qF,hw]
 refine rec_step ho hk hrec q3 ?_
 rw [← yw hi hD' (Nat.zero_le i) (by simpa using hr) fun j r' hj hlt' hDj=>?_]
 · exact hg
 · simp only [Nat.zero_add] at hlt' hDj
   cases hw:wr2 r r' with
   | false=>rfl
   | true =>
    have:=(clsh j r' hj (by rw [yO]; simp [qF,hw])).2 hlt'
    rw [this] at hDj; cases hDj
def unl (n:Nat) (listed:Array Bool):List Nat:=(List.range n).filter fun i=>!listed.getD i true
theorem draw_go {ops:Array Oper} {st0:St} {rs:List Rec} {ms:List Nat} (h:Draw P ops st0 rs ms) {HK:Prop} (hk:HK) {k:List Item} (hg:G P E k (rs.foldl app1 st0)) :
 ∀ (fuel t:Nat) (listed:Array Bool),listed.size=ops.size→(unl ops.size listed).length≤fuel→Down ops (fun i=>listed.getD i false) →
  G P E (.inRegion ops (Region.linearise.go .any ops fuel t listed []) :: k) (mix (fun i=>listed.getD i false) 0 rs st0):=by
 have fin:∀ listed:Array Bool,listed.size=ops.size→(∀ i,i<ops.size→listed.getD i false=true)→G P E (.inRegion ops [] :: k) (mix (fun i=>listed.getD i false) 0 rs st0):=by
  intro listed hs hall
  rw [mix_all fun j hj=>by rw [Nat.zero_add]; exact hall j (by rw [← h.len]; exact hj)]
  exact .of_step (fun a w=>stepR_region_end) hg
 have gd:∀ (listed:Array Bool) (i:Nat),listed.size=ops.size→i<ops.size→listed.getD i true=listed.getD i false:=by
  intro listed i hs hi
  have:i<listed.size:=by omega
  simp [Array.getD,this]
 intro fuel
 induction fuel with
 | zero =>
  intro t listed hs hf hd
  simp only [Region.linearise.go,List.reverse_nil]
  refine fin listed hs fun i hi=>?_
  have h0:unl ops.size listed=[]:=List.length_eq_zero_iff.1 (by omega)
  cases hc:listed.getD i false with
  | true=>rfl
  | false =>
   have:i ∈ unl ops.size listed:=by
    unfold unl; rw [List.mem_filter,List.mem_range]
    exact ⟨hi,by rw [gd listed i hs hi,hc]; rfl⟩
   rw [h0] at this; cases this
 | succ fuel ih =>
  intro t listed hs hf hd
  simp only [Region.linearise.go]
  change G P E (.inRegion ops (match (Region.ready .any ops listed)[t % (Region.ready .any ops listed).length]? with
   | some i=>Region.linearise.go .any ops fuel (t / (Region.ready .any ops listed).length) (listed.setIfInBounds i true) [i]
   | none=>[].reverse) :: k) _
  cases hi:(Region.ready .any ops listed)[t % (Region.ready .any ops listed).length]? with
  | none =>
   have hnil:Region.ready .any ops listed=[]:=by
    cases hr:Region.ready .any ops listed with
    | nil=>rfl
    | cons x xs =>
     rw [hr] at hi
     have hlt:t % (x :: xs).length<(x :: xs).length:=Nat.mod_lt _ (by simp)
     simp at hi
     simp at hlt
     omega
   simp only [List.reverse_nil]
   refine fin listed hs fun i=>?_
   induction i using Nat.strongRecOn with
   | ind i ihi =>
    intro hi'
    cases hc:listed.getD i false with
    | true=>rfl
    | false =>
     have hop:ops[i]?=some ops[i]:=by simp [hi']
     have:i ∈ Region.ready .any ops listed:=by
      rw [mem_ready]
      refine ⟨by rw [gd listed i hs hi',hc],ops[i],hop,fun e he hb=>?_⟩
      rw [qI] at hb
      obtain ⟨m,m1,m2,m3⟩:=h.anc i _ hop
      have:=m2 e he hb
      exact ihi e.on this (by omega)
     rw [hnil] at this; cases this
  | some i =>
   simp only
   rw [linearise_go_acc,List.reverse_singleton,List.singleton_append]
   have hmem:=List.mem_of_getElem? hi
   obtain ⟨h0,o,ho,hpre⟩:=mem_ready.1 hmem
   have his:i<ops.size:=(Array.getElem?_eq_some_iff.1 ho).1
   have h0':listed.getD i false=false:=by rw [← gd listed i hs his]; exact h0
   have hset:∀ j,(listed.setIfInBounds i true).getD j false=(listed.getD j false || Nat.beq j i):=by
    intro j
    by_cases e:j=i
    · subst e
      have:j<listed.size:=by omega
      simp [Array.getD,this]
    · have:Nat.beq j i=false:=by rw [← Bool.not_eq_true,Nat.beq_eq]; exact e
      rw [getD_set_ne false (Ne.symm e),this,Bool.or_false]
   refine draw_one h hk hd ho h0' (fun e he hh=>hpre e he (by rw [qI]; exact hh)) hset (fun j hj=>?_) ?_
   · rcases Nat.lt_or_ge j ops.size with h1 | h1
     · exact h1
     · have h1':listed.size≤j:=by omega
       simp [Array.getD,Nat.not_lt.2 h1'] at hj
   · refine ih _ _ (by simpa using hs) ?_ ?_
     · have hsub:(unl ops.size (listed.setIfInBounds i true))=(unl ops.size listed).filter fun j=>!Nat.beq j i:=by
        unfold unl
        rw [List.filter_filter]
        refine List.filter_congr fun j hj=>?_
        have hj':=List.mem_range.1 hj
        rw [gd _ j (by simpa using hs) hj',hset j,gd listed j hs hj']
        cases listed.getD j false <;> cases Nat.beq j i <;> rfl
       have hlt:((unl ops.size listed).filter fun j=>!Nat.beq j i).length<(unl ops.size listed).length:=by
        rw [List.length_filter_lt_length_iff_exists]
        refine ⟨i,?_,by simp⟩
        unfold unl; rw [List.mem_filter,List.mem_range]
        exact ⟨his,by rw [h0]; rfl⟩
       rw [hsub]; omega
     · intro j oj hoj hDj e he hh
       simp only [hset] at hDj ⊢
       rw [Bool.or_eq_true] at hDj ⊢
       rcases hDj with hDj | hDj
       · exact .inl (hd j oj hoj hDj e he hh)
       · rw [Nat.beq_eq] at hDj; subst hDj
         rw [ho] at hoj; cases hoj
         exact .inl (hpre e he (by rw [qI]; exact hh))
/-- A region whose order is drawn. -/
theorem draw_step {ops:Array Oper} {id:Nat} {k:List Item} {evs evs':List EV} {obs:List Prop} {HK:Prop} (hk:HK) (hmx:P.follows .mixedOrders=true)
 (h:drawA P ops st evs=some (st',evs',obs)) (ho:AllP obs) (hg:G P E k st'):G P E (.code (.region id ops true) :: k) st:=by
 unfold drawA at h
 split at h
 · cases h
 · rename_i rs st1 evs1 obs1 h1
   split at h
   · cases h
   · rename_i ms hms
     cases hp:VQ 0 rs ms with
     | false=>simp [hp] at h
     | true =>
      simp only [hp,cond_true,Option.some.injEq,Prod.mk.injEq] at h
      obtain ⟨rfl,-,rfl⟩:=h
      obtain ⟨l,e,f⟩:=yq h1 ho
      obtain ⟨a1,a2,a3⟩:=yQ (i:=0) (acc:=[]) rfl hms
      have hD:Draw P ops ⟨st.tmps,st.blks++List.replicate (ops.toList.countP mayNew) dead⟩ rs ms :=
       ⟨l,by simpa using a2,fun j r hj=>by simpa using f j r hj,fun j o hj=>by simpa using a3 j o (by simpa using hj),hp⟩
      have hg2:G P E k (rs.foldl app1 ⟨st.tmps,st.blks++List.replicate (ops.toList.countP mayNew) dead⟩):=by
       rw [← e]
       obtain ⟨m,hm⟩:=trim_spec st1.blks
       have:st1=⟨st1.tmps,trim st1.blks++List.replicate m dead⟩:=by cases st1; simp only at hm ⊢; rw [← hm]
       rw [this]; exact G_pop hg
      intro C Z a w hr
      have hstep:=stepR_region_draw (P:=P) (b:=E.b) (a:=a) (k:=k) (cs:=E.cs) (w:=w) (ops:=ops) (id:=id)
      refine .step (.one hstep) ?_
      have hrep:∀ j,(Array.replicate ops.size false).getD j false=false:=by
       intro j
       by_cases hj:j<ops.size <;> simp [Array.getD,hj]
      have hgo:=draw_go hD hk hg2 ops.size (w.tape w.drawn (.order E.b.fn id)) (Array.replicate ops.size false) (by simp) (by
       unfold unl; exact Nat.le_trans (List.length_filter_le _ _) (by simp)) (by intro i o hio hDi; have:=(hrep i).symm.trans hDi; cases this)
      simp only [Region.schedule,hmx,Bool.true_or,if_true]
      rw [mix_none (fun j=>hrep j)] at hgo
      have ev:EvoC w { w with drawn:=w.drawn+1 }:=⟨fun _ _ _ h=>h,rfl⟩
      have hfr:=hr.mem.frame
      exact hgo C Z a { w with drawn:=w.drawn+1 } ⟨⟨hr.tmp.1,fun i c v p q=>(hr.tmp.2 i c v p q).evoC ev⟩,
       (hr.mem.evoC ev ⟨hfr.os,hfr.tape,hfr.output,hfr.size,hfr.same⟩).pushN _,hr.marks,⟨hr.gh.1,fun i c v p q=>(hr.gh.2 i c v p q).evoC ev⟩,hr.base.evoC ev⟩
end
end Ax
namespace Ax
open Go
/-! ### Calls that turn blocks of the caller -/
def Own (C:Ctx) (b:Nat):Prop:=∃ k o,C.β k=.loc b o
mutual
def ren (f:Nat→Nat):AV→AV
 | .ptr k g off=>.ptr (f k) g off
 | .sl k g off len sz=>.sl (f k) g off len sz
 | .mp k g it=>.mp (f k) g it
 | .agg cs=>.agg (rens f cs)
 | .tup cs=>.tup (rens f cs)
 | .clos g a b=>.clos g (rens f a) (rens f b)
 | v=>v
def rens (f:Nat→Nat):List AV→List AV
 | []=>[]
 | c :: cs=>ren f c :: rens f cs
end
mutual
def Ya (p:Nat→Bool):AV→Bool
 | .ptr k _ _=>p k
 | .sl k _ _ _ _=>p k
 | .mp k _ _=>p k
 | .agg cs=>refsIns p cs
 | .tup cs=>refsIns p cs
 | .clos _ a b=>refsIns p a && refsIns p b
 | _=>true
def refsIns (p:Nat→Bool):List AV→Bool
 | []=>true
 | c :: cs=>Ya p c && refsIns p cs
end
theorem Yb {f:Nat→Nat}:∀ {cs:List AV} {i:Nat},(rens f cs)[i]?=(cs[i]?).map (ren f)
 | [],i=>by simp [rens]
 | c :: cs,0=>by simp [rens]
 | c :: cs,i+1=>by simp [rens,Yb (cs:=cs)]
theorem Xn {f:Nat→Nat}:∀ {cs:List AV},(rens f cs).length=cs.length
 | []=>rfl
 | c :: cs=>by simp [rens,Xn (cs:=cs)]
theorem XO {p:Nat→Bool}:∀ {cs:List AV} {i:Nat} {c:AV},refsIns p cs=true→cs[i]?=some c→Ya p c=true
 | [],_,_,_,h=>by simp at h
 | d :: cs,0,c,hn,h=>by simp [refsIns] at hn h; rw [← h]; exact hn.1
 | d :: cs,i+1,c,hn,h=>by simp [refsIns] at hn h; exact XO hn.2 h
mutual
theorem yp (v:AV):Ya (fun _=>true) v=true:=by
 cases v <;> simp only [Ya]
 case agg cs=>exact refsIns_all cs
 case tup cs=>exact refsIns_all cs
 case clos f a b=>rw [refsIns_all a,refsIns_all b]; rfl
theorem refsIns_all (cs:List AV):refsIns (fun _=>true) cs=true:=by
 cases cs with
 | nil=>rfl
 | cons c cs=>simp only [refsIns]; rw [yp c,refsIns_all cs]; rfl
end
theorem isCell_ren {f:Nat→Nat} (v:AV):Xc (ren f v)=Xc v:=by
 cases v <;> rfl
theorem VR.ren {f:Nat→Nat} {p:Nat→Bool} {C C':Ctx} {Z:Nat→Prop} {w:World} {v:AV} {c:Value} (hf:∀ k,p k=true→C'.β (f k)=C.β k∧C'.γ (f k)=C.γ k)
 (h:VR Z w C v c) (hp:Ya p v=true):VR Z w C' (Ax.ren f v) c:=by
 have key:∀ {C₁ v c},VR Z w C₁ v c→C₁=C→Ya p v=true→VR Z w C' (Ax.ren f v) c:=by
  intro C₁ v c h
  have lst:∀ {cs:List AV} {arr:Array Value},(∀ (i:Nat) (c:AV) (v:Value),cs[i]?=some c→arr[i]?=some v→Ya p c=true→VR Z w C' (Ax.ren f c) v)→refsIns p cs=true →
   ∀ (i:Nat) (c:AV) (v:Value),(rens f cs)[i]?=some c→arr[i]?=some v→VR Z w C' c v:=by
   intro cs arr h hp i c v h1 h2
   rw [Yb,Option.map_eq_some_iff] at h1
   obtain ⟨c0,h1,rfl⟩:=h1
   exact h i c0 v h1 h2 (XO hp h1)
  induction h with
  | bool b=>exact fun _ _=>.bool b
  | int k n=>exact fun _ _=>.int k n
  | nilPtr=>exact fun _ _=>.nilPtr
  | @ptr C₁ k g off c hg ho hh =>
   rintro rfl hp
   obtain ⟨e1,e2⟩:=hf k (by simpa [Ya] using hp)
   exact .ptr (by rw [e2]; exact hg) ho (by rw [e1,e2]; exact hh)
  | rptr cv hz hc hk hr ih=>exact fun _ _=>.rptr cv hz hc hk hr
  | nilSl=>exact fun _ _=>.nilSl
  | @sl C₁ k g off len sz c hg ho hh =>
   rintro rfl hp
   obtain ⟨e1,e2⟩:=hf k (by simpa [Ya] using hp)
   exact .sl (by rw [e2]; exact hg) ho (by unfold SlOk at hh ⊢; rw [e1,e2]; exact hh)
  | rsl cv hz hl hc hk hr ih=>exact fun _ _=>.rsl cv hz hl hc hk hr
  | rsl0=>exact fun _ _=>.rsl0
  | agg hl h ih =>
   intro e hp
   exact .agg (by rw [Xn]; exact hl) (lst (fun i c v h1 h2 h3=>ih i c v h1 h2 e h3) (by simpa [Ya] using hp))
  | tup hl h ih =>
   intro e hp
   exact .tup (by rw [Xn]; exact hl) (lst (fun i c v h1 h2 h3=>ih i c v h1 h2 e h3) (by simpa [Ya] using hp))
  | clos hl h hl' h' ih ih' =>
   intro e hp
   simp only [Ya,Bool.and_eq_true] at hp
   exact .clos (by rw [Xn]; exact hl) (lst (fun i c v h1 h2 h3=>ih i c v h1 h2 e h3) hp.1) (by rw [Xn]; exact hl') (lst (fun i c v h1 h2 h3=>ih' i c v h1 h2 e h3) hp.2)
  | nilFunc=>exact fun _ _=>.nilFunc
  | opq v=>exact fun _ _=>.opq v
  | junk v=>exact fun _ _=>.junk v
  | @mp C₁ k g it c hg ho hh =>
   rintro rfl hp
   obtain ⟨e1,e2⟩:=hf k (by simpa [Ya] using hp)
   exact .mp (by rw [e2]; exact hg) ho (by rw [e1,e2]; exact hh)
  | rmap es hz hh hl hb hr ih=>exact fun _ _=>.rmap es hz hh hl hb hr
 exact key h rfl hp
/-- As 'Evo' and 'CtxLe' together; a row may have turned whose generation is gone. -/
structure EvoG (C C':Ctx) (Z Z':Nat→Prop) (w w':World):Prop where
 zsub:∀ b,Z b→Z' b
 same:∀ b,Z b→w'.heap[b]?=w.heap[b]?
 le:CtxLe C C'
 rows:∀ k blk o arr e,C.β k=.loc blk o→C'.γ k=C.γ k→w.heap[blk]?=some (.cells arr e (0,0))→∃ arr',w'.heap[blk]?=some (.cells arr' e (0,0))∧arr'.size=arr.size
theorem VR.evoG {C C':Ctx} {Z Z':Nat→Prop} {w w':World} {v:AV} {c:Value} (h:VR Z w C v c) (he:EvoG C C' Z Z' w w'):VR Z' w' C' v c:=by
 have he0:Evo C0 Z Z' w w':=⟨he.zsub,he.same,fun k blk o arr e h=>by simp [C0] at h⟩
 have key:∀ {C₁ v c},VR Z w C₁ v c→C₁=C→VR Z' w' C' v c:=by
  intro C₁ v c h
  induction h with
  | bool b=>exact fun _=>.bool b
  | int k n=>exact fun _=>.int k n
  | nilPtr=>exact fun _=>.nilPtr
  | @ptr C₁ k g off c hg ho hh =>
   rintro rfl
   refine .ptr (Nat.le_trans hg (he.le.gen k)) ho fun e=>?_
   have e1:g=C₁.γ k:=by have:=he.le.gen k; omega
   obtain ⟨blk,o,hb,hv⟩:=hh e1
   exact ⟨blk,o,by rw [he.le.pos k (by rw [hb]; simp) (by omega),hb],hv⟩
  | rptr cv hz hc hk hr ih=>exact fun _=>.rptr cv (he.zsub _ hz) (fun i hi=>(XV (he.same _ hz)).trans (hc i hi)) hk fun i c hi=>(hr i c hi).mono he0
  | nilSl=>exact fun _=>.nilSl
  | @sl C₁ k g off len sz c hg ho hh =>
   rintro rfl
   refine .sl (Nat.le_trans hg (he.le.gen k)) ho fun e=>?_
   have e1:g=C₁.γ k:=by have:=he.le.gen k; omega
   have h1:=hh e1
   unfold SlOk at h1 ⊢
   rw [he.le.pos k (by intro hb; simp [hb] at h1) (by omega)]
   cases hb:C₁.β k with
   | absent=>simp [hb] at h1
   | unborn=>simp only [hb] at h1 ⊢; exact h1
   | loc blk o =>
    simp only [hb] at h1 ⊢
    obtain ⟨a,cap,h2,h3,h4,arr,e',h5,h6⟩:=h1
    obtain ⟨arr',h7,h8⟩:=he.rows k blk o arr e' hb (by omega) h5
    exact ⟨a,cap,h2,h3,h4,arr',e',h7,by omega⟩
  | rsl cv hz hl hc hk hr ih=>exact fun _=>.rsl cv (he.zsub _ hz) hl (fun i hi=>(XV (he.same _ hz)).trans (hc i hi)) hk fun i c hi=>(hr i c hi).mono he0
  | rsl0=>exact fun _=>.rsl0
  | agg hl h ih=>exact fun e=>.agg hl fun i c v h1 h2=>ih i c v h1 h2 e
  | tup hl h ih=>exact fun e=>.tup hl fun i c v h1 h2=>ih i c v h1 h2 e
  | clos hl h hl' h' ih ih'=>exact fun e=>.clos hl (fun i c v h1 h2=>ih i c v h1 h2 e) hl' (fun i c v h1 h2=>ih' i c v h1 h2 e)
  | nilFunc=>exact fun _=>.nilFunc
  | opq v=>exact fun _=>.opq v
  | junk v=>exact fun _=>.junk v
  | @mp C₁ k g it c hg ho hh =>
   rintro rfl
   refine .mp (Nat.le_trans hg (he.le.gen k)) ho fun e=>?_
   have e1:g=C₁.γ k:=by have:=he.le.gen k; omega
   obtain ⟨blk,o,hb,hv⟩:=hh e1
   exact ⟨blk,o,by rw [he.le.pos k (by rw [hb]; simp) (by omega),hb],hv⟩
  | rmap es hz hh hl hb hr ih=>exact fun _=>.rmap es (he.zsub _ hz) ((he.same _ hz).trans hh) hl hb fun i c e h1 h2=>(hr i c e h1 h2).mono he0
 exact key h rfl
theorem VRs.evoG {C C':Ctx} {Z Z':Nat→Prop} {w w':World} {cs:List AV} {vs:List Value} (h:VRs Z w C cs vs) (he:EvoG C C' Z Z' w w'):VRs Z' w' C' cs vs :=
 ⟨h.1,fun i c v a b=>(h.2 i c v a b).evoG he⟩
theorem Marks.evoG {C C':Ctx} {Z Z' M:Nat→Prop} {w0 w w':World} {df ds:List Deferred} (h:Marks df Z M w0 ds w) (he:EvoG C C' Z Z' w w'):Marks df Z' M w0 ds w':=by
 obtain ⟨Ds,h1,h2,h3⟩:=h
 exact ⟨Ds,h1,h2,fun D hD=>⟨he.zsub D (h3 D hD).1,(h3 D hD).2.1,by rw [he.same D (h3 D hD).1]; exact (h3 D hD).2.2⟩⟩
theorem Base.nextG {Cb C C':Ctx} {w0 w w':World} {Z Z':Nat→Prop} (h:Base Cb w0 C w) (he:EvoG C C' Z Z' w w'):Base Cb w0 C' w':=by
 refine ⟨⟨fun k=>Nat.le_trans (h.le.gen k) (he.le.gen k),fun k p q=>?_⟩,fun k blk o arr e p q r=>?_⟩
 · have e1:=h.le.gen k
   have e2:=he.le.gen k
   have e3:C.γ k=Cb.γ k:=by omega
   rw [he.le.pos k (by rw [h.le.pos k p e3]; exact p) (by omega),h.le.pos k p e3]
 · have e1:=h.le.gen k
   have e2:=he.le.gen k
   have e3:C.γ k=Cb.γ k:=by omega
   obtain ⟨arr1,a1,a2⟩:=h.rows k blk o arr e p e3 r
   have hb:C.β k=.loc blk o:=by rw [h.le.pos k (by rw [p]; simp) e3,p]
   obtain ⟨arr2,b1,b2⟩:=he.rows k blk o arr1 e hb (by omega) a1
   exact ⟨arr2,b1,by omega⟩
/-- A function value that turns what it is handed: blocks 'bs' become 'bs2' (and what is new lies behind them). -/
def LentF (P:Program) (fv:AV) (args:List AV) (bs:List Blk) (res:AV) (bs2:List Blk):Prop :=
 ∀ (Z:Nat→Prop) (w:World) (C:Ctx) (cf:Value) (cargs:Array Value),Mem Z (Own C) w C Z bs w→VR Z w C fv cf→VRs Z w C args cargs.toList →
  ∃ (d:Deferred) (f:FuncId) (args':Array Value),(Deferred.ofValue cf cargs).run P w=.ok d w∧(invoke d.target d.args).run P w=.ok (.enter f args') w ∧
   Calls P f args' w fun e w'=>∃ v C' Z',e=.returned v∧Base C w C' w'∧Mem Z (Own C) w C' Z' bs2 w'∧VR Z' w' C' res v
def renB (f:Nat→Nat) (b:Blk):Blk:=bif b.flat then b else { b with cells:=rens f b.cells }
def Yp:List Nat→Bool
 | []=>true
 | j :: js=>!js.contains j && Yp js
def lend (f:Nat→Nat) (p:Nat→Bool) (blks:List Blk):List Nat→Option (List Blk)
 | []=>some []
 | j :: js=>match blks[j]?,lend f p blks js with
  | some b,some bs=>bif b.flat || refsIns p b.cells then some (renB f b :: bs) else none
  | _,_=>none
def Xf (blks:List Blk):List Nat→List Blk→List Blk
 | j :: js,b :: bs=>Xf (blks.set j b) js bs
 | _,_=>blks
/-- From the callee's numbers to the caller's. -/
def outN (N:Nat) (ρ:List Nat) (k:Nat):Nat:=bif Nat.ble ρ.length k then N+(k - ρ.length) else ρ.getD k 0
def lentA (P:Program) (fv:AV) (args:List AV) (blks:List Blk) (ρ:List Nat) (res:AV) (bs2:List Blk):Option (AV × List Blk × List Prop) :=
 bif Yp ρ && Nat.ble ρ.length bs2.length && Ya (fun j=>ρ.contains j) fv && refsIns (fun j=>ρ.contains j) args then
  match lend (fun j=>ρ.idxOf j) (fun j=>ρ.contains j) blks ρ with
  | some bs=>some (ren (outN blks.length ρ) res,Xf blks ρ (bs2.map (renB (outN blks.length ρ)))++(bs2.drop ρ.length).map (renB (outN blks.length ρ)),
   [LentF P (ren (fun j=>ρ.idxOf j) fv) (rens (fun j=>ρ.idxOf j) args) bs res bs2])
  | none=>none
 else none
theorem Fr.trans {w0 w w':World} {M F:Nat→Prop} (h:Fr w0 M w) (h':Fr w F w') (hF:∀ b,b<w0.heap.size→¬ M b→¬ F b):Fr w0 M w' :=
 ⟨h'.os.trans h.os,h'.tape.trans h.tape,h'.output.trans h.output,Nat.le_trans h.size h'.size,fun b hb hM=>by
  rw [h'.same b (Nat.lt_of_lt_of_le hb h.size) (hF b hb hM)]; exact h.same b hb hM⟩
theorem lend_get {f:Nat→Nat} {p:Nat→Bool} {blks:List Blk}:∀ {ρ:List Nat} {bs:List Blk},lend f p blks ρ=some bs→bs.length=ρ.length ∧
 ∀ (k:Nat) (b':Blk),bs[k]?=some b'→∃ j b,ρ[k]?=some j∧blks[j]?=some b∧b'=renB f b∧(b.flat=true ∨ refsIns p b.cells=true)
 | [],bs,h=>by simp only [lend,Option.some.injEq] at h; subst h; exact ⟨rfl,by simp⟩
 | j :: js,bs,h=>by
  simp only [lend] at h
  split at h
  · rename_i b bs1 hb hl
    obtain ⟨q1,q2⟩:=lend_get hl
    cases hc:(b.flat || refsIns p b.cells) with
    | false=>simp [hc] at h
    | true =>
     simp only [hc,cond_true,Option.some.injEq] at h
     subst h
     refine ⟨by simp [q1],fun k b' hk=>?_⟩
     cases k with
     | zero=>simp only [List.getElem?_cons_zero,Option.some.injEq] at hk; exact ⟨j,b,rfl,hb,hk.symm,by simpa using hc⟩
     | succ k=>exact q2 k b' (by simpa using hk)
  · cases h
theorem Xs:∀ {ρ:List Nat} {bs blks:List Blk},(Xf blks ρ bs).length=blks.length
 | [],_,_=>by simp [Xf]
 | j :: js,[],_=>by simp [Xf]
 | j :: js,b :: bs,blks=>by simp [Xf,Xs (ρ:=js)]
theorem YR:∀ {ρ:List Nat} {bs blks:List Blk} {j:Nat},j ∉ ρ→(Xf blks ρ bs)[j]?=blks[j]?
 | [],_,_,_,_=>by simp [Xf]
 | i :: js,[],_,_,_=>by simp [Xf]
 | i :: js,b :: bs,blks,j,h=>by
  simp only [List.mem_cons,not_or] at h
  simp only [Xf]
  rw [YR h.2,List.getElem?_set_ne (by omega)]
theorem qs:∀ {ρ:List Nat} {bs blks:List Blk} {j k:Nat} {b:Blk},Yp ρ=true→ρ[k]?=some j→bs[k]?=some b→j<blks.length→(Xf blks ρ bs)[j]?=some b
 | [],_,_,_,_,_,_,h,_,_=>by simp at h
 | i :: js,[],_,_,_,_,_,_,h,_=>by simp at h
 | i :: js,b0 :: bs,blks,j,0,b,hn,h1,h2,h3=>by
  simp only [List.getElem?_cons_zero,Option.some.injEq] at h1 h2
  subst h1; subst h2
  simp only [Yp,Bool.and_eq_true,Bool.not_eq_true',List.contains_eq_mem,decide_eq_false_iff_not] at hn
  simp only [Xf]
  rw [YR hn.1]; simp [h3]
 | i :: js,b0 :: bs,blks,j,k+1,b,hn,h1,h2,h3=>by
  simp only [Yp,Bool.and_eq_true] at hn
  simp only [Xf]
  exact qs hn.2 (by simpa using h1) (by simpa using h2) (by simpa using h3)
theorem qi:∀ {ρ:List Nat} {k k' j:Nat},Yp ρ=true→ρ[k]?=some j→ρ[k']?=some j→k=k'
 | [],_,_,_,_,h,_=>by simp at h
 | i :: js,0,0,_,_,_,_=>rfl
 | i :: js,0,k'+1,j,hn,h1,h2=>by
  simp only [Yp,Bool.and_eq_true,Bool.not_eq_true',List.contains_eq_mem,decide_eq_false_iff_not] at hn
  simp only [List.getElem?_cons_zero,Option.some.injEq,List.getElem?_cons_succ] at h1 h2
  exact absurd (h1 ▸ List.mem_of_getElem? h2) hn.1
 | i :: js,k+1,0,j,hn,h1,h2=>by
  simp only [Yp,Bool.and_eq_true,Bool.not_eq_true',List.contains_eq_mem,decide_eq_false_iff_not] at hn
  simp only [List.getElem?_cons_zero,Option.some.injEq,List.getElem?_cons_succ] at h1 h2
  exact absurd (h2 ▸ List.mem_of_getElem? h1) hn.1
 | i :: js,k+1,k'+1,j,hn,h1,h2=>by
  simp only [Yp,Bool.and_eq_true] at hn
  have e:=qi (k:=k) (k':=k') (j:=j) hn.2 (by simpa using h1) (by simpa using h2)
  rw [e]
theorem idx_get {ρ:List Nat} {k j:Nat} (hn:Yp ρ=true) (h:ρ[k]?=some j):ρ.idxOf j=k:=by
 have hm:j ∈ ρ:=List.mem_of_getElem? h
 have hlt:ρ.idxOf j<ρ.length:=List.idxOf_lt_length_iff.2 hm
 refine qi hn (j:=j) ?_ h
 rw [List.getElem?_eq_getElem hlt,List.getElem_idxOf hlt]
/-- From the caller's numbers to the callee's. -/
def inN (N:Nat) (ρ:List Nat) (j:Nat):Option Nat:=if j<N then (if j ∈ ρ then some (ρ.idxOf j) else none) else some (j - N+ρ.length)
def subC (C:Ctx) (ρ:List Nat):Ctx:=⟨fun k=>match ρ[k]? with | some j=>C.β j | none=>.absent,fun k=>match ρ[k]? with | some j=>C.γ j | none=>0⟩
def XY (C C1:Ctx) (N:Nat) (ρ:List Nat):Ctx :=
 ⟨fun j=>match inN N ρ j with | some k=>C1.β k | none=>C.β j,fun j=>match inN N ρ j with | some k=>C1.γ k | none=>C.γ j⟩
theorem inN_out {N:Nat} {ρ:List Nat} {k:Nat} (hn:Yp ρ=true) (hρ:∀ j ∈ ρ,j<N):inN N ρ (outN N ρ k)=some k:=by
 unfold inN outN
 by_cases hk:ρ.length≤k
 · rw [Nat.ble_eq_true_of_le hk]
   simp only [cond_true]
   rw [if_neg (by omega)]
   congr 1; omega
 · have hb:Nat.ble ρ.length k=false:=by
    cases h:Nat.ble ρ.length k with
    | false=>rfl
    | true=>exact absurd (Nat.le_of_ble_eq_true h) hk
   have hg:ρ[k]?=some ρ[k]:=List.getElem?_eq_getElem (by omega)
   have hgd:ρ.getD k 0=ρ[k]:=by simp [List.getD,hg]
   rw [hb]
   simp only [cond_false]
   rw [hgd,if_pos (hρ _ (List.getElem_mem _)),if_pos (List.getElem_mem _),idx_get hn hg]
theorem qg {N:Nat} {ρ:List Nat} {j k:Nat} (h:inN N ρ j=some k):outN N ρ k=j∧(j<N→ρ[k]?=some j)∧(N≤j→ρ.length≤k):=by
 unfold inN at h
 unfold outN
 split at h
 · rename_i hj
   split at h
   · rename_i hm
     simp only [Option.some.injEq] at h
     subst h
     have hlt:ρ.idxOf j<ρ.length:=List.idxOf_lt_length_iff.2 hm
     have hg:ρ[ρ.idxOf j]?=some j:=by rw [List.getElem?_eq_getElem hlt,List.getElem_idxOf hlt]
     have hb:Nat.ble ρ.length (ρ.idxOf j)=false:=by
      cases h:Nat.ble ρ.length (ρ.idxOf j) with
      | false=>rfl
      | true=>exact absurd (Nat.le_of_ble_eq_true h) (by omega)
     exact ⟨by rw [hb]; simp [List.getD,hg],fun _=>hg,fun h=>by omega⟩
   · cases h
 · rename_i hj
   simp only [Option.some.injEq] at h
   subst h
   exact ⟨by rw [Nat.ble_eq_true_of_le (by omega)]; simp only [cond_true]; omega,fun h=>by omega,fun _=>by omega⟩
theorem qK.ren {C C':Ctx} {Z:Nat→Prop} {w:World} {k k':Nat} {b:Blk} {f:Nat→Nat} {p:Nat→Bool} (hf:∀ k,p k=true→C'.β (f k)=C.β k∧C'.γ (f k)=C.γ k)
 (hk:C'.β k'=C.β k) (hp:b.flat=true ∨ refsIns p b.cells=true) (h:qK C Z w k b):qK C' Z w k' (renB f b):=by
 intro hl
 unfold renB at hl ⊢
 cases hfl:b.flat with
 | true =>
  rw [hfl] at hl
  simp only [cond_true] at hl ⊢
  obtain ⟨q1,q2⟩:=h hl
  refine ⟨q1,?_⟩
  rw [hk]
  cases hs:C.β k with
  | absent=>simp [hs] at q2
  | unborn=>simp only [hs] at q2 ⊢; exact q2
  | loc blk o=>simp only [hs] at q2 ⊢; exact q2.next rfl (fun _ _ h=>h) (fun hf=>by rw [hfl] at hf; cases hf)
 | false =>
  rw [hfl] at hl
  simp only [cond_false] at hl ⊢
  have hp:=hp.resolve_left (by rw [hfl]; simp)
  obtain ⟨q1,q2⟩:=h hl
  refine ⟨fun i c hi=>?_,?_⟩
  · rw [Yb,Option.map_eq_some_iff] at hi
    obtain ⟨c0,hi,rfl⟩:=hi
    rw [isCell_ren]; exact q1 i c0 hi
  rw [hk]
  cases hs:C.β k with
  | absent=>simp [hs] at q2
  | unborn=>simp only [hs] at q2 ⊢; rw [q2]; rfl
  | loc blk o =>
   simp only [hs] at q2 ⊢
   rcases q2 with ⟨hz,arr,e,r1,r2,r3⟩ | ⟨hz,ob,r1,r2⟩
   · refine .inl ⟨hz,arr,e,r1,by rw [Xn]; exact r2,fun i c hi=>?_⟩
     rw [Yb,Option.map_eq_some_iff] at hi
     obtain ⟨c0,hi,rfl⟩:=hi
     obtain ⟨v,s1,s2⟩:=r3 i c0 hi
     simp only [hfl,Bool.false_eq_true,if_false] at s2 ⊢
     exact ⟨v,s1,s2.ren hf (XO hp hi)⟩
   · refine .inr ⟨hz,ob,r1,?_⟩
     rw [hfl] at r2
     simp only [hfl,Xq,Bool.false_eq_true,if_false] at r2 ⊢
     obtain ⟨m,n,seen,a,b',⟨c,c1,c2⟩,d,e⟩:=r2
     refine ⟨m,n,seen,a,by rw [Xn]; exact b',⟨Ax.ren f c,by rw [Yb,c1]; rfl,c2.ren hf (XO hp c1)⟩,by rw [Yb,d]; rfl,fun i s hs=>by rw [Yb,e i s hs]; rfl⟩
theorem qK.evoG {C C':Ctx} {Z Z':Nat→Prop} {w w':World} {k:Nat} {b:Blk} (h:qK C Z w k b) (he:EvoG C C' Z Z' w w') (hk:C'.β k=C.β k) (hh:∀ blk o,C.β k=.loc blk o→w'.heap[blk]?=w.heap[blk]?):qK C' Z' w' k b:=by
 intro hl
 obtain ⟨q1,q2⟩:=h hl
 refine ⟨q1,?_⟩
 rw [hk]
 cases hs:C.β k with
 | absent=>simp [hs] at q2
 | unborn=>simp only [hs] at q2 ⊢; exact q2
 | loc blk o =>
  simp only [hs] at q2 ⊢
  exact q2.next (hh blk o hs) (fun c v h=>h.mono ⟨he.zsub,he.same,fun k blk o arr e h=>by simp [C0] at h⟩) (fun _ c v _ h=>h.evoG he)
section
variable {P:Program} {Z0 M Z Z1:Nat→Prop} {w0 w w1:World} {C C1:Ctx} {blks bs bs2:List Blk} {ρ:List Nat}
/-- The memory that is lent. -/
theorem Mem.lend (hm:Mem Z0 M w0 C Z blks w) (hn:Yp ρ=true) (h:Ax.lend (fun j=>ρ.idxOf j) (fun j=>ρ.contains j) blks ρ=some bs) :
 Mem Z (Own (subC C ρ)) w (subC C ρ) Z bs w∧(∀ j ∈ ρ,j<blks.length)∧∀ j,ρ.contains j=true→(subC C ρ).β (ρ.idxOf j)=C.β j∧(subC C ρ).γ (ρ.idxOf j)=C.γ j:=by
 obtain ⟨hlen,hget⟩:=lend_get h
 have hcon:∀ j,ρ.contains j=true→(subC C ρ).β (ρ.idxOf j)=C.β j∧(subC C ρ).γ (ρ.idxOf j)=C.γ j:=by
  intro j hj
  have hm:j ∈ ρ:=by simpa using hj
  have hlt:ρ.idxOf j<ρ.length:=List.idxOf_lt_length_iff.2 hm
  have hg:ρ[ρ.idxOf j]?=some j:=by rw [List.getElem?_eq_getElem hlt,List.getElem_idxOf hlt]
  simp only [subC,hg,and_self]
 have hρ:∀ j ∈ ρ,j<blks.length:=by
  intro j hj
  obtain ⟨k,hk⟩:=List.getElem?_of_mem hj
  have hkl:k<bs.length:=by rw [hlen]; exact (List.getElem?_eq_some_iff.1 hk).1
  obtain ⟨j',b,e1,e2,-⟩:=hget k bs[k] (List.getElem?_eq_getElem hkl)
  rw [hk] at e1; cases e1
  exact (List.getElem?_eq_some_iff.1 e2).1
 have hβ:∀ {k b o},(subC C ρ).β k=.loc b o→∃ j,ρ[k]?=some j∧C.β j=.loc b o:=by
  intro k b o h
  simp only [subC] at h
  cases hk:ρ[k]? with
  | none=>simp [hk] at h
  | some j=>simp only [hk] at h; exact ⟨j,rfl,h⟩
 have renB_eq:∀ (f:Nat→Nat) (b:Blk),(renB f b).gen=b.gen∧(renB f b).live=b.live:=by
  intro f b; unfold renB; cases b.flat <;> exact ⟨rfl,rfl⟩
 refine ⟨⟨fun k b' hb=>?_,fun k b' hb=>?_,fun k b' hb hd=>?_,fun k hk=>?_,fun k k' b o o' h1 h2=>?_,fun k b o h1=>?_,hm.zlt,fun _ h=>h,fun _ h=>.inl h,Fr.refl _ _⟩,hρ,hcon⟩
 · obtain ⟨j,b,e1,e2,rfl,e4⟩:=hget k b' hb
   exact (hm.blk j b e2).ren hcon (by simp only [subC,e1]) e4
 · obtain ⟨j,b,e1,e2,rfl,e4⟩:=hget k b' hb
   rw [(renB_eq _ b).1,← hm.gen j b e2]; simp only [subC,e1]
 · obtain ⟨j,b,e1,e2,rfl,e4⟩:=hget k b' hb
   rw [(renB_eq _ b).2] at hd
   have:=hm.dd j b e2 hd
   simp only [subC,e1]; exact this
 · have:ρ[k]?=none:=List.getElem?_eq_none (by omega)
   simp only [subC,this,and_self]
 · obtain ⟨j,e1,e2⟩:=hβ h1
   obtain ⟨j',e3,e4⟩:=hβ h2
   have:=hm.inj j j' b o o' e2 e4
   subst this
   exact qi hn e1 e3
 · obtain ⟨j,e1,e2⟩:=hβ h1
   obtain ⟨a,b',c⟩:=hm.own j b o e2
   exact ⟨a,b',.inl ⟨k,o,h1⟩⟩
/-- The memory behind the call. -/
theorem Mem.given (hm:Mem Z0 M w0 C Z blks w) (hn:Yp ρ=true) (hρ:∀ j ∈ ρ,j<blks.length) (hl:ρ.length≤bs2.length) (hb:Base (subC C ρ) w C1 w1) (h1:Mem Z (Own (subC C ρ)) w C1 Z1 bs2 w1) :
 Mem Z0 M w0 (XY C C1 blks.length ρ) Z1 (Xf blks ρ (bs2.map (renB (outN blks.length ρ)))++(bs2.drop ρ.length).map (renB (outN blks.length ρ))) w1 ∧
 EvoG C (XY C C1 blks.length ρ) Z Z1 w w1∧∀ k,(XY C C1 blks.length ρ).β (outN blks.length ρ k)=C1.β k∧(XY C C1 blks.length ρ).γ (outN blks.length ρ k)=C1.γ k:=by
 have hout:∀ k,(XY C C1 blks.length ρ).β (outN blks.length ρ k)=C1.β k∧(XY C C1 blks.length ρ).γ (outN blks.length ρ k)=C1.γ k:=by
  intro k; simp only [XY,inN_out hn hρ,and_self]
 have hout':∀ k,(fun _:Nat=>true) k=true→(XY C C1 blks.length ρ).β (outN blks.length ρ k)=C1.β k∧(XY C C1 blks.length ρ).γ (outN blks.length ρ k)=C1.γ k:=fun k _=>hout k
 have hβ:∀ {k b o},(subC C ρ).β k=.loc b o→∃ j,ρ[k]?=some j∧C.β j=.loc b o:=by
  intro k b o h
  simp only [subC] at h
  cases hk:ρ[k]? with
  | none=>simp [hk] at h
  | some j=>simp only [hk] at h; exact ⟨j,rfl,h⟩
 have hOwn:∀ b,Own (subC C ρ) b→∃ j o,j ∈ ρ∧C.β j=.loc b o:=fun b ⟨k,o,h⟩=>by
  obtain ⟨j,e1,e2⟩:=hβ h
  exact ⟨j,o,List.mem_of_getElem? e1,e2⟩
 have hfs:=h1.frame.size
 have hs0:=hm.frame.size
 -- an old block that is not lent
 have hfree:∀ j b o,j ∉ ρ→C.β j=.loc b o→¬ Own (subC C ρ) b:=fun j b o hj h ho=>by
  obtain ⟨j',o',e1,e2⟩:=hOwn b ho
  exact hj (hm.inj j j' b o o' h e2 ▸ e1)
 have hnone:∀ j,inN blks.length ρ j=none→j<blks.length∧j ∉ ρ:=by
  intro j h
  unfold inN at h
  split at h
  · split at h
    · cases h
    · exact ⟨‹_›,‹_›⟩
  · cases h
 have hle:CtxLe C (XY C C1 blks.length ρ):=by
  refine ⟨fun j=>?_,fun j hp hg=>?_⟩
  · simp only [XY]
    cases hi:inN blks.length ρ j with
    | none=>exact Nat.le_refl _
    | some k =>
     obtain ⟨a,b,c⟩:=qg hi
     by_cases hj:j<blks.length
     · have:=hb.le.gen k
       simp only [subC,b hj] at this
       exact this
     · rw [(hm.dom j (by omega)).2]; exact Nat.zero_le _
  · simp only [XY] at hg ⊢
    cases hi:inN blks.length ρ j with
    | none=>rfl
    | some k =>
     rw [hi] at hg
     simp only at hg ⊢
     obtain ⟨a,b,c⟩:=qg hi
     by_cases hj:j<blks.length
     · have:=hb.le.pos k
       simp only [subC,b hj] at this
       exact this hp hg
     · exact absurd (hm.dom j (by omega)).1 hp
 have hevo:EvoG C (XY C C1 blks.length ρ) Z Z1 w w1:=by
  refine ⟨fun b hz=>h1.z0 b hz,fun b hz=>h1.frame.same b (hm.zlt b hz) fun ho=>?_,hle,fun j blk o arr e hj hg hw=>?_⟩
  · obtain ⟨j,o,-,e2⟩:=hOwn b ho
    exact (hm.own j b o e2).2.1 hz
  · simp only [XY] at hg
    cases hi:inN blks.length ρ j with
    | none =>
     exact ⟨arr,by rw [h1.frame.same blk (hm.own j blk o hj).1 (hfree j blk o (hnone j hi).2 hj)]; exact hw,rfl⟩
    | some k =>
     rw [hi] at hg
     simp only at hg
     obtain ⟨a,b,c⟩:=qg hi
     by_cases hjl:j<blks.length
     · have h2:=hb.rows k blk o arr e
       simp only [subC,b hjl] at h2
       exact h2 hj hg hw
     · have:=(hm.dom j (by omega)).1
       rw [this] at hj; cases hj
 have hget:∀ (j:Nat) (b:Blk),(Xf blks ρ (bs2.map (renB (outN blks.length ρ)))++(bs2.drop ρ.length).map (renB (outN blks.length ρ)))[j]?=some b →
  (∃ k b0,inN blks.length ρ j=some k∧bs2[k]?=some b0∧b=renB (outN blks.length ρ) b0) ∨ (inN blks.length ρ j=none∧blks[j]?=some b):=by
  intro j b h
  by_cases hj:j<blks.length
  · rw [List.getElem?_append_left (by rw [Xs]; exact hj)] at h
    by_cases hm':j ∈ ρ
    · have hlt:ρ.idxOf j<ρ.length:=List.idxOf_lt_length_iff.2 hm'
      have hg:ρ[ρ.idxOf j]?=some j:=by rw [List.getElem?_eq_getElem hlt,List.getElem_idxOf hlt]
      have hb2:bs2[ρ.idxOf j]?=some bs2[ρ.idxOf j]:=List.getElem?_eq_getElem (by omega)
      rw [qs (b:=renB (outN blks.length ρ) bs2[ρ.idxOf j]) hn hg (by rw [List.getElem?_map,hb2]; rfl) hj] at h
      simp only [Option.some.injEq] at h
      exact .inl ⟨ρ.idxOf j,_,by simp only [inN,if_pos hj,if_pos hm'],hb2,h.symm⟩
    · rw [YR hm'] at h
      exact .inr ⟨by simp only [inN,if_pos hj,if_neg hm'],h⟩
  · rw [List.getElem?_append_right (by rw [Xs]; omega),Xs,List.getElem?_map,List.getElem?_drop,Option.map_eq_some_iff] at h
    obtain ⟨b0,h2,h3⟩:=h
    exact .inl ⟨j - blks.length+ρ.length,b0,by simp only [inN,if_neg hj],by rw [← h2]; congr 1; omega,h3.symm⟩
 have renB_eq:∀ (f:Nat→Nat) (b:Blk),(renB f b).gen=b.gen∧(renB f b).live=b.live:=by
  intro f b; unfold renB; cases b.flat <;> exact ⟨rfl,rfl⟩
 refine ⟨⟨fun j b hj=>?_,fun j b hj=>?_,fun j b hj hd=>?_,fun j hj=>?_,fun j j' b o o' e1 e2=>?_,fun j b o e1=>?_,h1.zlt,fun b hz=>h1.z0 b (hm.z0 b hz),fun b hz=>?_,?_⟩,hevo,hout⟩
 · rcases hget j b hj with ⟨k,b0,q1,q2,rfl⟩ | ⟨q1,q2⟩
   · exact (h1.blk k b0 q2).ren hout' (by simp only [XY,q1]) (.inr (refsIns_all _))
   · refine (hm.blk j b q2).evoG hevo (by simp only [XY,q1]) fun blk o hbl=>?_
     exact h1.frame.same blk (hm.own j blk o hbl).1 (hfree j blk o (hnone j q1).2 hbl)
 · rcases hget j b hj with ⟨k,b0,q1,q2,rfl⟩ | ⟨q1,q2⟩
   · rw [(renB_eq _ b0).1,← h1.gen k b0 q2]; simp only [XY,q1]
   · rw [← hm.gen j b q2]; simp only [XY,q1]
 · rcases hget j b hj with ⟨k,b0,q1,q2,rfl⟩ | ⟨q1,q2⟩
   · rw [(renB_eq _ b0).2] at hd
     have:=h1.dd k b0 q2 hd
     simp only [XY,q1]; exact this
   · have:=hm.dd j b q2 hd
     simp only [XY,q1]; exact this
 · simp only [List.length_append,Xs,List.length_map,List.length_drop] at hj
   have e:inN blks.length ρ j=some (j - blks.length+ρ.length):=by simp only [inN,if_neg (show ¬ j<blks.length by omega)]
   simp only [XY,e]
   exact h1.dom _ (by omega)
 · simp only [XY] at e1 e2
   have mix:∀ {i k c o1 i' o2},inN blks.length ρ i=some k→C1.β k=.loc c o1→inN blks.length ρ i'=none→C.β i'=.loc c o2→False:=by
    intro i k c o1 i' o2 q1 q2 q3 q4
    rcases (h1.own k c o1 q2).2.2 with h | h
    · exact hfree i' c o2 (hnone i' q3).2 q4 h
    · have:=(hm.own i' c o2 q4).1; omega
   cases hi:inN blks.length ρ j with
   | none =>
    cases hi':inN blks.length ρ j' with
    | none=>rw [hi] at e1; rw [hi'] at e2; exact hm.inj j j' b o o' e1 e2
    | some k'=>rw [hi] at e1; rw [hi'] at e2; exact (mix hi' e2 hi e1).elim
   | some k =>
    cases hi':inN blks.length ρ j' with
    | none=>rw [hi] at e1; rw [hi'] at e2; exact (mix hi e1 hi' e2).elim
    | some k' =>
     rw [hi] at e1; rw [hi'] at e2
     have:=h1.inj k k' b o o' e1 e2
     subst this
     rw [← (qg hi).1,← (qg hi').1]
 · simp only [XY] at e1
   cases hi:inN blks.length ρ j with
   | none =>
    rw [hi] at e1
    obtain ⟨a,b',c⟩:=hm.own j b o e1
    refine ⟨by omega,fun hz=>?_,c⟩
    rcases h1.zsub b hz with h | h | h
    · exact b' h
    · exact hfree j b o (hnone j hi).2 e1 h
    · omega
   | some k =>
    rw [hi] at e1
    obtain ⟨a,b',c⟩:=h1.own k b o e1
    refine ⟨a,b',?_⟩
    rcases c with c | c
    · obtain ⟨j',o',-,e2⟩:=hOwn b c
      exact (hm.own j' b o' e2).2.2
    · exact .inr (by omega)
 · rcases h1.zsub b hz with h | h | h
   · exact hm.zsub b h
   · obtain ⟨j',o',-,e2⟩:=hOwn b h
     exact .inr (hm.own j' b o' e2).2.2
   · exact .inr (.inr (by omega))
 · refine hm.frame.trans h1.frame fun b hb hnM ho=>?_
   obtain ⟨j',o',-,e2⟩:=hOwn b ho
   rcases (hm.own j' b o' e2).2.2 with h | h
   · exact hnM h
   · omega
variable {E:Env} {K K':List Item} {st st':St}
/-- One operation: as 'opA',or a call that turns blocks. -/
def opL (P:Program) (ops:Array Oper) (i:Nat) (o:Oper) (st:St) (evs:List EV):Option (St × List EV × List Prop) :=
 match evs with
 | .lent ρ res bs2 :: evs =>
  (match o.op,Yy ops st.tmps o with
  | .call ⟨.value fop,args,_⟩,some true =>
   (match lentA P (YD st.tmps fop) (args.toList.map (YD st.tmps)) st.blks ρ res bs2 with
   | none=>none
   | some (v,blks,obs)=>(match conc (putA st.tmps o.dst v) (isGuard ops i) o.dst evs with
    | none=>none
    | some (tmps,evs,obs2)=>some (⟨tmps,blks⟩,evs,obs++obs2)))
  | _,_=>opA P ops i o st (.lent ρ res bs2 :: evs))
 | evs=>opA P ops i o st evs
theorem opL_step {ops:Array Oper} {i:Nat} {o:Oper} {rest:List Nat} {k:List Item} {evs evs':List EV} {obs:List Prop} (ho:ops[i]?=some o) {HK:Prop} (hk:HK)
 (h:opL P ops i o st evs=some (st',evs',obs)) (hob:AllP obs) (hg:G P E (.inRegion ops rest :: k) st'):G P E (.inRegion ops (i :: rest) :: k) st:=by
 unfold opL at h
 split at h
 · rename_i ρ res bs2 evs0
   split at h
   · rename_i fop args ats hop hw
     split at h
     · cases h
     · rename_i v blks obs1 hl
       split at h
       · cases h
       · rename_i tmps evs2 obs2 hc
         simp only [Option.some.injEq,Prod.mk.injEq] at h
         obtain ⟨rfl,-,rfl⟩:=h
         obtain ⟨ob1,ob2⟩:=Qm.1 hob
         unfold lentA at hl
         cases hcd:(Yp ρ && Nat.ble ρ.length bs2.length && Ya (fun j=>ρ.contains j) (YD st.tmps fop) && refsIns (fun j=>ρ.contains j) (args.toList.map (YD st.tmps))) with
         | false=>rw [hcd] at hl; simp only [cond_false] at hl; cases hl
         | true =>
          rw [hcd] at hl
          simp only [cond_true] at hl
          simp only [Bool.and_eq_true] at hcd
          obtain ⟨⟨⟨hn,hle⟩,hrf⟩,hra⟩:=hcd
          have hle:=Nat.le_of_ble_eq_true hle
          split at hl
          · rename_i bs hlend
            simp only [Option.some.injEq,Prod.mk.injEq] at hl
            obtain ⟨rfl,rfl,rfl⟩:=hl
            intro C Z a w hr
            have hwc:=XK hr.tmp hw
            have hgo:=stepGR_op (P:=P) (b:=E.b) (k:=k) (cs:=E.cs) (w:=w) (rest:=rest) ho hwc
            rw [Oper.semAt_eq _ _ _ (by intro c hc; rw [hop] at hc; cases hc)] at hgo
            have hfin:∀ v,(E.b.atR a (.inRegion ops (i :: rest) :: k)).finish v=E.b.atR (a.put o.dst v) (.inRegion ops rest :: k):=by
             intro v; rw [Frame.finish_atR,ho]; rfl
            obtain ⟨hm1,hρ,hcon⟩:=hr.mem.lend hn hlend
            have hfv:=(XD hr.tmp fop).ren hcon hrf
            have hargs:VRs Z w (subC C ρ) (rens (fun j=>ρ.idxOf j) (args.toList.map (YD st.tmps))) (args.map a.eval).toList:=by
             refine ⟨by simp [Xn],fun j c v p q=>?_⟩
             rw [Yb,Option.map_eq_some_iff] at p
             obtain ⟨c0,p,rfl⟩:=p
             have hin:=XO hra p
             simp only [List.getElem?_map,Option.map_eq_some_iff] at p
             obtain ⟨y,p1,p2⟩:=p
             simp only [Array.toList_map,List.getElem?_map,p1,Option.map_some,Option.some.injEq] at q
             rw [← q]
             exact (p2 ▸ XD hr.tmp y).ren hcon hin
            obtain ⟨d,f,args',r1,r2,r3⟩:=ob1.1 Z w (subC C ρ) (a.eval fop) (args.map a.eval) hm1 hfv hargs
            obtain ⟨e,w1,fr,⟨v,C1,Z1,rfl,hb,hm2,hv⟩,hsteps,-,hleave⟩:=r3 (E.b.atR a (.inRegion ops (i :: rest) :: k) :: E.cs)
            have hexec:(execOp a.eval o).run P w=.ok (.enter f args') w:=by
             obtain ⟨dst,op,ty,pos,after,guard⟩:=o
             simp only at hop
             subst hop
             simp only [execOp,resolve,Sem.run_bind,r1,Result.andThen_ok,r2]
            have henter:step P (lone (E.b.atR a (.inRegion ops (i :: rest) :: k)) E.cs w) =
             .next (lone (Frame.enter P f args' .normal) (E.b.atR a (.inRegion ops (i :: rest) :: k) :: E.cs) w) :=
             step_lone_go (by rw [hgo]; simp [stepG.apply,hexec,Frame.atR])
            obtain ⟨hm3,hevo,hout⟩:=hr.mem.given hn hρ hle hb hm2
            refine .step (Steps.head henter (hsteps.trans (.one ?_))) (hg _ Z1 (a.put o.dst v) w1 ⟨yN ((hr.tmp.evoG hevo).put (hv.ren (p:=fun _=>true) (fun k _=>hout k) (yp _)) o.dst) hc ob2,hm3,?_,hr.gh.evoG hevo,hr.base.nextG hevo⟩)
            · rw [← hfin]; exact step_leave_returned hleave
            · have:(a.put o.dst v).defers=a.defers:=by cases o.dst <;> rfl
              rw [this]; exact hr.marks.evoG hevo
          · cases hl
   · exact op_step ho hk h hob hg
 · exact op_step ho hk h hob hg
end
end Ax
namespace Ax
open Go
def killB (b:Blk):Blk:=⟨false,b.gen+1,b.sz,true,[],false⟩
def layCell (st:St) (j c:Nat):Option (St × List Prop) :=
 match st.blks[j]? with
 | some bj=>(match bj.live && bj.sz != 0,bj.cells[c]? with
  | true,some (.sl k g off len _)=>(match st.blks[k]? with
   | some bk=>(match bk.live && bk.flat && bk.sz != 0,k == j with
    | true,false=>some (⟨st.tmps,(st.blks.set k (killB bk)).set j { bj with cells:=bj.cells.set c (.rsl bk.cells off len),flat:=noRefs (bj.cells.set c (.rsl bk.cells off len)) }⟩,[g=bk.gen])
    | _,_=>none)
   | none=>none)
  | true,some .nilSl=>some (⟨st.tmps,st.blks.set j { bj with cells:=bj.cells.set c (.rsl [] 0 0),flat:=noRefs (bj.cells.set c (.rsl [] 0 0)) }⟩,[])
  | _,_=>none)
 | none=>none
section
variable {P:Program} {E:Env} {K:List Item} {st st':St} {Z0 M Z:Nat→Prop} {w0 w:World} {C:Ctx} {blks:List Blk}
theorem Ctx.put_id {k:Nat}:C.put k (C.β k) (C.γ k)=C:=by
 cases C with
 | mk β γ =>
  simp only [Ctx.put,Ctx.mk.injEq]
  constructor <;> (funext j; by_cases e:j=k <;> simp [e])
/-- One cell turned to another view of the value that lies there. -/
theorem Mem.recell (hm:Mem Z0 M w0 C Z blks w) {j c:Nat} {bj:Blk} {v v':AV} (hb:blks[j]?=some bj) (hl:bj.live=true) (hz:bj.sz ≠ 0) (hc:bj.cells[c]?=some v) (hk:Xc v'=true)
 (h:∀ blk o arr te,C.β j=.loc blk o→w.heap[blk]?=some (.cells arr te (0,0))→∃ y,arr[o+c]?=some y∧VR Z w C v' y):Mem Z0 M w0 C Z (blks.set j { bj with cells:=bj.cells.set c v',flat:=noRefs (bj.cells.set c v') }) w:=by
 obtain ⟨q1,q2⟩:=hm.blk j bj hb hl
 have hg:=hm.gen j bj hb
 have:=hm.change (b':={ bj with cells:=bj.cells.set c v',flat:=noRefs (bj.cells.set c v') }) (w':=w) (s:=C.β j) (g:=C.γ j) hb rfl rfl rfl (Nat.le_refl _) (fun _ _ _=>rfl)
  (fun blk o arr e _ h=>⟨arr,h,rfl⟩) (Nat.le_refl _) (fun _ _=>rfl) hl hg.symm (fun blk o h=>.inl ⟨o,h⟩) (fun hle hevo _=>by
    refine ⟨fun i x hi=>?_,?_⟩
    · rw [List.getElem?_set] at hi
      split at hi
      · split at hi
        · cases hi; exact hk
        · cases hi
      · exact q1 i x hi
    · rw [Ctx.put_id]
      cases hs:C.β j with
      | absent=>simp [hs] at q2
      | unborn=>simp only [hs] at q2; rw [q2] at hc; simp at hc
      | loc blk o =>
       simp only [hs] at q2 ⊢
       obtain ⟨arr,te,r1,r2,r3⟩:=q2.cells hz
       refine .inl ⟨hz,arr,te,r1,by simpa using r2,fun i x hi=>?_⟩
       have key:∃ y,arr[o+i]?=some y∧VR Z w C x y:=by
        rw [List.getElem?_set] at hi
        split at hi
        · rename_i eij
          subst eij
          split at hi
          · cases hi
            exact h blk o arr te hs r1
          · cases hi
        · obtain ⟨y,s1,s2⟩:=r3 i x hi
          refine ⟨y,s1,?_⟩
          cases hf:bj.flat with
          | true=>rw [hf] at s2; exact VR.of0 (by simpa using s2)
          | false=>rw [hf] at s2; simpa using s2
       obtain ⟨y,s1,s2⟩:=key
       refine ⟨y,s1,?_⟩
       cases hf:noRefs (bj.cells.set c v') with
       | true=>simp only [if_true]; exact s2.ctx (QW hf hi)
       | false=>simpa using s2)
 rw [Ctx.put_id] at this
 exact this.1
/-- A block whose cells hold no reference. -/
theorem Mem.flatten (hm:Mem Z0 M w0 C Z blks w) {j:Nat} {bj:Blk} (hb:blks[j]?=some bj) (hl:bj.live=true) (hz:bj.sz ≠ 0) (hn:noRefs bj.cells=true):Mem Z0 M w0 C Z (blks.set j { bj with flat:=true }) w:=by
 obtain ⟨q1,q2⟩:=hm.blk j bj hb hl
 have hg:=hm.gen j bj hb
 have:=hm.change (b':={ bj with flat:=true }) (w':=w) (s:=C.β j) (g:=C.γ j) hb rfl rfl rfl (Nat.le_refl _) (fun _ _ _=>rfl)
  (fun blk o arr e _ h=>⟨arr,h,rfl⟩) (Nat.le_refl _) (fun _ _=>rfl) hl hg.symm (fun blk o h=>.inl ⟨o,h⟩) (fun hle hevo _=>by
    refine ⟨q1,?_⟩
    rw [Ctx.put_id]
    cases hs:C.β j with
    | absent=>simp [hs] at q2
    | unborn=>simp only [hs] at q2 ⊢; exact q2
    | loc blk o =>
     simp only [hs] at q2 ⊢
     obtain ⟨arr,te,r1,r2,r3⟩:=q2.cells hz
     refine .inl ⟨hz,arr,te,r1,r2,fun i x hi=>?_⟩
     obtain ⟨y,s1,s2⟩:=r3 i x hi
     refine ⟨y,s1,?_⟩
     simp only [if_true]
     cases hf:bj.flat with
     | true=>rw [hf] at s2; simpa using s2
     | false=>rw [hf] at s2; exact VR.ctx (by simpa using s2) (QW hn hi))
 rw [Ctx.put_id] at this
 exact this.1
def flatA (st:St) (j:Nat):Option (St × Prop):=match st.blks[j]? with
 | some bj=>if bj.live && bj.sz != 0 then some (⟨st.tmps,st.blks.set j { bj with flat:=true }⟩,noRefs bj.cells=true) else none
 | none=>none
theorem flatA_step {j:Nat} {o:Prop} (h:flatA st j=some (st',o)) (ho:o) (hg:G P E K st'):G P E K st:=by
 intro C Z a w hr
 unfold flatA at h
 split at h
 · rename_i bj hbj
   split at h
   · rename_i hc
     simp only [Option.some.injEq,Prod.mk.injEq] at h
     obtain ⟨rfl,rfl⟩:=h
     simp only [Bool.and_eq_true,bne_iff_ne,ne_eq] at hc
     exact hg C Z a w ⟨hr.tmp,hr.mem.flatten hbj hc.1 hc.2 ho,hr.marks,hr.gh,hr.base⟩
   · cases h
 · cases h
theorem layCell_step {j c:Nat} {o1:List Prop} (h:layCell st j c=some (st',o1)) (ho:AllP o1) (hg:G P E K st'):G P E K st:=by
 intro C Z a w hr
 unfold layCell at h
 split at h
 · rename_i bj hbj
   split at h
   · rename_i k g off len sz hl hc
     simp only [Bool.and_eq_true,bne_iff_ne,ne_eq] at hl
     split at h
     · rename_i bk hbk
       split at h
       · rename_i hk1 hk3
         simp only [Option.some.injEq,Prod.mk.injEq] at h
         obtain ⟨rfl,rfl⟩:=h
         simp only [Bool.and_eq_true,bne_iff_ne,ne_eq] at hk1
         have hkj:k ≠ j:=by simpa using hk3
         have hgk:g=bk.gen:=ho.1
         obtain ⟨m1,le1,ev1⟩:=hr.mem.kill hbk
         have hj1:(st.blks.set k (killB bk))[j]?=some bj:=by rw [List.getElem?_set_ne hkj]; exact hbj
         have hC:(C.put k .absent (bk.gen+1)).β j=C.β j:=by simp [Ctx.put,Ne.symm hkj]
         have m2:=Mem.recell (v':=.rsl bk.cells off len) m1 hj1 hl.1 hl.2 hc rfl (fun blk o arr te hs hh=>by
          rw [hC] at hs
          obtain ⟨q1,q2⟩:=hr.mem.blk j bj hbj hl.1
          simp only [hs] at q2
          obtain ⟨arr',te',r1,r2,r3⟩:=q2.cells hl.2
          rw [hh] at r1; simp only [Option.some.injEq,Obj.cells.injEq] at r1; obtain ⟨rfl,rfl,-⟩:=r1
          obtain ⟨y,s1,s2⟩:=r3 c _ hc
          refine ⟨y,s1,?_⟩
          have s3:VR Z w C (.sl k g off len sz) y:=by
           cases hf:bj.flat with
           | true=>rw [hf] at s2; exact VR.of0 (by simpa using s2)
           | false=>rw [hf] at s2; simpa using s2
          exact VR.lay hr.mem hbk hk1.1.1 hk1.2 hk1.1.2 hgk s3)
         exact hg _ _ a w ⟨hr.tmp.next le1 ev1,m2,hr.marks.evo ev1,hr.gh.next le1 ev1,hr.base.next le1 ev1⟩
       · cases h
     · cases h
   · rename_i hl hc
     simp only [Option.some.injEq,Prod.mk.injEq] at h
     obtain ⟨rfl,rfl⟩:=h
     simp only [Bool.and_eq_true,bne_iff_ne,ne_eq] at hl
     have m2:=Mem.recell (v':=.rsl [] 0 0) hr.mem hbj hl.1 hl.2 hc rfl (fun blk o arr te hs hh=>by
      obtain ⟨q1,q2⟩:=hr.mem.blk j bj hbj hl.1
      simp only [hs] at q2
      obtain ⟨arr',te',r1,r2,r3⟩:=q2.cells hl.2
      rw [hh] at r1; simp only [Option.some.injEq,Obj.cells.injEq] at r1; obtain ⟨rfl,rfl,-⟩:=r1
      obtain ⟨y,s1,s2⟩:=r3 c _ hc
      refine ⟨y,s1,?_⟩
      have:y=.slice none 0 0:=by cases s2; rfl
      rw [this]; exact .rsl0)
     exact hg C Z a w ⟨hr.tmp,m2,hr.marks,hr.gh,hr.base⟩
   · cases h
 · cases h
/-- A value without its nil slices: they are seen as empty ones. -/
def dnl1:AV→AV
 | .nilSl=>.rsl [] 0 0
 | v=>v
theorem dnl1_ok {Z:Nat→Prop} {w:World} {C:Ctx} {v:AV} {c:Value} (h:VR Z w C v c):VR Z w C (dnl1 v) c:=by
 cases h <;> first | exact .rsl0 | (simp only [dnl1]; constructor <;> assumption)
/-- Told 'wt t': a value loses its nil slices; a pointer's block is laid down as it lies. -/
def wtA (st:St) (t:Nat):Option (St × List Prop):=match st.tmps[t]? with
 | some (.agg cs)=>some (⟨st.tmps.set t (.agg (cs.map dnl1)),st.blks⟩,[])
 | some (.ptr k g off)=>(match st.blks[k]? with
  | some bk=>(match bk.live && bk.flat && bk.sz != 0,g == bk.gen with
   | true,true=>some (⟨st.tmps.set t (.rptr bk.cells off),st.blks.set k (killB bk)⟩,[])
   | _,_=>none)
  | none=>none)
 | some (.sl k g off len _)=>(match st.blks[k]? with
  | some bk=>(match bk.live && bk.flat && bk.sz != 0 with
   | true=>some (⟨st.tmps.set t (.rsl bk.cells off len),st.blks.set k (killB bk)⟩,[g=bk.gen])
   | _=>none)
  | none=>none)
 | _=>none
theorem wtA_step {t:Nat} {o1:List Prop} (h:wtA st t=some (st',o1)) (ho:AllP o1) (hg:G P E K st'):G P E K st:=by
 intro C Z a w hr
 unfold wtA at h
 split at h
 · rename_i cs hc
   simp only [Option.some.injEq,Prod.mk.injEq] at h
   obtain ⟨rfl,rfl⟩:=h
   refine hg C Z a w ⟨⟨by rw [List.length_set]; exact hr.tmp.1,fun i c v hi hv=>?_⟩,hr.mem,hr.marks,hr.gh,hr.base⟩
   rw [List.getElem?_set] at hi
   split at hi
   · rename_i e
     subst e
     split at hi
     · cases hi
       have:=hr.tmp.2 t _ v hc hv
       cases this with
       | @agg _ _ arr hl hh =>
        refine .agg (by simpa using hl) fun i c v p q=>?_
        rw [List.getElem?_map] at p
        cases hci:cs[i]? with
        | none=>rw [hci] at p; simp at p
        | some y =>
         rw [hci] at p
         simp only [Option.map_some,Option.some.injEq] at p
         subst p
         exact dnl1_ok (hh i y v hci q)
     · cases hi
   · exact hr.tmp.2 i c v hi hv
 · rename_i k g off hc
   split at h
   · rename_i bk hbk
     split at h
     · rename_i hk1 hk2
       simp only [Option.some.injEq,Prod.mk.injEq] at h
       obtain ⟨rfl,rfl⟩:=h
       simp only [Bool.and_eq_true,bne_iff_ne,ne_eq] at hk1
       have hgk:g=bk.gen:=by simpa using hk2
       obtain ⟨m1,le1,ev1⟩:=hr.mem.kill hbk
       have ht:=hr.tmp.next le1 ev1
       refine hg _ _ a w ⟨⟨by rw [List.length_set]; exact ht.1,fun i c v hi hv=>?_⟩,m1,hr.marks.evo ev1,hr.gh.next le1 ev1,hr.base.next le1 ev1⟩
       rw [List.getElem?_set] at hi
       split at hi
       · rename_i e
         subst e
         split at hi
         · cases hi
           exact VR.layP hr.mem hbk hk1.1.1 hk1.2 hk1.1.2 hgk (hr.tmp.2 t _ v hc hv)
         · cases hi
       · exact ht.2 i c v hi hv
     · cases h
   · cases h
 · rename_i k g off len sz hc
   split at h
   · rename_i bk hbk
     split at h
     · rename_i hk1
       simp only [Option.some.injEq,Prod.mk.injEq] at h
       obtain ⟨rfl,rfl⟩:=h
       simp only [Bool.and_eq_true,bne_iff_ne,ne_eq] at hk1
       have hgk:g=bk.gen:=ho.1
       obtain ⟨m1,le1,ev1⟩:=hr.mem.kill hbk
       have ht:=hr.tmp.next le1 ev1
       refine hg _ _ a w ⟨⟨by rw [List.length_set]; exact ht.1,fun i c v hi hv=>?_⟩,m1,hr.marks.evo ev1,hr.gh.next le1 ev1,hr.base.next le1 ev1⟩
       rw [List.getElem?_set] at hi
       split at hi
       · rename_i e
         subst e
         split at hi
         · cases hi
           exact VR.lay hr.mem hbk hk1.1.1 hk1.2 hk1.1.2 hgk (hr.tmp.2 t _ v hc hv)
         · cases hi
       · exact ht.2 i c v hi hv
     · cases h
   · cases h
 · cases h
end
end Ax
namespace Ax
open Go
section
variable {P:Program} {E:Env} {K K':List Item} {st st':St}
def tick:List EV→List EV
 | .hold (j+1) :: evs=>.hold j :: evs
 | evs=>evs
/-- What comes next,in text order,up to where 'stop' is told: a loop's body,a range over a function,a return,a jump out of a round,or the end. -/
def walk (P:Program):Nat→List Item→St→List EV→Option (List Item × St × List EV × List Prop)
 | 0,K,st,evs=>some (K,st,evs,[])
 | n+1,K,st,evs =>
  match K with
  | .code .skip :: k=>walk P n k st evs
  | .inBlock _ :: k=>walk P n k st evs
  | .code (.seq x y) :: k=>walk P n (.code x :: .code y :: k) st evs
  | .code (.block id body) :: k=>walk P n (.code body :: .inBlock id :: k) st evs
  | .code (.cond c x y) :: k =>
   (match YD st.tmps c,evs with
   | .bool t,.b u :: evs=>(match walk P n (.code (bif u then x else y) :: k) st evs with
    | some (K',st',evs',obs)=>some (K',st',evs',(t=u) :: obs)
    | none=>none)
   | _,_=>none)
  | .code (.region _ ops false) :: k=>walk P n (.inRegion ops (List.range' 0 ops.size) :: k) st evs
  | .code (.region _ ops true) :: k =>
   (match drawA P ops st evs with
   | some (st1,evs1,o1)=>(match walk P n k st1 evs1 with
    | some (K',st',evs',obs)=>some (K',st',evs',o1++obs)
    | none=>none)
   | none=>none)
  | .inRegion ops [] :: k=>walk P n k st evs
  | .inRegion ops (i :: is) :: k =>
   (match evs with
   | .hold 0 :: evs=>some (.inRegion ops (i :: is) :: k,st,evs,[])
   | .frz j c :: evs=>(match layCell st j c with
    | some (st1,o1)=>(match walk P n (.inRegion ops (i :: is) :: k) st1 evs with
     | some (K',st',evs',obs)=>some (K',st',evs',o1++obs)
     | none=>none)
    | none=>none)
   | .flat j :: evs=>(match flatA st j with
    | some (st1,o1)=>(match walk P n (.inRegion ops (i :: is) :: k) st1 evs with
     | some (K',st',evs',obs)=>some (K',st',evs',o1 :: obs)
     | none=>none)
    | none=>none)
   | .wt t :: evs1=>(match wtA st t with
    | some (st1,o1)=>(match walk P n (.inRegion ops (i :: is) :: k) st1 evs1 with
     | some (K',st',evs',obs)=>some (K',st',evs',o1++obs)
     | none=>none)
    | none=>(match ops[i]? with
     | none=>none
     | some o=>(match opL P ops i o st (.wt t :: evs1) with
      | none=>none
      | some (st1,evs1,o1)=>(match walk P n (.inRegion ops is :: k) st1 evs1 with
       | some (K',st',evs',obs)=>some (K',st',evs',o1++obs)
       | none=>none))))
   | evs=>(match ops[i]? with
    | none=>none
    | some o=>(match opL P ops i o st (tick evs) with
     | none=>none
     | some (st1,evs1,o1)=>(match walk P n (.inRegion ops is :: k) st1 evs1 with
      | some (K',st',evs',obs)=>some (K',st',evs',o1++obs)
      | none=>none))))
  | .code (.exit id) :: k=>(match exitTo id k with
   | some k'=>walk P n k' st evs
   | none=>some (.code (.exit id) :: k,st,evs,[]))
  | .code (.loop body) :: k=>(match evs with
   | .stop :: evs=>some (.code body :: .inLoop body :: k,st,evs,[])
   | evs=>walk P n (.code body :: .inLoop body :: k) st evs)
  | .inLoop body :: k=>(match evs with
   | .stop :: evs=>some (.code body :: .inLoop body :: k,st,evs,[])
   | evs=>walk P n (.code body :: .inLoop body :: k) st evs)
  | K=>some (K,st,evs,[])
theorem QJ {HK:Prop} (hk:HK) (hmx:P.follows .mixedOrders=true):∀ {n:Nat} {K K':List Item} {st st':St} {evs evs':List EV} {obs:List Prop},
 walk P n K st evs=some (K',st',evs',obs)→AllP obs→G P E K' st'→G P E K st
 | 0,K,K',st,st',evs,evs',obs,h,ho,hg=>by
  simp only [walk,Option.some.injEq,Prod.mk.injEq] at h
  obtain ⟨rfl,rfl,-,-⟩:=h
  exact hg
 | n+1,K,K',st,st',evs,evs',obs,h,ho,hg=>by
  unfold walk at h
  split at h
  · exact .of_step (fun a w=>stepR_skip) (QJ hk hmx h ho hg)
  · exact .of_step (fun a w=>stepR_inBlock) (QJ hk hmx h ho hg)
  · exact .of_step (fun a w=>stepR_seq) (QJ hk hmx h ho hg)
  · exact .of_step (fun a w=>stepR_block) (QJ hk hmx h ho hg)
  · rename_i c x y k
    split at h
    · rename_i t u evs1 hc
      split at h
      · rename_i K1 st1 evs2 obs1 h1
        simp only [Option.some.injEq,Prod.mk.injEq] at h
        obtain ⟨rfl,rfl,rfl,rfl⟩:=h
        obtain ⟨rfl,ho⟩:=ho
        have h2:=QJ hk hmx h1 ho hg
        intro C Z a w hr
        have hv:=XD hr.tmp c
        rw [hc] at hv
        generalize hcv:a.eval c=cv at hv
        cases hv
        refine .step (.one (stepR_cond hcv)) ?_
        have:=h2 C Z a w hr
        cases t <;> exact this
      · cases h
    · cases h
  · rename_i id ops k
    have:=QJ hk hmx h ho hg
    rw [← List.range_eq_range'] at this
    exact .of_step (fun a w=>stepR_region) this
  · rename_i id ops k
    split at h
    · rename_i st1 evs1 o1 h1
      split at h
      · rename_i K2 st2 evs2 obs2 h2
        simp only [Option.some.injEq,Prod.mk.injEq] at h
        obtain ⟨rfl,rfl,rfl,rfl⟩:=h
        obtain ⟨a1,a2⟩:=Qm.1 ho
        exact draw_step hk hmx h1 a1 (QJ hk hmx h2 a2 hg)
      · cases h
    · cases h
  · exact .of_step (fun a w=>stepR_region_end) (QJ hk hmx h ho hg)
  · rename_i ops i is k
    split at h
    · simp only [Option.some.injEq,Prod.mk.injEq] at h
      obtain ⟨rfl,rfl,-,-⟩:=h
      exact hg
    · split at h
      · rename_i st1 o1 h1
        split at h
        · rename_i K2 st2 evs2 obs2 h2
          simp only [Option.some.injEq,Prod.mk.injEq] at h
          obtain ⟨rfl,rfl,rfl,rfl⟩:=h
          obtain ⟨a1,a2⟩:=Qm.1 ho
          exact layCell_step h1 a1 (QJ hk hmx h2 a2 hg)
        · cases h
      · cases h
    · split at h
      · rename_i st1 o1 h1
        split at h
        · rename_i K2 st2 evs2 obs2 h2
          simp only [Option.some.injEq,Prod.mk.injEq] at h
          obtain ⟨rfl,rfl,rfl,rfl⟩:=h
          exact flatA_step h1 ho.1 (QJ hk hmx h2 ho.2 hg)
        · cases h
      · cases h
    · split at h
      · rename_i st1 o1 h1
        split at h
        · rename_i K2 st2 evs2 obs2 h2
          simp only [Option.some.injEq,Prod.mk.injEq] at h
          obtain ⟨rfl,rfl,rfl,rfl⟩:=h
          obtain ⟨a1,a2⟩:=Qm.1 ho
          exact wtA_step h1 a1 (QJ hk hmx h2 a2 hg)
        · cases h
      · split at h
        · cases h
        · rename_i o hoi
          split at h
          · cases h
          · rename_i st1 evs1 o1 h1
            split at h
            · rename_i K2 st2 evs2 obs2 h2
              simp only [Option.some.injEq,Prod.mk.injEq] at h
              obtain ⟨rfl,rfl,rfl,rfl⟩:=h
              obtain ⟨a1,a2⟩:=Qm.1 ho
              exact opL_step hoi hk h1 a1 (QJ hk hmx h2 a2 hg)
            · cases h
    · split at h
      · cases h
      · rename_i o hoi
        split at h
        · cases h
        · rename_i st1 evs1 o1 h1
          split at h
          · rename_i K2 st2 evs2 obs2 h2
            simp only [Option.some.injEq,Prod.mk.injEq] at h
            obtain ⟨rfl,rfl,rfl,rfl⟩:=h
            obtain ⟨a1,a2⟩:=Qm.1 ho
            exact opL_step hoi hk h1 a1 (QJ hk hmx h2 a2 hg)
          · cases h
  · rename_i id k
    split at h
    · rename_i k' hx
      exact .of_step (fun a w=>stepR_exit hx) (QJ hk hmx h ho hg)
    · simp only [Option.some.injEq,Prod.mk.injEq] at h
      obtain ⟨rfl,rfl,-,-⟩:=h
      exact hg
  · split at h
    · simp only [Option.some.injEq,Prod.mk.injEq] at h
      obtain ⟨rfl,rfl,-,-⟩:=h
      exact .of_step (fun a w=>stepR_loop) hg
    · exact .of_step (fun a w=>stepR_loop) (QJ hk hmx h ho hg)
  · split at h
    · simp only [Option.some.injEq,Prod.mk.injEq] at h
      obtain ⟨rfl,rfl,-,-⟩:=h
      exact .of_step (fun a w=>stepR_inLoop) hg
    · exact .of_step (fun a w=>stepR_inLoop) (QJ hk hmx h ho hg)
  · simp only [Option.some.injEq,Prod.mk.injEq] at h
    obtain ⟨rfl,rfl,-,-⟩:=h
    exact hg
/-- A function that only reads, called by its value. -/
theorem Ql {f : FuncId} {fn : Func} {c : Code} {first args cap : List AV} {res : AV} (hf : P.funcs[f]? = some fn) (hname : (fn.name == "runtime.NumGoroutine") = false) (hb : fn.body = some c)
    (h : Pure P f (first ++ args ++ cap) res) : Qg P (.clos f first cap) args res := by
  intro Z w cf cargs hz hcf ha
  cases hcf with
  | @clos _ _ _ _ fa ca hl h1 hl' h2 =>
    refine ⟨{ target := .fn (.func f) ca, args := fa ++ cargs }, f, fa ++ cargs ++ ca, rfl, ?_, ?_⟩
    · have := Go.Proofs.enters_of (P := P) hf hname hb (fa ++ cargs ++ ca) w
      simpa [invoke] using this
    · refine h Z w _ hz ⟨by have := ha.1; simp at this; simp [hl, hl', this], fun i x y p q => ?_⟩
      have hal : args.length = cargs.size := by simpa using ha.1
      simp only [Array.toList_append] at q
      rw [List.append_assoc] at p q
      by_cases i1 : i < first.length
      · rw [List.getElem?_append_left i1] at p
        rw [List.getElem?_append_left (by simpa [← hl] using i1)] at q
        exact h1 i x y p (by simpa using q)
      · rw [List.getElem?_append_right (by omega)] at p
        rw [List.getElem?_append_right (by simp; omega)] at q
        have e1 : fa.toList.length = first.length := by simp [hl]
        rw [e1] at q
        by_cases i2 : i - first.length < args.length
        · rw [List.getElem?_append_left i2] at p
          rw [List.getElem?_append_left (by simpa [← hal] using i2)] at q
          exact ha.2 _ x y p q
        · rw [List.getElem?_append_right (by omega)] at p
          rw [List.getElem?_append_right (by simp; omega)] at q
          have e2 : cargs.toList.length = args.length := by simp [hal]
          rw [e2] at q
          exact h2 _ x y p (by simpa using q)

end
end Ax
namespace Ax
open Go
/-- The place in the code,by the tests' outcomes. -/
def kAt:Nat→List Item→List EV→List Item
 | 0,K,_=>K
 | n+1,K,evs =>
  match K with
  | .code .skip :: k=>kAt n k evs
  | .inBlock _ :: k=>kAt n k evs
  | .code (.seq x y) :: k=>kAt n (.code x :: .code y :: k) evs
  | .code (.block id body) :: k=>kAt n (.code body :: .inBlock id :: k) evs
  | .code (.cond _ x y) :: k=>(match evs with
   | .b u :: evs=>kAt n (.code (bif u then x else y) :: k) evs
   | _=>K)
  | .code (.region ..) :: k=>kAt n k evs
  | .inRegion .. :: k=>kAt n k evs
  | .code (.exit id) :: k=>(match exitTo id k with
   | some k'=>kAt n k' evs
   | none=>K)
  | .code (.loop body) :: k=>(match evs with
   | .stop :: _=>.code body :: .inLoop body :: k
   | evs=>kAt n (.code body :: .inLoop body :: k) evs)
  | .inLoop body :: k=>(match evs with
   | .stop :: _=>.code body :: .inLoop body :: k
   | evs=>kAt n (.code body :: .inLoop body :: k) evs)
  | K=>K
def Qe (P:Program) (f:FuncId):Code:=((P.funcs[f]?).bind (·.body)).getD .skip
section
variable {P:Program} {E:Env} {K K':List Item} {st st':St}
def isEnd:List Item→Bool
 | []=>true
 | .code .ret :: _=>true
 | _=>false
theorem yA {K:List Item} (h:isEnd K=true):K=[] ∨ ∃ k,K=.code .ret :: k:=by
 unfold isEnd at h
 split at h
 · exact .inl rfl
 · exact .inr ⟨_,rfl⟩
 · cases h
/-- To the end: the result,laid down. -/
def endA (P:Program) (fn:Func) (n:Nat) (K:List Item) (st:St) (evs:List EV):Option (AV × List Prop) :=
 match walk P n K st evs with
 | some (K',st',evs',o1) =>
  (match isEnd K',resA P st' fn.results.toList evs' with
  | true,some (vs,_,o2) =>
   (match (frz 8 (tupA vs)).run (st'.blks[·]?) with
   | some (r,o3)=>some (r,o1++(o2++o3))
   | none=>none)
  | _,_=>none)
 | none=>none
theorem end_step {n:Nat} {f:FuncId} {fn:Func} {evs:List EV} {r res:AV} {obs:List Prop} (hE:Qf P f res E) (hf:P.funcs[f]?=some fn) (hmx:P.follows .mixedOrders=true)
 (h:endA P fn n K st evs=some (r,obs)) (ho:AllP obs) (hr:r=res):G P E K st:=by
 subst hr
 unfold endA at h
 split at h
 · rename_i K' st' evs' o1 h1
   split at h
   · rename_i vs evs2 o2 hK h2
     split at h
     · rename_i r' o3 h3
       simp only [Option.some.injEq,Prod.mk.injEq] at h
       obtain ⟨rfl,rfl⟩:=h
       obtain ⟨a1,a2⟩:=Qm.1 ho
       obtain ⟨a2,a3⟩:=Qm.1 a2
       exact QJ hE.2.1 hmx h1 a1 (G_pure hE hf h2 a2 h3 a3 (yA hK))
     · cases h
   · cases h
 · cases h
end
end Ax
namespace Ax
open Go
section
variable {P:Program} {Z0 M Z F M':Nat→Prop} {w0 w w':World} {C C':Ctx} {blks blks':List Blk}
theorem Mem.back {Z':Nat→Prop} (hm:Mem Z0 M w0 C Z blks w) (h:Mem Z M' w C' Z' blks' w') (hM:∀ b,M' b→M b ∨ w0.heap.size≤b):Mem Z0 M w0 C' Z' blks' w':=by
 have hs:=hm.frame.size
 refine ⟨h.blk,h.gen,h.dd,h.dom,h.inj,fun k b o ho=>?_,h.zlt,fun b hz=>h.z0 b (hm.z0 b hz),fun b hz=>?_,?_⟩
 · obtain ⟨a,b',c⟩:=h.own k b o ho
   refine ⟨a,b',?_⟩
   rcases c with c | c
   · exact hM b c
   · exact .inr (by omega)
 · rcases h.zsub b hz with h1 | h1 | h1
   · exact hm.zsub b h1
   · exact .inr (hM b h1)
   · exact .inr (.inr (by omega))
 · exact hm.frame.trans h.frame fun b hb hnM hm'=>by
    rcases hM b hm' with h1 | h1
    · exact hnM h1
    · omega
/-! ### Whoever ranges: 'F' is what a round may turn,'Kp' what it must find again -/
abbrev Sd:=(Nat→Prop)→(Nat→Prop)→World→Prop
structure Stable (Y:Sd):Prop where
 lt:∀ F Kp w,Y F Kp w→∀ b,F b ∨ Kp b→b<w.heap.size
 mv:∀ F Kp w Mi w',Y F Kp w→Fr w Mi w'→(∀ b,Mi b→¬ F b∧¬ Kp b)→Y F Kp w'
def YCall (P:Program) (yv:Value) (cargs:Array Value) (w:World) (Q:Bool→World→Prop):Prop :=
 ∃ l fn tm asg bd,yv=.func (.yield l) #[] #[]∧(Instr.yield l cargs).run P w=.ok (.round l fn tm asg bd) w ∧
  ∀ (c:Frame) (cs:List Frame),∃ t w',Q t w'∧Steps P (lone (Frame.round l fn tm asg bd .normal) (c :: cs) w) (lone (c.finish (.bool t)) cs w')
def nxt (cont:Nat→Bool) (n:Nat):Option Nat:=bif cont n then some (n+1) else none
def Yields (P:Program) (yv:Value) (Y:Option Nat→Sd) (cont:Nat→Bool) (xs:List (List AV)):Prop :=
 ∀ i x,xs[i]?=some x→∀ F Kp w,Y (some i) F Kp w→∀ cargs:Array Value,VRs (fun _=>False) w C0 x cargs.toList →
  YCall P yv cargs w fun t w'=>t=cont i∧∃ F' Kp',Y (nxt cont i) F' Kp' w'∧Fr w F w'∧(∀ b,F' b→F b ∨ w.heap.size≤b)∧(∀ b,Kp' b→F b ∨ Kp b ∨ w.heap.size≤b)
def At (Y:Sd) (E:Env):Prop:=∃ F Kp,Y F Kp E.w0∧(∀ b,E.M b→¬ F b∧¬ Kp b)∧(∀ b,E.Z0 b→¬ F b)
/-- The iterator's own frame,'o' the side's state. -/
structure IterE (P:Program) (f:FuncId) (xs:List (List AV)) (yv:Value) (Y:Option Nat→Sd) (cont:Nat→Bool) (e o:Option Nat) (E:Env):Prop where
 ro:E.b.roundOf=none
 kind:E.b.kind=.normal
 fn:E.b.fn=f
 gA:E.gA=[]
 cb:E.Cb=C0
 df:E.df=[]
 stab:∀ o,Stable (Y o)
 ylds:Yields P yv Y cont xs
 at':At (Y o) E
 fin:E.Fin=Wh P f E.cs fun _ w'=>∃ F Kp,Y e F Kp w'
variable {E:Env} {K K':List Item} {st st':St}
end
end Ax
namespace Ax
open Go
structure RoundE (gA:List AV) (E:Env):Prop where
 ro:∃ l,E.b.roundOf=some l
 kind:E.b.kind=.normal
 gA:E.gA=gA
 cb:E.Cb=C0
 df:E.df=[]
section
variable {P:Program} {E:Env} {K K':List Item} {st st':St}
theorem VRs.app {Z:Nat→Prop} {w:World} {C:Ctx} {a b:List AV} {c d:List Value} (h:VRs Z w C a c) (h':VRs Z w C b d):VRs Z w C (a++b) (c++d):=by
 refine ⟨by simp [h.1,h'.1],fun i x y p q=>?_⟩
 by_cases hi:i<a.length
 · rw [List.getElem?_append_left hi] at p
   rw [List.getElem?_append_left (by rw [← h.1]; exact hi)] at q
   exact h.2 i x y p q
 · rw [List.getElem?_append_right (by omega)] at p
   rw [List.getElem?_append_right (by rw [← h.1]; omega),← h.1] at q
   exact h'.2 _ x y p q
theorem VRs.mono {Z Z':Nat→Prop} {w w':World} {C:Ctx} {a:List AV} {c:List Value} (h:VRs Z w C a c) (he:Evo C Z Z' w w'):VRs Z' w' C a c :=
 ⟨h.1,fun i x y p q=>(h.2 i x y p q).mono he⟩
theorem Fr.weaken {w0 w:World} {M M':Nat→Prop} (h:Fr w0 M w) (hM:∀ b,M b→M' b):Fr w0 M' w :=
 ⟨h.os,h.tape,h.output,h.size,fun b hb hn=>h.same b hb fun hm=>hn (hM b hm)⟩
end
end Ax
namespace Ax
open Go
section
variable {P:Program} {E:Env} {K K':List Item} {st st':St}
end
end Ax
namespace Ax
open Go
section
variable {P:Program} {E:Env} {K K':List Item} {st st':St}
def denil (st:St):List (Nat × Nat)→Option St
 | []=>some st
 | (t,sz) :: r=>match st.tmps[t]? with
  | some .nilSl=>denil ⟨st.tmps.set t (.sl st.blks.length 0 0 0 sz),st.blks++[⟨true,0,sz,true,[],true⟩]⟩ r
  | _=>none
theorem yM:∀ {ds:List (Nat × Nat)} {st st':St},denil st ds=some st'→G P E K st'→G P E K st
 | [],st,st',h,hg=>by simp only [denil,Option.some.injEq] at h; subst h; exact hg
 | (t,sz) :: r,st,st',h,hg=>by
  simp only [denil] at h
  split at h
  · rename_i ht
    have h1:=yM h hg
    intro C Z a w hr
    have hlt:t<a.tmps.size:=by
     have:=(List.getElem?_eq_some_iff.1 ht).1
     have h2:=hr.tmp.1
     simp at h2; omega
    have hv:=hr.tmp.2 t .nilSl a.tmps[t] ht (by simp [hlt])
    generalize hc:a.tmps[t]=c at hv
    cases hv
    obtain ⟨C',Z',hle,hevo,hm,hv'⟩:=YK (a:=none) (sz:=sz) (fl:=true) (idx:=st.blks.length) hr.mem.push (by simp)
    have e:(Eff.new ⟨true,0,sz,true,[],true⟩ (fun k=>AV.sl k 0 0 0 sz)).blks st.blks.length (st.blks++[dead])=st.blks++[⟨true,0,sz,true,[],true⟩]:=by simp [Eff.blks]
    rw [e] at hm
    have ht2:=hr.tmp.next hle hevo
    refine h1 C' Z' a w ⟨⟨by simpa using ht2.1,fun i x y p q=>?_⟩,hm,hr.marks.evo hevo,hr.gh.next hle hevo,hr.base.next hle hevo⟩
    rw [List.getElem?_set] at p
    split at p
    · rename_i e
      subst e
      split at p
      · cases p
        simp only [Array.getElem?_toList] at q
        rw [Array.getElem?_eq_getElem hlt,hc] at q
        cases q
        exact hv'
      · cases p
    · exact ht2.2 i x y p q
  · cases h
theorem Qf.nogh {f:FuncId} {res:AV} (hE:Qf P f res E) (m:Nat):refsBelows m E.gA=true:=by rw [hE.2.2.2.2.1]; rfl
theorem IterE.nogh {f:FuncId} {xs:List (List AV)} {yv:Value} {Y:Option Nat→Sd} {cont:Nat→Bool} {e o:Option Nat} (hE:IterE P f xs yv Y cont e o E) (m:Nat):refsBelows m E.gA=true:=by rw [hE.gA]; rfl
end
end Ax
namespace Ax
open Go
section
variable {P:Program} {E:Env} {K K':List Item} {st st':St}
end
end Ax
namespace Ax
open Go
section
variable {P:Program} {E:Env} {K K':List Item} {st st':St}
theorem Ctx.put_same (C:Ctx) (k:Nat):C.put k (C.β k) (C.γ k)=C:=by
 cases C with
 | mk β γ =>
  unfold Ctx.put
  congr 1 <;> funext j <;> by_cases e:j=k <;> simp [e]
theorem denilC_step {k j sz:Nat} {b:Blk} (hk:st.blks[k]?=some b) (hl:b.live=true) (hbz:b.sz ≠ 0) (hj:b.cells[j]?=some .nilSl)
 (hg:G P E K ⟨st.tmps,(st.blks++[(⟨true,0,sz,true,[],true⟩:Blk)]).set k { b with flat:=false,cells:=b.cells.set j (.sl st.blks.length 0 0 0 sz) }⟩):G P E K st:=by
 intro C Z a w hr
 obtain ⟨C',Z',hle,hevo,hm,hv'⟩:=YK (a:=none) (sz:=sz) (fl:=true) (idx:=st.blks.length) hr.mem.push (by simp)
 have e:(Eff.new ⟨true,0,sz,true,[],true⟩ (fun k=>AV.sl k 0 0 0 sz)).blks st.blks.length (st.blks++[dead])=st.blks++[⟨true,0,sz,true,[],true⟩]:=by simp [Eff.blks]
 rw [e] at hm
 have hkl:k<st.blks.length:=(List.getElem?_eq_some_iff.1 hk).1
 have hk':(st.blks++[(⟨true,0,sz,true,[],true⟩:Blk)])[k]?=some b:=by rw [List.getElem?_append_left hkl]; exact hk
 have hgen:=hm.gen k b hk'
 have hbk:=hm.blk k b hk' hl
 have hc:=hm.change (b':={ b with flat:=false,cells:=b.cells.set j (.sl st.blks.length 0 0 0 sz) }) (w':=w) (s:=C'.β k) (g:=C'.γ k) hk' rfl rfl rfl (Nat.le_refl _) (fun _ _ _=>rfl)
  (fun blk o arr e _ h=>⟨arr,h,rfl⟩) (Nat.le_refl _) (fun _ _=>rfl) hl hgen.symm (fun blk o h=>.inl ⟨o,h⟩) (fun hle' hevo' _=>by
    obtain ⟨q1,q2⟩:=hbk
    refine ⟨fun i c hi=>?_,?_⟩
    · rw [List.getElem?_set] at hi
      split at hi
      · split at hi
        · cases hi; rfl
        · cases hi
      · exact q1 i c hi
    · rw [Ctx.put_same]
      cases hs:C'.β k with
      | absent=>simp [hs] at q2
      | unborn=>simp only [hs] at q2; rw [q2] at hj; simp at hj
      | loc blk o =>
       simp only [hs] at q2 ⊢
       obtain ⟨arr,te,r1,r2,r3⟩:=q2.cells hbz
       refine .inl ⟨hbz,arr,te,r1,by simpa using r2,fun i c hi=>?_⟩
       simp only [Bool.false_eq_true,if_false]
       rw [List.getElem?_set] at hi
       split at hi
       · rename_i eij
         subst eij
         split at hi
         · cases hi
           obtain ⟨v,s1,s2⟩:=r3 j .nilSl hj
           refine ⟨v,s1,?_⟩
           have:v=.slice none 0 0:=by
            cases hf:b.flat with
            | true=>rw [hf] at s2; simp only [if_true] at s2; cases s2; rfl
            | false=>rw [hf] at s2; simp only [Bool.false_eq_true,if_false] at s2; cases s2; rfl
           rw [this]
           exact hv'.mono ⟨fun _ h=>h,fun _ _=>rfl,fun _ _ _ arr _ _ h=>⟨arr,h,rfl⟩⟩
         · cases hi
       · obtain ⟨v,s1,s2⟩:=r3 i c hi
         refine ⟨v,s1,?_⟩
         cases hf:b.flat with
         | true=>rw [hf] at s2; simp only [if_true] at s2; exact s2.of0
         | false=>rw [hf] at s2; simpa using s2)
 rw [Ctx.put_same] at hc
 exact hg C' Z' a w ⟨hr.tmp.next hle hevo,hc.1,hr.marks.evo hevo,hr.gh.next hle hevo,hr.base.next hle hevo⟩
end
end Ax
namespace Ax
open Go
theorem bnT {e:Bool} (h:(!e)=true):e=false:=by cases e <;> simp_all
theorem bnF {e:Bool} (h:(!e)=false):e=true:=by cases e <;> simp_all
theorem bneT {a b:Int} (h:(a != b)=true):¬ (a=b):=by simpa using h
theorem bneF {a b:Int} (h:(a != b)=false):a=b:=by simpa using h
def cI (n:Int):List AV:=[.int .i64 n]
def rowI (l:List Int):List AV:=l.flatMap cI
section
variable {α:Type} (f:α→List AV) {s:Nat}
theorem XL (hf:∀ a,(f a).length=s):∀ l:List α,(l.flatMap f).length=l.length*s
 | []=>by simp
 | a :: l=>by rw [List.flatMap_cons,List.length_append,XL hf l,hf,List.length_cons,Nat.add_mul]; omega
theorem yZ (hf:∀ a,(f a).length=s):∀ {l:List α} {i:Nat} {a:α} {k:Nat},l[i]?=some a→k≤s →
 (l.flatMap f).drop (0+i*s+k)=(f a).drop k++(l.drop (i+1)).flatMap f
 | [],i,a,k,h,_=>by simp at h
 | b :: l,0,a,k,h,hk=>by
  simp only [List.getElem?_cons_zero,Option.some.injEq] at h
  subst h
  rw [List.flatMap_cons,List.drop_append_of_le_length (by rw [hf]; omega)]
  simp
 | b :: l,i+1,a,k,h,hk=>by
  simp only [List.getElem?_cons_succ] at h
  rw [List.flatMap_cons,show 0+(i+1)*s+k=(f b).length+(0+i*s+k) by rw [hf b,Nat.add_mul]; omega,List.drop_length_add_append]
  exact yZ hf h hk
theorem row_part (hf:∀ a,(f a).length=s) {k m:Nat} (hk:k+m≤s) {l:List α} {i:Nat} {a:α} (h:l[i]?=some a) :
 ((l.flatMap f).drop (0+i*s+k)).take m=((f a).drop k).take m:=by
 rw [yZ f hf h (by omega),List.take_append_of_le_length (by rw [List.length_drop,hf]; omega)]
theorem row_fits (hf:∀ a,(f a).length=s) {k m:Nat} (hk:k+m≤s) {l:List α} {i:Nat} {a:α} (h:l[i]?=some a):0+i*s+k+m≤(l.flatMap f).length:=by
 rw [XL f hf]
 have hi:=(List.getElem?_eq_some_iff.1 h).1
 have:(i+1)*s≤l.length*s:=Nat.mul_le_mul_right s hi
 rw [Nat.add_mul] at this; omega
theorem Vc:∀ {xs A B:List AV} {o:Nat},o+xs.length≤A.length→QD (A++B) o xs=QD A o xs++B
 | [],A,B,o,_=>rfl
 | x :: xs,A,B,o,h=>by
  simp only [List.length_cons] at h
  simp only [QD]
  rw [List.set_append_left (h:=by omega)]
  exact Vc (by simp; omega)
theorem YN:∀ {xs A B:List AV} {o:Nat},QD (A++B) (A.length+o) xs=A++QD B o xs
 | [],A,B,o=>rfl
 | x :: xs,A,B,o=>by
  simp only [QD]
  rw [List.set_append_right (h:=by omega),show A.length+o - A.length=o by omega,show A.length+o+1=A.length+(o+1) by omega]
  exact YN
theorem QT (hf:∀ a,(f a).length=s) {k:Nat} {xs:List AV}:∀ {l:List α} {i:Nat} {a a':α},l[i]?=some a→QD (f a) k xs=f a'→k+xs.length≤s →
 QD (l.flatMap f) (0+i*s+k) xs=(l.set i a').flatMap f
 | [],i,a,a',h,_,_=>by simp at h
 | b :: l,0,a,a',h,he,hk=>by
  simp only [List.getElem?_cons_zero,Option.some.injEq] at h
  subst h
  rw [List.flatMap_cons,List.set_cons_zero,List.flatMap_cons,← he,show 0+0*s+k=k by omega,Vc (by rw [hf]; omega)]
 | b :: l,i+1,a,a',h,he,hk=>by
  simp only [List.getElem?_cons_succ] at h
  rw [List.flatMap_cons,List.set_cons_succ,List.flatMap_cons,show 0+(i+1)*s+k=(f b).length+(0+i*s+k) by rw [hf b,Nat.add_mul]; omega,YN]
  rw [QT hf h he hk]
theorem YO (a b:List α):(a++b).flatMap f=a.flatMap f++b.flatMap f:=by simp
end
theorem Qn {α:Type} {l:List α} {i:Nat} {a:α} (h:l[i]?=some a):(0:Int)≤(i:Int)∧(i:Int)<(l.length:Int):=by
 have:=(List.getElem?_eq_some_iff.1 h).1; omega
theorem Qj {α:Type} {l:List α} {i:Int} {a:α} (h0:0≤i) (h:l[Int.toNat i]?=some a):0≤i∧i<(l.length:Int):=by
 have:=(List.getElem?_eq_some_iff.1 h).1; omega
section
variable {P:Program} {E:Env} {K K':List Item} {st st':St}
def denilC (st:St):List (Nat × Nat × Nat)→Option St
 | []=>some st
 | (k,j,sz) :: r=>match st.blks[k]? with
  | some b=>(match b.live && b.sz != 0,b.cells[j]? with
   | true,some .nilSl=>denilC ⟨st.tmps,(st.blks++[(⟨true,0,sz,true,[],true⟩:Blk)]).set k { b with flat:=false,cells:=b.cells.set j (.sl st.blks.length 0 0 0 sz) }⟩ r
   | _,_=>none)
  | none=>none
theorem Wq:∀ {ds:List (Nat × Nat × Nat)} {st st':St},denilC st ds=some st'→G P E K st'→G P E K st
 | [],st,st',h,hg=>by simp only [denilC,Option.some.injEq] at h; subst h; exact hg
 | (k,j,sz) :: r,st,st',h,hg=>by
  simp only [denilC] at h
  split at h
  · rename_i b hb
    split at h
    · rename_i hl hj
      exact denilC_step hb (by simpa using (Bool.and_eq_true_iff.1 hl).1) (by simpa using (Bool.and_eq_true_iff.1 hl).2) hj (Wq h hg)
    · cases h
  · cases h
def segC (P:Program) (ds:List (Nat × Nat)) (cs:List (Nat × Nat × Nat)) (live:List Nat) (m n:Nat) (K:List Item) (st:St) (evs:List EV):Option (List Item × St × List Prop) :=
 match walk P n K st evs with
 | some (K',st',_,o1)=>(match denil st' ds with
  | some st1=>(match denilC st1 cs with
   | some st1=>(match weak live m st1 with
    | some st2=>some (K',st2,o1)
    | none=>none)
   | none=>none)
  | none=>none)
 | none=>none
theorem Qh {n m:Nat} {ds:List (Nat × Nat)} {cs:List (Nat × Nat × Nat)} {live:List Nat} {evs:List EV} {obs:List Prop} {HK:Prop} (hk:HK) (hgh:refsBelows m E.gA=true) (hmx:P.follows .mixedOrders=true)
 (h:segC P ds cs live m n K st evs=some (K',st',obs)) (ho:AllP obs) (hg:G P E K' st'):G P E K st:=by
 unfold segC at h
 split at h
 · rename_i K1 st1 evs1 o1 h1
   split at h
   · rename_i st2 h2
     split at h
     · rename_i st3 h3
       split at h
       · rename_i st4 h4
         simp only [Option.some.injEq,Prod.mk.injEq] at h
         obtain ⟨rfl,rfl,rfl⟩:=h
         exact QJ hk hmx h1 ho (yM h2 (Wq h3 (weak_step hgh h4 hg)))
       · cases h
     · cases h
   · cases h
 · cases h
end
theorem rp {α:Type} (f:α→List AV) (s k m:Nat) {l:List α} {i:Nat} {a:α} (h:l[i]?=some a) (hf:∀ a,(f a).length=s:=by exact fun _=>rfl) (hk:k+m≤s:=by decide):((l.flatMap f).drop (0+i*s+k)).take m=((f a).drop k).take m:=row_part f hf hk h
theorem rf {α:Type} (f:α→List AV) (s k m:Nat) {l:List α} {i:Nat} {a:α} (h:l[i]?=some a) (hf:∀ a,(f a).length=s:=by exact fun _=>rfl) (hk:k+m≤s:=by decide):0+i*s+k+m≤(l.flatMap f).length:=row_fits f hf hk h
theorem bft (b:Bool):b=true∨b=false:=Bool.eq_false_or_eq_true b
theorem odt {p:Prop} [Decidable p] (h:decide p=true):p:=of_decide_eq_true h
theorem odf {p:Prop} [Decidable p] (h:decide p=false):¬p:=of_decide_eq_false h
abbrev I6 (n:Int):Prop:= -9223372036854775808≤n∧n≤9223372036854775807
end Ax
namespace Ax
open Go
section
variable {σ X:Type} (step:σ→X→σ × Bool)
end
section
variable {P:Program} {E:Env} {K K':List Item} {st st':St}
end
end Ax
namespace Ax
open Go Go.ChangeShapes Go.WideShapes Go.RowKit
abbrev Old (W:World) (b:Nat):Prop:=b<W.heap.size
/-- What is read as of this type stands for typed data. -/
def Dec (P:Program) (W:World) (t:TypeId) (T:Type) (F:T→List AV) (Q:T→Prop):Prop :=
 ∀ (H:Type) (enc:TypeId × Value→H) (sp:Nat→Bool) (held:Bool) (fuel:Nat) (cs:List Value) (x:DataW H × List MemPlace),
  DataW.trod enc P W 0 sp held fuel t cs=some x→∃ a,Q a∧VRs (Old W) W C0 (F a) cs
/-- The same for the fields from one on; 'off' is where they begin. -/
def DecFs (P:Program) (W:World) (fs:List Field) (off:Nat) (T:Type) (F:T→List AV) (Q:T→Prop) (tot:Nat):Prop :=
 ∀ (H:Type) (enc:TypeId × Value→H) (sp:Nat→Bool) (held:Bool) (fuel:Nat) (cs:List Value),cs.length=tot →
  (∀ f ∈ fs,∃ x,DataW.trod enc P W 0 sp held fuel f.type ((cs.drop f.offset).take (P.cellsOf f.type))=some x)→∃ a,Q a∧VRs (Old W) W C0 (F a) (cs.drop off)
section
variable {P:Program} {W:World} {t e:TypeId}
theorem VRs.one1 {Z:Nat→Prop} {w:World} {C:Ctx} {a:AV} {c:Value} (h:VR Z w C a c):VRs Z w C [a] [c] :=
 ⟨rfl,fun i x y p q=>by
  cases i with
  | zero=>simp at p q; subst p; subst q; exact h
  | succ i=>simp at p⟩
theorem dec_int {k:IntKind} (ht:P.underlying t=some (.int k)):Dec P W t Int (fun n=>[.int k n]) (fun n=>k.min≤n∧n≤k.max):=by
 intro H enc sp held fuel cs x h
 obtain ⟨n,rfl,-,hw⟩:=DataW.trod_int ht h
 simp only [Lit.wf,Bool.and_eq_true,decide_eq_true_eq] at hw
 exact ⟨n,hw,VRs.one1 (.int _ _)⟩
theorem Vk (ht:P.underlying t=some (.int .i64)):Dec P W t Int cI (fun n=>InR .i64 n):=by
 intro H enc sp held fuel cs x h
 obtain ⟨n,hn,hv⟩:=dec_int ht H enc sp held fuel cs x h
 exact ⟨n,by simpa [InR,IntKind.min,IntKind.max,IntKind.signed,IntKind.bits] using hn,hv⟩
theorem Dec.map {T S:Type} {F:T→List AV} {Q:T→Prop} {F':S→List AV} {Q':S→Prop} (h:Dec P W t T F Q) (g:T→S) (hF:∀ a,F' (g a)=F a) (hQ:∀ a,Q a→Q' (g a)):Dec P W t S F' Q':=by
 intro H enc sp held fuel cs x hx
 obtain ⟨a,q,v⟩:=h H enc sp held fuel cs x hx
 exact ⟨g a,hQ a q,by rw [hF]; exact v⟩
theorem qD {tot:Nat}:DecFs P W [] tot Unit (fun _=>[]) (fun _=>True) tot:=by
 intro H enc sp held fuel cs hl _
 exact ⟨(),trivial,by rw [List.drop_of_length_le (by omega)]; exact ⟨rfl,fun i x y p q=>by simp at p⟩⟩
theorem XG {f:Field} {fs:List Field} {off n tot:Nat} {A B:Type} {FA:A→List AV} {QA:A→Prop} {FB:B→List AV} {QB:B→Prop} (hn:P.cellsOf f.type=n) (ho:f.offset=off)
 (D:Dec P W f.type A FA QA) (R:DecFs P W fs (off+n) B FB QB tot) (hle:off+n≤tot):DecFs P W (f :: fs) off (A × B) (fun p=>FA p.1++FB p.2) (fun p=>QA p.1∧QB p.2) tot:=by
 intro H enc sp held fuel cs hl h
 obtain ⟨x,hx⟩:=h f (by simp)
 obtain ⟨a,qa,va⟩:=D H enc sp held fuel _ x hx
 obtain ⟨b,qb,vb⟩:=R H enc sp held fuel cs hl fun g hg=>h g (by simp [hg])
 rw [hn,ho] at va
 refine ⟨(a,b),⟨qa,qb⟩,?_⟩
 have e:cs.drop off=(cs.drop off).take n++cs.drop (off+n):=by
  rw [← List.drop_drop]; exact (List.take_append_drop _ _).symm
 rw [e]
 exact va.app vb
theorem Wa {fs:Array Field} {T:Type} {F:T→List AV} {Q:T→Prop} {l:List Field} {tot:Nat} (ht:P.underlying t=some (.struct fs)) (hl:fs.toList=l) (hc:P.cellsOf t=tot) (h:DecFs P W l 0 T F Q tot):Dec P W t T F Q:=by
 intro H enc sp held fuel cs x hx
 obtain ⟨xs,n,-,-,h1,h2,h3⟩:=DataW.trod_struct ht hx
 obtain ⟨a,q,v⟩:=h H enc sp held n cs (by rw [h1,hc]) fun f hf=>by
  rw [← hl] at hf
  obtain ⟨i,hi⟩:=List.mem_iff_getElem?.1 hf
  have:=h3 i f (by simpa using hi)
  have hlt:i<xs.length:=by rw [h2]; have:=(List.getElem?_eq_some_iff.1 hi).1; simpa using this
  exact ⟨xs[i],by rw [this]; simp [hlt]⟩
 exact ⟨a,q,by simpa using v⟩
theorem cells_get {W:World} {a:Addr} {n:Nat} {cs:List Value} (h:W.cells? 0 a n=some cs):cs.length=n∧∀ i,i<n→W.cell? (a.add i)=cs[i]?:=by
 unfold World.cells? at h
 rw [if_pos (Nat.zero_le _)] at h
 have key:∀ (n k:Nat) (cs:List Value),((List.range' k n).mapM fun i=>W.cell? (a.add i))=some cs→cs.length=n∧∀ i,i<n→W.cell? (a.add (k+i))=cs[i]?:=by
  intro n
  induction n with
  | zero=>intro k cs h; simp at h; subst h; simp
  | succ n ih =>
   intro k cs h
   rw [List.range'_succ,List.mapM_cons] at h
   simp only [Option.bind_eq_bind,Option.bind_eq_some_iff,Option.pure_def,Option.some.injEq] at h
   obtain ⟨c,h1,cs',h2,rfl⟩:=h
   obtain ⟨i1,i2⟩:=ih (k+1) cs' h2
   refine ⟨by simp [i1],fun i hi=>?_⟩
   cases i with
   | zero=>simpa using h1
   | succ i=>rw [show k+(i+1)=k+1+i by omega,i2 i (by omega)]; simp
 have:=key n 0 cs (by rw [← List.range_eq_range']; exact h)
 simpa using this
theorem list_of {T:Type} {Q:Nat→T→Prop}:∀ (n k:Nat),(∀ i,k≤i→i<k+n→∃ a,Q i a)→∃ l:List T,l.length=n∧∀ i a,l[i]?=some a→Q (k+i) a
 | 0,k,_=>⟨[],rfl,by simp⟩
 | n+1,k,h=>by
  obtain ⟨a,ha⟩:=h k (Nat.le_refl _) (by omega)
  obtain ⟨l,hl,hq⟩:=list_of n (k+1) fun i h1 h2=>h i (by omega) (by omega)
  refine ⟨a :: l,by simp [hl],fun i b hb=>?_⟩
  cases i with
  | zero=>simp at hb; subst hb; exact ha
  | succ i=>simp at hb; have:=hq i b hb; rw [show k+(i+1)=k+1+i by omega]; exact this
theorem qC {T:Type} {F:T→List AV} {Q:T→Prop} {n:Nat} (ht:P.underlying t=some (.slice e)) (hc:P.cellsOf e=n) (hn:0<n) (hF:∀ a,(F a).length=n) (hk:∀ a,Xe (F a)=true) (D:Dec P W e T F Q) :
 Dec P W t (List T) (fun l=>[.rsl (l.flatMap F) 0 l.length]) (fun l=>l.length≤9223372036854775807∧∀ a ∈ l,Q a):=by
 intro H enc sp held fuel cs x h
 rcases DataW.trod_slice ht h with ⟨rfl,-⟩ | ⟨a,len,cap,elems,rest,m,-,rfl,-,-,h1,h2,h3,h4,-,-⟩
 · exact ⟨[],⟨by simp,by simp⟩,VRs.one1 .rsl0⟩
 have hel:∀ i,i<len→∃ b,Q b∧∃ vs,W.cells? 0 (a.add (i*n)) n=some vs∧VRs (Old W) W C0 (F b) vs:=by
  intro i hi
  have:=h4 i hi
  rw [hc,List.getElem?_eq_getElem (by omega)] at this
  obtain ⟨vs,g1,g2⟩:=Option.bind_eq_some_iff.1 this
  obtain ⟨b,qb,vb⟩:=D H enc sp held m vs _ g2
  exact ⟨b,qb,vs,g1,vb⟩
 obtain ⟨l,hl,hq⟩:=list_of (Q:=fun i b=>Q b∧∃ vs,W.cells? 0 (a.add (i*n)) n=some vs∧VRs (Old W) W C0 (F b) vs) len 0 fun i _ hi=>hel i (by omega)
 refine ⟨l,⟨by rw [hl]; unfold maxLen at h2; omega,fun b hb=>?_⟩,VRs.one1 ?_⟩
 · obtain ⟨i,hi⟩:=List.mem_iff_getElem?.1 hb
   exact (hq i b hi).1
 rcases Nat.eq_zero_or_pos len with h0 | h0
 · subst h0
   obtain rfl:l=[]:=List.length_eq_zero_iff.1 hl
   exact .rsl0
 have hcell:∀ j,j<len*n→∃ v,W.cell? ⟨a.block,a.off+j,none⟩=some v∧∃ c,(l.flatMap F)[j]?=some c∧VR (Old W) W C0 c v∧Xc c=true∧a.spot=none:=by
  intro j hj
  have hi:j / n<len:=by rw [Nat.div_lt_iff_lt_mul hn]; exact hj
  have hm:j % n<n:=Nat.mod_lt _ hn
  have hb:l[j / n]?=some l[j / n]:=by simp [hl,hi]
  obtain ⟨-,vs,g1,g2⟩:=hq _ _ hb
  rw [Nat.zero_add] at g1
  obtain ⟨g3,g4⟩:=cells_get g1
  have g5:=g4 (j % n) hm
  have hv:vs[j % n]?=some vs[j % n]:=by simp [g3,hm]
  rw [hv] at g5
  have hdm:j / n*n+j % n=j:=by rw [Nat.mul_comm]; exact Nat.div_add_mod j n
  have hspot:a.spot=none:=by
   have g6:=g4 0 hn
   rw [List.getElem?_eq_getElem (by omega)] at g6
   have hfirst:∃ v0,W.cell? a=some v0:=by
    have hb0:l[0]?=some l[0]:=by simp [hl,h0]
    obtain ⟨-,vs0,k1,-⟩:=hq _ _ hb0
    obtain ⟨k3,k4⟩:=cells_get k1
    have k5:=k4 0 hn
    rw [List.getElem?_eq_getElem (by omega)] at k5
    exact ⟨_,by simpa [Addr.add] using k5⟩
   obtain ⟨v0,hv0⟩:=hfirst
   unfold World.cell? at hv0
   split at hv0
   · split at hv0
     · cases hv0
     · rename_i hsp; simpa using hsp
   · cases hv0
  have haddr:(a.add (j / n*n)).add (j % n)=⟨a.block,a.off+j,none⟩:=by
   obtain ⟨ab,ao,asp⟩:=a
   simp only at hspot
   subst hspot
   unfold Addr.add
   split <;> split <;> simp_all <;> omega
  rw [haddr] at g5
  refine ⟨_,g5,?_⟩
  have hrow:=yZ F hF (k:=j % n) hb (by omega)
  have e1:(l.flatMap F)[j]?=(F l[j / n])[j % n]?:=by
   have:=congrArg (fun l=>l[0]?) hrow
   simp only [List.getElem?_drop,Nat.add_zero] at this
   rw [show 0+j / n*n+j % n=j by omega] at this
   rw [this,List.getElem?_append_left (by rw [List.length_drop,hF]; omega),List.getElem?_drop,Nat.add_zero]
  have hF1:(F l[j / n])[j % n]?=some ((F l[j / n])[j % n]'(by rw [hF]; exact hm)):=by simp [hF,hm]
  refine ⟨_,e1.trans hF1,g2.2 _ _ _ hF1 hv,XE (hk _) hF1,hspot⟩
 have hrl:(l.flatMap F).length=len*n:=by rw [XL F hF,hl]
 obtain ⟨v0,c0,-,-,-,-,hspot⟩:=hcell 0 (Nat.mul_pos h0 hn)
 have haa:a=⟨a.block,0+a.off,none⟩:=by
  obtain ⟨ab,ao,asp⟩:=a
  simp only at hspot ⊢
  subst hspot; simp
 have hblk:a.block<W.heap.size:=by
  unfold World.cell? at c0
  split at c0
  · rename_i heq; exact (Array.getElem?_eq_some_iff.1 heq).1
  · cases c0
 rw [← hl]
 have hval:Value.slice (some a) l.length cap=Value.slice (some ⟨a.block,a.off+0,none⟩) l.length cap:=by
  congr 2
  rw [haa]; simp
 rw [hval]
 refine .rsl (o:=a.off) (fun i=>(W.cell? ⟨a.block,a.off+i,none⟩).getD undef) hblk (by omega) (fun i hi=>?_) (fun i c hc=>?_) (fun i c hc=>?_)
 · obtain ⟨v,h5,-⟩:=hcell i (by omega)
   rw [h5]; rfl
 · obtain ⟨v,-,c',h6,-,h7,-⟩:=hcell i (by have:=(List.getElem?_eq_some_iff.1 hc).1; omega)
   rw [hc] at h6; cases h6; exact h7
 · obtain ⟨v,h5,c',h6,h7,-,-⟩:=hcell i (by have:=(List.getElem?_eq_some_iff.1 hc).1; omega)
   rw [hc] at h6; cases h6; rw [h5]; exact h7
/-! ### A law's arguments -/
/-- One argument. -/
def DecA (P:Program) (W:World) (t:TypeId) (T:Type) (F:T→AV) (Q:T→Prop):Prop :=
 ∀ (H:Type) (enc:TypeId × Value→H) (base:Nat) (v:Value) (d:DataW H) (ps:List MemPlace),Value.okWide P W .any base t v→DataW.Trod enc P W 0 (fun _=>true) true t v d ps →
  ∃ a,Q a∧VR (Old W) W C0 (F a) v
theorem VRs.one' {Z:Nat→Prop} {w:World} {C:Ctx} {a:AV} {c:Value} (h:VRs Z w C [a] [c]):VR Z w C a c:=h.2 0 a c rfl rfl
theorem decA_int (ht:P.underlying t=some (.int .i64)):DecA P W t Int (fun n=>.int .i64 n) (fun n=>InR .i64 n):=by
 intro H enc base v d ps hok ⟨fuel,h⟩
 obtain ⟨n,rfl⟩:=okWide_int ht hok
 obtain ⟨a,q,hv⟩:=Vk ht H enc _ _ fuel _ _ h
 exact ⟨a,q,hv.one'⟩
theorem decA_slice {T:Type} {F:T→AV} {Q:T→Prop} (ht:P.underlying t=some (.slice e)) (D:Dec P W t T (fun a=>[F a]) Q):DecA P W t T F Q:=by
 intro H enc base v d ps hok ⟨fuel,h⟩
 obtain ⟨a,len,cap,rfl⟩:=okWide_slice ht hok
 obtain ⟨a,q,hv⟩:=D H enc _ _ fuel _ _ h
 exact ⟨a,q,hv.one'⟩
theorem decA_struct {T:Type} {F:T→List AV} {Q:T→Prop} {fs:Array Field} (ht:P.underlying t=some (.struct fs)) (D:Dec P W t T F Q):DecA P W t T (fun a=>.agg (F a)) Q:=by
 intro H enc base v d ps hok ⟨fuel,h⟩
 obtain ⟨cs,rfl,-⟩:=okWide_struct ht hok
 obtain ⟨a,q,hv⟩:=D H enc _ _ fuel _ _ h
 exact ⟨a,q,.agg (by have:=hv.1; simpa [Value.cells] using this) fun i c x p r=>hv.2 i c x p (by simpa [Value.cells] using r)⟩
/-- All arguments; 'K': what holds of them together. -/
def DecAs (P:Program) (W:World) (ts:List TypeId) (K:List AV→Prop):Prop :=
 ∀ (H:Type) (enc:TypeId × Value→H) (base:Nat) (vs:List Value) (ds:List (DataW H)) (ps:List MemPlace),
  (∀ (j:Nat) t v,ts[j]?=some t→vs[j]?=some v→Value.okWide P W .any base t v)→DataW.TrodAll enc P W 0 (fun _=>true) true ts vs ds ps→∃ al,K al∧VRs (Old W) W C0 al vs
theorem decAs_nil {K:List AV→Prop} (h:K []):DecAs P W [] K:=by
 intro H enc base vs ds ps _ hT
 obtain ⟨rfl,rfl,rfl⟩:=trodAll_nil hT
 exact ⟨[],h,rfl,fun i x y p q=>by simp at p⟩
theorem Wb {ts:List TypeId} {T:Type} {F:T→AV} {Q:T→Prop} {K:List AV→Prop} (D:DecA P W t T F Q) (R:∀ a,Q a→DecAs P W ts fun al=>K (F a :: al)):DecAs P W (t :: ts) K:=by
 intro H enc base vs ds ps hok hT
 obtain ⟨v,vs',d,ds',p,q,rfl,rfl,rfl,h1,h2⟩:=trodAll_cons hT
 obtain ⟨a,qa,va⟩:=D H enc base v d p (hok 0 t v rfl rfl) h1
 obtain ⟨al,ka,vas⟩:=R a qa H enc base vs' ds' q (fun j t v ht hv=>hok (j+1) t v (by simpa using ht) (by simpa using hv)) h2
 exact ⟨_,ka,by simpa using (VRs.one1 va).app vas⟩
theorem Fr.same_at {W W':World} (h:Fr W (fun _=>False) W') (p:MemPlace) (hp:p.block<W.heap.size):W.sameAt W' p:=by
 have:=h.same p.block hp (fun h=>h)
 cases p with
 | cell b off=>exact XV this
 | map b=>exact this
theorem Vo {H:Type} {enc:TypeId × Value→H} {W':World} (hl:laidOutB P=true) (h:Fr W (fun _=>False) W') {sp:Nat→Bool}:∀ {ts:List TypeId} {vs:List Value} {ds:List (DataW H)} {ps:List MemPlace},
 (∀ t ∈ ts,P.readableRec t=true∧t<P.types.size)→DataW.TrodAll enc P W 0 (fun _=>true) true ts vs ds ps→(∀ p ∈ ps,sp p.block=true)→DataW.TrodAll enc P W' 0 sp true ts vs ds ps
 | [],vs,ds,ps,_,hT,_=>by
  obtain ⟨rfl,rfl,rfl⟩:=trodAll_nil hT
  rfl
 | t :: ts,vs,ds,ps,hr,hT,hs=>by
  have hlt:=DataW.TrodAll.lt hT
  obtain ⟨v,vs',d,ds',p,q,rfl,rfl,rfl,h1,h2⟩:=trodAll_cons hT
  refine ⟨p,q,WideElems.Trod_stays hl (hr t (by simp)).1 (hr t (by simp)).2 h1 (fun x hx=>h.same_at x (hlt x (by simp [hx]))) (fun x hx=>hs x (by simp [hx])),
   Vo hl h (fun t ht=>hr t (by simp [ht])) h2 (fun x hx=>hs x (by simp [hx])),rfl⟩
theorem Fr.keptBut {W W':World} (h:Fr W (fun _=>False) W') (may:MemPlace→Prop):W.keptBut W' may:=by
 refine ⟨h.os,h.output,fun i hi=>?_⟩
 rw [h.same i hi (fun h=>h)]
 cases hx:W.heap[i]? with
 | none=>simp
 | some o=>cases o <;> simp
theorem law_post {H:Type} {enc:TypeId × Value→H} {W':World} {f:Func} {s:ChangeSpec} {args:Array Value} {ds gs:List (DataW H)} {before:List MemPlace} {tb:TypeId}
 (hW:DataW.Whole enc P f.params.toList s.vars false W args.toList ds gs before) (hv:s.vars=[]) (hr:f.resultTypes=#[tb]) (hb:P.underlying tb=some .bool)
 (h1:(s.fn H (ds++gs)).results=[.lit (.bool true)]) (h2:(s.fn H (ds++gs)).args=ds) (h3:(s.fn H (ds++gs)).vars=[]) (hl:laidOutB P=true)
 (hread:∀ t ∈ f.params.toList,P.readableRec t=true∧t<P.types.size) (hf:Fr W (fun _=>False) W'):s.post enc P f false true false false W args (.bool true) W':=by
 have hW':=hW
 obtain ⟨p,q,hA,hV,hpq,-,-⟩:=hW
 refine ⟨ds,gs,before,[],p,[],hW',?_,?_,?_,hf.keptBut _,fun h=>by cases h⟩
 · rw [h1,hr]
   exact trodAll_mk1 ⟨1,by simp [DataW.trod,Value.cells,hb]⟩
 · rw [h2]
   exact Vo hl hf hread hA fun x hx=>by simpa using DataW.TrodAll.lt hA x hx
 · rw [h3,hv]; rfl
theorem Fr.frozen {W W':World} (h:Fr W (fun _=>False) W') (a:Addr) (ha:a.block<W.heap.size):W'.frozen? a=W.frozen? a:=by
 unfold World.frozen?; rw [h.same a.block ha (fun h=>h)]
end
end Ax
namespace Ax
open Go
def AvLe (a b:AV):Prop:=∀ (Z:Nat→Prop) (w:World) (c:Value),VR Z w C0 a c→VR Z w C0 b c
def AvLes:List AV→List AV→Prop
 | [],[]=>True
 | a :: as',b :: bs=>AvLe a b∧AvLes as' bs
 | _,_=>False
theorem AvLe.refl (a:AV):AvLe a a:=fun _ _ _ h=>h
theorem AvLe.of_eq {a b:AV} (h:a=b):AvLe a b:=h ▸ AvLe.refl a
theorem XN {row:List AV} {off:Nat}:AvLe .nilSl (.rsl row off 0):=fun _ _ _ h=>by cases h; exact .rsl0
theorem AvLes.vrs {Z:Nat→Prop} {w:World}:∀ {as' bs:List AV} {vs:List Value},AvLes as' bs→VRs Z w C0 as' vs→VRs Z w C0 bs vs
 | [],[],vs,_,h=>h
 | a :: as',b :: bs,[],_,h=>by have:=h.1; simp at this
 | a :: as',b :: bs,v :: vs,hl,h=>by
  have h1:VR Z w C0 a v:=h.2 0 a v rfl rfl
  have h2:VRs Z w C0 as' vs:=⟨by have:=h.1; simpa using this,fun i c v p q=>h.2 (i+1) c v (by simpa using p) (by simpa using q)⟩
  have h3:=AvLes.vrs hl.2 h2
  refine ⟨by simp [h3.1],fun i c x p q=>?_⟩
  cases i with
  | zero=>simp at p q; subst p; subst q; exact hl.1 _ _ _ h1
  | succ i=>exact h3.2 i c x (by simpa using p) (by simpa using q)
 | [],b :: bs,_,hl,_=>hl.elim
 | a :: as',[],_,hl,_=>hl.elim
theorem agg_le {xs ys:List AV} (h:AvLes xs ys):AvLe (.agg xs) (.agg ys):=fun Z w c hc=>by
 cases hc with
 | @agg _ _ arr hl h1 =>
  have:=h.vrs (vs:=arr.toList) ⟨by simpa using hl,fun i c v p q=>h1 i c v p (by simpa using q)⟩
  exact .agg (by simpa using this.1) fun i c v p q=>this.2 i c v p (by simpa using q)
theorem Yt {xs ys:List AV} (h:AvLes xs ys):AvLe (.tup xs) (.tup ys):=fun Z w c hc=>by
 cases hc with
 | @tup _ _ arr hl h1 =>
  have:=h.vrs (vs:=arr.toList) ⟨by simpa using hl,fun i c v p q=>h1 i c v p (by simpa using q)⟩
  exact .tup (by simpa using this.1) fun i c v p q=>this.2 i c v p (by simpa using q)
section
variable {P:Program} {E:Env} {K K':List Item} {st st':St}
theorem Pure.le {f:FuncId} {args args':List AV} {res:AV} (h:Pure P f args res) (hl:AvLes args' args):Pure P f args' res :=
 fun Z w cargs hz ha=>h Z w cargs hz (hl.vrs ha)
theorem Qg.le {fv:AV} {args args':List AV} {res:AV} (h:Qg P fv args res) (hl:AvLes args' args):Qg P fv args' res :=
 fun Z w cf cargs hz hf ha=>h Z w cf cargs hz hf (hl.vrs ha)
theorem G.fin {F':Machine→Prop} (h:G P { E with Fin:=F' } K st) (hm:∀ m,F' m→E.Fin m):G P E K st:=fun C Z a w hr =>
 let ⟨m',hs,hf⟩:=h C Z a w hr
 ⟨m',hs,hm m' hf⟩
theorem Wh.mono {f:FuncId} {cs:List Frame} {Q Q':Value→World→Prop} (hq:∀ v w,Q v w→Q' v w) {m:Machine} (h:Wh P f cs Q m):Wh P f cs Q' m:=by
 obtain ⟨v,w,fr,e,a,b,c⟩:=h
 exact ⟨v,w,fr,e,a,b,hq _ _ c⟩
theorem Qc {n:Nat} {f:FuncId} {fn:Func} {evs:List EV} {r res:AV} {obs:List Prop} (hE:Qf P f res E) (hf:P.funcs[f]?=some fn) (hmx:P.follows .mixedOrders=true)
 (h:endA P fn n K st evs=some (r,obs)) (ho:AllP obs) (hr:AvLe r res):G P E K st:=by
 obtain ⟨e1,e2,e3,e4,e5,e6,e7⟩:=hE
 refine G.fin (F':=Wh P f E.cs fun v w'=>VR (Zx E.Z0 E.w0 w') w' C0 r v∧Fr E.w0 (fun _=>False) w') (end_step ⟨e1,e2,e3,e4,e5,rfl,e7⟩ hf hmx h ho rfl) fun m hm=>?_
 rw [e6]
 exact Wh.mono (fun v w hq=>⟨hr _ _ _ hq.1,hq.2⟩) hm
end
end Ax
namespace Ax
open Go
theorem WY {α:Type} (f:α→List AV) (n:Nat) (a:α):(List.replicate n (f a)).flatten=(List.replicate n a).flatMap f:=by
 induction n with
 | zero=>rfl
 | succ n ih=>rw [List.replicate_succ,List.flatten_cons,ih,List.replicate_succ,List.flatMap_cons]
theorem row_all {α:Type} (f:α→List AV) {s:Nat} (hf:∀ a,(f a).length=s) (l:List α):((l.flatMap f).drop 0).take (l.length*s)=l.flatMap f:=by
 rw [List.drop_zero,List.take_of_length_le (by rw [XL f hf]; exact Nat.le_refl _)]
theorem yu:∀ {a b:List AV},noRefs (a++b)=(noRefs a && noRefs b)
 | [],b=>by simp [noRefs]
 | x :: a,b=>by simp [noRefs,yu,Bool.and_assoc]
theorem row_nr {α:Type} (f:α→List AV) (hf:∀ a,noRefs (f a)=true):∀ l:List α,noRefs (l.flatMap f)=true
 | []=>rfl
 | a :: l=>by rw [List.flatMap_cons,yu,hf,row_nr f hf l]; rfl
end Ax
namespace Ax
open Go
section
variable {P:Program} {E:Env} {K K':List Item} {st st':St}
/-- What a call leaves: its result,and the blocks. -/
def Left (Z M:Nat→Prop) (w:World) (C:Ctx) (res:AV) (bs2:List Blk) (v:Value) (w':World):Prop :=
 ∃ C' Z',Base C w C' w'∧Mem Z M w C' Z' bs2 w'∧VR Z' w' C' res v
/-- A function that turns blocks 'bs' to 'bs2' (new ones behind them). -/
def Lent (P:Program) (f:FuncId) (args:List AV) (bs:List Blk) (res:AV) (bs2:List Blk):Prop :=
 ∀ (Z:Nat→Prop) (w:World) (C:Ctx) (cargs:Array Value),Mem Z (Own C) w C Z bs w→VRs Z w C args cargs.toList →
  Calls P f cargs w fun e w'=>∃ v,e=.returned v∧Left Z (Own C) w C res bs2 v w'
structure LentE (P:Program) (f:FuncId) (gA:List AV) (res:AV) (bs2:List Blk) (E:Env):Prop where
 ro:E.b.roundOf=none
 kind:E.b.kind=.normal
 fn:E.b.fn=f
 gA:E.gA=gA
 df:E.df=[]
 fin:E.Fin=Wh P f E.cs (Left E.Z0 E.M E.w0 E.Cb res bs2)
theorem LentE.nogh {f:FuncId} {k g:Nat} {res:AV} {bs2:List Blk} (hE:LentE P f [.sl k g 0 0 1] res bs2 E) {m:Nat} (h:Nat.ble (k+1) m=true):refsBelows m E.gA=true:=by
 rw [hE.gA]
 have:=Nat.le_of_ble_eq_true h
 simp [refsBelows,QU]; omega
theorem lent_of {f:FuncId} {fn:Func} {c:Code} {args:List AV} {bs bs2:List Blk} {res:AV} (b:Blk) (hf:P.funcs[f]?=some fn) (hb:fn.body=some c) (hl:bs.getLast?=some b) (hlv:b.live=true)
 (h:∀ E,LentE P f [.sl (bs.length - 1) b.gen 0 0 1] res bs2 E→G P E [.code c] ⟨args++unds (fn.ntmps - args.length),bs⟩) (hbz:b.sz ≠ 0:=by simp):Lent P f args bs res bs2:=by
 intro Z w C cargs hm ha cs
 have hn:bs ≠ []:=by rintro rfl; simp at hl
 have hlen:0<bs.length:=List.length_pos_iff.2 hn
 have hk:bs[bs.length - 1]?=some b:=by rw [List.getLast?_eq_getElem?] at hl; exact hl
 have hgh:VR Z w C (.sl (bs.length - 1) b.gen 0 0 1) (.slice none 0 0):=by
  have hg:=hm.gen _ _ hk
  refine .sl (by rw [hg]; exact Nat.le_refl _) rfl fun _=>?_
  obtain ⟨q1,q2⟩:=hm.blk _ _ hk hlv
  unfold SlOk
  cases hs:C.β (bs.length - 1) with
  | absent=>simp [hs] at q2
  | unborn=>exact ⟨rfl,none,rfl⟩
  | loc blk o =>
   simp only [hs] at q2
   obtain ⟨arr,e,r1,r2,r3⟩:=q2.cells hbz
   exact ⟨none,0,rfl,Nat.le_refl _,fun h=>absurd rfl h,arr,e,r1,by omega⟩
 have hlow:∀ n,refsBelows n [AV.sl (bs.length - 1) b.gen 0 0 1]=true→∀ k,n≤k→C.β k=.absent∧C.γ k=0:=fun n h1 k h2=>hm.dom k (by
  simp [refsBelows,QU] at h1; omega)
 let E:Env:=⟨Z,Own C,w,{ (default:Frame) with fn:=f,kind:=.normal },cs,Wh P f cs (Left Z (Own C) w C res bs2),[.sl (bs.length - 1) b.gen 0 0 1],[.slice none 0 0],[],C,hlow⟩
 have hE:LentE P f [.sl (bs.length - 1) b.gen 0 0 1] res bs2 E:=⟨rfl,rfl,rfl,rfl,rfl,rfl⟩
 have henter:Frame.enter P f cargs .normal=({ (default:Frame) with fn:=f,kind:=.normal }:Frame).atR { tmps:=cargs++Array.replicate (fn.ntmps - cargs.size) undef,defers:=[] } [.code c]:=by
  simp only [Frame.enter,Frame.atR,hf,hb,Option.map_some,Option.getD_some,Option.bind_some]; rfl
 have hl2:args.length=cargs.size:=by simpa using ha.1
 obtain ⟨m',s,v,w',fr,rfl,r1,r2,r3⟩:=h _ hE C Z { tmps:=cargs++Array.replicate (fn.ntmps - cargs.size) undef,defers:=[] } w
  ⟨⟨by simp [WV,hl2],fun i x y p q=>by
   simp only [Array.toList_append,Array.toList_replicate] at q
   rw [WV] at p
   by_cases hi:i<args.length
   · rw [List.getElem?_append_left hi] at p
     rw [List.getElem?_append_left (by simpa [← hl2] using hi)] at q
     exact ha.2 i x y p q
   · rw [List.getElem?_append_right (by omega)] at p
     rw [List.getElem?_append_right (by simp; omega)] at q
     have p':=List.mem_replicate.1 (List.mem_of_getElem? p)
     have q':=List.mem_replicate.1 (List.mem_of_getElem? q)
     rw [p'.2,q'.2]
     exact .tup rfl (by simp)⟩,hm,⟨[],.nil,.nil,by simp⟩,⟨rfl,fun i x y p q=>by
   cases i with
   | zero=>simp [E] at p q; rw [← p,← q]; exact hgh
   | succ i=>simp [E] at p⟩,.refl⟩
 rw [henter]
 exact ⟨.returned v,w',fr,⟨v,rfl,r3⟩,s,r1,r2⟩
/-- Called by its value. -/
theorem YW {f : FuncId} {fn : Func} {c : Code} {first args cap : List AV} {bs bs2 : List Blk} {res : AV} (hf : P.funcs[f]? = some fn) (hname : (fn.name == "runtime.NumGoroutine") = false) (hb : fn.body = some c)
    (h : Lent P f (first ++ args ++ cap) bs res bs2) : LentF P (.clos f first cap) args bs res bs2 := by
  intro Z w C cf cargs hm hcf ha
  cases hcf with
  | @clos _ _ _ _ fa ca hl h1 hl' h2 =>
    refine ⟨{ target := .fn (.func f) ca, args := fa ++ cargs }, f, fa ++ cargs ++ ca, rfl, ?_, ?_⟩
    · have := Go.Proofs.enters_of (P := P) hf hname hb (fa ++ cargs ++ ca) w
      simpa [invoke] using this
    · refine (h Z w C _ hm ⟨by have := ha.1; simp at this; simp [hl, hl', this], fun i x y p q => ?_⟩).mono ?_
      · have hal : args.length = cargs.size := by simpa using ha.1
        simp only [Array.toList_append] at q
        rw [List.append_assoc] at p q
        by_cases i1 : i < first.length
        · rw [List.getElem?_append_left i1] at p
          rw [List.getElem?_append_left (by simpa [← hl] using i1)] at q
          exact h1 i x y p (by simpa using q)
        · rw [List.getElem?_append_right (by omega)] at p
          rw [List.getElem?_append_right (by simp; omega)] at q
          have e1 : fa.toList.length = first.length := by simp [hl]
          rw [e1] at q
          by_cases i2 : i - first.length < args.length
          · rw [List.getElem?_append_left i2] at p
            rw [List.getElem?_append_left (by simpa [← hal] using i2)] at q
            exact ha.2 _ x y p q
          · rw [List.getElem?_append_right (by omega)] at p
            rw [List.getElem?_append_right (by simp; omega)] at q
            have e2 : cargs.toList.length = args.length := by simp [hal]
            rw [e2] at q
            exact h2 _ x y p (by simpa using q)
      · rintro e w' ⟨v, rfl, C', Z', q1, q2, q3⟩
        exact ⟨v, C', Z', rfl, q1, q2, q3⟩

/-- A block that is handed over for good: it lies frozen from here on. -/
def kill (b:Blk):Blk:=⟨false,b.gen+1,b.sz,true,[],false⟩
/-- A call of what only reads: what it is handed is handed over for good. -/
theorem Vx {fv fv':AV} {args args':List AV} {bs:List Blk} {res:AV} {o1 o2:List Prop} (hf:(frz 8 fv).run (bs[·]?)=some (fv',o1)) (h1:AllP o1)
 (ha:(frzL (frz 8) args).run (bs[·]?)=some (args',o2)) (h2:AllP o2) (hp:Qg P fv' args' res):LentF P fv args bs res (bs.map kill):=by
 intro Z w C cf cargs hm hcf hca
 obtain ⟨d,f,as',r1,r2,r3⟩:=hp (ZL C Z) w cf cargs (fun b hz=>by
  rcases hz with hz | ⟨k,o,hb⟩
  · exact hm.zlt b hz
  · exact (hm.own k b o hb).1) (XU hm hf h1 hcf) (YX hm ha h2 hca)
 refine ⟨d,f,as',r1,r2,r3.mono ?_⟩
 rintro e w' ⟨v,rfl,hv,hfr⟩
 have hs:=hfr.size
 have lt_of:∀ k,C.β k ≠ .absent→k<bs.length:=fun k h=>by
  rcases Nat.lt_or_ge k bs.length with h' | h'
  · exact h'
  · exact absurd (hm.dom k h').1 h
 refine ⟨v,⟨fun _=>.absent,fun k=>if k<bs.length then C.γ k+1 else 0⟩,Zx (ZL C Z) w w',rfl,⟨⟨fun k=>?_,fun k hb hg=>?_⟩,fun k blk o arr e hb hg=>?_⟩,
  ⟨fun k b hb hl=>?_,fun k b hb=>?_,fun k b hb hd=>rfl,fun k hk=>?_,fun k k' b o o' h=>?_,fun k b o h=>?_,fun b hz=>?_,fun b hz=>.inl (.inl hz),fun b hz=>?_,?_⟩,hv.of0⟩
 · simp only
   split
   · omega
   · rw [(hm.dom k (by omega)).2]; exact Nat.le_refl _
 · simp only at hg
   rw [if_pos (lt_of k hb)] at hg; omega
 · simp only at hg
   rw [if_pos (lt_of k (by rw [hb]; simp))] at hg; omega
 · rw [List.getElem?_map,Option.map_eq_some_iff] at hb
   obtain ⟨b0,-,rfl⟩:=hb
   simp [kill] at hl
 · rw [List.getElem?_map,Option.map_eq_some_iff] at hb
   obtain ⟨b0,hb,rfl⟩:=hb
   have:=(List.getElem?_eq_some_iff.1 hb).1
   simp only [if_pos this,kill]
   rw [hm.gen k b0 hb]
 · simp only [List.length_map] at hk
   simp only [if_neg (show ¬ k<bs.length by omega),and_self]
 · cases h
 · cases h
 · rcases hz with (hz | ⟨k,o,hb⟩) | hz
   · have:=hm.zlt b hz; omega
   · have:=(hm.own k b o hb).1; omega
   · exact hz.2
 · rcases hz with (hz | hz) | hz
   · exact .inl hz
   · exact .inr (.inl hz)
   · exact .inr (.inr hz.1)
 · exact hfr.weaken fun _ h=>h.elim
/-- To the end of a function that turns what it was handed: the first 'm' blocks are left. -/
def endB (P:Program) (fn:Func) (live:List Nat) (m n:Nat) (K:List Item) (st:St) (evs:List EV):Option (AV × List Blk × List Prop) :=
 match walk P n K st evs with
 | some (K',st1,evs1,o1) =>
  (match isEnd K',weak live m st1 with
  | true,some st2 =>
   (match resA P st2 fn.results.toList evs1 with
   | some (vs,_,o2)=>some (tupA vs,st2.blks,o1++o2)
   | none=>none)
  | _,_=>none)
 | none=>none
theorem Xz {n m:Nat} {live:List Nat} {f:FuncId} {fn:Func} {evs:List EV} {r res:AV} {gA:List AV} {bs2 bs3:List Blk} {obs:List Prop} (hE:LentE P f gA res bs2 E) (hgh:refsBelows m E.gA=true) (hf:P.funcs[f]?=some fn) (hmx:P.follows .mixedOrders=true)
 (h:endB P fn live m n K st evs=some (r,bs3,obs)) (ho:AllP obs) (hr:r=res) (hb:bs3=bs2):G P E K st:=by
 subst hr
 subst hb
 unfold endB at h
 split at h
 · rename_i K' st1 evs1 o1 h1
   split at h
   · rename_i st2 hK h2
     split at h
     · rename_i vs evs2 o2 h3
       simp only [Option.some.injEq,Prod.mk.injEq] at h
       obtain ⟨rfl,rfl,rfl⟩:=h
       obtain ⟨a1,a2⟩:=Qm.1 ho
       have hfn:=hE.fn
       refine QJ hE.kind hmx h1 a1 (weak_step hgh h2 (G_end (Post:=Left E.Z0 E.M E.w0 E.Cb (tupA vs) st2.blks) hE.ro hE.kind hE.df (by rw [hfn]; exact hf) (by rw [hE.fin,hfn]) h3 a2 (fun C Z w v hm hv hbs=>⟨C,Z,hbs,hm,hv⟩) (yA hK)))
     · cases h
   · cases h
 · cases h
end
end Ax
namespace Ax
open Go
/-- The first operation that comes. -/
def holdK:Nat→List Item→Option (Array Oper × List Nat × List Item)
 | n+1,.code (.seq x y) :: k=>holdK n (.code x :: .code y :: k)
 | n+1,.code (.block id b) :: k=>holdK n (.code b :: .inBlock id :: k)
 | _+1,.code (.region _ ops false) :: k=>(match List.range' 0 ops.size with
  | 0 :: is=>some (ops,is,k)
  | _=>none)
 | _,_=>none
/-- Behind the first operation. -/
def qj (K:List Item):List Item :=
 match holdK 50 K with
 | some (ops,is,k)=>.inRegion ops is :: k
 | none=>[]
/-- The first operation is a step of a range over a map. -/
def nextOp (K:List Item):Option (Operand × Nat) :=
 match holdK 50 K with
 | some (ops,_,_)=>(match (ops[0]?:Option Oper) with
  | some ⟨some d,.next it false,_,_,_,none⟩=>some (it,d)
  | _=>none)
 | none=>none
def VK (seen:List Nat):List AV:=seen.map fun s:Nat=>(.int .i64 s:AV)
section
variable {P:Program} {E:Env} {K k:List Item} {st:St}
theorem next_run {w : World} {it : Value} {r m n : Nat} {seen : Array Nat} {es : Array MapEntry} (ty : TypeId) (hit : it = .pointer (some ⟨r, 0, none⟩)) (hr : w.heap[r]? = some (.mapIter (some m) n seen n)) (hm : w.heap[m]? = some (.map es es.size)) (hn : n = es.size)
    (hb : ∀ (i : Nat) (e : MapEntry), es[i]? = some e → e.born = i) :
    (∃ d : Nat, (Instr.next it false ty).run P w = .ok (.tuple #[.bool false]) { w with drawn := w.drawn + d } ∧ ∀ s, s < es.size → s ∈ seen.toList) ∨
    (∃ (d s : Nat) (a b : Value), s < es.size ∧ s ∉ seen.toList ∧ (Instr.next it false ty).run P w = .ok (.tuple #[.bool true, a, b]) (({ w with drawn := w.drawn + d } : World).putObj r (.mapIter (some m) n (seen.push s) n))) := by
  subst hit
  have hg1 : (getObj r).run P w = .ok (.mapIter (some m) n seen n) w := Xo hr (by intro c t f; simp)
  have hg2 : (getObj m).run P w = .ok (.map es es.size) w := Xo hm (by intro c t f; simp)
  have hall : (!seen.isEmpty && !es.isEmpty && es.all (fun e => decide (e.born ≥ n))) = false := by
    cases he : es.isEmpty with
    | true => simp
    | false =>
      have hpos : 0 < es.size := by
        rcases Nat.eq_zero_or_pos es.size with h | h
        · rw [Array.isEmpty] at he; simp [h] at he
        · exact h
      have : es.all (fun e => decide (e.born ≥ n)) = false := by
        rw [Bool.eq_false_iff]
        intro h
        rw [Array.all_eq_true] at h
        have h0 := h 0 hpos
        have := hb 0 es[0] (by simp [hpos])
        simp at h0; omega
      simp [this]
  let left := es.filter fun e => !seen.contains e.born
  have hold : left.filter (fun e => decide (e.born < n)) = left := by
    rw [Array.filter_eq_self]
    intro e he
    have he := (Array.mem_filter.1 he).1
    obtain ⟨i, hi⟩ := Array.getElem?_of_mem he
    have := hb i e hi
    have := (Array.getElem?_eq_some_iff.1 hi).1
    simp; omega
  have hnew : left.filter (fun e => decide (e.born ≥ n)) = #[] := by
    rw [Array.filter_eq_empty_iff]
    intro e he
    have he := (Array.mem_filter.1 he).1
    obtain ⟨i, hi⟩ := Array.getElem?_of_mem he
    have := hb i e hi
    have := (Array.getElem?_eq_some_iff.1 hi).1
    simp; omega
  let cand : Array (Option MapEntry) := (if left.isEmpty then #[none] else #[]) ++ (left ++ #[]).map some
  have hrun : (Instr.next (.pointer (some ⟨r, 0, none⟩)) false ty).run P w = ((choose (.mapNext cand.size)).run P w).andThen fun c w1 =>
      (match cand[c]? with
      | some (some e) => (do setObj r (.mapIter (some m) n (seen.push e.born) es.size); pure (.tuple #[.bool true, e.key, e.val]) : Sem Value)
      | some none => pure (.tuple #[.bool false])
      | none => stuck "Next: no such candidate").run P w1 := by
    simp only [Instr.next, Sem.run_bind, hg1, Result.andThen_ok, hg2, hall, Bool.false_eq_true, if_false, Sem.run_pure]
    rw [show (es.filter fun e => !seen.contains e.born) = left from rfl, hold, hnew]
    rfl
  have hch : ∃ d c, (choose (.mapNext cand.size)).run P w = .ok c { w with drawn := w.drawn + d } ∧ (0 < cand.size → c < cand.size) := by
    by_cases hf : cand.size ≤ 1
    · refine ⟨0, 0, ?_, fun h => h⟩
      simp [choose, Sem.run, Question.forced, hf]
    · refine ⟨1, w.tape w.drawn (.mapNext cand.size) % cand.size, ?_, fun h => Nat.mod_lt _ h⟩
      simp [choose, Sem.run, Question.forced, hf, Question.cut]
  obtain ⟨d, c, hc1, hc2⟩ := hch
  rw [hrun, hc1]
  simp only [Result.andThen_ok]
  by_cases he : left.isEmpty = true
  · left
    refine ⟨d, ?_, fun s hs => ?_⟩
    · have hl : left = #[] := by simpa using he
      have hcand : cand = #[none] := by simp [cand, hl]
      rw [hcand] at hc2 ⊢
      have : c = 0 := by have := hc2 (by simp); simp at this; exact this
      subst this
      simp
    · have hl : left = #[] := by simpa using he
      rw [Array.filter_eq_empty_iff] at hl
      have hes : es[s]? = some es[s] := by simp [hs]
      have := hl _ (Array.mem_of_getElem? hes)
      have hbs := hb s _ hes
      simp at this
      rw [hbs] at this
      simpa using this
  · right
    have hcand : cand = left.map some := by simp [cand, he]
    have hpos : 0 < left.size := by
      rcases Nat.eq_zero_or_pos left.size with h | h
      · exact absurd (by simpa using h) he
      · exact h
    have hcl : c < left.size := by
      have := hc2 (by rw [hcand]; simpa using hpos)
      rw [hcand] at this; simpa using this
    have hce : cand[c]? = some (some left[c]) := by rw [hcand]; simp [hcl]
    have hmem : left[c] ∈ left := Array.getElem_mem hcl
    obtain ⟨h1, h2⟩ := Array.mem_filter.1 hmem
    obtain ⟨i, hi⟩ := Array.getElem?_of_mem h1
    have hbi := hb i _ hi
    have hil := (Array.getElem?_eq_some_iff.1 hi).1
    rw [hce]
    have hset := yl (P := P) (w := { w with drawn := w.drawn + d }) (r := r) (ob := .mapIter (some m) n seen n) (ob' := .mapIter (some m) n (seen.push left[c].born) es.size) hr (by intro c t f; simp)
    refine ⟨d, i, left[c].key, left[c].val, hil, ?_, ?_⟩
    · simp at h2
      rw [hbi] at h2
      simpa using h2
    · simp only [Sem.run_bind, hset, Result.andThen_ok, Sem.run_pure]
      rw [hbi, hn]

theorem World.drew_evo {C:Ctx} {Z:Nat→Prop} {w:World} {d:Nat}:Evo C Z Z w { w with drawn:=w.drawn+d }:=⟨fun _ h=>h,fun _ _=>rfl,fun _ _ _ arr _ _ h=>⟨arr,h,rfl⟩⟩
theorem next_step {ops:Array Oper} {i ki n d:Nat} {is:List Nat} {o:Oper} {it:Operand} {mref:AV} {cells:List AV} {seen:List Nat} (ho:ops[i]?=some o) (hop:o.op=.next it false) (hd:o.dst=some d) (hgd:o.guard=none) {HK:Prop} (hk:HK)
 (hit:YD st.tmps it=.mp ki 0 true) (hbi:st.blks[ki]?=some ⟨true,0,0,false,mref :: .int .i64 n :: VK seen,false⟩)
 (hm:(∃ km bm,mref=.mp km 0 false∧st.blks[km]?=some bm∧bm.live=true∧bm.sz=0∧bm.flat=true∧bm.gen=0∧bm.cells=cells) ∨ mref=.rmap cells) (hn:n=cells.length)
 (hA:∀ s,s<cells.length→s ∉ seen→G P E (.inRegion ops is :: k) ⟨st.tmps.set d (.tup [.bool true,.junk,.junk]),st.blks.set ki ⟨true,0,0,false,mref :: .int .i64 n :: VK (seen++[s]),false⟩⟩)
 (hB:(∀ s,s<cells.length→s ∈ seen)→G P E (.inRegion ops is :: k) ⟨st.tmps.set d (.tup [.bool false]),st.blks⟩):G P E (.inRegion ops (i :: is) :: k) st:=by
 intro C Z a w hr
 have hv:=XD hr.tmp it
 rw [hit] at hv
 obtain ⟨blk,ob,obj,hβ,hval,q1,q2⟩:=Wl hr.mem hbi rfl rfl rfl hv
 simp only [Xq,Bool.false_eq_true,if_false] at q2
 obtain ⟨m,n',sn,rfl,l1,⟨c0,l2,l3⟩,l4,l5⟩:=q2
 simp only [List.getElem?_cons_zero,Option.some.injEq] at l2; subst l2
 have hn':n'=n:=by
  simp only [List.getElem?_cons_succ,List.getElem?_cons_zero,Option.some.injEq,AV.int.injEq,true_and] at l4; omega
 subst hn'
 have hsn:sn.toList=seen:=by
  have hlen:sn.size=seen.length:=by simp [VK] at l1; omega
  apply List.ext_getElem?
  intro j
  by_cases hj:j<sn.size
  · have h1:sn[j]?=some sn[j]:=by simp [hj]
    have h2:=l5 j _ h1
    simp only [List.getElem?_cons_succ,VK,List.getElem?_map] at h2
    have h3:seen[j]?=some (seen[j]'(by omega)):=List.getElem?_eq_getElem (by omega)
    rw [h3] at h2 ⊢
    simp only [Option.map_some,Option.some.injEq,AV.int.injEq,true_and] at h2
    rw [Array.getElem?_toList,h1]; congr 1; omega
  · rw [List.getElem?_eq_none (by simpa using hj),List.getElem?_eq_none (by omega)]
 have hmap:∃ es:Array MapEntry,w.heap[m]?=some (.map es es.size)∧es.size=cells.length∧∀ (i:Nat) (e:MapEntry),es[i]?=some e→e.born=i:=by
  rcases hm with ⟨km,bm,rfl,e1,e2,e3,e4,e5,rfl⟩ | rfl
  · obtain ⟨blk2,o2,ob2,hβ2,hc2,r1,r2⟩:=Wl hr.mem e1 e2 e3 e5.symm l3
    simp only [Vu,Bool.false_eq_true,if_false,Value.map.injEq,Option.some.injEq] at hc2
    subst hc2
    obtain ⟨es,rfl,f1,f2⟩:=r2.ents e4
    exact ⟨es,r1,by have:=f1.1; simpa using this.symm,f2⟩
  · cases l3 with
    | rmap es hz hh hl hb hr=>exact ⟨es,hh,hl.symm,hb⟩
 obtain ⟨es,hes,hsz,hborn⟩:=hmap
 have hwc:Region.wanted o (yielded ops a.tmps)=true:=by simp [Region.wanted,hgd]
 have hgo:=stepGR_op (P:=P) (b:=E.b) (k:=k) (cs:=E.cs) (w:=w) (rest:=is) ho hwc
 rw [Oper.semAt_eq _ _ _ (by rw [hop]; intro c h; cases h)] at hgo
 have hfin:∀ v,(E.b.atR a (.inRegion ops (i :: is) :: k)).finish v=E.b.atR (a.put o.dst v) (.inRegion ops is :: k):=by
  intro v; rw [Frame.finish_atR,ho]; rfl
 have hexec:∀ {c:Value} {w':World},(Instr.next (a.eval it) false o.type).run P w=.ok c w'→(execOp a.eval o).run P w=.ok (.value c) w':=fun {c w'} h=>by
  simp only [execOp,hop,Sem.run_bind,h,Result.andThen_ok,Sem.run_pure]
 have hdef:∀ c,(a.put o.dst c).defers=a.defers:=fun c=>by rw [hd]; rfl
 have hput:∀ {c:Value} {v:AV} {Z':Nat→Prop} {w':World} {C':Ctx},VRs Z' w' C' st.tmps a.tmps.toList→VR Z' w' C' v c→VRs Z' w' C' (st.tmps.set d v) (a.put o.dst c).tmps.toList:=fun {c v Z' w' C'} h1 h2=>by
  have:=h1.put h2 o.dst
  rw [hd] at this ⊢
  exact this
 have hitv:a.eval it=.pointer (some ⟨blk,0,none⟩):=by rw [hval]; rfl
 rcases next_run (P:=P) (w:=w) o.type hitv q1 hes (by omega) hborn with ⟨dd,h1,h2⟩ | ⟨dd,s,ka,va,h1,h2,h3⟩
 · have ev:=World.drew_evo (C:=C) (Z:=Z) (w:=w) (d:=dd)
   have hmem:Mem E.Z0 E.M E.w0 C Z st.blks { w with drawn:=w.drawn+dd }:=by
    have hm:=hr.mem
    refine ⟨fun k b hb hl=>?_,hm.gen,hm.dd,hm.dom,hm.inj,hm.own,hm.zlt,hm.z0,hm.zsub,⟨hm.frame.os,hm.frame.tape,hm.frame.output,hm.frame.size,hm.frame.same⟩⟩
    obtain ⟨q1,q2⟩:=hm.blk k b hb hl
    refine ⟨q1,?_⟩
    cases hs:C.β k with
    | absent=>simp [hs] at q2
    | unborn=>simp only [hs] at q2 ⊢; exact q2
    | loc blk o=>simp only [hs] at q2 ⊢; exact q2.next rfl (fun c v h=>h.mono World.drew_evo) (fun _ c v _ h=>h.mono ev)
   refine .step (.one (step_lone_go ?_)) (hB (fun s hs=>by rw [← hsn]; exact h2 s (by omega)) C Z (a.put o.dst (.tuple #[.bool false])) { w with drawn:=w.drawn+dd }
    ⟨hput (hr.tmp.next (.refl C) ev) (.tup rfl fun j c v p q=>?_),hmem,by rw [hdef]; exact hr.marks.evo ev,hr.gh.next (.refl C) ev,hr.base.next (.refl C) ev⟩)
   · rw [hgo,← hfin]; simp [stepG.apply,hexec h1]
   · match j,p,q with
     | 0,p,q=>simp at p q; subst p; subst q; exact .bool _
     | j+1,p,q=>simp at p
 · have hblt:blk<w.heap.size:=(hr.mem.own ki blk ob hβ).1
   have hC:C.put ki (.loc blk ob) 0=C:=by
    have e1:=hr.mem.gen ki _ hbi
    cases C with
    | mk β γ =>
     simp only [Ctx.put,Ctx.mk.injEq]
     constructor
     · funext j; by_cases e:j=ki
       · subst e; simp; exact hβ.symm
       · simp [e]
     · funext j; by_cases e:j=ki
       · subst e; simp; exact e1.symm
       · simp [e]
   obtain ⟨hkc,-⟩:=hr.mem.blk ki _ hbi rfl
   have hch:=hr.mem.change (w':=({ w with drawn:=w.drawn+dd }:World).putObj blk (.mapIter (some m) n' (sn.push s) n')) (b':=⟨true,0,0,false,mref :: .int .i64 n' :: VK (seen++[s]),false⟩) (s:=.loc blk ob) (g:=0) hbi
    rfl rfl rfl (by simp) (fun c hc hne=>World.putObj_heap_other (fun e=>hne ob (by rw [e]; exact hβ)))
    (fun blk2 o2 arr2 e2 h2 h3=>by
      rw [hβ] at h2; simp only [Slot.loc.injEq] at h2; obtain ⟨rfl,rfl⟩:=h2
      rw [q1] at h3; cases h3)
    (by rw [hr.mem.gen ki _ hbi]; exact Nat.le_refl _) (fun _ _=>hβ.symm) rfl rfl (fun blk2 o2 h2=>by simp only [Slot.loc.injEq] at h2; obtain ⟨rfl,rfl⟩:=h2; exact .inl ⟨_,hβ⟩)
    (fun hle hevo _=>by
      refine ⟨fun i c hi=>?_,?_⟩
      · match i,hi with
        | 0,hi=>exact hkc 0 c (by simpa using hi)
        | 1,hi=>simp at hi; subst hi; rfl
        | i+2,hi =>
         simp only [List.getElem?_cons_succ,VK,List.getElem?_map,Option.map_eq_some_iff] at hi
         obtain ⟨x,-,rfl⟩:=hi; rfl
      · simp only [hC,hβ]
        refine .inr ⟨rfl,_,World.putObj_heap_same hblt,?_⟩
        simp only [Xq,Bool.false_eq_true,if_false]
        have hlen:sn.size=seen.length:=by rw [← hsn]; simp
        refine ⟨m,n',sn.push s,rfl,by simp [VK,hlen],⟨mref,rfl,?_⟩,rfl,fun j x hj=>?_⟩
        · have hx:=l3.mono hevo
          have:=hx.grow hle
          rw [hC] at this
          exact this
        · simp only [List.getElem?_cons_succ,VK,List.getElem?_map]
          rw [Array.getElem?_push] at hj
          rw [List.getElem?_append]
          split at hj
          · rename_i e
            cases hj
            rw [if_neg (by omega),e,hlen,Nat.sub_self]; rfl
          · have hjl:=(Array.getElem?_eq_some_iff.1 hj).1
            rw [if_pos (by omega)]
            have:seen[j]?=some x:=by rw [← hsn]; simpa using hj
            rw [this]; rfl)
   rw [hC] at hch
   obtain ⟨hm',hle,hevo⟩:=hch
   refine .step (.one (step_lone_go ?_)) (hA s (by omega) (by rw [← hsn]; exact h2) C Z (a.put o.dst (.tuple #[.bool true,ka,va])) _
    ⟨hput (hr.tmp.next (.refl C) hevo) (.tup rfl fun j c v p q=>?_),hm',by rw [hdef]; exact hr.marks.evo hevo,hr.gh.next (.refl C) hevo,hr.base.next (.refl C) hevo⟩)
   · rw [hgo,← hfin]; simp [stepG.apply,hexec h3]
   · match j,p,q with
     | 0,p,q=>simp at p q; subst p; subst q; exact .bool _
     | 1,p,q=>simp at p q; subst p; exact .junk _
     | 2,p,q=>simp at p q; subst p; exact .junk _
     | j+3,p,q=>simp at p
theorem VU:∀ {n:Nat} {K:List Item} {ops:Array Oper} {is:List Nat} {k:List Item} {st:St},holdK n K=some (ops,is,k)→G P E (.inRegion ops (0 :: is) :: k) st→G P E K st
 | 0,K,ops,is,k,st,h,hg=>by cases K <;> simp [holdK] at h
 | n+1,K,ops,is,k,st,h,hg=>by
  unfold holdK at h
  split at h
  · exact .of_step (fun a w=>stepR_seq) (VU h hg)
  · exact .of_step (fun a w=>stepR_block) (VU h hg)
  · rename_i id ops' k'
    split at h
    · rename_i is' hr
      simp only [Option.some.injEq,Prod.mk.injEq] at h
      obtain ⟨rfl,rfl,rfl⟩:=h
      rw [← List.range_eq_range'] at hr
      refine .of_step (fun a w=>stepR_region) ?_
      rw [hr]; exact hg
    · cases h
  · cases h
/-- A loop's head that is a step of a range over a map. -/
theorem next_head {ki n d:Nat} {it:Operand} {mref:AV} {cells:List AV} {seen:List Nat} {HK:Prop} (hk:HK) (h1:nextOp K=some (it,d))
 (hit:YD st.tmps it=.mp ki 0 true) (hbi:st.blks[ki]?=some ⟨true,0,0,false,mref :: .int .i64 n :: VK seen,false⟩)
 (hm:(∃ km bm,mref=.mp km 0 false∧st.blks[km]?=some bm∧bm.live=true∧bm.sz=0∧bm.flat=true∧bm.gen=0∧bm.cells=cells) ∨ mref=.rmap cells) (hn:n=cells.length)
 (hA:∀ s,s<cells.length→s ∉ seen→G P E (qj K) ⟨st.tmps.set d (.tup [.bool true,.junk,.junk]),st.blks.set ki ⟨true,0,0,false,mref :: .int .i64 n :: VK (seen++[s]),false⟩⟩)
 (hB:(∀ s,s<cells.length→s ∈ seen)→G P E (qj K) ⟨st.tmps.set d (.tup [.bool false]),st.blks⟩):G P E K st:=by
 unfold nextOp at h1
 split at h1
 · rename_i ops is k hh
   split at h1
   · rename_i d' it' a b c ho
     simp only [Option.some.injEq,Prod.mk.injEq] at h1
     obtain ⟨rfl,rfl⟩:=h1
     have e:qj K=.inRegion ops is :: k:=by simp only [qj,hh]
     rw [e] at hA hB
     exact VU hh (next_step ho rfl rfl rfl hk hit hbi hm hn hA hB)
   · cases h1
 · cases h1
/-- An iterator's cells. -/
def itA (mref:AV) (n:Nat) (seen:List Nat):List AV:=mref :: .int .i64 n :: VK seen
theorem Kh {mref:AV} {n s:Nat} {seen:List Nat}:(itA mref n (seen++[s])).getLast?=some (.int .i64 s):=by
 rw [itA,VK,List.map_append,← List.cons_append,← List.cons_append,List.map_singleton,List.getLast?_concat]
theorem it_two {mref:AV} {n s:Nat} {seen:List Nat}:2<(itA mref n (seen++[s])).length:=by simp [itA,VK]
end
end Ax
namespace Go.Proofs.Ytfgmlaeikcfpbaa
open Go Ax
open Go.Proofs
theorem Qi:Try.prog.follows .mixedOrders=true:=by kernel_rfl
structure Trn where
 w:Int
 to:Int
def cTrn (t:Trn):List AV:=[.int .i64 t.w,.int .i64 t.to]
def Qk (l:List Trn):List AV:=l.flatMap cTrn
structure Stg where
 kind:Int
 prize:Int
 turns:List Trn
def cStg (x:Stg):List AV:=[.int .i64 x.kind,.int .i64 x.prize,.rsl (Qk x.turns) 0 x.turns.length]
def Qd (l:List Stg):List AV:=l.flatMap cStg
structure Stl where
 stages:List Stg
 worth:List Int
 price:Int
def cStl (s:Stl):List AV:=[.rsl (Qd s.stages) 0 s.stages.length,.rsl (rowI s.worth) 0 s.worth.length,.int .i64 s.price]
structure Mch where
 s:Stl
 meas:List Int
 mult:List Int
def cMch (m:Mch):List AV:=[.rsl (Qd m.s.stages) 0 m.s.stages.length,.rsl (rowI m.s.worth) 0 m.s.worth.length,.int .i64 m.s.price,.rsl (rowI m.meas) 0 m.meas.length,.rsl (rowI m.mult) 0 m.mult.length]
theorem f65b:Try.f65.body=some (Qe Try.prog 65):=by kernel_rfl
theorem u65 {a c k:List AV} {r:AV} (h:Pure Try.prog 65 (a++c++k) r):Qg Try.prog (.clos 65 a k) c r:=Ql Try.func65 (by kernel_rfl) f65b h
theorem p65_start_0 (n:Int) (lo:Int) (hi:Int) {E:Env} {res:AV} (hE:Qf Try.prog 65 res E) (ho:AllP [(decide (n≥lo))=true])
 (hr:AvLe (.bool (decide (n≤hi))) res):G Try.prog E [.code (Qe Try.prog 65)] ⟨[.int .i64 n,.int .i64 lo,.int .i64 hi]++unds (Try.f65.ntmps - 3),[]⟩ :=
 Qc (n:=400) (evs:=[.b true]) (obs:=_) hE Try.func65 Qi (by kernel_rfl) ho hr
theorem p65_start_1 (n:Int) (lo:Int) (hi:Int) {E:Env} {res:AV} (hE:Qf Try.prog 65 res E) (ho:AllP [(decide (n≥lo))=false])
 (hr:AvLe (.bool false) res):G Try.prog E [.code (Qe Try.prog 65)] ⟨[.int .i64 n,.int .i64 lo,.int .i64 hi]++unds (Try.f65.ntmps - 3),[]⟩ :=
 Qc (n:=400) (evs:=[.b false]) (obs:=_) hE Try.func65 Qi (by kernel_rfl) ho hr
theorem f65W (n:Int) (lo:Int) (hi:Int) {E:Env} {rv:Bool} (hE:Qf Try.prog 65 (.bool rv) E)
 (h:((n≥lo→rv=(decide (n≤hi)))∧(¬ (n≥lo)→rv=false))):G Try.prog E [.code (Qe Try.prog 65)] ⟨[.int .i64 n,.int .i64 lo,.int .i64 hi]++unds (Try.f65.ntmps - 3),[]⟩:=by
 rcases bft (decide (n≥lo)) with hc0 | hc0
 · have h:=h.1 (odt hc0)
   exact p65_start_0 n lo hi hE ⟨hc0,trivial⟩ (AvLe.of_eq (by rw [h]; try rfl))
 · have h:=h.2 (odf hc0)
   exact p65_start_1 n lo hi hE ⟨hc0,trivial⟩ (AvLe.of_eq (by rw [h]; try rfl))
theorem f62b:Try.f62.body=some (Qe Try.prog 62):=by kernel_rfl
theorem u62 {a c k:List AV} {r:AV} (h:Pure Try.prog 62 (a++c++k) r):Qg Try.prog (.clos 62 a k) c r:=Ql Try.func62 (by kernel_rfl) f62b h
theorem p62_start_0 (n:Int) (lo:Int) (hi:Int) {E:Env} {res:AV} (hE:Qf Try.prog 62 res E) (ho:AllP [(decide (n≥lo))=true])
 (hr:AvLe (.bool (decide (n≤hi))) res):G Try.prog E [.code (Qe Try.prog 62)] ⟨[.int .i64 n,.int .i64 lo,.int .i64 hi]++unds (Try.f62.ntmps - 3),[]⟩ :=
 Qc (n:=400) (evs:=[.b true]) (obs:=_) hE Try.func62 Qi (by kernel_rfl) ho hr
theorem p62_start_1 (n:Int) (lo:Int) (hi:Int) {E:Env} {res:AV} (hE:Qf Try.prog 62 res E) (ho:AllP [(decide (n≥lo))=false])
 (hr:AvLe (.bool false) res):G Try.prog E [.code (Qe Try.prog 62)] ⟨[.int .i64 n,.int .i64 lo,.int .i64 hi]++unds (Try.f62.ntmps - 3),[]⟩ :=
 Qc (n:=400) (evs:=[.b false]) (obs:=_) hE Try.func62 Qi (by kernel_rfl) ho hr
theorem f62W (n:Int) (lo:Int) (hi:Int) {E:Env} {rv:Bool} (hE:Qf Try.prog 62 (.bool rv) E)
 (h:((n≥lo→rv=(decide (n≤hi)))∧(¬ (n≥lo)→rv=false))):G Try.prog E [.code (Qe Try.prog 62)] ⟨[.int .i64 n,.int .i64 lo,.int .i64 hi]++unds (Try.f62.ntmps - 3),[]⟩:=by
 rcases bft (decide (n≥lo)) with hc0 | hc0
 · have h:=h.1 (odt hc0)
   exact p62_start_0 n lo hi hE ⟨hc0,trivial⟩ (AvLe.of_eq (by rw [h]; try rfl))
 · have h:=h.2 (odf hc0)
   exact p62_start_1 n lo hi hE ⟨hc0,trivial⟩ (AvLe.of_eq (by rw [h]; try rfl))
def Qa (n lo hi:Int):Bool:=decide (n≥lo) && decide (n≤hi)
theorem Qr (n lo hi:Int):Pure Try.prog 65 [.int .i64 n,.int .i64 lo,.int .i64 hi] (.bool (Qa n lo hi)):=Qq Try.func65 f65b fun E hE=>by
 refine f65W n lo hi hE ⟨fun h=>by simp [Qa,h],fun h=>by simp only [Qa]; rw [decide_eq_false h]; rfl⟩
theorem Qt (n lo hi:Int):Pure Try.prog 62 [.int .i64 n,.int .i64 lo,.int .i64 hi] (.bool (Qa n lo hi)):=Qq Try.func62 f62b fun E hE=>by
 refine f62W n lo hi hE ⟨fun h=>by simp [Qa,h],fun h=>by simp only [Qa]; rw [decide_eq_false h]; rfl⟩
theorem Qz {n lo hi:Int}:Qa n lo hi=true ↔ lo≤n∧n≤hi:=by simp [Qa]
theorem yi {n lo hi:Int}:Qa n lo hi=false ↔ ¬ (lo≤n∧n≤hi):=by rw [← Qz]; simp
theorem f117b:Try.f117.body=some (Qe Try.prog 117):=by kernel_rfl
theorem u117 {a c k:List AV} {r:AV} (h:Pure Try.prog 117 (a++c++k) r):Qg Try.prog (.clos 117 a k) c r:=Ql Try.func117 (by kernel_rfl) f117b h
def f117K0 (P:Program):List Item:=kAt 400 [.code (Qe P 117)] [.stop]
def f117S0 (a:Int) (b:Int) (a1:Int) (b1:Int):St:=⟨([.int .i64 a1,.int .i64 b1]++Js 11),[]⟩
def f117G0 (E:Env) (a:Int) (b:Int) (a1:Int) (b1:Int):Prop:=G Try.prog E (f117K0 Try.prog) (f117S0 a b a1 b1 )
theorem p117_start_0 (a:Int) (b:Int) {E:Env} {rv:AV} (hE:Qf Try.prog 117 rv E) (ho:AllP [])
 (hg:G Try.prog E (f117K0 Try.prog) ⟨([.int .i64 a,.int .i64 b]++Js 11),[]⟩):G Try.prog E [.code (Qe Try.prog 117)] ⟨[.int .i64 a,.int .i64 b]++unds (Try.f117.ntmps - 2),[]⟩ :=
 Qh (n:=400) (ds:=[]) (cs:=[]) (live:=[0,1]) (m:=0) (evs:=[.stop]) (obs:=_) hE.2.1 (hE.nogh _) Qi (by kernel_rfl) ho hg
theorem f117W (a:Int) (b:Int) {E:Env} {rv:Int} (hE:Qf Try.prog 117 (.int .i64 rv) E)
 (h:f117G0 E a b a b):G Try.prog E [.code (Qe Try.prog 117)] ⟨[.int .i64 a,.int .i64 b]++unds (Try.f117.ntmps - 2),[]⟩:=by
 exact p117_start_0 a b hE trivial h
theorem p117_0_0 (a:Int) (b:Int) (a1:Int) (b1:Int) {E:Env} {rv:AV} (hE:Qf Try.prog 117 rv E) (ho:AllP [(decide (b1 > 0))=true,b1 ≠ 0])
 (hg:G Try.prog E (f117K0 Try.prog) ⟨([.int .i64 b1,.int .i64 (Int.tmod a1 b1)]++Js 11),[]⟩):G Try.prog E (f117K0 Try.prog) (f117S0 a b a1 b1 ) :=
 Qh (n:=400) (ds:=[]) (cs:=[]) (live:=[0,1]) (m:=0) (evs:=[.b true,.stop]) (obs:=_) hE.2.1 (hE.nogh _) Qi (by kernel_rfl) ho hg
theorem p117_0_1 (a:Int) (b:Int) (a1:Int) (b1:Int) {E:Env} {res:AV} (hE:Qf Try.prog 117 res E) (ho:AllP [(decide (b1 > 0))=false])
 (hr:AvLe (.int .i64 (iMax a1 1)) res):G Try.prog E (f117K0 Try.prog) (f117S0 a b a1 b1 ) :=
 Qc (n:=400) (evs:=[.b false]) (obs:=_) hE Try.func117 Qi (by kernel_rfl) ho hr
theorem f117W0 (a:Int) (b:Int) (a1:Int) (b1:Int) {E:Env} {rv:Int} (hE:Qf Try.prog 117 (.int .i64 rv) E)
 (h:((b1 > 0→(b1 ≠ 0∧f117G0 E a b b1 (Int.tmod a1 b1)))∧(¬ (b1 > 0)→rv=(iMax a1 1)))):f117G0 E a b a1 b1:=by
 rcases bft (decide (b1 > 0)) with hc0 | hc0
 · have h:=h.1 (odt hc0)
   obtain ⟨q1_1,h⟩:=h
   exact p117_0_0 a b a1 b1 hE ⟨hc0,q1_1,trivial⟩ h
 · have h:=h.2 (odf hc0)
   exact p117_0_1 a b a1 b1 hE ⟨hc0,trivial⟩ (AvLe.of_eq (by rw [h]; try rfl))
theorem f49b:Try.f49.body=some (Qe Try.prog 49):=by kernel_rfl
theorem u49 {a c k:List AV} {r:AV} (h:Pure Try.prog 49 (a++c++k) r):Qg Try.prog (.clos 49 a k) c r:=Ql Try.func49 (by kernel_rfl) f49b h
def f49K0 (P:Program):List Item:=kAt 400 [.code (Qe P 49)] [.stop]
def f49S0 (a:Int) (b:Int) (a1:Int) (b1:Int):St:=⟨([.int .i64 a1,.int .i64 b1]++Js 12),[]⟩
def f49G0 (E:Env) (a:Int) (b:Int) (a1:Int) (b1:Int):Prop:=G Try.prog E (f49K0 Try.prog) (f49S0 a b a1 b1 )
theorem p49_start_0 (a:Int) (b:Int) {E:Env} {rv:AV} (hE:Qf Try.prog 49 rv E) (ho:AllP [])
 (hg:G Try.prog E (f49K0 Try.prog) ⟨([.int .i64 a,.int .i64 b]++Js 12),[]⟩):G Try.prog E [.code (Qe Try.prog 49)] ⟨[.int .i64 a,.int .i64 b]++unds (Try.f49.ntmps - 2),[]⟩ :=
 Qh (n:=400) (ds:=[]) (cs:=[]) (live:=[0,1]) (m:=0) (evs:=[.stop]) (obs:=_) hE.2.1 (hE.nogh _) Qi (by kernel_rfl) ho hg
theorem f49W (a:Int) (b:Int) {E:Env} {rv:Int} (hE:Qf Try.prog 49 (.int .i64 rv) E)
 (h:f49G0 E a b a b):G Try.prog E [.code (Qe Try.prog 49)] ⟨[.int .i64 a,.int .i64 b]++unds (Try.f49.ntmps - 2),[]⟩:=by
 exact p49_start_0 a b hE trivial h
theorem p49_0_0 (a:Int) (b:Int) (a1:Int) (b1:Int) {E:Env} {rv:AV} (hE:Qf Try.prog 49 rv E) (ho:AllP [(decide (b1 > 0))=true,b1 ≠ 0])
 (hg:G Try.prog E (f49K0 Try.prog) ⟨([.int .i64 b1,.int .i64 (Int.tmod a1 b1)]++Js 12),[]⟩):G Try.prog E (f49K0 Try.prog) (f49S0 a b a1 b1 ) :=
 Qh (n:=400) (ds:=[]) (cs:=[]) (live:=[0,1]) (m:=0) (evs:=[.b true,.stop]) (obs:=_) hE.2.1 (hE.nogh _) Qi (by kernel_rfl) ho hg
theorem p49_0_1 (a:Int) (b:Int) (a1:Int) (b1:Int) {E:Env} {res:AV} (hE:Qf Try.prog 49 res E) (ho:AllP [(decide (b1 > 0))=false])
 (hr:AvLe (.int .i64 a1) res):G Try.prog E (f49K0 Try.prog) (f49S0 a b a1 b1 ) :=
 Qc (n:=400) (evs:=[.b false]) (obs:=_) hE Try.func49 Qi (by kernel_rfl) ho hr
theorem f49W0 (a:Int) (b:Int) (a1:Int) (b1:Int) {E:Env} {rv:Int} (hE:Qf Try.prog 49 (.int .i64 rv) E)
 (h:((b1 > 0→(b1 ≠ 0∧f49G0 E a b b1 (Int.tmod a1 b1)))∧(¬ (b1 > 0)→rv=a1))):f49G0 E a b a1 b1:=by
 rcases bft (decide (b1 > 0)) with hc0 | hc0
 · have h:=h.1 (odt hc0)
   obtain ⟨q1_1,h⟩:=h
   exact p49_0_0 a b a1 b1 hE ⟨hc0,q1_1,trivial⟩ h
 · have h:=h.2 (odf hc0)
   exact p49_0_1 a b a1 b1 hE ⟨hc0,trivial⟩ (AvLe.of_eq (by rw [h]; try rfl))
theorem f102b:Try.f102.body=some (Qe Try.prog 102):=by kernel_rfl
theorem u102 {a c k:List AV} {r:AV} (h:Pure Try.prog 102 (a++c++k) r):Qg Try.prog (.clos 102 a k) c r:=Ql Try.func102 (by kernel_rfl) f102b h
theorem p102_start_0 (a:Int) (b:Int) {E:Env} {res:AV} (hE:Qf Try.prog 102 res E) (ho:AllP [InR .i64 (Int.tdiv 1000000000000 b),b ≠ 0,(decide (a > (Int.tdiv 1000000000000 b)))=true])
 (hr:AvLe (.tup [.int .i64 0,.bool false]) res):G Try.prog E [.code (Qe Try.prog 102)] ⟨[.int .i64 a,.int .i64 b]++unds (Try.f102.ntmps - 2),[]⟩ :=
 Qc (n:=400) (evs:=[.b true]) (obs:=_) hE Try.func102 Qi (by kernel_rfl) ho hr
theorem p102_start_1 (a:Int) (b:Int) {E:Env} {res:AV} (hE:Qf Try.prog 102 res E) (ho:AllP [InR .i64 (Int.tdiv 1000000000000 b),b ≠ 0,(decide (a > (Int.tdiv 1000000000000 b)))=false,InR .i64 (a*b)])
 (hr:AvLe (.tup [.int .i64 (a*b),.bool true]) res):G Try.prog E [.code (Qe Try.prog 102)] ⟨[.int .i64 a,.int .i64 b]++unds (Try.f102.ntmps - 2),[]⟩ :=
 Qc (n:=400) (evs:=[.b false]) (obs:=_) hE Try.func102 Qi (by kernel_rfl) ho hr
theorem f102W (a:Int) (b:Int) {E:Env} {rv:(Int × Bool)} (hE:Qf Try.prog 102 (.tup [.int .i64 rv.1,.bool rv.2]) E)
 (h:((I6 (Int.tdiv 1000000000000 b))∧(b ≠ 0∧((a > (Int.tdiv 1000000000000 b)→rv=(0,false))∧(¬ (a > (Int.tdiv 1000000000000 b))→((I6 (a*b))∧rv=((a*b),true))))))):G Try.prog E [.code (Qe Try.prog 102)] ⟨[.int .i64 a,.int .i64 b]++unds (Try.f102.ntmps - 2),[]⟩:=by
 obtain ⟨q0_0,h⟩:=h
 obtain ⟨q1_0,h⟩:=h
 rcases bft (decide (a > (Int.tdiv 1000000000000 b))) with hc0 | hc0
 · have h:=h.1 (odt hc0)
   exact p102_start_0 a b hE ⟨q0_0,q1_0,hc0,trivial⟩ (AvLe.of_eq (by rw [h]; try rfl))
 · have h:=h.2 (odf hc0)
   obtain ⟨q3_1,h⟩:=h
   exact p102_start_1 a b hE ⟨q0_0,q1_0,hc0,q3_1,trivial⟩ (AvLe.of_eq (by rw [h]; try rfl))
theorem f99b:Try.f99.body=some (Qe Try.prog 99):=by kernel_rfl
theorem u99 {a c k:List AV} {r:AV} (h:Pure Try.prog 99 (a++c++k) r):Qg Try.prog (.clos 99 a k) c r:=Ql Try.func99 (by kernel_rfl) f99b h
def f99K0 (P:Program):List Item:=kAt 400 [.code (Qe P 99)] [.stop]
def f99S0 (x:Stg) (sum:Int) (i:Nat):St:=⟨([J,J,.int .i64 sum,J,J,J,.rsl (Qk x.turns) 0 x.turns.length,.int .i64 (x.turns.length:Int),.int .i64 (i:Int)]++Js 9),[⟨true,0,1,true,[.int .i64 x.kind,.int .i64 x.prize,.rsl (Qk x.turns) 0 x.turns.length],false⟩]⟩
def f99G0 (E:Env) (x:Stg) (sum:Int) (i:Nat):Prop:=G Try.prog E (f99K0 Try.prog) (f99S0 x sum i )
abbrev z99_1 (x:Stg):List AV:=[.int .i64 x.kind,.int .i64 x.prize,.rsl (Qk x.turns) 0 x.turns.length]
theorem p99_start_0 (x:Stg) {E:Env} {rv:AV} (hE:Qf Try.prog 99 rv E) (ho:AllP [])
 (hg:G Try.prog E (f99K0 Try.prog) ⟨([J,J,.int .i64 0,J,J,J,.rsl (Qk x.turns) 0 x.turns.length,.int .i64 (x.turns.length:Int),.int .i64 0]++Js 9),[⟨true,0,1,true,(z99_1 x),false⟩]⟩):G Try.prog E [.code (Qe Try.prog 99)] ⟨[.agg (z99_1 x)]++unds (Try.f99.ntmps - 1),[]⟩ :=
 Qh (n:=400) (ds:=[]) (cs:=[]) (live:=[2,6,7,8]) (m:=1) (evs:=[.stop]) (obs:=_) hE.2.1 (hE.nogh _) Qi (by kernel_rfl) ho hg
theorem f99W (x:Stg) {E:Env} {rv:Int} (hE:Qf Try.prog 99 (.int .i64 rv) E)
 (h:f99G0 E x 0 0):G Try.prog E [.code (Qe Try.prog 99)] ⟨[.agg [.int .i64 x.kind,.int .i64 x.prize,.rsl (Qk x.turns) 0 x.turns.length]]++unds (Try.f99.ntmps - 1),[]⟩:=by
 exact p99_start_0 x hE trivial h
theorem p99_0_0 (x:Stg) (sum:Int) (i:Nat) (te:Trn) {E:Env} {rv:AV} (hE:Qf Try.prog 99 rv E) (ho:AllP [(decide ((i:Int)<(x.turns.length:Int)))=true,0≤(i:Int)∧(i:Int)<(x.turns.length:Int),((Qk x.turns).drop (0+(Int.toNat (i:Int))*2)).take 2=[.int .i64 te.w,.int .i64 te.to],2≤2,InR .i64 (sum+te.w),InR .i64 ((i:Int)+1)])
 (hg:G Try.prog E (f99K0 Try.prog) ⟨([J,J,.int .i64 (sum+te.w),J,J,J,.rsl (Qk x.turns) 0 x.turns.length,.int .i64 (x.turns.length:Int),.int .i64 ((i:Int)+1)]++Js 9),[⟨true,0,1,true,(z99_1 x),false⟩]⟩):G Try.prog E (f99K0 Try.prog) (f99S0 x sum i ) :=
 Qh (n:=400) (ds:=[]) (cs:=[]) (live:=[2,6,7,8]) (m:=1) (evs:=[.b true,.ld (.agg [.int .i64 te.w,.int .i64 te.to]),.stop]) (obs:=_) hE.2.1 (hE.nogh _) Qi (by kernel_rfl) ho hg
theorem p99_0_1 (x:Stg) (sum:Int) (i:Nat) {E:Env} {res:AV} (hE:Qf Try.prog 99 res E) (ho:AllP [(decide ((i:Int)<(x.turns.length:Int)))=false])
 (hr:AvLe (.int .i64 sum) res):G Try.prog E (f99K0 Try.prog) (f99S0 x sum i ) :=
 Qc (n:=400) (evs:=[.b false]) (obs:=_) hE Try.func99 Qi (by kernel_rfl) ho hr
theorem f99W0 (x:Stg) (sum:Int) (i:Nat) {E:Env} {rv:Int} (hE:Qf Try.prog 99 (.int .i64 rv) E)
 (h:(((i:Int)<(x.turns.length:Int)→(∃ te:Trn,x.turns[i]?=some te∧((I6 (sum+te.w))∧((I6 ((i:Int)+1))∧f99G0 E x (sum+te.w) (i+1)))))∧(¬ ((i:Int)<(x.turns.length:Int))→rv=sum))):f99G0 E x sum i:=by
 rcases bft (decide ((i:Int)<(x.turns.length:Int))) with hc0 | hc0
 · have h:=h.1 (odt hc0)
   obtain ⟨te,h1,h⟩:=h
   obtain ⟨q5_1,h⟩:=h
   obtain ⟨q6_1,h⟩:=h
   exact p99_0_0 x sum i te hE ⟨hc0,(Qn h1),(rp cTrn 2 0 2 h1),(by decide),q5_1,q6_1,trivial⟩ h
 · have h:=h.2 (odf hc0)
   exact p99_0_1 x sum i hE ⟨hc0,trivial⟩ (AvLe.of_eq (by rw [h]; try rfl))
theorem f100b:Try.f100.body=some (Qe Try.prog 100):=by kernel_rfl
theorem u100 {a c k:List AV} {r:AV} (h:Pure Try.prog 100 (a++c++k) r):Qg Try.prog (.clos 100 a k) c r:=Ql Try.func100 (by kernel_rfl) f100b h
def f100K0 (P:Program):List Item:=kAt 400 [.code (Qe P 100)] [.stop]
def f100S0 (x:Stg) (n:Int) (k:Nat):St:=⟨([J,.ptr 0 0 0,J,.int .i64 n,.int .i64 (k:Int)]++Js 16),[⟨true,0,1,true,[.int .i64 x.kind,.int .i64 x.prize,.rsl (Qk x.turns) 0 x.turns.length],false⟩]⟩
def f100G0 (E:Env) (x:Stg) (n:Int) (k:Nat):Prop:=G Try.prog E (f100K0 Try.prog) (f100S0 x n k )
abbrev z100_1 (x:Stg):List AV:=[.int .i64 x.kind,.int .i64 x.prize,.rsl (Qk x.turns) 0 x.turns.length]
theorem p100_start_0 (x:Stg) {E:Env} {rv:AV} (hE:Qf Try.prog 100 rv E) (ho:AllP [])
 (hg:G Try.prog E (f100K0 Try.prog) ⟨([J,.ptr 0 0 0,J,.int .i64 0,.int .i64 0]++Js 16),[⟨true,0,1,true,(z100_1 x),false⟩]⟩):G Try.prog E [.code (Qe Try.prog 100)] ⟨[.agg (z100_1 x)]++unds (Try.f100.ntmps - 1),[]⟩ :=
 Qh (n:=400) (ds:=[]) (cs:=[]) (live:=[1,3,4]) (m:=1) (evs:=[.stop]) (obs:=_) hE.2.1 (hE.nogh _) Qi (by kernel_rfl) ho hg
theorem f100W (x:Stg) {E:Env} {rv:Int} (hE:Qf Try.prog 100 (.int .i64 rv) E)
 (h:f100G0 E x 0 0):G Try.prog E [.code (Qe Try.prog 100)] ⟨[.agg [.int .i64 x.kind,.int .i64 x.prize,.rsl (Qk x.turns) 0 x.turns.length]]++unds (Try.f100.ntmps - 1),[]⟩:=by
 exact p100_start_0 x hE trivial h
theorem p100_0_0 (x:Stg) (n:Int) (k:Nat) (te:Trn) {E:Env} {rv:AV} (hE:Qf Try.prog 100 rv E) (ho:AllP [(decide ((k:Int)<(x.turns.length:Int)))=true,0≤(k:Int)∧(k:Int)<(x.turns.length:Int),((Qk x.turns).drop ((0+(Int.toNat (k:Int))*2)+0)).take 1=[.int .i64 te.w],InR .i64 (n+te.w),InR .i64 ((k:Int)+1)])
 (hg:G Try.prog E (f100K0 Try.prog) ⟨([J,.ptr 0 0 0,J,.int .i64 (n+te.w),.int .i64 ((k:Int)+1)]++Js 16),[⟨true,0,1,true,(z100_1 x),false⟩]⟩):G Try.prog E (f100K0 Try.prog) (f100S0 x n k ) :=
 Qh (n:=400) (ds:=[]) (cs:=[]) (live:=[1,3,4]) (m:=1) (evs:=[.b true,.auto,.ld (.int .i64 te.w),.stop]) (obs:=_) hE.2.1 (hE.nogh _) Qi (by kernel_rfl) ho hg
theorem p100_0_1 (x:Stg) (n:Int) (k:Nat) {E:Env} {res:AV} (hE:Qf Try.prog 100 res E) (ho:AllP [(decide ((k:Int)<(x.turns.length:Int)))=false])
 (hr:AvLe (.int .i64 n) res):G Try.prog E (f100K0 Try.prog) (f100S0 x n k ) :=
 Qc (n:=400) (evs:=[.b false]) (obs:=_) hE Try.func100 Qi (by kernel_rfl) ho hr
theorem f100W0 (x:Stg) (n:Int) (k:Nat) {E:Env} {rv:Int} (hE:Qf Try.prog 100 (.int .i64 rv) E)
 (h:(((k:Int)<(x.turns.length:Int)→(∃ te:Trn,x.turns[k]?=some te∧((I6 (n+te.w))∧((I6 ((k:Int)+1))∧f100G0 E x (n+te.w) (k+1)))))∧(¬ ((k:Int)<(x.turns.length:Int))→rv=n))):f100G0 E x n k:=by
 rcases bft (decide ((k:Int)<(x.turns.length:Int))) with hc0 | hc0
 · have h:=h.1 (odt hc0)
   obtain ⟨te,h1,h⟩:=h
   obtain ⟨q4_1,h⟩:=h
   obtain ⟨q5_1,h⟩:=h
   exact p100_0_0 x n k te hE ⟨hc0,(Qn h1),(rp cTrn 2 0 1 h1),q4_1,q5_1,trivial⟩ h
 · have h:=h.2 (odf hc0)
   exact p100_0_1 x n k hE ⟨hc0,trivial⟩ (AvLe.of_eq (by rw [h]; try rfl))
theorem f108b:Try.f108.body=some (Qe Try.prog 108):=by kernel_rfl
theorem u108 {a c k:List AV} {r:AV} (h:Pure Try.prog 108 (a++c++k) r):Qg Try.prog (.clos 108 a k) c r:=Ql Try.func108 (by kernel_rfl) f108b h
theorem p108_start_0 (n:Int) {E:Env} {res:AV} (hE:Qf Try.prog 108 res E) (ho:AllP [Qg Try.prog (.clos 65 [] []) [.int .i64 n,.int .i64 0,.int .i64 10000] (.bool (Qa n 0 10000))])
 (hr:AvLe (.bool (!(Qa n 0 10000))) res):G Try.prog E [.code (Qe Try.prog 108)] ⟨[.int .i64 n]++unds (Try.f108.ntmps - 1),[]⟩ :=
 Qc (n:=400) (evs:=[.v (.bool (Qa n 0 10000))]) (obs:=_) hE Try.func108 Qi (by kernel_rfl) ho hr
theorem f108W (n:Int) {E:Env} {rv:Bool} (hE:Qf Try.prog 108 (.bool rv) E)
 (h:rv=(!(Qa n 0 10000))):G Try.prog E [.code (Qe Try.prog 108)] ⟨[.int .i64 n]++unds (Try.f108.ntmps - 1),[]⟩:=by
 exact p108_start_0 n hE ⟨(u65 (Qr n 0 10000)),trivial⟩ (AvLe.of_eq (by rw [h]; try rfl))
theorem f122b:Try.f122.body=some (Qe Try.prog 122):=by kernel_rfl
theorem u122 {a c k:List AV} {r:AV} (h:Pure Try.prog 122 (a++c++k) r):Qg Try.prog (.clos 122 a k) c r:=Ql Try.func122 (by kernel_rfl) f122b h
abbrev z122_1 (t:Trn) (lo:Int) (hi:Int) (i:Int) (s:Stl):List AV:=[.agg [.int .i64 t.w,.int .i64 t.to],.rptr [.int .i64 lo] 0,.rptr [.int .i64 hi] 0,.rptr [.int .i64 i] 0,.rptr [.rsl (Qd s.stages) 0 s.stages.length,.rsl (rowI s.worth) 0 s.worth.length,.int .i64 s.price] 0]
theorem p122_start_0 (t:Trn) (lo hi i:Int) (s:Stl) {E:Env} {res:AV} (hE:Qf Try.prog 122 res E) (ho:AllP [Qg Try.prog (.clos 65 [] []) [.int .i64 t.w,.int .i64 lo,.int .i64 hi] (.bool (Qa t.w lo hi)),(!(Qa t.w lo hi))=true])
 (hr:AvLe (.bool true) res):G Try.prog E [.code (Qe Try.prog 122)] ⟨(z122_1 t lo hi i s)++unds (Try.f122.ntmps - 5),[]⟩ :=
 Qc (n:=400) (evs:=[.v (.bool (Qa t.w lo hi)),.b true]) (obs:=_) hE Try.func122 Qi (by kernel_rfl) ho hr
theorem p122_start_1 (t:Trn) (lo hi i:Int) (s:Stl) {E:Env} {res:AV} (hE:Qf Try.prog 122 res E) (ho:AllP [Qg Try.prog (.clos 65 [] []) [.int .i64 t.w,.int .i64 lo,.int .i64 hi] (.bool (Qa t.w lo hi)),(!(Qa t.w lo hi))=false,InR .i64 (i+1),InR .i64 ((s.stages.length:Int) - 1),Qg Try.prog (.clos 65 [] []) [.int .i64 t.to,.int .i64 (i+1),.int .i64 ((s.stages.length:Int) - 1)] (.bool (Qa t.to (i+1) ((s.stages.length:Int) - 1)))])
 (hr:AvLe (.bool (!(Qa t.to (i+1) ((s.stages.length:Int) - 1)))) res):G Try.prog E [.code (Qe Try.prog 122)] ⟨(z122_1 t lo hi i s)++unds (Try.f122.ntmps - 5),[]⟩ :=
 Qc (n:=400) (evs:=[.v (.bool (Qa t.w lo hi)),.b false,.v (.bool (Qa t.to (i+1) ((s.stages.length:Int) - 1)))]) (obs:=_) hE Try.func122 Qi (by kernel_rfl) ho hr
theorem f122W (t:Trn) (lo hi i:Int) (s:Stl) {E:Env} {rv:Bool} (hE:Qf Try.prog 122 (.bool rv) E)
 (h:(((Qa t.w lo hi)=false→rv=true)∧((Qa t.w lo hi)=true→((I6 (i+1))∧((I6 ((s.stages.length:Int) - 1))∧rv=(!(Qa t.to (i+1) ((s.stages.length:Int) - 1)))))))):G Try.prog E [.code (Qe Try.prog 122)] ⟨[.agg [.int .i64 t.w,.int .i64 t.to],.rptr [.int .i64 lo] 0,.rptr [.int .i64 hi] 0,.rptr [.int .i64 i] 0,.rptr [.rsl (Qd s.stages) 0 s.stages.length,.rsl (rowI s.worth) 0 s.worth.length,.int .i64 s.price] 0]++unds (Try.f122.ntmps - 5),[]⟩:=by
 rcases bft (!(Qa t.w lo hi)) with hc0 | hc0
 · have h:=h.1 (bnT hc0)
   exact p122_start_0 t lo hi i s hE ⟨(u65 (Qr t.w lo hi)),hc0,trivial⟩ (AvLe.of_eq (by rw [h]; try rfl))
 · have h:=h.2 (bnF hc0)
   obtain ⟨q2_1,h⟩:=h
   obtain ⟨q3_1,h⟩:=h
   exact p122_start_1 t lo hi i s hE ⟨(u65 (Qr t.w lo hi)),hc0,q2_1,q3_1,(u65 (Qr t.to (i+1) ((s.stages.length:Int) - 1))),trivial⟩ (AvLe.of_eq (by rw [h]; try rfl))
theorem f63b:Try.f63.body=some (Qe Try.prog 63):=by kernel_rfl
theorem u63 {a c k:List AV} {r:AV} (h:Pure Try.prog 63 (a++c++k) r):Qg Try.prog (.clos 63 a k) c r:=Ql Try.func63 (by kernel_rfl) f63b h
def Vi (P:Program):List Item:=kAt 400 [.code (Qe P 63)] [.b false,.b false,.stop]
def yb (s:Stl) (i:Int) (v1_0:Int) (v1_1:Int) (v1_2:(List Trn)) (k:Nat):St:=⟨([J,.int .i64 i,.ptr 0 0 0,J,J,.ptr 1 0 0,.int .i64 (k:Int)]++Js 79),[⟨true,0,1,true,[.rsl (Qd s.stages) 0 s.stages.length,.rsl (rowI s.worth) 0 s.worth.length,.int .i64 s.price],false⟩,⟨true,0,1,true,[.int .i64 v1_0,.int .i64 v1_1,.rsl (Qk v1_2) 0 v1_2.length],false⟩]⟩
def f63G0 (E:Env) (s:Stl) (i:Int) (v1_0:Int) (v1_1:Int) (v1_2:(List Trn)) (k:Nat):Prop:=G Try.prog E (Vi Try.prog) (yb s i v1_0 v1_1 v1_2 k )
abbrev z63_1 (s:Stl):List AV:=[.rsl (Qd s.stages) 0 s.stages.length,.rsl (rowI s.worth) 0 s.worth.length,.int .i64 s.price]
abbrev VF (se:Stg):List AV:=[.int .i64 se.kind,.int .i64 se.prize,.rsl (Qk se.turns) 0 se.turns.length]
abbrev YZ (te:Trn) (i:Int) (s:Stl):AV:=.bool (Qa te.to (i+1) ((s.stages.length:Int) - 1))
abbrev z63_4 (te:Trn) (i:Int) (s:Stl):List AV:=[.int .i64 te.to,.int .i64 (i+1),.int .i64 ((s.stages.length:Int) - 1)]
abbrev z63_5 (s:Stl) (v1_0:Int) (v1_1:Int) (v1_2:(List Trn)):List Blk:=[⟨true,0,1,true,(z63_1 s),false⟩,⟨true,0,1,true,[.int .i64 v1_0,.int .i64 v1_1,.rsl (Qk v1_2) 0 v1_2.length],false⟩]
abbrev z63_6 (i:Int) (k:Nat):List AV:=[J,.int .i64 i,.ptr 0 0 0,J,J,.ptr 1 0 0,.int .i64 ((k:Int)+1)]++Js 79
theorem p63_start_0 (s:Stl) (i:Int) (se:Stg) {E:Env} {res:AV} (hE:Qf Try.prog 63 res E) (ho:AllP [0≤i∧i<(s.stages.length:Int),((Qd s.stages).drop (0+(Int.toNat i)*3)).take 3=(VF se),3≤3,(se.kind == 4)=true,((se.turns.length:Int) == 0)=true,InR .i64 ((s.worth.length:Int) - 1),Qg Try.prog (.clos 62 [] []) [.int .i64 se.prize,.int .i64 (-1),.int .i64 ((s.worth.length:Int) - 1)] (.bool (Qa se.prize (-1) ((s.worth.length:Int) - 1)))])
 (hr:AvLe (.bool (Qa se.prize (-1) ((s.worth.length:Int) - 1))) res):G Try.prog E [.code (Qe Try.prog 63)] ⟨[.agg (z63_1 s),.int .i64 i]++unds (Try.f63.ntmps - 2),[]⟩ :=
 Qc (n:=400) (evs:=[.auto,.ld (.agg (VF se)),.b true,.b true,.v (.bool (Qa se.prize (-1) ((s.worth.length:Int) - 1)))]) (obs:=_) hE Try.func63 Qi (by kernel_rfl) ho hr
theorem p63_start_1 (s:Stl) (i:Int) (se:Stg) {E:Env} {res:AV} (hE:Qf Try.prog 63 res E) (ho:AllP [0≤i∧i<(s.stages.length:Int),((Qd s.stages).drop (0+(Int.toNat i)*3)).take 3=(VF se),3≤3,(se.kind == 4)=true,((se.turns.length:Int) == 0)=false])
 (hr:AvLe (.bool false) res):G Try.prog E [.code (Qe Try.prog 63)] ⟨[.agg (z63_1 s),.int .i64 i]++unds (Try.f63.ntmps - 2),[]⟩ :=
 Qc (n:=400) (evs:=[.auto,.ld (.agg (VF se)),.b true,.b false]) (obs:=_) hE Try.func63 Qi (by kernel_rfl) ho hr
theorem p63_start_2 (s:Stl) (i:Int) (se:Stg) {E:Env} {res:AV} (hE:Qf Try.prog 63 res E) (ho:AllP [0≤i∧i<(s.stages.length:Int),((Qd s.stages).drop (0+(Int.toNat i)*3)).take 3=(VF se),3≤3,(se.kind == 4)=false,Qg Try.prog (.clos 62 [] []) [.int .i64 se.kind,.int .i64 1,.int .i64 3] (.bool (Qa se.kind 1 3)),(!(Qa se.kind 1 3))=true,true=true,true=true])
 (hr:AvLe (.bool false) res):G Try.prog E [.code (Qe Try.prog 63)] ⟨[.agg (z63_1 s),.int .i64 i]++unds (Try.f63.ntmps - 2),[]⟩ :=
 Qc (n:=400) (evs:=[.auto,.ld (.agg (VF se)),.b false,.v (.bool (Qa se.kind 1 3)),.b true,.b true,.b true]) (obs:=_) hE Try.func63 Qi (by kernel_rfl) ho hr
theorem p63_start_3 (s:Stl) (i:Int) (se:Stg) {E:Env} {res:AV} (hE:Qf Try.prog 63 res E) (ho:AllP [0≤i∧i<(s.stages.length:Int),((Qd s.stages).drop (0+(Int.toNat i)*3)).take 3=(VF se),3≤3,(se.kind == 4)=false,Qg Try.prog (.clos 62 [] []) [.int .i64 se.kind,.int .i64 1,.int .i64 3] (.bool (Qa se.kind 1 3)),(!(Qa se.kind 1 3))=false,(se.prize != 0)=true,true=true])
 (hr:AvLe (.bool false) res):G Try.prog E [.code (Qe Try.prog 63)] ⟨[.agg (z63_1 s),.int .i64 i]++unds (Try.f63.ntmps - 2),[]⟩ :=
 Qc (n:=400) (evs:=[.auto,.ld (.agg (VF se)),.b false,.v (.bool (Qa se.kind 1 3)),.b false,.b true,.b true]) (obs:=_) hE Try.func63 Qi (by kernel_rfl) ho hr
theorem p63_start_4 (s:Stl) (i:Int) (se:Stg) {E:Env} {res:AV} (hE:Qf Try.prog 63 res E) (ho:AllP [0≤i∧i<(s.stages.length:Int),((Qd s.stages).drop (0+(Int.toNat i)*3)).take 3=(VF se),3≤3,(se.kind == 4)=false,Qg Try.prog (.clos 62 [] []) [.int .i64 se.kind,.int .i64 1,.int .i64 3] (.bool (Qa se.kind 1 3)),(!(Qa se.kind 1 3))=false,(se.prize != 0)=false,Qg Try.prog (.clos 62 [] []) [.int .i64 (se.turns.length:Int),.int .i64 1,.int .i64 8] (.bool (Qa (se.turns.length:Int) 1 8)),(!(Qa (se.turns.length:Int) 1 8))=true])
 (hr:AvLe (.bool false) res):G Try.prog E [.code (Qe Try.prog 63)] ⟨[.agg (z63_1 s),.int .i64 i]++unds (Try.f63.ntmps - 2),[]⟩ :=
 Qc (n:=400) (evs:=[.auto,.ld (.agg (VF se)),.b false,.v (.bool (Qa se.kind 1 3)),.b false,.b false,.v (.bool (Qa (se.turns.length:Int) 1 8)),.b true]) (obs:=_) hE Try.func63 Qi (by kernel_rfl) ho hr
theorem p63_start_5 (s:Stl) (i:Int) (se:Stg) {E:Env} {rv:AV} (hE:Qf Try.prog 63 rv E) (ho:AllP [0≤i∧i<(s.stages.length:Int),((Qd s.stages).drop (0+(Int.toNat i)*3)).take 3=(VF se),3≤3,(se.kind == 4)=false,Qg Try.prog (.clos 62 [] []) [.int .i64 se.kind,.int .i64 1,.int .i64 3] (.bool (Qa se.kind 1 3)),(!(Qa se.kind 1 3))=false,(se.prize != 0)=false,Qg Try.prog (.clos 62 [] []) [.int .i64 (se.turns.length:Int),.int .i64 1,.int .i64 8] (.bool (Qa (se.turns.length:Int) 1 8)),(!(Qa (se.turns.length:Int) 1 8))=false])
 (hg:G Try.prog E (Vi Try.prog) ⟨([J,.int .i64 i,.ptr 0 0 0,J,J,.ptr 1 0 0,.int .i64 0]++Js 79),[⟨true,0,1,true,(z63_1 s),false⟩,⟨true,0,1,true,(VF se),false⟩]⟩):G Try.prog E [.code (Qe Try.prog 63)] ⟨[.agg (z63_1 s),.int .i64 i]++unds (Try.f63.ntmps - 2),[]⟩ :=
 Qh (n:=400) (ds:=[]) (cs:=[]) (live:=[1,2,5,6]) (m:=2) (evs:=[.auto,.ld (.agg (VF se)),.b false,.v (.bool (Qa se.kind 1 3)),.b false,.b false,.v (.bool (Qa (se.turns.length:Int) 1 8)),.b false,.stop]) (obs:=_) hE.2.1 (hE.nogh _) Qi (by kernel_rfl) ho hg
theorem f63W (s:Stl) (i:Int) {E:Env} {rv:Bool} (hE:Qf Try.prog 63 (.bool rv) E)
 (h:(0≤i∧(∃ se:Stg,s.stages[Int.toNat i]?=some se∧((se.kind=4→(((se.turns.length:Int)=0→((I6 ((s.worth.length:Int) - 1))∧rv=(Qa se.prize (-1) ((s.worth.length:Int) - 1))))∧(¬ ((se.turns.length:Int)=0)→rv=false)))∧(¬ (se.kind=4)→(((Qa se.kind 1 3)=false→rv=false)∧((Qa se.kind 1 3)=true→((¬ (se.prize=0)→rv=false)∧(se.prize=0→(((Qa (se.turns.length:Int) 1 8)=false→rv=false)∧((Qa (se.turns.length:Int) 1 8)=true→f63G0 E s i se.kind se.prize se.turns 0))))))))))):G Try.prog E [.code (Qe Try.prog 63)] ⟨[.agg [.rsl (Qd s.stages) 0 s.stages.length,.rsl (rowI s.worth) 0 s.worth.length,.int .i64 s.price],.int .i64 i]++unds (Try.f63.ntmps - 2),[]⟩:=by
 obtain ⟨h2,h⟩:=h
 obtain ⟨se,h1,h⟩:=h
 rcases bft (se.kind == 4) with hc0 | hc0
 · have h:=h.1 (eq_of_beq hc0)
   rcases bft ((se.turns.length:Int) == 0) with hc1 | hc1
   · have h:=h.1 (eq_of_beq hc1)
     obtain ⟨q6_2,h⟩:=h
     exact p63_start_0 s i se hE ⟨(Qj h2 h1),(rp cStg 3 0 3 h1),(by decide),hc0,hc1,q6_2,(u62 (Qt se.prize (-1) ((s.worth.length:Int) - 1))),trivial⟩ (AvLe.of_eq (by rw [h]; try rfl))
   · have h:=h.2 (ne_of_beq_false hc1)
     exact p63_start_1 s i se hE ⟨(Qj h2 h1),(rp cStg 3 0 3 h1),(by decide),hc0,hc1,trivial⟩ (AvLe.of_eq (by rw [h]; try rfl))
 · have h:=h.2 (ne_of_beq_false hc0)
   rcases bft (!(Qa se.kind 1 3)) with hc1 | hc1
   · have h:=h.1 (bnT hc1)
     exact p63_start_2 s i se hE ⟨(Qj h2 h1),(rp cStg 3 0 3 h1),(by decide),hc0,(u62 (Qt se.kind 1 3)),hc1,rfl,rfl,trivial⟩ (AvLe.of_eq (by rw [h]; try rfl))
   · have h:=h.2 (bnF hc1)
     rcases bft (se.prize != 0) with hc2 | hc2
     · have h:=h.1 (bneT hc2)
       exact p63_start_3 s i se hE ⟨(Qj h2 h1),(rp cStg 3 0 3 h1),(by decide),hc0,(u62 (Qt se.kind 1 3)),hc1,hc2,rfl,trivial⟩ (AvLe.of_eq (by rw [h]; try rfl))
     · have h:=h.2 (bneF hc2)
       rcases bft (!(Qa (se.turns.length:Int) 1 8)) with hc3 | hc3
       · have h:=h.1 (bnT hc3)
         exact p63_start_4 s i se hE ⟨(Qj h2 h1),(rp cStg 3 0 3 h1),(by decide),hc0,(u62 (Qt se.kind 1 3)),hc1,hc2,(u62 (Qt (se.turns.length:Int) 1 8)),hc3,trivial⟩ (AvLe.of_eq (by rw [h]; try rfl))
       · have h:=h.2 (bnF hc3)
         exact p63_start_5 s i se hE ⟨(Qj h2 h1),(rp cStg 3 0 3 h1),(by decide),hc0,(u62 (Qt se.kind 1 3)),hc1,hc2,(u62 (Qt (se.turns.length:Int) 1 8)),hc3,trivial⟩ h
theorem p63_0_0 (s:Stl) (i:Int) (v1_0:Int) (v1_1:Int) (v1_2:(List Trn)) (k:Nat) (te:Trn) {E:Env} {res:AV} (hE:Qf Try.prog 63 res E) (ho:AllP [(decide ((k:Int)<(v1_2.length:Int)))=true,0≤(k:Int)∧(k:Int)<(v1_2.length:Int),((Qk v1_2).drop (0+(Int.toNat (k:Int))*2)).take 2=[.int .i64 te.w,.int .i64 te.to],2≤2,InR .i64 (i+1),InR .i64 ((s.stages.length:Int) - 1),Qg Try.prog (.clos 62 [] []) (z63_4 te i s) (YZ te i s),(!(Qa te.to (i+1) ((s.stages.length:Int) - 1)))=true])
 (hr:AvLe (.bool false) res):G Try.prog E (Vi Try.prog) (yb s i v1_0 v1_1 v1_2 k ) :=
 Qc (n:=400) (evs:=[.b true,.auto,.ld (.agg [.int .i64 te.w,.int .i64 te.to]),.v (YZ te i s),.b true]) (obs:=_) hE Try.func63 Qi (by kernel_rfl) ho hr
theorem p63_0_1 (s:Stl) (i:Int) (v1_0:Int) (v1_1:Int) (v1_2:(List Trn)) (k:Nat) (te:Trn) {E:Env} {res:AV} (hE:Qf Try.prog 63 res E) (ho:AllP [(decide ((k:Int)<(v1_2.length:Int)))=true,0≤(k:Int)∧(k:Int)<(v1_2.length:Int),((Qk v1_2).drop (0+(Int.toNat (k:Int))*2)).take 2=[.int .i64 te.w,.int .i64 te.to],2≤2,InR .i64 (i+1),InR .i64 ((s.stages.length:Int) - 1),Qg Try.prog (.clos 62 [] []) (z63_4 te i s) (YZ te i s),(!(Qa te.to (i+1) ((s.stages.length:Int) - 1)))=false,(v1_0 == 1)=true,Qg Try.prog (.clos 62 [] []) [.int .i64 te.w,.int .i64 1,.int .i64 100] (.bool (Qa te.w 1 100)),(!(Qa te.w 1 100))=true,true=true])
 (hr:AvLe (.bool false) res):G Try.prog E (Vi Try.prog) (yb s i v1_0 v1_1 v1_2 k ) :=
 Qc (n:=400) (evs:=[.b true,.auto,.ld (.agg [.int .i64 te.w,.int .i64 te.to]),.v (YZ te i s),.b false,.b true,.v (.bool (Qa te.w 1 100)),.b true,.b true]) (obs:=_) hE Try.func63 Qi (by kernel_rfl) ho hr
theorem p63_0_2 (s:Stl) (i:Int) (v1_0:Int) (v1_1:Int) (v1_2:(List Trn)) (k:Nat) (te:Trn) {E:Env} {res:AV} (hE:Qf Try.prog 63 res E) (ho:AllP [(decide ((k:Int)<(v1_2.length:Int)))=true,0≤(k:Int)∧(k:Int)<(v1_2.length:Int),((Qk v1_2).drop (0+(Int.toNat (k:Int))*2)).take 2=[.int .i64 te.w,.int .i64 te.to],2≤2,InR .i64 (i+1),InR .i64 ((s.stages.length:Int) - 1),Qg Try.prog (.clos 62 [] []) (z63_4 te i s) (YZ te i s),(!(Qa te.to (i+1) ((s.stages.length:Int) - 1)))=false,(v1_0 == 1)=true,Qg Try.prog (.clos 62 [] []) [.int .i64 te.w,.int .i64 1,.int .i64 100] (.bool (Qa te.w 1 100)),(!(Qa te.w 1 100))=false,(v1_0 != 1)=true,(te.w != 0)=true])
 (hr:AvLe (.bool false) res):G Try.prog E (Vi Try.prog) (yb s i v1_0 v1_1 v1_2 k ) :=
 Qc (n:=400) (evs:=[.b true,.auto,.ld (.agg [.int .i64 te.w,.int .i64 te.to]),.v (YZ te i s),.b false,.b true,.v (.bool (Qa te.w 1 100)),.b false,.b true,.b true]) (obs:=_) hE Try.func63 Qi (by kernel_rfl) ho hr
theorem p63_0_3 (s:Stl) (i:Int) (v1_0:Int) (v1_1:Int) (v1_2:(List Trn)) (k:Nat) (te:Trn) {E:Env} {rv:AV} (hE:Qf Try.prog 63 rv E) (ho:AllP [(decide ((k:Int)<(v1_2.length:Int)))=true,0≤(k:Int)∧(k:Int)<(v1_2.length:Int),((Qk v1_2).drop (0+(Int.toNat (k:Int))*2)).take 2=[.int .i64 te.w,.int .i64 te.to],2≤2,InR .i64 (i+1),InR .i64 ((s.stages.length:Int) - 1),Qg Try.prog (.clos 62 [] []) (z63_4 te i s) (YZ te i s),(!(Qa te.to (i+1) ((s.stages.length:Int) - 1)))=false,(v1_0 == 1)=true,Qg Try.prog (.clos 62 [] []) [.int .i64 te.w,.int .i64 1,.int .i64 100] (.bool (Qa te.w 1 100)),(!(Qa te.w 1 100))=false,(v1_0 != 1)=true,(te.w != 0)=false,InR .i64 ((k:Int)+1)])
 (hg:G Try.prog E (Vi Try.prog) ⟨(z63_6 i k),(z63_5 s v1_0 v1_1 v1_2)⟩):G Try.prog E (Vi Try.prog) (yb s i v1_0 v1_1 v1_2 k ) :=
 Qh (n:=400) (ds:=[]) (cs:=[]) (live:=[1,2,5,6]) (m:=2) (evs:=[.b true,.auto,.ld (.agg [.int .i64 te.w,.int .i64 te.to]),.v (YZ te i s),.b false,.b true,.v (.bool (Qa te.w 1 100)),.b false,.b true,.b false,.stop]) (obs:=_) hE.2.1 (hE.nogh _) Qi (by kernel_rfl) ho hg
theorem p63_0_4 (s:Stl) (i:Int) (v1_0:Int) (v1_1:Int) (v1_2:(List Trn)) (k:Nat) (te:Trn) {E:Env} {rv:AV} (hE:Qf Try.prog 63 rv E) (ho:AllP [(decide ((k:Int)<(v1_2.length:Int)))=true,0≤(k:Int)∧(k:Int)<(v1_2.length:Int),((Qk v1_2).drop (0+(Int.toNat (k:Int))*2)).take 2=[.int .i64 te.w,.int .i64 te.to],2≤2,InR .i64 (i+1),InR .i64 ((s.stages.length:Int) - 1),Qg Try.prog (.clos 62 [] []) (z63_4 te i s) (YZ te i s),(!(Qa te.to (i+1) ((s.stages.length:Int) - 1)))=false,(v1_0 == 1)=true,Qg Try.prog (.clos 62 [] []) [.int .i64 te.w,.int .i64 1,.int .i64 100] (.bool (Qa te.w 1 100)),(!(Qa te.w 1 100))=false,(v1_0 != 1)=false,false=false,InR .i64 ((k:Int)+1)])
 (hg:G Try.prog E (Vi Try.prog) ⟨(z63_6 i k),(z63_5 s v1_0 v1_1 v1_2)⟩):G Try.prog E (Vi Try.prog) (yb s i v1_0 v1_1 v1_2 k ) :=
 Qh (n:=400) (ds:=[]) (cs:=[]) (live:=[1,2,5,6]) (m:=2) (evs:=[.b true,.auto,.ld (.agg [.int .i64 te.w,.int .i64 te.to]),.v (YZ te i s),.b false,.b true,.v (.bool (Qa te.w 1 100)),.b false,.b false,.b false,.stop]) (obs:=_) hE.2.1 (hE.nogh _) Qi (by kernel_rfl) ho hg
theorem p63_0_5 (s:Stl) (i:Int) (v1_0:Int) (v1_1:Int) (v1_2:(List Trn)) (k:Nat) (te:Trn) {E:Env} {res:AV} (hE:Qf Try.prog 63 res E) (ho:AllP [(decide ((k:Int)<(v1_2.length:Int)))=true,0≤(k:Int)∧(k:Int)<(v1_2.length:Int),((Qk v1_2).drop (0+(Int.toNat (k:Int))*2)).take 2=[.int .i64 te.w,.int .i64 te.to],2≤2,InR .i64 (i+1),InR .i64 ((s.stages.length:Int) - 1),Qg Try.prog (.clos 62 [] []) (z63_4 te i s) (YZ te i s),(!(Qa te.to (i+1) ((s.stages.length:Int) - 1)))=false,(v1_0 == 1)=false,false=false,(v1_0 != 1)=true,(te.w != 0)=true])
 (hr:AvLe (.bool false) res):G Try.prog E (Vi Try.prog) (yb s i v1_0 v1_1 v1_2 k ) :=
 Qc (n:=400) (evs:=[.b true,.auto,.ld (.agg [.int .i64 te.w,.int .i64 te.to]),.v (YZ te i s),.b false,.b false,.b false,.b true,.b true]) (obs:=_) hE Try.func63 Qi (by kernel_rfl) ho hr
theorem p63_0_6 (s:Stl) (i:Int) (v1_0:Int) (v1_1:Int) (v1_2:(List Trn)) (k:Nat) (te:Trn) {E:Env} {rv:AV} (hE:Qf Try.prog 63 rv E) (ho:AllP [(decide ((k:Int)<(v1_2.length:Int)))=true,0≤(k:Int)∧(k:Int)<(v1_2.length:Int),((Qk v1_2).drop (0+(Int.toNat (k:Int))*2)).take 2=[.int .i64 te.w,.int .i64 te.to],2≤2,InR .i64 (i+1),InR .i64 ((s.stages.length:Int) - 1),Qg Try.prog (.clos 62 [] []) (z63_4 te i s) (YZ te i s),(!(Qa te.to (i+1) ((s.stages.length:Int) - 1)))=false,(v1_0 == 1)=false,false=false,(v1_0 != 1)=true,(te.w != 0)=false,InR .i64 ((k:Int)+1)])
 (hg:G Try.prog E (Vi Try.prog) ⟨(z63_6 i k),(z63_5 s v1_0 v1_1 v1_2)⟩):G Try.prog E (Vi Try.prog) (yb s i v1_0 v1_1 v1_2 k ) :=
 Qh (n:=400) (ds:=[]) (cs:=[]) (live:=[1,2,5,6]) (m:=2) (evs:=[.b true,.auto,.ld (.agg [.int .i64 te.w,.int .i64 te.to]),.v (YZ te i s),.b false,.b false,.b false,.b true,.b false,.stop]) (obs:=_) hE.2.1 (hE.nogh _) Qi (by kernel_rfl) ho hg
theorem p63_0_7 (s:Stl) (i:Int) (v1_0:Int) (v1_1:Int) (v1_2:(List Trn)) (k:Nat) (te:Trn) {E:Env} {rv:AV} (hE:Qf Try.prog 63 rv E) (ho:AllP [(decide ((k:Int)<(v1_2.length:Int)))=true,0≤(k:Int)∧(k:Int)<(v1_2.length:Int),((Qk v1_2).drop (0+(Int.toNat (k:Int))*2)).take 2=[.int .i64 te.w,.int .i64 te.to],2≤2,InR .i64 (i+1),InR .i64 ((s.stages.length:Int) - 1),Qg Try.prog (.clos 62 [] []) (z63_4 te i s) (YZ te i s),(!(Qa te.to (i+1) ((s.stages.length:Int) - 1)))=false,(v1_0 == 1)=false,false=false,(v1_0 != 1)=false,false=false,InR .i64 ((k:Int)+1)])
 (hg:G Try.prog E (Vi Try.prog) ⟨(z63_6 i k),(z63_5 s v1_0 v1_1 v1_2)⟩):G Try.prog E (Vi Try.prog) (yb s i v1_0 v1_1 v1_2 k ) :=
 Qh (n:=400) (ds:=[]) (cs:=[]) (live:=[1,2,5,6]) (m:=2) (evs:=[.b true,.auto,.ld (.agg [.int .i64 te.w,.int .i64 te.to]),.v (YZ te i s),.b false,.b false,.b false,.b false,.b false,.stop]) (obs:=_) hE.2.1 (hE.nogh _) Qi (by kernel_rfl) ho hg
theorem p63_0_8 (s:Stl) (i:Int) (v1_0:Int) (v1_1:Int) (v1_2:(List Trn)) (k:Nat) {E:Env} {res:AV} (hE:Qf Try.prog 63 res E) (ho:AllP [(decide ((k:Int)<(v1_2.length:Int)))=false])
 (hr:AvLe (.bool true) res):G Try.prog E (Vi Try.prog) (yb s i v1_0 v1_1 v1_2 k ) :=
 Qc (n:=400) (evs:=[.b false]) (obs:=_) hE Try.func63 Qi (by kernel_rfl) ho hr
theorem f63W0 (s:Stl) (i:Int) (v1_0:Int) (v1_1:Int) (v1_2:(List Trn)) (k:Nat) {E:Env} {rv:Bool} (hE:Qf Try.prog 63 (.bool rv) E)
 (h:(((k:Int)<(v1_2.length:Int)→(∃ te:Trn,v1_2[k]?=some te∧((I6 (i+1))∧((I6 ((s.stages.length:Int) - 1))∧(((Qa te.to (i+1) ((s.stages.length:Int) - 1))=false→rv=false)∧((Qa te.to (i+1) ((s.stages.length:Int) - 1))=true→((v1_0=1→(((Qa te.w 1 100)=false→rv=false)∧((Qa te.w 1 100)=true→((¬ (v1_0=1)→((¬ (te.w=0)→rv=false)∧(te.w=0→((I6 ((k:Int)+1))∧f63G0 E s i v1_0 v1_1 v1_2 (k+1)))))∧(v1_0=1→((I6 ((k:Int)+1))∧f63G0 E s i v1_0 v1_1 v1_2 (k+1)))))))∧(¬ (v1_0=1)→((¬ (v1_0=1)→((¬ (te.w=0)→rv=false)∧(te.w=0→((I6 ((k:Int)+1))∧f63G0 E s i v1_0 v1_1 v1_2 (k+1)))))∧(v1_0=1→((I6 ((k:Int)+1))∧f63G0 E s i v1_0 v1_1 v1_2 (k+1))))))))))))∧(¬ ((k:Int)<(v1_2.length:Int))→rv=true))):f63G0 E s i v1_0 v1_1 v1_2 k:=by
 rcases bft (decide ((k:Int)<(v1_2.length:Int))) with hc0 | hc0
 · have h:=h.1 (odt hc0)
   obtain ⟨te,h1,h⟩:=h
   obtain ⟨q5_1,h⟩:=h
   obtain ⟨q6_1,h⟩:=h
   rcases bft (!(Qa te.to (i+1) ((s.stages.length:Int) - 1))) with hc1 | hc1
   · have h:=h.1 (bnT hc1)
     exact p63_0_0 s i v1_0 v1_1 v1_2 k te hE ⟨hc0,(Qn h1),(rp cTrn 2 0 2 h1),(by decide),q5_1,q6_1,(u62 (Qt te.to (i+1) ((s.stages.length:Int) - 1))),hc1,trivial⟩ (AvLe.of_eq (by rw [h]; try rfl))
   · have h:=h.2 (bnF hc1)
     rcases bft (v1_0 == 1) with hc2 | hc2
     · have h:=h.1 (eq_of_beq hc2)
       rcases bft (!(Qa te.w 1 100)) with hc3 | hc3
       · have h:=h.1 (bnT hc3)
         exact p63_0_1 s i v1_0 v1_1 v1_2 k te hE ⟨hc0,(Qn h1),(rp cTrn 2 0 2 h1),(by decide),q5_1,q6_1,(u62 (Qt te.to (i+1) ((s.stages.length:Int) - 1))),hc1,hc2,(u62 (Qt te.w 1 100)),hc3,rfl,trivial⟩ (AvLe.of_eq (by rw [h]; try rfl))
       · have h:=h.2 (bnF hc3)
         rcases bft (v1_0 != 1) with hc4 | hc4
         · have h:=h.1 (bneT hc4)
           rcases bft (te.w != 0) with hc5 | hc5
           · have h:=h.1 (bneT hc5)
             exact p63_0_2 s i v1_0 v1_1 v1_2 k te hE ⟨hc0,(Qn h1),(rp cTrn 2 0 2 h1),(by decide),q5_1,q6_1,(u62 (Qt te.to (i+1) ((s.stages.length:Int) - 1))),hc1,hc2,(u62 (Qt te.w 1 100)),hc3,hc4,hc5,trivial⟩ (AvLe.of_eq (by rw [h]; try rfl))
           · have h:=h.2 (bneF hc5)
             obtain ⟨q14_6,h⟩:=h
             exact p63_0_3 s i v1_0 v1_1 v1_2 k te hE ⟨hc0,(Qn h1),(rp cTrn 2 0 2 h1),(by decide),q5_1,q6_1,(u62 (Qt te.to (i+1) ((s.stages.length:Int) - 1))),hc1,hc2,(u62 (Qt te.w 1 100)),hc3,hc4,hc5,q14_6,trivial⟩ h
         · have h:=h.2 (bneF hc4)
           obtain ⟨q14_5,h⟩:=h
           exact p63_0_4 s i v1_0 v1_1 v1_2 k te hE ⟨hc0,(Qn h1),(rp cTrn 2 0 2 h1),(by decide),q5_1,q6_1,(u62 (Qt te.to (i+1) ((s.stages.length:Int) - 1))),hc1,hc2,(u62 (Qt te.w 1 100)),hc3,hc4,rfl,q14_5,trivial⟩ h
     · have h:=h.2 (ne_of_beq_false hc2)
       rcases bft (v1_0 != 1) with hc3 | hc3
       · have h:=h.1 (bneT hc3)
         rcases bft (te.w != 0) with hc4 | hc4
         · have h:=h.1 (bneT hc4)
           exact p63_0_5 s i v1_0 v1_1 v1_2 k te hE ⟨hc0,(Qn h1),(rp cTrn 2 0 2 h1),(by decide),q5_1,q6_1,(u62 (Qt te.to (i+1) ((s.stages.length:Int) - 1))),hc1,hc2,rfl,hc3,hc4,trivial⟩ (AvLe.of_eq (by rw [h]; try rfl))
         · have h:=h.2 (bneF hc4)
           obtain ⟨q13_5,h⟩:=h
           exact p63_0_6 s i v1_0 v1_1 v1_2 k te hE ⟨hc0,(Qn h1),(rp cTrn 2 0 2 h1),(by decide),q5_1,q6_1,(u62 (Qt te.to (i+1) ((s.stages.length:Int) - 1))),hc1,hc2,rfl,hc3,hc4,q13_5,trivial⟩ h
       · have h:=h.2 (bneF hc3)
         obtain ⟨q13_4,h⟩:=h
         exact p63_0_7 s i v1_0 v1_1 v1_2 k te hE ⟨hc0,(Qn h1),(rp cTrn 2 0 2 h1),(by decide),q5_1,q6_1,(u62 (Qt te.to (i+1) ((s.stages.length:Int) - 1))),hc1,hc2,rfl,hc3,rfl,q13_4,trivial⟩ h
 · have h:=h.2 (odf hc0)
   exact p63_0_8 s i v1_0 v1_1 v1_2 k hE ⟨hc0,trivial⟩ (AvLe.of_eq (by rw [h]; try rfl))
/-- The greatest common divisor,as it is looked for. -/
def gcdF:Nat→Int→Int→Int
 | 0,a,_=>a
 | n+1,a,b=>if b > 0 then gcdF n b (Int.tmod a b) else a
def gcdI (a b:Int):Int:=gcdF (Int.toNat b+1) a b
theorem gcdF_eq:∀ {n m:Nat} {a b:Int},0≤a→0≤b→b<n→b<m→gcdF n a b=gcdF m a b
 | 0,m,a,b,_,hb,h,_=>by omega
 | n+1,0,a,b,_,hb,_,h=>by omega
 | n+1,m+1,a,b,ha,hb,h1,h2=>by
  simp only [gcdF]
  split
  · rename_i h0
    have t0:=Int.tmod_nonneg b ha
    have t1:=Int.tmod_lt_of_pos a h0
    exact gcdF_eq hb t0 (by omega) (by omega)
  · rfl
theorem gcd_step {a b:Int} (ha:0≤a) (hb:b > 0):gcdI a b=gcdI b (Int.tmod a b):=by
 have t0:=Int.tmod_nonneg b ha
 have t1:=Int.tmod_lt_of_pos a hb
 rw [gcdI,gcdF,if_pos hb,gcdI]
 exact gcdF_eq (by omega) t0 (by omega) (by omega)
theorem gcd_nonneg {a b:Int} (ha:0≤a) (hb:0≤b):0≤gcdI a b:=by
 have:∀ (n:Nat) (a b:Int),0≤a→0≤b→0≤gcdF n a b:=by
  intro n
  induction n with
  | zero=>intro a b ha _; exact ha
  | succ n ih =>
   intro a b ha hb
   simp only [gcdF]
   split
   · exact ih _ _ hb (Int.tmod_nonneg b ha)
   · exact ha
 exact this _ _ _ ha hb
theorem gcd_ok (a b:Int) (h:0≤a∧0≤b):Pure Try.prog 49 [.int .i64 a,.int .i64 b] (.int .i64 (gcdI a b)):=Qq Try.func49 f49b fun E hE=>by
 have key:∀ (d:Nat) (x y:Int),0≤x→0≤y→y≤d→gcdI a b=gcdI x y→f49G0 E a b x y:=by
  intro d
  induction d with
  | zero =>
   intro x y hx hy hd h
   refine f49W0 a b x y (rv:=gcdI a b) hE ⟨fun h=>by omega,fun h0=>?_⟩
   rw [h,gcdI,gcdF,if_neg h0]
  | succ d ih =>
   intro x y hx hy hd h
   refine f49W0 a b x y (rv:=gcdI a b) hE ⟨fun h0=>⟨by omega,ih _ _ hy (Int.tmod_nonneg y hx) ?_ (by rw [h,gcd_step hx h0])⟩,fun h0=>?_⟩
   · have:=Int.tmod_lt_of_pos x h0; omega
   · rw [h,gcdI,gcdF,if_neg h0]
 exact f49W a b (rv:=gcdI a b) hE (key (Int.toNat b) a b h.1 h.2 (by omega) rfl)
theorem VY (a b:Int) (h:0≤a∧0≤b):Pure Try.prog 117 [.int .i64 a,.int .i64 b] (.int .i64 (iMax (gcdI a b) 1)):=Qq Try.func117 f117b fun E hE=>by
 have key:∀ (d:Nat) (x y:Int),0≤x→0≤y→y≤d→gcdI a b=gcdI x y→f117G0 E a b x y:=by
  intro d
  induction d with
  | zero =>
   intro x y hx hy hd h
   refine f117W0 a b x y (rv:=iMax (gcdI a b) 1) hE ⟨fun h=>by omega,fun h0=>?_⟩
   rw [h,gcdI,gcdF,if_neg h0]
  | succ d ih =>
   intro x y hx hy hd h
   refine f117W0 a b x y (rv:=iMax (gcdI a b) 1) hE ⟨fun h0=>⟨by omega,ih _ _ hy (Int.tmod_nonneg y hx) ?_ (by rw [h,gcd_step hx h0])⟩,fun h0=>?_⟩
   · have:=Int.tmod_lt_of_pos x h0; omega
   · rw [h,gcdI,gcdF,if_neg h0]
 exact f117W a b (rv:=iMax (gcdI a b) 1) hE (key (Int.toNat b) a b h.1 h.2 (by omega) rfl)
def Xw (a b:Int):Int × Bool:=if a > Int.tdiv 1000000000000 b then (0,false) else (a*b,true)
theorem prod_of {a b:Int} (ha:0≤a) (hb:0<b):(Xw a b=(0,false)∧a*b > 1000000000000) ∨ (Xw a b=(a*b,true)∧a*b≤1000000000000):=by
 have e:Int.tdiv 1000000000000 b=1000000000000 / b:=Int.tdiv_eq_ediv_of_nonneg (by omega)
 rw [Xw,e]
 have:a*b≤1000000000000 ↔ a≤1000000000000 / b:=(Int.le_ediv_iff_mul_le hb).symm
 split
 · left; exact ⟨rfl,by omega⟩
 · right; exact ⟨rfl,by omega⟩
theorem VP (a b:Int) (h:0≤a∧0<b):Pure Try.prog 102 [.int .i64 a,.int .i64 b] (.tup [.int .i64 (Xw a b).1,.bool (Xw a b).2]):=Qq Try.func102 f102b fun E hE=>by
 have e:Int.tdiv 1000000000000 b=1000000000000 / b:=Int.tdiv_eq_ediv_of_nonneg (by omega)
 have e1:=Int.ediv_le_self b (show (0:Int)≤1000000000000 by omega)
 have e2:=Int.ediv_nonneg (show (0:Int)≤1000000000000 by omega) (show 0≤b by omega)
 have iff:a*b≤1000000000000 ↔ a≤1000000000000 / b:=(Int.le_ediv_iff_mul_le h.2).symm
 have n0:=Int.mul_nonneg h.1 (show 0≤b by omega)
 refine f102W a b (rv:=Xw a b) hE ⟨by omega,by omega,fun h1=>by rw [Xw,if_pos h1],fun h1=>⟨by omega,by rw [Xw,if_neg h1]⟩⟩
def totI (x:Stg):Int:=(x.turns.map (·.w)).sum
def TotOk (x:Stg):Prop:=x.turns.length≤1000∧∀ t ∈ x.turns,0≤t.w∧t.w≤1000000
theorem WX:∀ {l:List Trn} {B:Int},(∀ t ∈ l,0≤t.w∧t.w≤B)→0≤(l.map (·.w)).sum∧(l.map (·.w)).sum≤B*(l.length:Int)
 | [],B,_=>by simp
 | t :: l,B,h=>by
  have h1:=h t (by simp)
  have h2:=WX (l:=l) (B:=B) fun x hx=>h x (by simp [hx])
  simp only [List.map_cons,List.sum_cons,List.length_cons,Int.natCast_add,Int.mul_add]
  omega
theorem yT (x:Stg) (h:TotOk x):Pure Try.prog 99 [.agg [.int .i64 x.kind,.int .i64 x.prize,.rsl (Qk x.turns) 0 x.turns.length]] (.int .i64 (totI x)):=Qq Try.func99 f99b fun E hE=>by
 have key:∀ (d i:Nat) (s:Int),i+d=x.turns.length→s=((x.turns.take i).map (·.w)).sum→f99G0 E x s i:=by
  intro d
  induction d with
  | zero =>
   intro i s hd hs
   refine f99W0 x s i (rv:=totI x) hE ⟨fun h=>by omega,fun _=>?_⟩
   rw [totI,hs,List.take_of_length_le (by omega)]
  | succ d ih =>
   intro i s hd hs
   have hi:x.turns[i]?=some x.turns[i]:=List.getElem?_eq_getElem (by omega)
   have b1:=h.2 _ (List.mem_of_getElem? hi)
   have b2:=WX (l:=x.turns.take i) (B:=1000000) fun t ht=>h.2 t (List.mem_of_mem_take ht)
   have b3:((x.turns.take i).length:Int)≤1000:=by rw [List.length_take]; have:=h.1; omega
   have:=h.1
   refine f99W0 x s i (rv:=totI x) hE ⟨fun _=>⟨_,hi,by omega,by omega,ih (i+1) _ (by omega) ?_⟩,fun h=>by omega⟩
   rw [List.take_add_one,hi,List.map_append,List.sum_append,hs]; simp
 exact f99W x (rv:=totI x) hE (key x.turns.length 0 0 (by omega) (by simp))
theorem WW (x:Stg) (h:TotOk x):Pure Try.prog 100 [.agg [.int .i64 x.kind,.int .i64 x.prize,.rsl (Qk x.turns) 0 x.turns.length]] (.int .i64 (totI x)):=Qq Try.func100 f100b fun E hE=>by
 have key:∀ (d i:Nat) (s:Int),i+d=x.turns.length→s=((x.turns.take i).map (·.w)).sum→f100G0 E x s i:=by
  intro d
  induction d with
  | zero =>
   intro i s hd hs
   refine f100W0 x s i (rv:=totI x) hE ⟨fun h=>by omega,fun _=>?_⟩
   rw [totI,hs,List.take_of_length_le (by omega)]
  | succ d ih =>
   intro i s hd hs
   have hi:x.turns[i]?=some x.turns[i]:=List.getElem?_eq_getElem (by omega)
   have b1:=h.2 _ (List.mem_of_getElem? hi)
   have b2:=WX (l:=x.turns.take i) (B:=1000000) fun t ht=>h.2 t (List.mem_of_mem_take ht)
   have b3:((x.turns.take i).length:Int)≤1000:=by rw [List.length_take]; have:=h.1; omega
   have:=h.1
   refine f100W0 x s i (rv:=totI x) hE ⟨fun _=>⟨_,hi,by omega,by omega,ih (i+1) _ (by omega) ?_⟩,fun h=>by omega⟩
   rw [List.take_add_one,hi,List.map_append,List.sum_append,hs]; simp
 exact f100W x (rv:=totI x) hE (key x.turns.length 0 0 (by omega) (by simp))
theorem bad_ok (n:Int):Pure Try.prog 108 [.int .i64 n] (.bool (!Qa n 0 10000)):=Qq Try.func108 f108b fun E hE=>f108W n hE rfl
/-- Whether a turn of the stage 'i' is right; 'n' is how many stages there are. -/
def Xd (lo hi i:Int) (n:Nat) (t:Trn):Bool:=Qa t.w lo hi && Qa t.to (i+1) ((n:Int) - 1)
theorem yC (t:Trn) (lo hi i:Int) (s:Stl) (h:(0≤i∧i≤1000000)∧s.stages.length≤1000000):Pure Try.prog 122 [.agg [.int .i64 t.w,.int .i64 t.to],.rptr [.int .i64 lo] 0,.rptr [.int .i64 hi] 0,.rptr [.int .i64 i] 0,.rptr [.rsl (Qd s.stages) 0 s.stages.length,.rsl (rowI s.worth) 0 s.worth.length,.int .i64 s.price] 0] (.bool (!Xd lo hi i s.stages.length t)):=Qq Try.func122 f122b fun E hE =>
 f122W t lo hi i s (rv:=!Xd lo hi i s.stages.length t) hE ⟨fun h1=>by simp [Xd,h1],fun h1=>⟨by omega,by omega,by simp [Xd,h1]⟩⟩
def Va (s:Stl) (i:Nat) (x:Stg):Bool :=
 if x.kind=4 then decide (x.turns.length=0) && Qa x.prize (-1) ((s.worth.length:Int) - 1)
 else Qa x.kind 1 3 && (decide (x.prize=0) && (Qa x.turns.length 1 8 && x.turns.all (Xd (if x.kind=1 then 1 else 0) (if x.kind=1 then 100 else 0) i s.stages.length)))
def QP (s:Stl) (i:Nat):Bool:=match s.stages[i]? with
 | some x=>Va s i x
 | none=>false
theorem yB (s:Stl) (i:Nat) (h:i<s.stages.length∧s.stages.length≤1000000∧s.worth.length≤1000000):Pure Try.prog 63 [.agg [.rsl (Qd s.stages) 0 s.stages.length,.rsl (rowI s.worth) 0 s.worth.length,.int .i64 s.price],.int .i64 (i:Int)] (.bool (QP s i)):=Qq Try.func63 f63b fun E hE=>by
 have hi:s.stages[i]?=some s.stages[i]:=List.getElem?_eq_getElem h.1
 have hr:QP s i=Va s i s.stages[i]:=by rw [QP,hi]
 generalize s.stages[i]=x at hi hr
 refine f63W s i (rv:=QP s i) hE ⟨by omega,x,by rw [show Int.toNat (i:Int)=i by omega]; exact hi,fun h1=>⟨fun h2=>⟨by omega,?_⟩,fun h2=>?_⟩,fun h1=>⟨fun h2=>?_,fun h2=>⟨fun h3=>?_,fun h3=>⟨fun h4=>?_,fun h4=>?_⟩⟩⟩⟩
 · rw [hr,Va,if_pos h1,decide_eq_true (by omega)]; rfl
 · rw [hr,Va,if_pos h1,decide_eq_false (by omega)]; rfl
 · rw [hr,Va,if_neg h1,h2]; rfl
 · rw [hr,Va,if_neg h1,h2,decide_eq_false h3]; rfl
 · rw [hr,Va,if_neg h1,h2,decide_eq_true h3,h4]; rfl
 have hr2:QP s i=x.turns.all (Xd (if x.kind=1 then 1 else 0) (if x.kind=1 then 100 else 0) i s.stages.length):=by
  rw [hr,Va,if_neg h1,h2,decide_eq_true h3,h4]; simp
 have w4:=Qz.1 h4
 have key:∀ (d k:Nat),k+d=x.turns.length→QP s i=(x.turns.drop k).all (Xd (if x.kind=1 then 1 else 0) (if x.kind=1 then 100 else 0) i s.stages.length)→f63G0 E s i x.kind x.prize x.turns k:=by
  intro d
  induction d with
  | zero =>
   intro k hd hk
   rw [List.drop_eq_nil_of_le (by omega)] at hk
   exact f63W0 s i x.kind x.prize x.turns k (rv:=QP s i) hE ⟨fun h=>by omega,fun _=>hk⟩
  | succ d ih =>
   intro k hd hk
   have hk2:x.turns[k]?=some x.turns[k]:=List.getElem?_eq_getElem (by omega)
   rw [List.drop_eq_getElem_cons (by omega),List.all_cons] at hk
   generalize x.turns[k]=t at hk hk2
   have next:Xd (if x.kind=1 then 1 else 0) (if x.kind=1 then 100 else 0) i s.stages.length t=true→f63G0 E s i x.kind x.prize x.turns (k+1):=fun hg=>ih (k+1) (by omega) (by rw [hk,hg]; rfl)
   have bad:Xd (if x.kind=1 then 1 else 0) (if x.kind=1 then 100 else 0) i s.stages.length t=false→QP s i=false:=fun hg=>by rw [hk,hg]; rfl
   refine f63W0 s i x.kind x.prize x.turns k (rv:=QP s i) hE ⟨fun _=>⟨t,hk2,by omega,by omega,fun h5=>bad (by simp [Xd,h5]),fun h5=>⟨fun h6=>⟨fun h7=>bad (by simp [Xd,h6,h7]),fun h7=>⟨fun h8=>absurd h6 h8,fun _=>⟨by omega,next (by simp [Xd,h5,h6,h7])⟩⟩⟩,fun h6=>⟨fun _=>⟨fun h7=>bad ?_,fun h7=>⟨by omega,next ?_⟩⟩,fun h8=>absurd h8 h6⟩⟩⟩,fun h=>by omega⟩
   · have:Qa t.w 0 0=false:=yi.2 (by omega)
     simp [Xd,h6,this]
   · have:Qa t.w 0 0=true:=Qz.2 (by omega)
     simp [Xd,h5,h6,this]
 exact key x.turns.length 0 (by omega) (by simpa using hr2)
end Go.Proofs.Ytfgmlaeikcfpbaa