/- A part of the proof: several texts, one behind the other. -/
import Derived.Test.YtgdfkjjgdkejfaaLRideEmptiedA
import Derived.RangeFuncRecord
import Derived.Laws.Sem
import Derived.Orders
import Derived.Shelf.Abstract
import Derived.Defers
import Derived.Test.YtgdfkjjgdkejfaaChecked
set_option linter.unusedVariables false
set_option linter.unusedSimpArgs false
set_option maxRecDepth 100000
namespace Ax
open Go
section
variable {P:Program} {E:Env} {K K':List Item} {st st':St}
def qK (P:Program) (f:FuncId) (cs:List Frame) (Post:Value→World→Prop) (m:Machine):Prop :=
 ∃ v w' fr,m=lone fr cs w'∧fr.fn=f∧fr.leaving P w' (.returned v)∧Post v w'
theorem qp {cs:List Frame} {M Z:Nat→Prop} {w0:World}:∀ (Ds:List Nat) (fr:Frame) (w:World),fr.mode=.returning→fr.defers=Ds.map mark→Ds.Nodup →
 (∀ D ∈ Ds,Z D∧(M D ∨ w0.heap.size≤D)∧w.heap[D]?=some (.deferred (some []))) →
 ∃ w',Steps P (lone fr cs w) (lone { fr with defers:=[] } cs w')∧EvoC w w'∧(Fr w0 M w→Fr w0 M w')
 | [],fr,w,hm,hd,hn,h=>by
  refine ⟨w,?_,⟨fun _ _ _ h=>h,rfl⟩,fun h=>h⟩
  have:fr={ fr with defers:=[] }:=by cases fr; simp at hd; simp [hd]
  rw [← this]; exact .refl _ _
 | D :: Ds,fr,w,hm,hd,hn,h=>by
  obtain ⟨h1,h2,h3⟩:=h D (by simp)
  have s1:=step_collected (P:=P) (cs:=cs) (fr:=fr) (by rw [hm]; simp) (d:=mark D) (ds:=Ds.map mark) (by simpa using hd) rfl (run_takeDeferred h3)
  obtain ⟨w',s2,e2,f2⟩:=qp (M:=M) Ds { fr with defers:=[]++Ds.map mark } (w.putObj D (.deferred none)) hm rfl (List.nodup_cons.1 hn).2 fun D' hD'=>by
   obtain ⟨a,b,c⟩:=h D' (by simp [hD'])
   refine ⟨a,b,?_⟩
   have:D ≠ D':=fun e=>(List.nodup_cons.1 hn).1 (e ▸ hD')
   simp [World.putObj,this,c]
  refine ⟨w',.trans (.one s1) s2,⟨fun b ob hnd hb=>e2.objs b ob hnd ?_,by rw [e2.size]; simp [World.putObj]⟩,fun hf=>f2 ?_⟩
  · have:D ≠ b:=by rintro rfl; rw [h3] at hb; cases hb; exact hnd _ rfl
    simp [World.putObj,this,hb]
  · refine ⟨hf.os,hf.tape,hf.output,by simpa [World.putObj] using hf.size,fun b hb hM=>?_⟩
    have:D ≠ b:=by rintro rfl; rcases h2 with h2 | h2; exact hM h2; omega
    simp [World.putObj,this]; exact hf.same b hb hM
def tupV:List Value→Value
 | [v]=>v
 | cs=>.tuple cs.toArray
theorem qe {fn:Func} {arr:Array Value} {w:World} {cs:List Value}
 (h:(fn.results.toList.mapM (resF arr)).run P w=.ok cs w) :
 (results fn arr).run P w=.ok (tupV cs) w:=by
 have hF:results fn arr=(do let vs ← fn.results.mapM (resF arr); pure (if h:vs.size=1 then vs[0] else .tuple vs):Sem Value):=by
  unfold results
  congr 2
 rw [hF,Array.mapM_eq_mapM_toList]
 simp only [Sem.run_bind,map_eq_pure_bind,Sem.run_pure]
 rw [h]
 simp only [Result.andThen_ok,Sem.run_pure]
 split
 · rename_i h1
   match cs,h1 with
   | [v],_=>rfl
 · rename_i h1
   match cs,h1 with
   | [],_=>rfl
   | [v],h1=>simp at h1
   | a :: b :: c,_=>rfl
def tupA:List AV→AV
 | [v]=>v
 | vs=>.tup vs
theorem qN {Z:Nat→Prop} {w:World} {C:Ctx} {vs:List AV} {cs:List Value} (h:VRs Z w C vs cs):VR Z w C (tupA vs) (tupV cs):=by
 obtain ⟨h1,h2⟩:=h
 match vs,cs,h1 with
 | [],[],_=>exact .tup rfl (by simp)
 | [v],[c],_=>exact h2 0 v c rfl rfl
 | a :: b :: r,a' :: b' :: r',h1=>exact .tup (by simpa using h1) fun i c v p q=>h2 i c v p (by simpa using q)
/-- The end of a function's body. -/
theorem G_end {fn:Func} {evs evs':List EV} {vs:List AV} {obs:List Prop} {Post:Value→World→Prop}
 (hr:E.b.roundOf=none) (hk:E.b.kind=.normal) (hdf:E.df=[]) (hf:P.funcs[E.b.fn]?=some fn) (hfin:E.Fin=qK P E.b.fn E.cs Post)
 (h:resA P st fn.results.toList evs=some (vs,evs',obs)) (ho:AllP obs)
 (hp:∀ (C:Ctx) (Z:Nat→Prop) (w:World) (v:Value),Mem E.Z0 E.M E.w0 C Z st.blks w→VR Z w C (tupA vs) v→Base E.Cb E.w0 C w→Post v w)
 (hK:K=[] ∨ ∃ k,K=.code .ret :: k):G P E K st:=by
 intro C Z a w hrel
 have hs:step P (lone (E.b.atR a K) E.cs w)=.next (lone { E.b.atR a K with mode:=.returning } E.cs w):=by
  rcases hK with rfl | ⟨k,rfl⟩
  · exact stepR_end hr
  · exact stepR_ret hr
 obtain ⟨Ds,d1,d2,d3⟩:=hrel.marks
 obtain ⟨w',s2,e2,f2⟩:=qp (P:=P) (cs:=E.cs) (M:=E.M) (w0:=E.w0) Ds { E.b.atR a K with mode:=.returning } w rfl (d2.eq hdf) d1 d3
 have hm':=hrel.mem.evoC e2 (f2 hrel.mem.frame)
 have ht':VRs Z w' C st.tmps a.tmps.toList:=⟨hrel.tmp.1,fun i c v p q=>(hrel.tmp.2 i c v p q).evoC e2⟩
 obtain ⟨cs,r1,r2⟩:=VU hm' ht' h ho
 refine ⟨_,.trans (.one hs) s2,?_⟩
 rw [hfin]
 exact ⟨_,w',_,rfl,rfl,⟨rfl,rfl,hk,fn,hf,qe r1⟩,hp C Z w' _ hm' (qN r2) (hrel.base.evoC e2)⟩
/-- A function that only reads what it is handed. -/
def Pure (P:Program) (f:FuncId) (args:List AV) (res:AV):Prop :=
 ∀ (Z:Nat→Prop) (w:World) (cargs:Array Value),(∀ b,Z b→b<w.heap.size)→VRs Z w C0 args cargs.toList →
  Calls P f cargs w fun e w'=>∃ v,e=.returned v∧VR (Zx Z w w') w' C0 res v∧Fr w (fun _=>False) w'
def unds:Nat→List AV
 | 0=>[]
 | n+1=>.tup [] :: unds n
theorem Vj:∀ n,unds n=List.replicate n (.tup [])
 | 0=>rfl
 | n+1=>by simp [unds,Vj n,List.replicate_succ]
/-- The frame of a called function,and what it must come to. -/
def callEnv (P:Program) (f:FuncId) (Z:Nat→Prop) (M:Nat→Prop) (w:World) (cs:List Frame) (Post:Value→World→Prop):Env :=
 { Z0:=Z,M:=M,w0:=w,b:={ (default:Frame) with fn:=f,kind:=.normal },cs:=cs,Fin:=qK P f cs Post }
def Qn (P:Program) (f:FuncId) (res:AV) (E:Env):Prop :=
 E.b.roundOf=none∧E.b.kind=.normal∧E.b.fn=f∧(∀ b,¬ E.M b) ∧
  E.gA=[]∧E.Fin=(qK P f E.cs fun v w'=>VR (Zx E.Z0 E.w0 w') w' C0 res v∧Fr E.w0 (fun _=>False) w')∧E.Cb=C0∧E.df=[]
theorem Qn.kind {f:FuncId} {res:AV} (hE:Qn P f res E):E.b.kind=.normal:=hE.2.1
theorem Qn.cb {f:FuncId} {res:AV} (hE:Qn P f res E):E.Cb=C0:=hE.2.2.2.2.2.2.1
theorem mem_nil {Z:Nat→Prop} {w:World} (hz:∀ b,Z b→b<w.heap.size):Mem Z (fun _=>False) w C0 Z [] w :=
 ⟨by simp,by simp,by simp,fun _ _=>⟨rfl,rfl⟩,fun _ _ _ _ _ h=>by simp [C0] at h,fun _ _ _ h=>by simp [C0] at h,hz,fun _ h=>h,fun _ h=>.inl h,Fr.refl _ _⟩
theorem QT {f:FuncId} {fn:Func} {c:Code} {args:List AV} {res:AV} (hf:P.funcs[f]?=some fn) (hb:fn.body=some c)
 (h:∀ E,Qn P f res E→G P E [.code c] ⟨args++unds (fn.ntmps - args.length),[]⟩):Pure P f args res:=by
 intro Z w cargs hz ha cs
 have hE:Qn P f res (callEnv P f Z (fun _=>False) w cs fun v w'=>VR (Zx Z w w') w' C0 res v∧Fr w (fun _=>False) w') :=
  ⟨rfl,rfl,rfl,fun _ h=>h,rfl,rfl,rfl,rfl⟩
 have henter:Frame.enter P f cargs .normal=({ (default:Frame) with fn:=f,kind:=.normal }:Frame).atR { tmps:=cargs++Array.replicate (fn.ntmps - cargs.size) undef,defers:=[] } [.code c]:=by
  simp only [Frame.enter,Frame.atR,hf,hb,Option.map_some,Option.getD_some,Option.bind_some]; rfl
 have hl:args.length=cargs.size:=by simpa using ha.1
 obtain ⟨m',s,v,w',fr,rfl,r1,r2,r3⟩:=h _ hE C0 Z { tmps:=cargs++Array.replicate (fn.ntmps - cargs.size) undef,defers:=[] } w
  ⟨⟨by simp [Vj,hl],fun i x y p q=>by
   simp only [Array.toList_append,Array.toList_replicate] at q
   rw [Vj] at p
   by_cases hi:i<args.length
   · rw [List.getElem?_append_left hi] at p
     rw [List.getElem?_append_left (by simpa [← hl] using hi)] at q
     exact ha.2 i x y p q
   · rw [List.getElem?_append_right (by omega)] at p
     rw [List.getElem?_append_right (by simp; omega)] at q
     have p':=List.mem_replicate.1 (List.mem_of_getElem? p)
     have q':=List.mem_replicate.1 (List.mem_of_getElem? q)
     rw [p'.2,q'.2]
     exact .tup rfl (by simp)⟩,mem_nil hz,⟨[],.nil,.nil,by simp⟩,⟨rfl,fun _ _ _ h _=>by cases h⟩,.bot⟩
 rw [henter]
 exact ⟨.returned v,w',fr,⟨v,rfl,r3⟩,s,r1,r2⟩
/-- The end of a function that only reads: its result,laid down. -/
theorem G_pure {f:FuncId} {fn:Func} {evs evs':List EV} {vs:List AV} {obs o2:List Prop} {res:AV} (hE:Qn P f res E) (hf:P.funcs[f]?=some fn)
 (h:resA P st fn.results.toList evs=some (vs,evs',obs)) (ho:AllP obs) (h2:(frz 8 (tupA vs)).run (st.blks[·]?)=some (res,o2)) (ho2:AllP o2)
 (hK:K=[] ∨ ∃ k,K=.code .ret :: k):G P E K st:=by
 obtain ⟨e1,e2,rfl,e4,-,e5,-,e6⟩:=hE
 refine G_end e1 e2 e6 hf e5 h ho (fun C Z w v hm hv _=>⟨?_,?_⟩) hK
 · refine (YO hm h2 ho2 hv).zmono fun b hb=>?_
   rcases hb with hb | ⟨k,o,hb⟩
   · rcases hm.zsub b hb with hb' | hb' | hb'
     · exact .inl hb'
     · exact absurd hb' (e4 b)
     · exact .inr ⟨hb',hm.zlt b hb⟩
   · obtain ⟨q1,q2,q3⟩:=hm.own k b o hb
     exact .inr ⟨q3.resolve_left (e4 b),q1⟩
 · have:=hm.frame
   exact ⟨this.os,this.tape,this.output,this.size,fun b hb _=>this.same b hb (e4 b)⟩
end
end Ax
namespace Ax
open Go
section
variable {P:Program} {E:Env} {K K':List Item} {st st':St}
theorem aop_congr {o:Oper} {ev ev':Operand→AV} {evs:List EV} (h:∀ x ∈ o.op.operands,ev x=ev' x):aop P o ev evs=aop P o ev' evs:=by
 obtain ⟨dst,op,type,pos,after,guard⟩:=o
 have pairs:∀ ps:Array (Nat × Operand),(∀ x ∈ (ps.toList.map (·.2)).toArray,ev x=ev' x)→(ps.toList.map fun p=>(p.1,ev p.2))=(ps.toList.map fun p=>(p.1,ev' p.2)):=fun ps hp =>
  List.map_congr_left fun p hm=>by rw [hp p.2 (by simp; exact ⟨p.1,by simpa using hm⟩)]
 cases op <;> simp only [Op.operands] at h <;> simp only [aop]
 case build t ps=>rw [pairs ps h]
 case buildSlice t n ps=>rw [pairs ps h]
 case makeFunc fn first captured =>
  cases fn <;> simp only
  rw [List.map_congr_left (l:=first.toList) fun x hx=>h x (by simp; exact .inl (by simpa using hx)),List.map_congr_left (l:=captured.toList) fun x hx=>h x (by simp; exact .inr (by simpa using hx))]
 case call c =>
  obtain ⟨callee,args,ats⟩:=c
  have hargs:args.toList.map ev=args.toList.map ev':=List.map_congr_left fun x hx=>h x (by simp [Call.operands]; exact .inr (by simpa using hx))
  cases callee with
  | value f=>have hf:ev f=ev' f:=h f (by simp [Call.operands]); simp only [hf,hargs]
  | invoke r m=>rfl
  | builtin b=>simp only [hargs]
 case slice t x lo hi mx=>cases lo <;> cases hi <;> cases mx <;> simp_all
 case makeMap t r=>cases r <;> rfl
 all_goals (first | rfl | (simp_all; done))
theorem Rd.run_congr {α:Type} {gb gb':Nat→Option Blk}:∀ {x:Rd α} {r:α},(∀ k ∈ x.log gb,gb' k=gb k)→x.run gb=some r→x.run gb'=some r∧x.log gb'=x.log gb
 | .ok a,r,h,hr=>⟨hr,rfl⟩
 | .fail,r,h,hr=>by cases hr
 | .get k f,r,h,hr=>by
  obtain ⟨b,hb,hr⟩:=Xb hr
  have hk:gb' k=some b:=by rw [h k (by simp [Rd.log,hb]),hb]
  obtain ⟨h1,h2⟩:=Rd.run_congr (gb':=gb') (fun j hj=>h j (by simp [Rd.log,hb,hj])) hr
  exact ⟨by simp only [Rd.run,hk]; exact h1,by simp only [Rd.log,hk,hb,h2]⟩
def conc1 (g:Bool) (v:AV) (evs:List EV):Option (AV × List EV × List Prop) :=
 match g with
 | true=>(match v,evs with
  | .bool c,.b x :: r=>some (.bool x,r,[c=x])
  | _,_=>none)
 | false=>some (v,evs,[])
theorem conc1_sound {Z:Nat→Prop} {w:World} {C:Ctx} {g:Bool} {v tv:AV} {c:Value} {evs evs':List EV} {obs:List Prop} (h:VR Z w C v c)
 (hc:conc1 g v evs=some (tv,evs',obs)) (ho:AllP obs):VR Z w C tv c:=by
 unfold conc1 at hc
 split at hc
 · split at hc
   · simp only [Option.some.injEq,Prod.mk.injEq] at hc
     obtain ⟨rfl,-,rfl⟩:=hc
     rw [← ho.1]; exact h
   · cases hc
 · simp only [Option.some.injEq,Prod.mk.injEq] at hc
   obtain ⟨rfl,-,-⟩:=hc
   exact h
structure Rec where
 dst:Option Nat
 tv:AV
 blk:Option (Nat × Blk)
 rt:List Nat
 rb:List Nat
 fresh:Bool
def app1 (s:St) (r:Rec):St:=⟨putA s.tmps r.dst r.tv,match r.blk with | some (k,b)=>s.blks.set k b | none=>s.blks⟩
def recA (P:Program) (ops:Array Oper) (idx i:Nat) (o:Oper) (st:St) (evs:List EV):Option (Rec × List EV × List Prop) :=
 match Wb ops st.tmps o with
 | none=>none
 | some false=>some (⟨o.dst,.tup [],none,o.looksAt ops,[],false⟩,evs,[])
 | some true =>
  match (aop P o (Wj st.tmps) evs).run (st.blks[·]?) with
  | none=>none
  | some (eff,evs1,o1) =>
   match conc1 (isGuard ops i) (eff.av idx) evs1 with
   | none=>none
   | some (tv,evs2,o2) =>
    match eff with
    | .val _=>some (⟨o.dst,tv,none,o.looksAt ops,(aop P o (Wj st.tmps) evs).log (st.blks[·]?),false⟩,evs2,o1++o2)
    | .upd k b _=>some (⟨o.dst,tv,some (k,b),o.looksAt ops,(aop P o (Wj st.tmps) evs).log (st.blks[·]?),false⟩,evs2,o1++o2)
    | .new b _=>match st.blks[idx]? with
     | some ⟨false,0,0,true,[],false⟩=>some (⟨o.dst,tv,some (idx,b),o.looksAt ops,idx :: (aop P o (Wj st.tmps) evs).log (st.blks[·]?),true⟩,evs2,o1++o2)
     | _=>none
theorem Mem.pushN {Z0 M Z:Nat→Prop} {w0 w:World} {C:Ctx} {blks:List Blk} (hm:Mem Z0 M w0 C Z blks w):∀ m,Mem Z0 M w0 C Z (blks++List.replicate m dead) w
 | 0=>by simpa using hm
 | m+1=>by
  rw [List.replicate_succ',← List.append_assoc]
  exact (hm.pushN m).push
theorem Mem.popN {Z0 M Z:Nat→Prop} {w0 w:World} {C:Ctx} {blks:List Blk}:∀ m,Mem Z0 M w0 C Z (blks++List.replicate m dead) w→Mem Z0 M w0 C Z blks w
 | 0,hm=>by simpa using hm
 | m+1,hm=>by
  rw [List.replicate_succ',← List.append_assoc] at hm
  exact hm.pop.popN m
/-- One operation,with its new block's place told. -/
theorem op_core {ops:Array Oper} {i idx:Nat} {o:Oper} {rest:List Nat} {k:List Item} {eff:Eff} {tv:AV} {g:Bool} {evs evs1 evs2:List EV} {obs1 obs2:List Prop} (ho:ops[i]?=some o) {HK:Prop} (hk:HK)
 (hw:Wb ops st.tmps o=some true) (ha:(aop P o (Wj st.tmps) evs).run (st.blks[·]?)=some (eff,evs1,obs1)) (ob1:AllP obs1)
 (hc:conc1 g (eff.av idx) evs1=some (tv,evs2,obs2)) (ob2:AllP obs2) (hidx:st.blks[idx]?=some dead)
 (hg:G P E (.inRegion ops rest :: k) ⟨putA st.tmps o.dst tv,eff.blks idx st.blks⟩):G P E (.inRegion ops (i :: rest) :: k) st:=by
 intro C Z a w hr
 have hwc:=YA hr.tmp hw
 have hop:=aop_sound (idx:=idx) hr.mem hidx (Yu hr.tmp) ha ob1
 have hgo:=stepGR_op (P:=P) (b:=E.b) (k:=k) (cs:=E.cs) (w:=w) (rest:=rest) ho hwc
 rw [Oper.semAt_eq _ _ _ (not_defer ha)] at hgo
 have hfin:∀ v,(E.b.atR a (.inRegion ops (i :: rest) :: k)).finish v=E.b.atR (a.put o.dst v) (.inRegion ops rest :: k):=by
  intro v; rw [Frame.finish_atR,ho]; rfl
 have next:∀ (c:Value) (w':World),Res E.Z0 E.M E.w0 C Z st.blks w idx eff c w'→Reach P (lone (E.b.atR (a.put o.dst c) (.inRegion ops rest :: k)) E.cs w') E.Fin:=by
  rintro c w' ⟨C',Z',hle,hevo,hm,hv⟩
  refine hg C' Z' _ w' ⟨(hr.tmp.next hle hevo).put (conc1_sound hv hc ob2) o.dst,hm,?_,hr.gh.next hle hevo,hr.base.next hle hevo⟩
  have:(a.put o.dst c).defers=a.defers:=by cases o.dst <;> rfl
  rw [this]; exact hr.marks.evo hevo
 rcases hop with ⟨c,w',hrun,hq⟩ | ⟨w',hrun,hq⟩ | ⟨f,args,hrun,hcall⟩
 · refine .step (.one (step_lone_go ?_)) (next c w' hq)
   rw [hgo,← hfin]; simp [stepG.apply,hrun]
 · refine .step (.one (step_lone_go ?_)) (next undef w' hq)
   rw [hgo,← hfin]; simp [stepG.apply,hrun]
 · obtain ⟨e,w'',fr,⟨v,rfl,hq⟩,hsteps,-,hleave⟩:=hcall (E.b.atR a (.inRegion ops (i :: rest) :: k) :: E.cs)
   have henter:step P (lone (E.b.atR a (.inRegion ops (i :: rest) :: k)) E.cs w) =
    .next (lone (Frame.enter P f args .normal) (E.b.atR a (.inRegion ops (i :: rest) :: k) :: E.cs) w) :=
    step_lone_go (by rw [hgo]; simp [stepG.apply,hrun,Frame.atR])
   refine .step (Steps.head henter (hsteps.trans (.one ?_))) (next v w'' hq)
   rw [← hfin]; exact step_leave_returned hleave
theorem G_push {m:Nat} (hg:G P E K ⟨st.tmps,st.blks++List.replicate m dead⟩):G P E K st :=
 fun C Z a w hr=>hg C Z a w ⟨hr.tmp,hr.mem.pushN m,hr.marks,hr.gh,hr.base⟩
theorem G_pop {tmps:List AV} {blks:List Blk} {m:Nat} (hg:G P E K ⟨tmps,blks⟩):G P E K ⟨tmps,blks++List.replicate m dead⟩ :=
 fun C Z a w hr=>hg C Z a w ⟨hr.tmp,Mem.popN m hr.mem,hr.marks,hr.gh,hr.base⟩
theorem eff_idx {eff:Eff} {blks:List Blk} {j j':Nat} (h:∀ b mk,eff ≠ .new b mk):eff.blks j blks=eff.blks j' blks∧eff.av j=eff.av j':=by
 cases eff with
 | val v=>exact ⟨rfl,rfl⟩
 | upd k b v=>exact ⟨rfl,rfl⟩
 | new b mk=>exact absurd rfl (h b mk)
theorem rec_step {ops:Array Oper} {i idx:Nat} {o:Oper} {rest:List Nat} {k:List Item} {r:Rec} {evs evs':List EV} {obs:List Prop} (ho:ops[i]?=some o) {HK:Prop} (hk:HK)
 (h:recA P ops idx i o st evs=some (r,evs',obs)) (hob:AllP obs) (hg:G P E (.inRegion ops rest :: k) (app1 st r)):G P E (.inRegion ops (i :: rest) :: k) st:=by
 unfold recA at h
 split at h
 · cases h
 · rename_i hw
   simp only [Option.some.injEq,Prod.mk.injEq] at h
   obtain ⟨rfl,-,-⟩:=h
   intro C Z a w hr
   have hwc:=YA hr.tmp hw
   have hs:=stepR_op_skip (P:=P) (b:=E.b) (a:=a) (k:=k) (cs:=E.cs) (w:=w) (ops:=ops) (i:=i) (rest:=rest) (by simp [ho,hwc])
   simp only [ho,Option.bind_some] at hs
   refine .step (.one hs) (hg C Z _ w ⟨hr.tmp.put (.tup (by simp) (by simp)) o.dst,hr.mem,?_,hr.gh,hr.base⟩)
   cases hd:o.dst <;> exact hr.marks
 · rename_i hw
   split at h
   · cases h
   · rename_i eff evs1 obs1 ha
     split at h
     · cases h
     · rename_i tv evs2 obs2 hc
       -- where nothing is new,the place is a dead one behind
       have old:(∀ b mk,eff ≠ .new b mk)→G P E (.inRegion ops rest :: k) ⟨putA st.tmps o.dst tv,eff.blks st.blks.length st.blks⟩→AllP obs1→AllP obs2→G P E (.inRegion ops (i :: rest) :: k) st:=by
        intro hn hg ob1 ob2
        refine G_push (m:=1) ?_
        have ha':=Rd.run_mono (gb':=fun k=>(st.blks++[dead])[k]?) (fun k b h=>by rw [List.getElem?_append_left (List.getElem?_eq_some_iff.1 h).1]; exact h) ha
        refine op_core (st:=⟨st.tmps,st.blks++[dead]⟩) (idx:=st.blks.length) ho hk hw ha' ob1 (tv:=tv) (by rw [(eff_idx (blks:=st.blks) (j:=st.blks.length) (j':=idx) hn).2]; exact hc) ob2 (by simp) ?_
        have:eff.blks st.blks.length (st.blks++[dead])=eff.blks st.blks.length st.blks++List.replicate 1 dead:=by
         cases eff with
         | val v=>rfl
         | new b mk=>exact absurd rfl (hn b mk)
         | upd kk b v=>exact List.set_append_left kk b (aop_upd ha)
        rw [this]
        exact G_pop hg
       split at h
       · simp only [Option.some.injEq,Prod.mk.injEq] at h
         obtain ⟨rfl,-,rfl⟩:=h
         obtain ⟨ob1,ob2⟩:=QE.1 hob
         exact old (by simp) hg ob1 ob2
       · simp only [Option.some.injEq,Prod.mk.injEq] at h
         obtain ⟨rfl,-,rfl⟩:=h
         obtain ⟨ob1,ob2⟩:=QE.1 hob
         exact old (by simp) hg ob1 ob2
       · split at h
         · rename_i hidx
           simp only [Option.some.injEq,Prod.mk.injEq] at h
           obtain ⟨rfl,-,rfl⟩:=h
           obtain ⟨ob1,ob2⟩:=QE.1 hob
           exact op_core ho hk hw ha ob1 hc ob2 hidx hg
         · cases h
theorem mem_looks {ops:Array Oper} {o:Oper} {t:Nat} (h:.tmp t ∈ o.op.operands):t ∈ o.looksAt ops :=
 List.mem_append_left _ (List.mem_filterMap.2 ⟨.tmp t,by simpa using h,rfl⟩)
theorem recA_congr {ops:Array Oper} {i idx:Nat} {o:Oper} {r:Rec} {evs evs':List EV} {obs:List Prop} (h:recA P ops idx i o st evs=some (r,evs',obs))
 (ht:∀ t ∈ r.rt,st'.tmps[t]?=st.tmps[t]?) (hb:∀ k ∈ r.rb,st'.blks[k]?=st.blks[k]?):recA P ops idx i o st' evs=some (r,evs',obs):=by
 have hrt:r.rt=o.looksAt ops:=by
  unfold recA at h
  repeat' (split at h)
  all_goals first | (cases h; done) | (simp only [Option.some.injEq,Prod.mk.injEq] at h; obtain ⟨rfl,-,-⟩:=h; rfl)
 rw [hrt] at ht
 have hwa:Wb ops st'.tmps o=Wb ops st.tmps o:=by
  unfold Wb
  cases hg:o.guard with
  | none=>rfl
  | some g =>
   obtain ⟨j,want⟩:=g
   simp only
   cases hd:(ops[j]?).bind (·.dst) with
   | none=>rfl
   | some d =>
    have:st'.tmps[d]?=st.tmps[d]?:=ht d (by
     unfold Oper.looksAt
     refine List.mem_append_right _ ?_
     simp only [hg]
     rw [hd]; simp)
    simp only [this]
 have hev:∀ x ∈ o.op.operands,Wj st.tmps x=Wj st'.tmps x:=by
  intro x hx
  cases x with
  | tmp t=>simp only [Wj,List.getD_eq_getElem?_getD,ht t (mem_looks hx)]
  | _=>rfl
 unfold recA at h ⊢
 rw [hwa]
 split at h
 · cases h
 · exact h
 · rename_i hw
   rw [← aop_congr (P:=P) (evs:=evs) hev]
   split at h
   · cases h
   · rename_i eff evs1 obs1 ha
     split at h
     · cases h
     · rename_i tv evs2 obs2 hc
       split at h
       · simp only [Option.some.injEq,Prod.mk.injEq] at h
         obtain ⟨rfl,rfl,rfl⟩:=h
         obtain ⟨h1,h2⟩:=Rd.run_congr (gb':=(st'.blks[·]?)) hb ha
         simp only [h1,hc,h2]
       · simp only [Option.some.injEq,Prod.mk.injEq] at h
         obtain ⟨rfl,rfl,rfl⟩:=h
         obtain ⟨h1,h2⟩:=Rd.run_congr (gb':=(st'.blks[·]?)) hb ha
         simp only [h1,hc,h2]
       · split at h
         · rename_i hidx
           simp only [Option.some.injEq,Prod.mk.injEq] at h
           obtain ⟨rfl,rfl,rfl⟩:=h
           obtain ⟨h1,h2⟩:=Rd.run_congr (gb':=(st'.blks[·]?)) (fun k hk=>hb k (List.mem_cons_of_mem _ hk)) ha
           have h3:=hb idx (List.mem_cons_self ..)
           simp only [h1,hc,h2,h3,hidx]
         · cases h
end
end Ax
namespace Ax
open Go
section
variable {P:Program} {E:Env} {K K':List Item} {st st':St}
/-- The records of 'D' alone,in the text's order. -/
def mix (D:Nat→Bool):Nat→List Rec→St→St
 | _,[],s=>s
 | i,r :: rs,s=>mix D (i+1) rs (bif D i then app1 s r else s)
theorem yw {s:St} {r:Rec} {t:Nat} (h:r.dst ≠ some t):(app1 s r).tmps[t]?=s.tmps[t]?:=by
 unfold app1 putA
 cases hd:r.dst with
 | none=>rfl
 | some d=>simp only; rw [List.getElem?_set_ne (fun e=>h (by rw [hd,e]))]
theorem yx {s:St} {r:Rec} {k:Nat} (h:∀ b,r.blk ≠ some (k,b)):(app1 s r).blks[k]?=s.blks[k]?:=by
 unfold app1
 cases hd:r.blk with
 | none=>rfl
 | some p =>
  obtain ⟨j,b⟩:=p
  simp only; rw [List.getElem?_set_ne (fun e=>h b (by rw [hd,e]))]
theorem app1_tmps_eq {s s':St} {r:Rec} {t:Nat} (h:s.tmps[t]?=s'.tmps[t]?):(app1 s r).tmps[t]?=(app1 s' r).tmps[t]?:=by
 unfold app1 putA
 cases hd:r.dst with
 | none=>exact h
 | some d =>
  simp only
  by_cases e:d=t
  · subst e; rw [List.getElem?_set_self',List.getElem?_set_self',h]
  · rw [List.getElem?_set_ne e,List.getElem?_set_ne e,h]
theorem app1_blks_eq {s s':St} {r:Rec} {k:Nat} (h:s.blks[k]?=s'.blks[k]?):(app1 s r).blks[k]?=(app1 s' r).blks[k]?:=by
 unfold app1
 cases hd:r.blk with
 | none=>exact h
 | some p =>
  obtain ⟨j,b⟩:=p
  simp only
  by_cases e:j=k
  · subst e; rw [List.getElem?_set_self',List.getElem?_set_self',h]
  · rw [List.getElem?_set_ne e,List.getElem?_set_ne e,h]
theorem mix_tmps {D D':Nat→Bool} {t:Nat}:∀ {a:Nat} {rs:List Rec} {s s':St},(∀ j r,rs[j]?=some r→r.dst=some t→D (a+j)=D' (a+j))→s.tmps[t]?=s'.tmps[t]? →
 (mix D a rs s).tmps[t]?=(mix D' a rs s').tmps[t]?
 | a,[],s,s',h,hs=>hs
 | a,r :: rs,s,s',h,hs=>by
  simp only [mix]
  refine mix_tmps (fun j r' hj hd=>by have:=h (j+1) r' (by simpa using hj) hd; rw [show a+1+j=a+(j+1) by omega]; exact this) ?_
  by_cases hd:r.dst=some t
  · have:=h 0 r rfl hd
    simp only [Nat.add_zero] at this
    rw [this]
    cases D' a with
    | false=>exact hs
    | true=>exact app1_tmps_eq hs
  · cases D a <;> cases D' a <;> simp only [cond_true,cond_false] <;> (try rw [yw hd]) <;> (try rw [yw hd]) <;> exact hs
theorem mix_blks {D D':Nat→Bool} {k:Nat}:∀ {a:Nat} {rs:List Rec} {s s':St},(∀ j r b,rs[j]?=some r→r.blk=some (k,b)→D (a+j)=D' (a+j))→s.blks[k]?=s'.blks[k]? →
 (mix D a rs s).blks[k]?=(mix D' a rs s').blks[k]?
 | a,[],s,s',h,hs=>hs
 | a,r :: rs,s,s',h,hs=>by
  simp only [mix]
  refine mix_blks (fun j r' b hj hd=>by have:=h (j+1) r' b (by simpa using hj) hd; rw [show a+1+j=a+(j+1) by omega]; exact this) ?_
  by_cases hd:∃ b,r.blk=some (k,b)
  · obtain ⟨b,hd⟩:=hd
    have:=h 0 r b rfl hd
    simp only [Nat.add_zero] at this
    rw [this]
    cases D' a with
    | false=>exact hs
    | true=>exact app1_blks_eq hs
  · have hd':∀ b,r.blk ≠ some (k,b):=fun b e=>hd ⟨b,e⟩
    cases D a <;> cases D' a <;> simp only [cond_true,cond_false] <;> (try rw [yx hd']) <;> (try rw [yx hd']) <;> exact hs
def wr2 (r r':Rec):Bool :=
 (match r.dst,r'.dst with | some d,some d'=>Nat.beq d d' | _,_=>false) || (match r.blk,r'.blk with | some (k,_),some (k',_)=>Nat.beq k k' | _,_=>false)
def wrd (r r':Rec):Bool :=
 (match r.dst with | some d=>r'.rt.any (Nat.beq d) | none=>false) || (match r.blk with | some (k,_)=>r'.rb.any (Nat.beq k) | none=>false)
def KI (r r':Rec):Bool:=wr2 r r' || wrd r r' || wrd r' r
theorem wr2_symm (r r':Rec):wr2 r r'=wr2 r' r:=by
 have hb:∀ a b:Nat,Nat.beq a b=Nat.beq b a:=fun a b=>by
  rw [Bool.eq_iff_iff,Nat.beq_eq,Nat.beq_eq]; exact eq_comm
 unfold wr2
 cases r.dst <;> cases r'.dst <;> cases r.blk <;> cases r'.blk <;> simp [hb]
theorem Qar (r r':Rec):KI r r'=KI r' r:=by
 unfold KI; rw [wr2_symm]
 cases wr2 r' r <;> cases wrd r r' <;> cases wrd r' r <;> rfl
theorem app1_comm {s:St} {r r':Rec} (h:wr2 r r'=false):app1 (app1 s r) r'=app1 (app1 s r') r:=by
 simp only [wr2,Bool.or_eq_false_iff] at h
 obtain ⟨h1,h2⟩:=h
 unfold app1 putA
 simp only [St.mk.injEq]
 constructor
 · cases hd:r.dst with
   | none=>cases hd':r'.dst <;> rfl
   | some d =>
    cases hd':r'.dst with
    | none=>rfl
    | some d' =>
     simp only [hd,hd'] at h1
     exact List.set_comm _ _ fun e=>by subst e; simp at h1
 · cases hd:r.blk with
   | none=>cases hd':r'.blk <;> rfl
   | some d =>
    cases hd':r'.blk with
    | none=>rfl
    | some d' =>
     simp only [hd,hd'] at h2
     exact List.set_comm _ _ fun e=>by rw [e] at h2; simp at h2
theorem mix_comm {D:Nat→Bool} {r:Rec}:∀ {a:Nat} {rs:List Rec} {s:St},(∀ j r',rs[j]?=some r'→D (a+j)=true→wr2 r r'=false)→mix D a rs (app1 s r)=app1 (mix D a rs s) r
 | a,[],s,h=>rfl
 | a,r' :: rs,s,h=>by
  simp only [mix]
  have ih:=fun s=>mix_comm (D:=D) (r:=r) (a:=a+1) (rs:=rs) (s:=s) fun j r'' hj hd=>h (j+1) r'' (by simpa using hj) (by rw [← hd]; congr 1; omega)
  cases hD:D a with
  | false=>simp only [cond_false]; exact ih s
  | true =>
   simp only [cond_true]
   rw [app1_comm (h 0 r' rfl (by simpa using hD))]; exact ih _
theorem mix_cong {D D':Nat→Bool}:∀ {a:Nat} {rs:List Rec} {s:St},(∀ j,a≤j→D j=D' j)→mix D a rs s=mix D' a rs s
 | a,[],s,h=>rfl
 | a,r' :: rs,s,h=>by
  simp only [mix,h a (Nat.le_refl a)]
  exact mix_cong fun j hj=>h j (by omega)
theorem Qag {D D':Nat→Bool} {i:Nat} {r:Rec} (hi:D i=false) (hD:∀ j,D' j=(D j || Nat.beq j i)):∀ {a:Nat} {rs:List Rec} {s:St},a≤i→rs[i - a]?=some r →
 (∀ j r',rs[j]?=some r'→i<a+j→D (a+j)=true→wr2 r r'=false)→mix D' a rs s=app1 (mix D a rs s) r
 | a,[],s,ha,hr,h=>by simp at hr
 | a,r0 :: rs,s,ha,hr,h=>by
  simp only [mix]
  by_cases e:a=i
  · subst e
    simp only [Nat.sub_self,List.getElem?_cons_zero,Option.some.injEq] at hr
    subst hr
    have:D' a=true:=by simp [hD]
    rw [this,hi,cond_true,cond_false]
    rw [mix_cong (D:=D') (D':=D) fun j hj=>by
     rw [hD]; have:Nat.beq j a=false:=by rw [← Bool.not_eq_true,Nat.beq_eq]; omega
     simp [this]]
    exact mix_comm fun j r' hj hd=>h (j+1) r' (by simpa using hj) (by omega) (by rw [← hd]; congr 1; omega)
  · have hDa:D' a=D a:=by
     rw [hD]; have:Nat.beq a i=false:=by rw [← Bool.not_eq_true,Nat.beq_eq]; exact e
     simp [this]
    rw [hDa]
    refine Qag hi hD (by omega) ?_ fun j r' hj hlt hd=>h (j+1) r' (by simpa using hj) (by omega) (by rw [← hd]; congr 1; omega)
    have:i - a=(i - (a+1))+1:=by omega
    rw [this] at hr
    simpa using hr
theorem mix_none {D:Nat→Bool}:∀ {a:Nat} {rs:List Rec} {s:St},(∀ j,D j=false)→mix D a rs s=s
 | a,[],s,h=>rfl
 | a,r :: rs,s,h=>by simp only [mix,h a,cond_false]; exact mix_none h
theorem mix_all {D:Nat→Bool}:∀ {a:Nat} {rs:List Rec} {s:St},(∀ j,j<rs.length→D (a+j)=true)→mix D a rs s=rs.foldl app1 s
 | a,[],s,h=>rfl
 | a,r :: rs,s,h=>by
  have h0:=h 0 (by simp)
  simp only [Nat.add_zero] at h0
  simp only [mix,h0,cond_true,List.foldl_cons]
  exact mix_all fun j hj=>by have:=h (j+1) (by simpa using hj); rw [show a+1+j=a+(j+1) by omega]; exact this
theorem mix_pre:∀ {a i:Nat} {rs:List Rec} {s:St},mix (fun j=>Nat.blt j (a+i)) a rs s=(rs.take i).foldl app1 s
 | a,0,rs,s=>by
  have:∀ {b:Nat} {rs:List Rec} {s:St},a≤b→mix (fun j=>Nat.blt j a) b rs s=s:=by
   intro b rs
   induction rs generalizing b with
   | nil=>intros; rfl
   | cons r rs ih =>
    intro s hb
    have:Nat.blt b a=false:=by rw [← Bool.not_eq_true]; simp [Nat.blt_eq]; omega
    simp only [mix,this,cond_false]; exact ih (by omega)
  simpa using this (Nat.le_refl a)
 | a,i+1,[],s=>by simp [mix]
 | a,i+1,r :: rs,s=>by
  have:Nat.blt a (a+(i+1))=true:=by simp [Nat.blt_eq]
  simp only [mix,this,cond_true,List.take_succ_cons,List.foldl_cons]
  have h:=mix_pre (a:=a+1) (i:=i) (rs:=rs) (s:=app1 s r)
  rw [show a+1+i=a+(i+1) by omega] at h
  exact h
/-! ### The text's order -/
def recsA (P:Program) (ops:Array Oper):Nat→List Nat→St→List EV→Option (List Rec × St × List EV × List Prop)
 | idx,[],st,evs=>some ([],st,evs,[])
 | idx,i :: rest,st,evs =>
  match ops[i]? with
  | none=>none
  | some o =>
   match recA P ops idx i o st evs with
   | none=>none
   | some (r,evs1,o1) =>
    match recsA P ops (bif r.fresh then idx+1 else idx) rest (app1 st r) evs1 with
    | none=>none
    | some (rs,st',evs2,o2)=>some (r :: rs,st',evs2,o1++o2)
theorem Qaa {ops:Array Oper}:∀ {a n idx:Nat} {st st':St} {evs evs':List EV} {rs:List Rec} {obs:List Prop},recsA P ops idx (List.range' a n) st evs=some (rs,st',evs',obs)→AllP obs →
 rs.length=n∧st'=rs.foldl app1 st∧∀ j r,rs[j]?=some r→∃ o idx' evs1 evs2 obs1,ops[a+j]?=some o∧recA P ops idx' (a+j) o ((rs.take j).foldl app1 st) evs1=some (r,evs2,obs1)∧AllP obs1
 | a,0,idx,st,st',evs,evs',rs,obs,h,ho=>by
  simp only [List.range'_zero,recsA,Option.some.injEq,Prod.mk.injEq] at h
  obtain ⟨rfl,rfl,-,-⟩:=h
  exact ⟨rfl,rfl,by simp⟩
 | a,n+1,idx,st,st',evs,evs',rs,obs,h,ho=>by
  rw [List.range'_succ] at h
  simp only [recsA] at h
  split at h
  · cases h
  · rename_i o hoi
    split at h
    · cases h
    · rename_i r evs1 o1 h1
      split at h
      · cases h
      · rename_i rs1 st1 evs2 o2 h2
        simp only [Option.some.injEq,Prod.mk.injEq] at h
        obtain ⟨rfl,rfl,-,rfl⟩:=h
        obtain ⟨ho1,ho2⟩:=QE.1 ho
        obtain ⟨l,e,f⟩:=Qaa h2 ho2
        refine ⟨by simp [l],by simpa using e,fun j r' hj=>?_⟩
        cases j with
        | zero=>simp at hj; subst hj; exact ⟨o,idx,evs,evs1,o1,by simpa using hoi,by simpa using h1,ho1⟩
        | succ j =>
         obtain ⟨o',idx',e1,e2,ob,q1,q2,q3⟩:=f j r' (by simpa using hj)
         exact ⟨o',idx',e1,e2,ob,by rw [show a+(j+1)=a+1+j by omega]; exact q1,by rw [show a+(j+1)=a+1+j by omega]; simpa using q2,q3⟩
/-! ### What must come before what -/
def hard (e:Edge):Bool :=
 match e.ground with
 | .textOnly _=>false
 | .gcOnly _=>false
 | _=>true
def foldE (acc:List Nat) (i:Nat):List Edge→Option Nat
 | []=>some 0
 | e :: es=>match foldE acc i es with
  | none=>none
  | some m=>bif hard e then (bif Nat.blt e.on i then some (m ||| 2 ^ e.on ||| acc.getD e.on 0) else none) else some m
def ancsA:Nat→List Oper→List Nat→Option (List Nat)
 | _,[],acc=>some acc
 | i,o :: os,acc=>match foldE acc i o.after.toList with
  | some m=>ancsA (i+1) os (acc++[m])
  | none=>none
theorem Qam {acc:List Nat} {i:Nat}:∀ {es:List Edge} {m:Nat},foldE acc i es=some m →
 (∀ e ∈ es,hard e=true→e.on<i)∧∀ j,m.testBit j=true→∃ e ∈ es,hard e=true∧(j=e.on ∨ (acc.getD e.on 0).testBit j=true)
 | [],m,h=>by simp [foldE] at h; subst h; simp
 | e :: es,m,h=>by
  simp only [foldE] at h
  split at h
  · cases h
  · rename_i m' hm
    obtain ⟨h1,h2⟩:=Qam hm
    cases he:hard e with
    | false =>
     simp only [he,cond_false,Option.some.injEq] at h
     subst h
     refine ⟨fun e' hm hh=>?_,fun j hj=>?_⟩
     · rcases List.mem_cons.1 hm with rfl | hm
       · rw [he] at hh; cases hh
       · exact h1 e' hm hh
     · obtain ⟨e',q1,q2⟩:=h2 j hj
       exact ⟨e',List.mem_cons_of_mem _ q1,q2⟩
    | true =>
     simp only [he,cond_true] at h
     cases hb:Nat.blt e.on i with
     | false=>simp [hb] at h
     | true =>
      simp only [hb,cond_true,Option.some.injEq] at h
      subst h
      refine ⟨fun e' hm hh=>?_,fun j hj=>?_⟩
      · rcases List.mem_cons.1 hm with rfl | hm
        · simpa [Nat.blt_eq] using hb
        · exact h1 e' hm hh
      · rw [Nat.testBit_or,Nat.testBit_or,Bool.or_eq_true,Bool.or_eq_true] at hj
        rcases hj with (hj | hj) | hj
        · obtain ⟨e',q1,q2⟩:=h2 j hj
          exact ⟨e',List.mem_cons_of_mem _ q1,q2⟩
        · rw [Nat.testBit_two_pow] at hj
          exact ⟨e,by simp,he,.inl (by simpa using hj:e.on=j).symm⟩
        · exact ⟨e,by simp,he,.inr hj⟩
/-- The masks: what must lie behind,for each operation. -/
theorem Qat:∀ {i:Nat} {os:List Oper} {acc ms:List Nat},acc.length=i→ancsA i os acc=some ms →
 (∀ j,j<i→ms[j]?=acc[j]?)∧ms.length=i+os.length∧∀ j o,os[j]?=some o→∃ m,ms[i+j]?=some m ∧
   (∀ e ∈ o.after,hard e=true→e.on<i+j)∧∀ p,m.testBit p=true→∃ e ∈ o.after,hard e=true∧(p=e.on ∨ (ms.getD e.on 0).testBit p=true)
 | i,[],acc,ms,hl,h=>by
  simp only [ancsA,Option.some.injEq] at h; subst h
  exact ⟨fun _ _=>rfl,by simpa using hl,by simp⟩
 | i,o :: os,acc,ms,hl,h=>by
  simp only [ancsA] at h
  split at h
  · rename_i m hm
    obtain ⟨h1,h2,h3⟩:=Qat (i:=i+1) (acc:=acc++[m]) (by simp [hl]) h
    refine ⟨fun j hj=>by rw [h1 j (by omega),List.getElem?_append_left (by omega)],by simp [h2]; omega,fun j o' hj=>?_⟩
    cases j with
    | zero =>
     simp at hj; subst hj
     obtain ⟨f1,f2⟩:=Qam hm
     refine ⟨m,?_,fun e he hh=>by simpa using f1 e (by simpa using he) hh,fun p hp=>?_⟩
     · rw [Nat.add_zero,h1 i (by omega),List.getElem?_append_right (by omega)]; simp [hl]
     · obtain ⟨e,q1,q2,q3⟩:=f2 p hp
       refine ⟨e,by simpa using q1,q2,q3.imp id fun q=>?_⟩
       have hlt:=f1 e q1 q2
       have:=h1 e.on (by omega)
       rw [List.getElem?_append_left (by omega)] at this
       rw [List.getD_eq_getElem?_getD] at q ⊢
       rw [this]; exact q
    | succ j =>
     obtain ⟨m',q1,q2⟩:=h3 j o' (by simpa using hj)
     rw [show i+1+j=i+(j+1) by omega] at q1 q2
     exact ⟨m',q1,q2⟩
  · cases h
def later (i:Nat) (r:Rec):List Rec→List Nat→Bool
 | r' :: rs,m :: ms=>(!KI r r' || m.testBit i) && later i r rs ms
 | _,_=>true
def qT:Nat→List Rec→List Nat→Bool
 | i,r :: rs,_ :: ms=>later i r rs ms && qT (i+1) rs ms
 | _,_,_=>true
theorem Qaj {i:Nat} {r:Rec}:∀ {rs:List Rec} {ms:List Nat},later i r rs ms=true→∀ {j:Nat} {r':Rec} {m:Nat},rs[j]?=some r'→ms[j]?=some m→KI r r'=true→m.testBit i=true
 | [],ms,h,j,r',m,h1,h2,h3=>by simp at h1
 | a :: rs,[],h,j,r',m,h1,h2,h3=>by simp at h2
 | a :: rs,b :: ms,h,j,r',m,h1,h2,h3=>by
  simp only [later,Bool.and_eq_true,Bool.or_eq_true,Bool.not_eq_true'] at h
  cases j with
  | zero=>simp at h1 h2; subst h1; subst h2; exact h.1.resolve_left (by simp [h3])
  | succ j=>exact Qaj h.2 (by simpa using h1) (by simpa using h2) h3
theorem WA:∀ {a:Nat} {rs:List Rec} {ms:List Nat},qT a rs ms=true→∀ {i j:Nat} {r r':Rec} {m:Nat},i<j→rs[i]?=some r→rs[j]?=some r'→ms[j]?=some m→KI r r'=true →
 m.testBit (a+i)=true
 | a,[],ms,h,i,j,r,r',m,hij,h1,h2,h3,h4=>by simp at h1
 | a,x :: rs,[],h,i,j,r,r',m,hij,h1,h2,h3,h4=>by simp at h3
 | a,x :: rs,y :: ms,h,i,j,r,r',m,hij,h1,h2,h3,h4=>by
  simp only [qT,Bool.and_eq_true] at h
  obtain ⟨j,rfl⟩:∃ k,j=k+1:=⟨j - 1,by omega⟩
  cases i with
  | zero=>simp at h1; subst h1; exact Qaj h.1 (by simpa using h2) (by simpa using h3) h4
  | succ i =>
   have:=WA h.2 (i:=i) (j:=j) (by omega) (by simpa using h1) (by simpa using h2) (by simpa using h3) h4
   rw [show a+(i+1)=a+1+i by omega]; exact this
def trim:List Blk→List Blk
 | []=>[]
 | b :: bs=>match trim bs,b with
  | [],⟨false,0,0,true,[],false⟩=>[]
  | bs,b=>b :: bs
theorem trim_spec:∀ bs:List Blk,∃ m,bs=trim bs++List.replicate m dead
 | []=>⟨0,rfl⟩
 | b :: bs=>by
  obtain ⟨m,hm⟩:=trim_spec bs
  unfold trim
  split
  · rename_i h1
    rw [h1] at hm
    exact ⟨m+1,by rw [hm]; simp [List.replicate_succ,dead]⟩
  · exact ⟨m,by rw [List.cons_append,← hm]⟩
def mayNew (o:Oper):Bool :=
 match o.op with
 | .alloc _=>true
 | .box ..=>true
 | .build ..=>true
 | .buildSlice ..=>true
 | .makeSlice ..=>true
 | .call _=>true
 | _=>false
def drawA (P:Program) (ops:Array Oper) (st:St) (evs:List EV):Option (St × List EV × List Prop) :=
 match recsA P ops st.blks.length (List.range' 0 ops.size) ⟨st.tmps,st.blks++List.replicate (ops.toList.countP mayNew) dead⟩ evs with
 | none=>none
 | some (rs,st',evs',obs) =>
  match ancsA 0 ops.toList [] with
  | none=>none
  | some ms=>bif qT 0 rs ms then some (⟨st'.tmps,trim st'.blks⟩,evs',obs) else none
end
end Ax
namespace Ax
open Go
section
variable {P:Program} {E:Env} {K K':List Item} {st st':St}
theorem KM {e:Edge}:Region.binds .any e=hard e:=by
 unfold hard; unfold Region.binds
 cases hg:e.ground <;> simp [hg]
structure Draw (P:Program) (ops:Array Oper) (st0:St) (rs:List Rec) (ms:List Nat):Prop where
 len:rs.length=ops.size
 mlen:ms.length=ops.size
 rec':∀ j r,rs[j]?=some r→∃ o idx' evs1 evs2 obs1,ops[j]?=some o∧recA P ops idx' j o ((rs.take j).foldl app1 st0) evs1=some (r,evs2,obs1)∧AllP obs1
 anc:∀ j o,ops[j]?=some o→∃ m,ms[j]?=some m∧(∀ e ∈ o.after,hard e=true→e.on<j)∧∀ p,m.testBit p=true→∃ e ∈ o.after,hard e=true∧(p=e.on ∨ (ms.getD e.on 0).testBit p=true)
 pairs:qT 0 rs ms=true
/-- Downwards closed. -/
def Down (ops:Array Oper) (D:Nat→Bool):Prop:=∀ i o,ops[i]?=some o→D i=true→∀ e ∈ o.after,hard e=true→D e.on=true
theorem Draw.down {ops:Array Oper} {st0:St} {rs:List Rec} {ms:List Nat} (h:Draw P ops st0 rs ms) {D:Nat→Bool} (hd:Down ops D) :
 ∀ (i:Nat) (o:Oper) (m:Nat),ops[i]?=some o→ms[i]?=some m→D i=true→∀ p,m.testBit p=true→D p=true:=by
 intro i
 induction i using Nat.strongRecOn with
 | ind i ih =>
  intro o m ho hm hD p hp
  obtain ⟨m',q1,q2,q3⟩:=h.anc i o ho
  rw [hm] at q1; cases q1
  obtain ⟨e,e1,e2,e3⟩:=q3 p hp
  have hDe:=hd i o ho hD e e1 e2
  rcases e3 with rfl | e3
  · exact hDe
  · have hlt:=q2 e e1 e2
    have hs:i<ops.size:=(Array.getElem?_eq_some_iff.1 ho).1
    have ho':ops[e.on]?=some ops[e.on]:=by simp
    have hm':ms[e.on]?=some (ms.getD e.on 0):=by
     have:e.on<ms.length:=by rw [h.mlen]; omega
     simp [List.getD,List.getElem?_eq_getElem this]
    exact ih e.on hlt _ _ ho' hm' hDe p e3
theorem draw_one {ops:Array Oper} {st0:St} {rs:List Rec} {ms:List Nat} (h:Draw P ops st0 rs ms) {HK:Prop} (hk:HK) {D D':Nat→Bool} (hd:Down ops D) {i:Nat} {o:Oper} {rest:List Nat} {k:List Item}
 (ho:ops[i]?=some o) (hi:D i=false) (hpre:∀ e ∈ o.after,hard e=true→D e.on=true) (hD':∀ j,D' j=(D j || Nat.beq j i))
 (hlt:∀ j,D j=true→j<ops.size)
 (hg:G P E (.inRegion ops rest :: k) (mix D' 0 rs st0)):G P E (.inRegion ops (i :: rest) :: k) (mix D 0 rs st0):=by
 have his:i<ops.size:=(Array.getElem?_eq_some_iff.1 ho).1
 have hir:i<rs.length:=by rw [h.len]; exact his
 obtain ⟨r,hr⟩:∃ r,rs[i]?=some r:=⟨rs[i],by simp [hir]⟩
 obtain ⟨o',idx',evs1,evs2,obs1,q1,q2,q3⟩:=h.rec' i r hr
 rw [ho] at q1; cases q1
 obtain ⟨m,m1,m2,m3⟩:=h.anc i o ho
 have anc:∀ p,m.testBit p=true→D p=true:=by
  intro p hp
  obtain ⟨e,e1,e2,e3⟩:=m3 p hp
  have hDe:=hpre e e1 e2
  rcases e3 with rfl | e3
  · exact hDe
  · have hl:=m2 e e1 e2
    have ho':ops[e.on]?=some ops[e.on]:=by simp
    have hm':ms[e.on]?=some (ms.getD e.on 0):=by
     have:e.on<ms.length:=by rw [h.mlen]; omega
     simp [List.getD,List.getElem?_eq_getElem this]
    exact h.down hd e.on _ _ ho' hm' hDe p e3
 -- who clashes with 'i'
 have clsh:∀ j r',rs[j]?=some r'→KI r' r=true→(j<i→D j=true)∧(i<j→D j=false):=by
  intro j r' hj hc
  refine ⟨fun hji=>?_,fun hij=>?_⟩
  · exact anc j (by simpa using WA h.pairs hji hj hr m1 hc)
  · cases hDj:D j with
    | false=>rfl
    | true =>
     have hjs:=hlt j hDj
     have hm':ms[j]?=some (ms.getD j 0):=by
      have:j<ms.length:=by rw [h.mlen]; omega
      simp [List.getD,List.getElem?_eq_getElem this]
     have:=WA h.pairs hij hr hj hm' (by rw [Qar]; exact hc)
     have h2:=h.down hd j ops[j] _ (by simp [hjs]) hm' hDj i (by simpa using this)
     rw [hi] at h2; cases h2
 have blt:∀ {a b:Nat},Nat.blt a b=decide (a<b):=fun {a b}=>by
  rw [Bool.eq_iff_iff,Nat.blt_eq]; simp
 have same:∀ j r',rs[j]?=some r'→(KI r' r=true ∨ j=i)→D j=Nat.blt j i:=by
  intro j r' hj hc
  rcases Nat.lt_trichotomy j i with hlt' | rfl | hgt
  · rw [(clsh j r' hj (hc.resolve_right (by omega))).1 hlt',blt]; simp [hlt']
  · rw [hi,blt]; simp
  · rw [(clsh j r' hj (hc.resolve_right (by omega))).2 hgt,blt]; simp; omega
 have hrec:recA P ops idx' i o (mix D 0 rs st0) evs1=some (r,evs2,obs1):=by
  refine recA_congr q2 (fun t ht=>?_) (fun kk hk=>?_)
  · have:=mix_pre (a:=0) (i:=i) (rs:=rs) (s:=st0)
    simp only [Nat.zero_add] at this
    rw [← this]
    refine mix_tmps (fun j r' hj hd=>?_) rfl
    simp only [Nat.zero_add]
    refine same j r' hj (.inl ?_)
    have hw:wrd r' r=true:=by
     simp only [wrd,hd,Bool.or_eq_true,List.any_eq_true]
     exact .inl ⟨t,ht,by simp⟩
    simp [KI,hw]
  · have:=mix_pre (a:=0) (i:=i) (rs:=rs) (s:=st0)
    simp only [Nat.zero_add] at this
    rw [← this]
    refine mix_blks (fun j r' b hj hd=>?_) rfl
    simp only [Nat.zero_add]
    refine same j r' hj (.inl ?_)
    have hw:wrd r' r=true:=by
     simp only [wrd,hd,Bool.or_eq_true,List.any_eq_true]
     exact .inr ⟨kk,hk,by simp⟩
    simp [KI,hw]
 refine rec_step ho hk hrec q3 ?_
 rw [← Qag hi hD' (Nat.zero_le i) (by simpa using hr) fun j r' hj hlt' hDj=>?_]
 · exact hg
 · simp only [Nat.zero_add] at hlt' hDj
   cases hw:wr2 r r' with
   | false=>rfl
   | true =>
    have:=(clsh j r' hj (by rw [Qar]; simp [KI,hw])).2 hlt'
    rw [this] at hDj; cases hDj
def unl (n:Nat) (listed:Array Bool):List Nat:=(List.range n).filter fun i=>!listed.getD i true
theorem draw_go {ops:Array Oper} {st0:St} {rs:List Rec} {ms:List Nat} (h:Draw P ops st0 rs ms) {HK:Prop} (hk:HK) {k:List Item} (hg:G P E k (rs.foldl app1 st0)) :
 ∀ (fuel t:Nat) (listed:Array Bool),listed.size=ops.size→(unl ops.size listed).length≤fuel→Down ops (fun i=>listed.getD i false) →
  G P E (.inRegion ops (Region.linearise.go .any ops fuel t listed []) :: k) (mix (fun i=>listed.getD i false) 0 rs st0):=by
 have fin:∀ listed:Array Bool,listed.size=ops.size→(∀ i,i<ops.size→listed.getD i false=true)→G P E (.inRegion ops [] :: k) (mix (fun i=>listed.getD i false) 0 rs st0):=by
  intro listed hs hall
  rw [mix_all fun j hj=>by rw [Nat.zero_add]; exact hall j (by rw [← h.len]; exact hj)]
  exact .of_step (fun a w=>stepR_region_end) hg
 have gd:∀ (listed:Array Bool) (i:Nat),listed.size=ops.size→i<ops.size→listed.getD i true=listed.getD i false:=by
  intro listed i hs hi
  have:i<listed.size:=by omega
  simp [Array.getD,this]
 intro fuel
 induction fuel with
 | zero =>
  intro t listed hs hf hd
  simp only [Region.linearise.go,List.reverse_nil]
  refine fin listed hs fun i hi=>?_
  have h0:unl ops.size listed=[]:=List.length_eq_zero_iff.1 (by omega)
  cases hc:listed.getD i false with
  | true=>rfl
  | false =>
   have:i ∈ unl ops.size listed:=by
    unfold unl; rw [List.mem_filter,List.mem_range]
    exact ⟨hi,by rw [gd listed i hs hi,hc]; rfl⟩
   rw [h0] at this; cases this
 | succ fuel ih =>
  intro t listed hs hf hd
  simp only [Region.linearise.go]
  change G P E (.inRegion ops (match (Region.ready .any ops listed)[t % (Region.ready .any ops listed).length]? with
   | some i=>Region.linearise.go .any ops fuel (t / (Region.ready .any ops listed).length) (listed.setIfInBounds i true) [i]
   | none=>[].reverse) :: k) _
  cases hi:(Region.ready .any ops listed)[t % (Region.ready .any ops listed).length]? with
  | none =>
   have hnil:Region.ready .any ops listed=[]:=by
    cases hr:Region.ready .any ops listed with
    | nil=>rfl
    | cons x xs =>
     rw [hr] at hi
     have hlt:t % (x :: xs).length<(x :: xs).length:=Nat.mod_lt _ (by simp)
     simp at hi
     simp at hlt
     omega
   simp only [List.reverse_nil]
   refine fin listed hs fun i=>?_
   induction i using Nat.strongRecOn with
   | ind i ihi =>
    intro hi'
    cases hc:listed.getD i false with
    | true=>rfl
    | false =>
     have hop:ops[i]?=some ops[i]:=by simp [hi']
     have:i ∈ Region.ready .any ops listed:=by
      rw [mem_ready]
      refine ⟨by rw [gd listed i hs hi',hc],ops[i],hop,fun e he hb=>?_⟩
      rw [KM] at hb
      obtain ⟨m,m1,m2,m3⟩:=h.anc i _ hop
      have:=m2 e he hb
      exact ihi e.on this (by omega)
     rw [hnil] at this; cases this
  | some i =>
   simp only
   rw [linearise_go_acc,List.reverse_singleton,List.singleton_append]
   have hmem:=List.mem_of_getElem? hi
   obtain ⟨h0,o,ho,hpre⟩:=mem_ready.1 hmem
   have his:i<ops.size:=(Array.getElem?_eq_some_iff.1 ho).1
   have h0':listed.getD i false=false:=by rw [← gd listed i hs his]; exact h0
   have hset:∀ j,(listed.setIfInBounds i true).getD j false=(listed.getD j false || Nat.beq j i):=by
    intro j
    by_cases e:j=i
    · subst e
      have:j<listed.size:=by omega
      simp [Array.getD,this]
    · have:Nat.beq j i=false:=by rw [← Bool.not_eq_true,Nat.beq_eq]; exact e
      rw [getD_set_ne false (Ne.symm e),this,Bool.or_false]
   refine draw_one h hk hd ho h0' (fun e he hh=>hpre e he (by rw [KM]; exact hh)) hset (fun j hj=>?_) ?_
   · rcases Nat.lt_or_ge j ops.size with h1 | h1
     · exact h1
     · have h1':listed.size≤j:=by omega
       simp [Array.getD,Nat.not_lt.2 h1'] at hj
   · refine ih _ _ (by simpa using hs) ?_ ?_
     · have hsub:(unl ops.size (listed.setIfInBounds i true))=(unl ops.size listed).filter fun j=>!Nat.beq j i:=by
        unfold unl
        rw [List.filter_filter]
        refine List.filter_congr fun j hj=>?_
        have hj':=List.mem_range.1 hj
        rw [gd _ j (by simpa using hs) hj',hset j,gd listed j hs hj']
        cases listed.getD j false <;> cases Nat.beq j i <;> rfl
       have hlt:((unl ops.size listed).filter fun j=>!Nat.beq j i).length<(unl ops.size listed).length:=by
        rw [List.length_filter_lt_length_iff_exists]
        refine ⟨i,?_,by simp⟩
        unfold unl; rw [List.mem_filter,List.mem_range]
        exact ⟨his,by rw [h0]; rfl⟩
       rw [hsub]; omega
     · intro j oj hoj hDj e he hh
       simp only [hset] at hDj ⊢
       rw [Bool.or_eq_true] at hDj ⊢
       rcases hDj with hDj | hDj
       · exact .inl (hd j oj hoj hDj e he hh)
       · rw [Nat.beq_eq] at hDj; subst hDj
         rw [ho] at hoj; cases hoj
         exact .inl (hpre e he (by rw [KM]; exact hh))
/-- A region whose order is drawn. -/
theorem draw_step {ops:Array Oper} {id:Nat} {k:List Item} {evs evs':List EV} {obs:List Prop} {HK:Prop} (hk:HK) (hmx:P.follows .mixedOrders=true)
 (h:drawA P ops st evs=some (st',evs',obs)) (ho:AllP obs) (hg:G P E k st'):G P E (.code (.region id ops true) :: k) st:=by
 unfold drawA at h
 split at h
 · cases h
 · rename_i rs st1 evs1 obs1 h1
   split at h
   · cases h
   · rename_i ms hms
     cases hp:qT 0 rs ms with
     | false=>simp [hp] at h
     | true =>
      simp only [hp,cond_true,Option.some.injEq,Prod.mk.injEq] at h
      obtain ⟨rfl,-,rfl⟩:=h
      obtain ⟨l,e,f⟩:=Qaa h1 ho
      obtain ⟨a1,a2,a3⟩:=Qat (i:=0) (acc:=[]) rfl hms
      have hD:Draw P ops ⟨st.tmps,st.blks++List.replicate (ops.toList.countP mayNew) dead⟩ rs ms :=
       ⟨l,by simpa using a2,fun j r hj=>by simpa using f j r hj,fun j o hj=>by simpa using a3 j o (by simpa using hj),hp⟩
      have hg2:G P E k (rs.foldl app1 ⟨st.tmps,st.blks++List.replicate (ops.toList.countP mayNew) dead⟩):=by
       rw [← e]
       obtain ⟨m,hm⟩:=trim_spec st1.blks
       have:st1=⟨st1.tmps,trim st1.blks++List.replicate m dead⟩:=by cases st1; simp only at hm ⊢; rw [← hm]
       rw [this]; exact G_pop hg
      intro C Z a w hr
      have hstep:=stepR_region_draw (P:=P) (b:=E.b) (a:=a) (k:=k) (cs:=E.cs) (w:=w) (ops:=ops) (id:=id)
      refine .step (.one hstep) ?_
      have hrep:∀ j,(Array.replicate ops.size false).getD j false=false:=by
       intro j
       by_cases hj:j<ops.size <;> simp [Array.getD,hj]
      have hgo:=draw_go hD hk hg2 ops.size (w.tape w.drawn (.order E.b.fn id)) (Array.replicate ops.size false) (by simp) (by
       unfold unl; exact Nat.le_trans (List.length_filter_le _ _) (by simp)) (by intro i o hio hDi; have:=(hrep i).symm.trans hDi; cases this)
      simp only [Region.schedule,hmx,Bool.true_or,if_true]
      rw [mix_none (fun j=>hrep j)] at hgo
      have ev:EvoC w { w with drawn:=w.drawn+1 }:=⟨fun _ _ _ h=>h,rfl⟩
      have hfr:=hr.mem.frame
      exact hgo C Z a { w with drawn:=w.drawn+1 } ⟨⟨hr.tmp.1,fun i c v p q=>(hr.tmp.2 i c v p q).evoC ev⟩,
       (hr.mem.evoC ev ⟨hfr.os,hfr.tape,hfr.output,hfr.size,hfr.same⟩).pushN _,hr.marks,⟨hr.gh.1,fun i c v p q=>(hr.gh.2 i c v p q).evoC ev⟩,hr.base.evoC ev⟩
end
end Ax
namespace Ax
open Go
/-! ### Calls that turn blocks of the caller -/
def Own (C:Ctx) (b:Nat):Prop:=∃ k o,C.β k=.loc b o
mutual
def ren (f:Nat→Nat):AV→AV
 | .ptr k g off=>.ptr (f k) g off
 | .sl k g off len sz=>.sl (f k) g off len sz
 | .mp k g it=>.mp (f k) g it
 | .agg cs=>.agg (rens f cs)
 | .tup cs=>.tup (rens f cs)
 | .clos g a b=>.clos g (rens f a) (rens f b)
 | v=>v
def rens (f:Nat→Nat):List AV→List AV
 | []=>[]
 | c :: cs=>ren f c :: rens f cs
end
mutual
def Vb (p:Nat→Bool):AV→Bool
 | .ptr k _ _=>p k
 | .sl k _ _ _ _=>p k
 | .mp k _ _=>p k
 | .agg cs=>refsIns p cs
 | .tup cs=>refsIns p cs
 | .clos _ a b=>refsIns p a && refsIns p b
 | _=>true
def refsIns (p:Nat→Bool):List AV→Bool
 | []=>true
 | c :: cs=>Vb p c && refsIns p cs
end
theorem VB {f:Nat→Nat}:∀ {cs:List AV} {i:Nat},(rens f cs)[i]?=(cs[i]?).map (ren f)
 | [],i=>by simp [rens]
 | c :: cs,0=>by simp [rens]
 | c :: cs,i+1=>by simp [rens,VB (cs:=cs)]
theorem Yc {f:Nat→Nat}:∀ {cs:List AV},(rens f cs).length=cs.length
 | []=>rfl
 | c :: cs=>by simp [rens,Yc (cs:=cs)]
theorem Vo {p:Nat→Bool}:∀ {cs:List AV} {i:Nat} {c:AV},refsIns p cs=true→cs[i]?=some c→Vb p c=true
 | [],_,_,_,h=>by simp at h
 | d :: cs,0,c,hn,h=>by simp [refsIns] at hn h; rw [← h]; exact hn.1
 | d :: cs,i+1,c,hn,h=>by simp [refsIns] at hn h; exact Vo hn.2 h
mutual
theorem KZ (v:AV):Vb (fun _=>true) v=true:=by
 cases v <;> simp only [Vb]
 case agg cs=>exact refsIns_all cs
 case tup cs=>exact refsIns_all cs
 case clos f a b=>rw [refsIns_all a,refsIns_all b]; rfl
theorem refsIns_all (cs:List AV):refsIns (fun _=>true) cs=true:=by
 cases cs with
 | nil=>rfl
 | cons c cs=>simp only [refsIns]; rw [KZ c,refsIns_all cs]; rfl
end
theorem isCell_ren {f:Nat→Nat} (v:AV):XE (ren f v)=XE v:=by
 cases v <;> rfl
theorem VR.ren {f:Nat→Nat} {p:Nat→Bool} {C C':Ctx} {Z:Nat→Prop} {w:World} {v:AV} {c:Value} (hf:∀ k,p k=true→C'.β (f k)=C.β k∧C'.γ (f k)=C.γ k)
 (h:VR Z w C v c) (hp:Vb p v=true):VR Z w C' (Ax.ren f v) c:=by
 have key:∀ {C₁ v c},VR Z w C₁ v c→C₁=C→Vb p v=true→VR Z w C' (Ax.ren f v) c:=by
  intro C₁ v c h
  have lst:∀ {cs:List AV} {arr:Array Value},(∀ (i:Nat) (c:AV) (v:Value),cs[i]?=some c→arr[i]?=some v→Vb p c=true→VR Z w C' (Ax.ren f c) v)→refsIns p cs=true →
   ∀ (i:Nat) (c:AV) (v:Value),(rens f cs)[i]?=some c→arr[i]?=some v→VR Z w C' c v:=by
   intro cs arr h hp i c v h1 h2
   rw [VB,Option.map_eq_some_iff] at h1
   obtain ⟨c0,h1,rfl⟩:=h1
   exact h i c0 v h1 h2 (Vo hp h1)
  induction h with
  | bool b=>exact fun _ _=>.bool b
  | int k n=>exact fun _ _=>.int k n
  | nilPtr=>exact fun _ _=>.nilPtr
  | @ptr C₁ k g off c hg ho hh =>
   rintro rfl hp
   obtain ⟨e1,e2⟩:=hf k (by simpa [Vb] using hp)
   exact .ptr (by rw [e2]; exact hg) ho (by rw [e1,e2]; exact hh)
  | rptr cv hz hc hk hr ih=>exact fun _ _=>.rptr cv hz hc hk hr
  | nilSl=>exact fun _ _=>.nilSl
  | @sl C₁ k g off len sz c hg ho hh =>
   rintro rfl hp
   obtain ⟨e1,e2⟩:=hf k (by simpa [Vb] using hp)
   exact .sl (by rw [e2]; exact hg) ho (by unfold SlOk at hh ⊢; rw [e1,e2]; exact hh)
  | rsl cv hz hl hc hk hr ih=>exact fun _ _=>.rsl cv hz hl hc hk hr
  | rsl0=>exact fun _ _=>.rsl0
  | agg hl h ih =>
   intro e hp
   exact .agg (by rw [Yc]; exact hl) (lst (fun i c v h1 h2 h3=>ih i c v h1 h2 e h3) (by simpa [Vb] using hp))
  | tup hl h ih =>
   intro e hp
   exact .tup (by rw [Yc]; exact hl) (lst (fun i c v h1 h2 h3=>ih i c v h1 h2 e h3) (by simpa [Vb] using hp))
  | clos hl h hl' h' ih ih' =>
   intro e hp
   simp only [Vb,Bool.and_eq_true] at hp
   exact .clos (by rw [Yc]; exact hl) (lst (fun i c v h1 h2 h3=>ih i c v h1 h2 e h3) hp.1) (by rw [Yc]; exact hl') (lst (fun i c v h1 h2 h3=>ih' i c v h1 h2 e h3) hp.2)
  | nilFunc=>exact fun _ _=>.nilFunc
  | opq v=>exact fun _ _=>.opq v
  | junk v=>exact fun _ _=>.junk v
  | @mp C₁ k g it c hg ho hh =>
   rintro rfl hp
   obtain ⟨e1,e2⟩:=hf k (by simpa [Vb] using hp)
   exact .mp (by rw [e2]; exact hg) ho (by rw [e1,e2]; exact hh)
  | rmap es hz hh hl hb hr ih=>exact fun _ _=>.rmap es hz hh hl hb hr
 exact key h rfl hp
/-- As 'Evo' and 'CtxLe' together; a row may have turned whose generation is gone. -/
structure EvoG (C C':Ctx) (Z Z':Nat→Prop) (w w':World):Prop where
 zsub:∀ b,Z b→Z' b
 same:∀ b,Z b→w'.heap[b]?=w.heap[b]?
 le:CtxLe C C'
 rows:∀ k blk o arr e,C.β k=.loc blk o→C'.γ k=C.γ k→w.heap[blk]?=some (.cells arr e (0,0))→∃ arr',w'.heap[blk]?=some (.cells arr' e (0,0))∧arr'.size=arr.size
theorem VR.evoG {C C':Ctx} {Z Z':Nat→Prop} {w w':World} {v:AV} {c:Value} (h:VR Z w C v c) (he:EvoG C C' Z Z' w w'):VR Z' w' C' v c:=by
 have he0:Evo C0 Z Z' w w':=⟨he.zsub,he.same,fun k blk o arr e h=>by simp [C0] at h⟩
 have key:∀ {C₁ v c},VR Z w C₁ v c→C₁=C→VR Z' w' C' v c:=by
  intro C₁ v c h
  induction h with
  | bool b=>exact fun _=>.bool b
  | int k n=>exact fun _=>.int k n
  | nilPtr=>exact fun _=>.nilPtr
  | @ptr C₁ k g off c hg ho hh =>
   rintro rfl
   refine .ptr (Nat.le_trans hg (he.le.gen k)) ho fun e=>?_
   have e1:g=C₁.γ k:=by have:=he.le.gen k; omega
   obtain ⟨blk,o,hb,hv⟩:=hh e1
   exact ⟨blk,o,by rw [he.le.pos k (by rw [hb]; simp) (by omega),hb],hv⟩
  | rptr cv hz hc hk hr ih=>exact fun _=>.rptr cv (he.zsub _ hz) (fun i hi=>(YS (he.same _ hz)).trans (hc i hi)) hk fun i c hi=>(hr i c hi).mono he0
  | nilSl=>exact fun _=>.nilSl
  | @sl C₁ k g off len sz c hg ho hh =>
   rintro rfl
   refine .sl (Nat.le_trans hg (he.le.gen k)) ho fun e=>?_
   have e1:g=C₁.γ k:=by have:=he.le.gen k; omega
   have h1:=hh e1
   unfold SlOk at h1 ⊢
   rw [he.le.pos k (by intro hb; simp [hb] at h1) (by omega)]
   cases hb:C₁.β k with
   | absent=>simp [hb] at h1
   | unborn=>simp only [hb] at h1 ⊢; exact h1
   | loc blk o =>
    simp only [hb] at h1 ⊢
    obtain ⟨a,cap,h2,h3,h4,arr,e',h5,h6⟩:=h1
    obtain ⟨arr',h7,h8⟩:=he.rows k blk o arr e' hb (by omega) h5
    exact ⟨a,cap,h2,h3,h4,arr',e',h7,by omega⟩
  | rsl cv hz hl hc hk hr ih=>exact fun _=>.rsl cv (he.zsub _ hz) hl (fun i hi=>(YS (he.same _ hz)).trans (hc i hi)) hk fun i c hi=>(hr i c hi).mono he0
  | rsl0=>exact fun _=>.rsl0
  | agg hl h ih=>exact fun e=>.agg hl fun i c v h1 h2=>ih i c v h1 h2 e
  | tup hl h ih=>exact fun e=>.tup hl fun i c v h1 h2=>ih i c v h1 h2 e
  | clos hl h hl' h' ih ih'=>exact fun e=>.clos hl (fun i c v h1 h2=>ih i c v h1 h2 e) hl' (fun i c v h1 h2=>ih' i c v h1 h2 e)
  | nilFunc=>exact fun _=>.nilFunc
  | opq v=>exact fun _=>.opq v
  | junk v=>exact fun _=>.junk v
  | @mp C₁ k g it c hg ho hh =>
   rintro rfl
   refine .mp (Nat.le_trans hg (he.le.gen k)) ho fun e=>?_
   have e1:g=C₁.γ k:=by have:=he.le.gen k; omega
   obtain ⟨blk,o,hb,hv⟩:=hh e1
   exact ⟨blk,o,by rw [he.le.pos k (by rw [hb]; simp) (by omega),hb],hv⟩
  | rmap es hz hh hl hb hr ih=>exact fun _=>.rmap es (he.zsub _ hz) ((he.same _ hz).trans hh) hl hb fun i c e h1 h2=>(hr i c e h1 h2).mono he0
 exact key h rfl
theorem VRs.evoG {C C':Ctx} {Z Z':Nat→Prop} {w w':World} {cs:List AV} {vs:List Value} (h:VRs Z w C cs vs) (he:EvoG C C' Z Z' w w'):VRs Z' w' C' cs vs :=
 ⟨h.1,fun i c v a b=>(h.2 i c v a b).evoG he⟩
theorem Marks.evoG {C C':Ctx} {Z Z' M:Nat→Prop} {w0 w w':World} {df ds:List Deferred} (h:Marks df Z M w0 ds w) (he:EvoG C C' Z Z' w w'):Marks df Z' M w0 ds w':=by
 obtain ⟨Ds,h1,h2,h3⟩:=h
 exact ⟨Ds,h1,h2,fun D hD=>⟨he.zsub D (h3 D hD).1,(h3 D hD).2.1,by rw [he.same D (h3 D hD).1]; exact (h3 D hD).2.2⟩⟩
theorem Base.nextG {Cb C C':Ctx} {w0 w w':World} {Z Z':Nat→Prop} (h:Base Cb w0 C w) (he:EvoG C C' Z Z' w w'):Base Cb w0 C' w':=by
 refine ⟨⟨fun k=>Nat.le_trans (h.le.gen k) (he.le.gen k),fun k p q=>?_⟩,fun k blk o arr e p q r=>?_⟩
 · have e1:=h.le.gen k
   have e2:=he.le.gen k
   have e3:C.γ k=Cb.γ k:=by omega
   rw [he.le.pos k (by rw [h.le.pos k p e3]; exact p) (by omega),h.le.pos k p e3]
 · have e1:=h.le.gen k
   have e2:=he.le.gen k
   have e3:C.γ k=Cb.γ k:=by omega
   obtain ⟨arr1,a1,a2⟩:=h.rows k blk o arr e p e3 r
   have hb:C.β k=.loc blk o:=by rw [h.le.pos k (by rw [p]; simp) e3,p]
   obtain ⟨arr2,b1,b2⟩:=he.rows k blk o arr1 e hb (by omega) a1
   exact ⟨arr2,b1,by omega⟩
/-- A function value that turns what it is handed: blocks 'bs' become 'bs2' (and what is new lies behind them). -/
def VQ (P:Program) (fv:AV) (args:List AV) (bs:List Blk) (res:AV) (bs2:List Blk):Prop :=
 ∀ (Z:Nat→Prop) (w:World) (C:Ctx) (cf:Value) (cargs:Array Value),Mem Z (Own C) w C Z bs w→VR Z w C fv cf→VRs Z w C args cargs.toList →
  ∃ (d:Deferred) (f:FuncId) (args':Array Value),(Deferred.ofValue cf cargs).run P w=.ok d w∧(invoke d.target d.args).run P w=.ok (.enter f args') w ∧
   Calls P f args' w fun e w'=>∃ v C' Z',e=.returned v∧Base C w C' w'∧Mem Z (Own C) w C' Z' bs2 w'∧VR Z' w' C' res v
def renB (f:Nat→Nat) (b:Blk):Blk:=bif b.flat then b else { b with cells:=rens f b.cells }
def Vq:List Nat→Bool
 | []=>true
 | j :: js=>!js.contains j && Vq js
def lend (f:Nat→Nat) (p:Nat→Bool) (blks:List Blk):List Nat→Option (List Blk)
 | []=>some []
 | j :: js=>match blks[j]?,lend f p blks js with
  | some b,some bs=>bif b.flat || refsIns p b.cells then some (renB f b :: bs) else none
  | _,_=>none
def XJ (blks:List Blk):List Nat→List Blk→List Blk
 | j :: js,b :: bs=>XJ (blks.set j b) js bs
 | _,_=>blks
/-- From the callee's numbers to the caller's. -/
def outN (N:Nat) (ρ:List Nat) (k:Nat):Nat:=bif Nat.ble ρ.length k then N+(k - ρ.length) else ρ.getD k 0
def lentA (P:Program) (fv:AV) (args:List AV) (blks:List Blk) (ρ:List Nat) (res:AV) (bs2:List Blk):Option (AV × List Blk × List Prop) :=
 bif Vq ρ && Nat.ble ρ.length bs2.length && Vb (fun j=>ρ.contains j) fv && refsIns (fun j=>ρ.contains j) args then
  match lend (fun j=>ρ.idxOf j) (fun j=>ρ.contains j) blks ρ with
  | some bs=>some (ren (outN blks.length ρ) res,XJ blks ρ (bs2.map (renB (outN blks.length ρ)))++(bs2.drop ρ.length).map (renB (outN blks.length ρ)),
   [VQ P (ren (fun j=>ρ.idxOf j) fv) (rens (fun j=>ρ.idxOf j) args) bs res bs2])
  | none=>none
 else none
theorem Fr.trans {w0 w w':World} {M F:Nat→Prop} (h:Fr w0 M w) (h':Fr w F w') (hF:∀ b,b<w0.heap.size→¬ M b→¬ F b):Fr w0 M w' :=
 ⟨h'.os.trans h.os,h'.tape.trans h.tape,h'.output.trans h.output,Nat.le_trans h.size h'.size,fun b hb hM=>by
  rw [h'.same b (Nat.lt_of_lt_of_le hb h.size) (hF b hb hM)]; exact h.same b hb hM⟩
theorem lend_get {f:Nat→Nat} {p:Nat→Bool} {blks:List Blk}:∀ {ρ:List Nat} {bs:List Blk},lend f p blks ρ=some bs→bs.length=ρ.length ∧
 ∀ (k:Nat) (b':Blk),bs[k]?=some b'→∃ j b,ρ[k]?=some j∧blks[j]?=some b∧b'=renB f b∧(b.flat=true ∨ refsIns p b.cells=true)
 | [],bs,h=>by simp only [lend,Option.some.injEq] at h; subst h; exact ⟨rfl,by simp⟩
 | j :: js,bs,h=>by
  simp only [lend] at h
  split at h
  · rename_i b bs1 hb hl
    obtain ⟨q1,q2⟩:=lend_get hl
    cases hc:(b.flat || refsIns p b.cells) with
    | false=>simp [hc] at h
    | true =>
     simp only [hc,cond_true,Option.some.injEq] at h
     subst h
     refine ⟨by simp [q1],fun k b' hk=>?_⟩
     cases k with
     | zero=>simp only [List.getElem?_cons_zero,Option.some.injEq] at hk; exact ⟨j,b,rfl,hb,hk.symm,by simpa using hc⟩
     | succ k=>exact q2 k b' (by simpa using hk)
  · cases h
theorem Ye:∀ {ρ:List Nat} {bs blks:List Blk},(XJ blks ρ bs).length=blks.length
 | [],_,_=>by simp [XJ]
 | j :: js,[],_=>by simp [XJ]
 | j :: js,b :: bs,blks=>by simp [XJ,Ye (ρ:=js)]
theorem WC:∀ {ρ:List Nat} {bs blks:List Blk} {j:Nat},j ∉ ρ→(XJ blks ρ bs)[j]?=blks[j]?
 | [],_,_,_,_=>by simp [XJ]
 | i :: js,[],_,_,_=>by simp [XJ]
 | i :: js,b :: bs,blks,j,h=>by
  simp only [List.mem_cons,not_or] at h
  simp only [XJ]
  rw [WC h.2,List.getElem?_set_ne (by omega)]
theorem Kv:∀ {ρ:List Nat} {bs blks:List Blk} {j k:Nat} {b:Blk},Vq ρ=true→ρ[k]?=some j→bs[k]?=some b→j<blks.length→(XJ blks ρ bs)[j]?=some b
 | [],_,_,_,_,_,_,h,_,_=>by simp at h
 | i :: js,[],_,_,_,_,_,_,h,_=>by simp at h
 | i :: js,b0 :: bs,blks,j,0,b,hn,h1,h2,h3=>by
  simp only [List.getElem?_cons_zero,Option.some.injEq] at h1 h2
  subst h1; subst h2
  simp only [Vq,Bool.and_eq_true,Bool.not_eq_true',List.contains_eq_mem,decide_eq_false_iff_not] at hn
  simp only [XJ]
  rw [WC hn.1]; simp [h3]
 | i :: js,b0 :: bs,blks,j,k+1,b,hn,h1,h2,h3=>by
  simp only [Vq,Bool.and_eq_true] at hn
  simp only [XJ]
  exact Kv hn.2 (by simpa using h1) (by simpa using h2) (by simpa using h3)
theorem Km:∀ {ρ:List Nat} {k k' j:Nat},Vq ρ=true→ρ[k]?=some j→ρ[k']?=some j→k=k'
 | [],_,_,_,_,h,_=>by simp at h
 | i :: js,0,0,_,_,_,_=>rfl
 | i :: js,0,k'+1,j,hn,h1,h2=>by
  simp only [Vq,Bool.and_eq_true,Bool.not_eq_true',List.contains_eq_mem,decide_eq_false_iff_not] at hn
  simp only [List.getElem?_cons_zero,Option.some.injEq,List.getElem?_cons_succ] at h1 h2
  exact absurd (h1 ▸ List.mem_of_getElem? h2) hn.1
 | i :: js,k+1,0,j,hn,h1,h2=>by
  simp only [Vq,Bool.and_eq_true,Bool.not_eq_true',List.contains_eq_mem,decide_eq_false_iff_not] at hn
  simp only [List.getElem?_cons_zero,Option.some.injEq,List.getElem?_cons_succ] at h1 h2
  exact absurd (h2 ▸ List.mem_of_getElem? h1) hn.1
 | i :: js,k+1,k'+1,j,hn,h1,h2=>by
  simp only [Vq,Bool.and_eq_true] at hn
  have e:=Km (k:=k) (k':=k') (j:=j) hn.2 (by simpa using h1) (by simpa using h2)
  rw [e]
theorem idx_get {ρ:List Nat} {k j:Nat} (hn:Vq ρ=true) (h:ρ[k]?=some j):ρ.idxOf j=k:=by
 have hm:j ∈ ρ:=List.mem_of_getElem? h
 have hlt:ρ.idxOf j<ρ.length:=List.idxOf_lt_length_iff.2 hm
 refine Km hn (j:=j) ?_ h
 rw [List.getElem?_eq_getElem hlt,List.getElem_idxOf hlt]
/-- From the caller's numbers to the callee's. -/
def inN (N:Nat) (ρ:List Nat) (j:Nat):Option Nat:=if j<N then (if j ∈ ρ then some (ρ.idxOf j) else none) else some (j - N+ρ.length)
def subC (C:Ctx) (ρ:List Nat):Ctx:=⟨fun k=>match ρ[k]? with | some j=>C.β j | none=>.absent,fun k=>match ρ[k]? with | some j=>C.γ j | none=>0⟩
def YZ (C C1:Ctx) (N:Nat) (ρ:List Nat):Ctx :=
 ⟨fun j=>match inN N ρ j with | some k=>C1.β k | none=>C.β j,fun j=>match inN N ρ j with | some k=>C1.γ k | none=>C.γ j⟩
theorem inN_out {N:Nat} {ρ:List Nat} {k:Nat} (hn:Vq ρ=true) (hρ:∀ j ∈ ρ,j<N):inN N ρ (outN N ρ k)=some k:=by
 unfold inN outN
 by_cases hk:ρ.length≤k
 · rw [Nat.ble_eq_true_of_le hk]
   simp only [cond_true]
   rw [if_neg (by omega)]
   congr 1; omega
 · have hb:Nat.ble ρ.length k=false:=by
    cases h:Nat.ble ρ.length k with
    | false=>rfl
    | true=>exact absurd (Nat.le_of_ble_eq_true h) hk
   have hg:ρ[k]?=some ρ[k]:=List.getElem?_eq_getElem (by omega)
   have hgd:ρ.getD k 0=ρ[k]:=by simp [List.getD,hg]
   rw [hb]
   simp only [cond_false]
   rw [hgd,if_pos (hρ _ (List.getElem_mem _)),if_pos (List.getElem_mem _),idx_get hn hg]
theorem Kk {N:Nat} {ρ:List Nat} {j k:Nat} (h:inN N ρ j=some k):outN N ρ k=j∧(j<N→ρ[k]?=some j)∧(N≤j→ρ.length≤k):=by
 unfold inN at h
 unfold outN
 split at h
 · rename_i hj
   split at h
   · rename_i hm
     simp only [Option.some.injEq] at h
     subst h
     have hlt:ρ.idxOf j<ρ.length:=List.idxOf_lt_length_iff.2 hm
     have hg:ρ[ρ.idxOf j]?=some j:=by rw [List.getElem?_eq_getElem hlt,List.getElem_idxOf hlt]
     have hb:Nat.ble ρ.length (ρ.idxOf j)=false:=by
      cases h:Nat.ble ρ.length (ρ.idxOf j) with
      | false=>rfl
      | true=>exact absurd (Nat.le_of_ble_eq_true h) (by omega)
     exact ⟨by rw [hb]; simp [List.getD,hg],fun _=>hg,fun h=>by omega⟩
   · cases h
 · rename_i hj
   simp only [Option.some.injEq] at h
   subst h
   exact ⟨by rw [Nat.ble_eq_true_of_le (by omega)]; simp only [cond_true]; omega,fun h=>by omega,fun _=>by omega⟩
theorem KO.ren {C C':Ctx} {Z:Nat→Prop} {w:World} {k k':Nat} {b:Blk} {f:Nat→Nat} {p:Nat→Bool} (hf:∀ k,p k=true→C'.β (f k)=C.β k∧C'.γ (f k)=C.γ k)
 (hk:C'.β k'=C.β k) (hp:b.flat=true ∨ refsIns p b.cells=true) (h:KO C Z w k b):KO C' Z w k' (renB f b):=by
 intro hl
 unfold renB at hl ⊢
 cases hfl:b.flat with
 | true =>
  rw [hfl] at hl
  simp only [cond_true] at hl ⊢
  obtain ⟨q1,q2⟩:=h hl
  refine ⟨q1,?_⟩
  rw [hk]
  cases hs:C.β k with
  | absent=>simp [hs] at q2
  | unborn=>simp only [hs] at q2 ⊢; exact q2
  | loc blk o=>simp only [hs] at q2 ⊢; exact q2.next rfl (fun _ _ h=>h) (fun hf=>by rw [hfl] at hf; cases hf)
 | false =>
  rw [hfl] at hl
  simp only [cond_false] at hl ⊢
  have hp:=hp.resolve_left (by rw [hfl]; simp)
  obtain ⟨q1,q2⟩:=h hl
  refine ⟨fun i c hi=>?_,?_⟩
  · rw [VB,Option.map_eq_some_iff] at hi
    obtain ⟨c0,hi,rfl⟩:=hi
    rw [isCell_ren]; exact q1 i c0 hi
  rw [hk]
  cases hs:C.β k with
  | absent=>simp [hs] at q2
  | unborn=>simp only [hs] at q2 ⊢; rw [q2]; rfl
  | loc blk o =>
   simp only [hs] at q2 ⊢
   rcases q2 with ⟨hz,arr,e,r1,r2,r3⟩ | ⟨hz,ob,r1,r2⟩
   · refine .inl ⟨hz,arr,e,r1,by rw [Yc]; exact r2,fun i c hi=>?_⟩
     rw [VB,Option.map_eq_some_iff] at hi
     obtain ⟨c0,hi,rfl⟩:=hi
     obtain ⟨v,s1,s2⟩:=r3 i c0 hi
     simp only [hfl,Bool.false_eq_true,if_false] at s2 ⊢
     exact ⟨v,s1,s2.ren hf (Vo hp hi)⟩
   · refine .inr ⟨hz,ob,r1,?_⟩
     rw [hfl] at r2
     simp only [hfl,Yl,Bool.false_eq_true,if_false] at r2 ⊢
     obtain ⟨m,n,seen,a,b',⟨c,c1,c2⟩,d,e⟩:=r2
     refine ⟨m,n,seen,a,by rw [Yc]; exact b',⟨Ax.ren f c,by rw [VB,c1]; rfl,c2.ren hf (Vo hp c1)⟩,by rw [VB,d]; rfl,fun i s hs=>by rw [VB,e i s hs]; rfl⟩
theorem KO.evoG {C C':Ctx} {Z Z':Nat→Prop} {w w':World} {k:Nat} {b:Blk} (h:KO C Z w k b) (he:EvoG C C' Z Z' w w') (hk:C'.β k=C.β k) (hh:∀ blk o,C.β k=.loc blk o→w'.heap[blk]?=w.heap[blk]?):KO C' Z' w' k b:=by
 intro hl
 obtain ⟨q1,q2⟩:=h hl
 refine ⟨q1,?_⟩
 rw [hk]
 cases hs:C.β k with
 | absent=>simp [hs] at q2
 | unborn=>simp only [hs] at q2 ⊢; exact q2
 | loc blk o =>
  simp only [hs] at q2 ⊢
  exact q2.next (hh blk o hs) (fun c v h=>h.mono ⟨he.zsub,he.same,fun k blk o arr e h=>by simp [C0] at h⟩) (fun _ c v _ h=>h.evoG he)
section
variable {P:Program} {Z0 M Z Z1:Nat→Prop} {w0 w w1:World} {C C1:Ctx} {blks bs bs2:List Blk} {ρ:List Nat}
/-- The memory that is lent. -/
theorem Mem.lend (hm:Mem Z0 M w0 C Z blks w) (hn:Vq ρ=true) (h:Ax.lend (fun j=>ρ.idxOf j) (fun j=>ρ.contains j) blks ρ=some bs) :
 Mem Z (Own (subC C ρ)) w (subC C ρ) Z bs w∧(∀ j ∈ ρ,j<blks.length)∧∀ j,ρ.contains j=true→(subC C ρ).β (ρ.idxOf j)=C.β j∧(subC C ρ).γ (ρ.idxOf j)=C.γ j:=by
 obtain ⟨hlen,hget⟩:=lend_get h
 have hcon:∀ j,ρ.contains j=true→(subC C ρ).β (ρ.idxOf j)=C.β j∧(subC C ρ).γ (ρ.idxOf j)=C.γ j:=by
  intro j hj
  have hm:j ∈ ρ:=by simpa using hj
  have hlt:ρ.idxOf j<ρ.length:=List.idxOf_lt_length_iff.2 hm
  have hg:ρ[ρ.idxOf j]?=some j:=by rw [List.getElem?_eq_getElem hlt,List.getElem_idxOf hlt]
  simp only [subC,hg,and_self]
 have hρ:∀ j ∈ ρ,j<blks.length:=by
  intro j hj
  obtain ⟨k,hk⟩:=List.getElem?_of_mem hj
  have hkl:k<bs.length:=by rw [hlen]; exact (List.getElem?_eq_some_iff.1 hk).1
  obtain ⟨j',b,e1,e2,-⟩:=hget k bs[k] (List.getElem?_eq_getElem hkl)
  rw [hk] at e1; cases e1
  exact (List.getElem?_eq_some_iff.1 e2).1
 have hβ:∀ {k b o},(subC C ρ).β k=.loc b o→∃ j,ρ[k]?=some j∧C.β j=.loc b o:=by
  intro k b o h
  simp only [subC] at h
  cases hk:ρ[k]? with
  | none=>simp [hk] at h
  | some j=>simp only [hk] at h; exact ⟨j,rfl,h⟩
 have renB_eq:∀ (f:Nat→Nat) (b:Blk),(renB f b).gen=b.gen∧(renB f b).live=b.live:=by
  intro f b; unfold renB; cases b.flat <;> exact ⟨rfl,rfl⟩
 refine ⟨⟨fun k b' hb=>?_,fun k b' hb=>?_,fun k b' hb hd=>?_,fun k hk=>?_,fun k k' b o o' h1 h2=>?_,fun k b o h1=>?_,hm.zlt,fun _ h=>h,fun _ h=>.inl h,Fr.refl _ _⟩,hρ,hcon⟩
 · obtain ⟨j,b,e1,e2,rfl,e4⟩:=hget k b' hb
   exact (hm.blk j b e2).ren hcon (by simp only [subC,e1]) e4
 · obtain ⟨j,b,e1,e2,rfl,e4⟩:=hget k b' hb
   rw [(renB_eq _ b).1,← hm.gen j b e2]; simp only [subC,e1]
 · obtain ⟨j,b,e1,e2,rfl,e4⟩:=hget k b' hb
   rw [(renB_eq _ b).2] at hd
   have:=hm.dd j b e2 hd
   simp only [subC,e1]; exact this
 · have:ρ[k]?=none:=List.getElem?_eq_none (by omega)
   simp only [subC,this,and_self]
 · obtain ⟨j,e1,e2⟩:=hβ h1
   obtain ⟨j',e3,e4⟩:=hβ h2
   have:=hm.inj j j' b o o' e2 e4
   subst this
   exact Km hn e1 e3
 · obtain ⟨j,e1,e2⟩:=hβ h1
   obtain ⟨a,b',c⟩:=hm.own j b o e2
   exact ⟨a,b',.inl ⟨k,o,h1⟩⟩
/-- The memory behind the call. -/
theorem Mem.given (hm:Mem Z0 M w0 C Z blks w) (hn:Vq ρ=true) (hρ:∀ j ∈ ρ,j<blks.length) (hl:ρ.length≤bs2.length) (hb:Base (subC C ρ) w C1 w1) (h1:Mem Z (Own (subC C ρ)) w C1 Z1 bs2 w1) :
 Mem Z0 M w0 (YZ C C1 blks.length ρ) Z1 (XJ blks ρ (bs2.map (renB (outN blks.length ρ)))++(bs2.drop ρ.length).map (renB (outN blks.length ρ))) w1 ∧
 EvoG C (YZ C C1 blks.length ρ) Z Z1 w w1∧∀ k,(YZ C C1 blks.length ρ).β (outN blks.length ρ k)=C1.β k∧(YZ C C1 blks.length ρ).γ (outN blks.length ρ k)=C1.γ k:=by
 have hout:∀ k,(YZ C C1 blks.length ρ).β (outN blks.length ρ k)=C1.β k∧(YZ C C1 blks.length ρ).γ (outN blks.length ρ k)=C1.γ k:=by
  intro k; simp only [YZ,inN_out hn hρ,and_self]
 have hout':∀ k,(fun _:Nat=>true) k=true→(YZ C C1 blks.length ρ).β (outN blks.length ρ k)=C1.β k∧(YZ C C1 blks.length ρ).γ (outN blks.length ρ k)=C1.γ k:=fun k _=>hout k
 have hβ:∀ {k b o},(subC C ρ).β k=.loc b o→∃ j,ρ[k]?=some j∧C.β j=.loc b o:=by
  intro k b o h
  simp only [subC] at h
  cases hk:ρ[k]? with
  | none=>simp [hk] at h
  | some j=>simp only [hk] at h; exact ⟨j,rfl,h⟩
 have hOwn:∀ b,Own (subC C ρ) b→∃ j o,j ∈ ρ∧C.β j=.loc b o:=fun b ⟨k,o,h⟩=>by
  obtain ⟨j,e1,e2⟩:=hβ h
  exact ⟨j,o,List.mem_of_getElem? e1,e2⟩
 have hfs:=h1.frame.size
 have hs0:=hm.frame.size
 -- an old block that is not lent
 have hfree:∀ j b o,j ∉ ρ→C.β j=.loc b o→¬ Own (subC C ρ) b:=fun j b o hj h ho=>by
  obtain ⟨j',o',e1,e2⟩:=hOwn b ho
  exact hj (hm.inj j j' b o o' h e2 ▸ e1)
 have hnone:∀ j,inN blks.length ρ j=none→j<blks.length∧j ∉ ρ:=by
  intro j h
  unfold inN at h
  split at h
  · split at h
    · cases h
    · exact ⟨‹_›,‹_›⟩
  · cases h
 have hle:CtxLe C (YZ C C1 blks.length ρ):=by
  refine ⟨fun j=>?_,fun j hp hg=>?_⟩
  · simp only [YZ]
    cases hi:inN blks.length ρ j with
    | none=>exact Nat.le_refl _
    | some k =>
     obtain ⟨a,b,c⟩:=Kk hi
     by_cases hj:j<blks.length
     · have:=hb.le.gen k
       simp only [subC,b hj] at this
       exact this
     · rw [(hm.dom j (by omega)).2]; exact Nat.zero_le _
  · simp only [YZ] at hg ⊢
    cases hi:inN blks.length ρ j with
    | none=>rfl
    | some k =>
     rw [hi] at hg
     simp only at hg ⊢
     obtain ⟨a,b,c⟩:=Kk hi
     by_cases hj:j<blks.length
     · have:=hb.le.pos k
       simp only [subC,b hj] at this
       exact this hp hg
     · exact absurd (hm.dom j (by omega)).1 hp
 have hevo:EvoG C (YZ C C1 blks.length ρ) Z Z1 w w1:=by
  refine ⟨fun b hz=>h1.z0 b hz,fun b hz=>h1.frame.same b (hm.zlt b hz) fun ho=>?_,hle,fun j blk o arr e hj hg hw=>?_⟩
  · obtain ⟨j,o,-,e2⟩:=hOwn b ho
    exact (hm.own j b o e2).2.1 hz
  · simp only [YZ] at hg
    cases hi:inN blks.length ρ j with
    | none =>
     exact ⟨arr,by rw [h1.frame.same blk (hm.own j blk o hj).1 (hfree j blk o (hnone j hi).2 hj)]; exact hw,rfl⟩
    | some k =>
     rw [hi] at hg
     simp only at hg
     obtain ⟨a,b,c⟩:=Kk hi
     by_cases hjl:j<blks.length
     · have h2:=hb.rows k blk o arr e
       simp only [subC,b hjl] at h2
       exact h2 hj hg hw
     · have:=(hm.dom j (by omega)).1
       rw [this] at hj; cases hj
 have hget:∀ (j:Nat) (b:Blk),(XJ blks ρ (bs2.map (renB (outN blks.length ρ)))++(bs2.drop ρ.length).map (renB (outN blks.length ρ)))[j]?=some b →
  (∃ k b0,inN blks.length ρ j=some k∧bs2[k]?=some b0∧b=renB (outN blks.length ρ) b0) ∨ (inN blks.length ρ j=none∧blks[j]?=some b):=by
  intro j b h
  by_cases hj:j<blks.length
  · rw [List.getElem?_append_left (by rw [Ye]; exact hj)] at h
    by_cases hm':j ∈ ρ
    · have hlt:ρ.idxOf j<ρ.length:=List.idxOf_lt_length_iff.2 hm'
      have hg:ρ[ρ.idxOf j]?=some j:=by rw [List.getElem?_eq_getElem hlt,List.getElem_idxOf hlt]
      have hb2:bs2[ρ.idxOf j]?=some bs2[ρ.idxOf j]:=List.getElem?_eq_getElem (by omega)
      rw [Kv (b:=renB (outN blks.length ρ) bs2[ρ.idxOf j]) hn hg (by rw [List.getElem?_map,hb2]; rfl) hj] at h
      simp only [Option.some.injEq] at h
      exact .inl ⟨ρ.idxOf j,_,by simp only [inN,if_pos hj,if_pos hm'],hb2,h.symm⟩
    · rw [WC hm'] at h
      exact .inr ⟨by simp only [inN,if_pos hj,if_neg hm'],h⟩
  · rw [List.getElem?_append_right (by rw [Ye]; omega),Ye,List.getElem?_map,List.getElem?_drop,Option.map_eq_some_iff] at h
    obtain ⟨b0,h2,h3⟩:=h
    exact .inl ⟨j - blks.length+ρ.length,b0,by simp only [inN,if_neg hj],by rw [← h2]; congr 1; omega,h3.symm⟩
 have renB_eq:∀ (f:Nat→Nat) (b:Blk),(renB f b).gen=b.gen∧(renB f b).live=b.live:=by
  intro f b; unfold renB; cases b.flat <;> exact ⟨rfl,rfl⟩
 refine ⟨⟨fun j b hj=>?_,fun j b hj=>?_,fun j b hj hd=>?_,fun j hj=>?_,fun j j' b o o' e1 e2=>?_,fun j b o e1=>?_,h1.zlt,fun b hz=>h1.z0 b (hm.z0 b hz),fun b hz=>?_,?_⟩,hevo,hout⟩
 · rcases hget j b hj with ⟨k,b0,q1,q2,rfl⟩ | ⟨q1,q2⟩
   · exact (h1.blk k b0 q2).ren hout' (by simp only [YZ,q1]) (.inr (refsIns_all _))
   · refine (hm.blk j b q2).evoG hevo (by simp only [YZ,q1]) fun blk o hbl=>?_
     exact h1.frame.same blk (hm.own j blk o hbl).1 (hfree j blk o (hnone j q1).2 hbl)
 · rcases hget j b hj with ⟨k,b0,q1,q2,rfl⟩ | ⟨q1,q2⟩
   · rw [(renB_eq _ b0).1,← h1.gen k b0 q2]; simp only [YZ,q1]
   · rw [← hm.gen j b q2]; simp only [YZ,q1]
 · rcases hget j b hj with ⟨k,b0,q1,q2,rfl⟩ | ⟨q1,q2⟩
   · rw [(renB_eq _ b0).2] at hd
     have:=h1.dd k b0 q2 hd
     simp only [YZ,q1]; exact this
   · have:=hm.dd j b q2 hd
     simp only [YZ,q1]; exact this
 · simp only [List.length_append,Ye,List.length_map,List.length_drop] at hj
   have e:inN blks.length ρ j=some (j - blks.length+ρ.length):=by simp only [inN,if_neg (show ¬ j<blks.length by omega)]
   simp only [YZ,e]
   exact h1.dom _ (by omega)
 · simp only [YZ] at e1 e2
   have mix:∀ {i k c o1 i' o2},inN blks.length ρ i=some k→C1.β k=.loc c o1→inN blks.length ρ i'=none→C.β i'=.loc c o2→False:=by
    intro i k c o1 i' o2 q1 q2 q3 q4
    rcases (h1.own k c o1 q2).2.2 with h | h
    · exact hfree i' c o2 (hnone i' q3).2 q4 h
    · have:=(hm.own i' c o2 q4).1; omega
   cases hi:inN blks.length ρ j with
   | none =>
    cases hi':inN blks.length ρ j' with
    | none=>rw [hi] at e1; rw [hi'] at e2; exact hm.inj j j' b o o' e1 e2
    | some k'=>rw [hi] at e1; rw [hi'] at e2; exact (mix hi' e2 hi e1).elim
   | some k =>
    cases hi':inN blks.length ρ j' with
    | none=>rw [hi] at e1; rw [hi'] at e2; exact (mix hi e1 hi' e2).elim
    | some k' =>
     rw [hi] at e1; rw [hi'] at e2
     have:=h1.inj k k' b o o' e1 e2
     subst this
     rw [← (Kk hi).1,← (Kk hi').1]
 · simp only [YZ] at e1
   cases hi:inN blks.length ρ j with
   | none =>
    rw [hi] at e1
    obtain ⟨a,b',c⟩:=hm.own j b o e1
    refine ⟨by omega,fun hz=>?_,c⟩
    rcases h1.zsub b hz with h | h | h
    · exact b' h
    · exact hfree j b o (hnone j hi).2 e1 h
    · omega
   | some k =>
    rw [hi] at e1
    obtain ⟨a,b',c⟩:=h1.own k b o e1
    refine ⟨a,b',?_⟩
    rcases c with c | c
    · obtain ⟨j',o',-,e2⟩:=hOwn b c
      exact (hm.own j' b o' e2).2.2
    · exact .inr (by omega)
 · rcases h1.zsub b hz with h | h | h
   · exact hm.zsub b h
   · obtain ⟨j',o',-,e2⟩:=hOwn b h
     exact .inr (hm.own j' b o' e2).2.2
   · exact .inr (.inr (by omega))
 · refine hm.frame.trans h1.frame fun b hb hnM ho=>?_
   obtain ⟨j',o',-,e2⟩:=hOwn b ho
   rcases (hm.own j' b o' e2).2.2 with h | h
   · exact hnM h
   · omega
variable {E:Env} {K K':List Item} {st st':St}
/-- One operation: as 'opA',or a call that turns blocks. -/
def opL (P:Program) (ops:Array Oper) (i:Nat) (o:Oper) (st:St) (evs:List EV):Option (St × List EV × List Prop) :=
 match evs with
 | .lent ρ res bs2 :: evs =>
  (match o.op,Wb ops st.tmps o with
  | .call ⟨.value fop,args,_⟩,some true =>
   (match lentA P (Wj st.tmps fop) (args.toList.map (Wj st.tmps)) st.blks ρ res bs2 with
   | none=>none
   | some (v,blks,obs)=>(match conc (putA st.tmps o.dst v) (isGuard ops i) o.dst evs with
    | none=>none
    | some (tmps,evs,obs2)=>some (⟨tmps,blks⟩,evs,obs++obs2)))
  | _,_=>opA P ops i o st (.lent ρ res bs2 :: evs))
 | evs=>opA P ops i o st evs
theorem opL_step {ops:Array Oper} {i:Nat} {o:Oper} {rest:List Nat} {k:List Item} {evs evs':List EV} {obs:List Prop} (ho:ops[i]?=some o) {HK:Prop} (hk:HK)
 (h:opL P ops i o st evs=some (st',evs',obs)) (hob:AllP obs) (hg:G P E (.inRegion ops rest :: k) st'):G P E (.inRegion ops (i :: rest) :: k) st:=by
 unfold opL at h
 split at h
 · rename_i ρ res bs2 evs0
   split at h
   · rename_i fop args ats hop hw
     split at h
     · cases h
     · rename_i v blks obs1 hl
       split at h
       · cases h
       · rename_i tmps evs2 obs2 hc
         simp only [Option.some.injEq,Prod.mk.injEq] at h
         obtain ⟨rfl,-,rfl⟩:=h
         obtain ⟨ob1,ob2⟩:=QE.1 hob
         unfold lentA at hl
         cases hcd:(Vq ρ && Nat.ble ρ.length bs2.length && Vb (fun j=>ρ.contains j) (Wj st.tmps fop) && refsIns (fun j=>ρ.contains j) (args.toList.map (Wj st.tmps))) with
         | false=>rw [hcd] at hl; simp only [cond_false] at hl; cases hl
         | true =>
          rw [hcd] at hl
          simp only [cond_true] at hl
          simp only [Bool.and_eq_true] at hcd
          obtain ⟨⟨⟨hn,hle⟩,hrf⟩,hra⟩:=hcd
          have hle:=Nat.le_of_ble_eq_true hle
          split at hl
          · rename_i bs hlend
            simp only [Option.some.injEq,Prod.mk.injEq] at hl
            obtain ⟨rfl,rfl,rfl⟩:=hl
            intro C Z a w hr
            have hwc:=YA hr.tmp hw
            have hgo:=stepGR_op (P:=P) (b:=E.b) (k:=k) (cs:=E.cs) (w:=w) (rest:=rest) ho hwc
            rw [Oper.semAt_eq _ _ _ (by intro c hc; rw [hop] at hc; cases hc)] at hgo
            have hfin:∀ v,(E.b.atR a (.inRegion ops (i :: rest) :: k)).finish v=E.b.atR (a.put o.dst v) (.inRegion ops rest :: k):=by
             intro v; rw [Frame.finish_atR,ho]; rfl
            obtain ⟨hm1,hρ,hcon⟩:=hr.mem.lend hn hlend
            have hfv:=(Yu hr.tmp fop).ren hcon hrf
            have hargs:VRs Z w (subC C ρ) (rens (fun j=>ρ.idxOf j) (args.toList.map (Wj st.tmps))) (args.map a.eval).toList:=by
             refine ⟨by simp [Yc],fun j c v p q=>?_⟩
             rw [VB,Option.map_eq_some_iff] at p
             obtain ⟨c0,p,rfl⟩:=p
             have hin:=Vo hra p
             simp only [List.getElem?_map,Option.map_eq_some_iff] at p
             obtain ⟨y,p1,p2⟩:=p
             simp only [Array.toList_map,List.getElem?_map,p1,Option.map_some,Option.some.injEq] at q
             rw [← q]
             exact (p2 ▸ Yu hr.tmp y).ren hcon hin
            obtain ⟨d,f,args',r1,r2,r3⟩:=ob1.1 Z w (subC C ρ) (a.eval fop) (args.map a.eval) hm1 hfv hargs
            obtain ⟨e,w1,fr,⟨v,C1,Z1,rfl,hb,hm2,hv⟩,hsteps,-,hleave⟩:=r3 (E.b.atR a (.inRegion ops (i :: rest) :: k) :: E.cs)
            have hexec:(execOp a.eval o).run P w=.ok (.enter f args') w:=by
             obtain ⟨dst,op,ty,pos,after,guard⟩:=o
             simp only at hop
             subst hop
             simp only [execOp,resolve,Sem.run_bind,r1,Result.andThen_ok,r2]
            have henter:step P (lone (E.b.atR a (.inRegion ops (i :: rest) :: k)) E.cs w) =
             .next (lone (Frame.enter P f args' .normal) (E.b.atR a (.inRegion ops (i :: rest) :: k) :: E.cs) w) :=
             step_lone_go (by rw [hgo]; simp [stepG.apply,hexec,Frame.atR])
            obtain ⟨hm3,hevo,hout⟩:=hr.mem.given hn hρ hle hb hm2
            refine .step (Steps.head henter (hsteps.trans (.one ?_))) (hg _ Z1 (a.put o.dst v) w1 ⟨Qaq ((hr.tmp.evoG hevo).put (hv.ren (p:=fun _=>true) (fun k _=>hout k) (KZ _)) o.dst) hc ob2,hm3,?_,hr.gh.evoG hevo,hr.base.nextG hevo⟩)
            · rw [← hfin]; exact step_leave_returned hleave
            · have:(a.put o.dst v).defers=a.defers:=by cases o.dst <;> rfl
              rw [this]; exact hr.marks.evoG hevo
          · cases hl
   · exact op_step ho hk h hob hg
 · exact op_step ho hk h hob hg
end
end Ax
namespace Ax
open Go
def killB (b:Blk):Blk:=⟨false,b.gen+1,b.sz,true,[],false⟩
def layCell (st:St) (j c:Nat):Option (St × List Prop) :=
 match st.blks[j]? with
 | some bj=>(match bj.live && bj.sz != 0,bj.cells[c]? with
  | true,some (.sl k g off len _)=>(match st.blks[k]? with
   | some bk=>(match bk.live && bk.flat && bk.sz != 0,k == j with
    | true,false=>some (⟨st.tmps,(st.blks.set k (killB bk)).set j { bj with cells:=bj.cells.set c (.rsl bk.cells off len),flat:=noRefs (bj.cells.set c (.rsl bk.cells off len)) }⟩,[g=bk.gen])
    | _,_=>none)
   | none=>none)
  | true,some .nilSl=>some (⟨st.tmps,st.blks.set j { bj with cells:=bj.cells.set c (.rsl [] 0 0),flat:=noRefs (bj.cells.set c (.rsl [] 0 0)) }⟩,[])
  | _,_=>none)
 | none=>none
section
variable {P:Program} {E:Env} {K:List Item} {st st':St} {Z0 M Z:Nat→Prop} {w0 w:World} {C:Ctx} {blks:List Blk}
theorem Ctx.put_id {k:Nat}:C.put k (C.β k) (C.γ k)=C:=by
 cases C with
 | mk β γ =>
  simp only [Ctx.put,Ctx.mk.injEq]
  constructor <;> (funext j; by_cases e:j=k <;> simp [e])
/-- One cell turned to another view of the value that lies there. -/
theorem Mem.recell (hm:Mem Z0 M w0 C Z blks w) {j c:Nat} {bj:Blk} {v v':AV} (hb:blks[j]?=some bj) (hl:bj.live=true) (hz:bj.sz ≠ 0) (hc:bj.cells[c]?=some v) (hk:XE v'=true)
 (h:∀ blk o arr te,C.β j=.loc blk o→w.heap[blk]?=some (.cells arr te (0,0))→∃ y,arr[o+c]?=some y∧VR Z w C v' y):Mem Z0 M w0 C Z (blks.set j { bj with cells:=bj.cells.set c v',flat:=noRefs (bj.cells.set c v') }) w:=by
 obtain ⟨q1,q2⟩:=hm.blk j bj hb hl
 have hg:=hm.gen j bj hb
 have:=hm.change (b':={ bj with cells:=bj.cells.set c v',flat:=noRefs (bj.cells.set c v') }) (w':=w) (s:=C.β j) (g:=C.γ j) hb rfl rfl rfl (Nat.le_refl _) (fun _ _ _=>rfl)
  (fun blk o arr e _ h=>⟨arr,h,rfl⟩) (Nat.le_refl _) (fun _ _=>rfl) hl hg.symm (fun blk o h=>.inl ⟨o,h⟩) (fun hle hevo _=>by
    refine ⟨fun i x hi=>?_,?_⟩
    · rw [List.getElem?_set] at hi
      split at hi
      · split at hi
        · cases hi; exact hk
        · cases hi
      · exact q1 i x hi
    · rw [Ctx.put_id]
      cases hs:C.β j with
      | absent=>simp [hs] at q2
      | unborn=>simp only [hs] at q2; rw [q2] at hc; simp at hc
      | loc blk o =>
       simp only [hs] at q2 ⊢
       obtain ⟨arr,te,r1,r2,r3⟩:=q2.cells hz
       refine .inl ⟨hz,arr,te,r1,by simpa using r2,fun i x hi=>?_⟩
       have key:∃ y,arr[o+i]?=some y∧VR Z w C x y:=by
        rw [List.getElem?_set] at hi
        split at hi
        · rename_i eij
          subst eij
          split at hi
          · cases hi
            exact h blk o arr te hs r1
          · cases hi
        · obtain ⟨y,s1,s2⟩:=r3 i x hi
          refine ⟨y,s1,?_⟩
          cases hf:bj.flat with
          | true=>rw [hf] at s2; exact VR.of0 (by simpa using s2)
          | false=>rw [hf] at s2; simpa using s2
       obtain ⟨y,s1,s2⟩:=key
       refine ⟨y,s1,?_⟩
       cases hf:noRefs (bj.cells.set c v') with
       | true=>simp only [if_true]; exact s2.ctx (Xv hf hi)
       | false=>simpa using s2)
 rw [Ctx.put_id] at this
 exact this.1
/-- A block whose cells hold no reference. -/
theorem Mem.flatten (hm:Mem Z0 M w0 C Z blks w) {j:Nat} {bj:Blk} (hb:blks[j]?=some bj) (hl:bj.live=true) (hz:bj.sz ≠ 0) (hn:noRefs bj.cells=true):Mem Z0 M w0 C Z (blks.set j { bj with flat:=true }) w:=by
 obtain ⟨q1,q2⟩:=hm.blk j bj hb hl
 have hg:=hm.gen j bj hb
 have:=hm.change (b':={ bj with flat:=true }) (w':=w) (s:=C.β j) (g:=C.γ j) hb rfl rfl rfl (Nat.le_refl _) (fun _ _ _=>rfl)
  (fun blk o arr e _ h=>⟨arr,h,rfl⟩) (Nat.le_refl _) (fun _ _=>rfl) hl hg.symm (fun blk o h=>.inl ⟨o,h⟩) (fun hle hevo _=>by
    refine ⟨q1,?_⟩
    rw [Ctx.put_id]
    cases hs:C.β j with
    | absent=>simp [hs] at q2
    | unborn=>simp only [hs] at q2 ⊢; exact q2
    | loc blk o =>
     simp only [hs] at q2 ⊢
     obtain ⟨arr,te,r1,r2,r3⟩:=q2.cells hz
     refine .inl ⟨hz,arr,te,r1,r2,fun i x hi=>?_⟩
     obtain ⟨y,s1,s2⟩:=r3 i x hi
     refine ⟨y,s1,?_⟩
     simp only [if_true]
     cases hf:bj.flat with
     | true=>rw [hf] at s2; simpa using s2
     | false=>rw [hf] at s2; exact VR.ctx (by simpa using s2) (Xv hn hi))
 rw [Ctx.put_id] at this
 exact this.1
def flatA (st:St) (j:Nat):Option (St × Prop):=match st.blks[j]? with
 | some bj=>if bj.live && bj.sz != 0 then some (⟨st.tmps,st.blks.set j { bj with flat:=true }⟩,noRefs bj.cells=true) else none
 | none=>none
theorem flatA_step {j:Nat} {o:Prop} (h:flatA st j=some (st',o)) (ho:o) (hg:G P E K st'):G P E K st:=by
 intro C Z a w hr
 unfold flatA at h
 split at h
 · rename_i bj hbj
   split at h
   · rename_i hc
     simp only [Option.some.injEq,Prod.mk.injEq] at h
     obtain ⟨rfl,rfl⟩:=h
     simp only [Bool.and_eq_true,bne_iff_ne,ne_eq] at hc
     exact hg C Z a w ⟨hr.tmp,hr.mem.flatten hbj hc.1 hc.2 ho,hr.marks,hr.gh,hr.base⟩
   · cases h
 · cases h
theorem layCell_step {j c:Nat} {o1:List Prop} (h:layCell st j c=some (st',o1)) (ho:AllP o1) (hg:G P E K st'):G P E K st:=by
 intro C Z a w hr
 unfold layCell at h
 split at h
 · rename_i bj hbj
   split at h
   · rename_i k g off len sz hl hc
     simp only [Bool.and_eq_true,bne_iff_ne,ne_eq] at hl
     split at h
     · rename_i bk hbk
       split at h
       · rename_i hk1 hk3
         simp only [Option.some.injEq,Prod.mk.injEq] at h
         obtain ⟨rfl,rfl⟩:=h
         simp only [Bool.and_eq_true,bne_iff_ne,ne_eq] at hk1
         have hkj:k ≠ j:=by simpa using hk3
         have hgk:g=bk.gen:=ho.1
         obtain ⟨m1,le1,ev1⟩:=hr.mem.kill hbk
         have hj1:(st.blks.set k (killB bk))[j]?=some bj:=by rw [List.getElem?_set_ne hkj]; exact hbj
         have hC:(C.put k .absent (bk.gen+1)).β j=C.β j:=by simp [Ctx.put,Ne.symm hkj]
         have m2:=Mem.recell (v':=.rsl bk.cells off len) m1 hj1 hl.1 hl.2 hc rfl (fun blk o arr te hs hh=>by
          rw [hC] at hs
          obtain ⟨q1,q2⟩:=hr.mem.blk j bj hbj hl.1
          simp only [hs] at q2
          obtain ⟨arr',te',r1,r2,r3⟩:=q2.cells hl.2
          rw [hh] at r1; simp only [Option.some.injEq,Obj.cells.injEq] at r1; obtain ⟨rfl,rfl,-⟩:=r1
          obtain ⟨y,s1,s2⟩:=r3 c _ hc
          refine ⟨y,s1,?_⟩
          have s3:VR Z w C (.sl k g off len sz) y:=by
           cases hf:bj.flat with
           | true=>rw [hf] at s2; exact VR.of0 (by simpa using s2)
           | false=>rw [hf] at s2; simpa using s2
          exact VR.lay hr.mem hbk hk1.1.1 hk1.2 hk1.1.2 hgk s3)
         exact hg _ _ a w ⟨hr.tmp.next le1 ev1,m2,hr.marks.evo ev1,hr.gh.next le1 ev1,hr.base.next le1 ev1⟩
       · cases h
     · cases h
   · rename_i hl hc
     simp only [Option.some.injEq,Prod.mk.injEq] at h
     obtain ⟨rfl,rfl⟩:=h
     simp only [Bool.and_eq_true,bne_iff_ne,ne_eq] at hl
     have m2:=Mem.recell (v':=.rsl [] 0 0) hr.mem hbj hl.1 hl.2 hc rfl (fun blk o arr te hs hh=>by
      obtain ⟨q1,q2⟩:=hr.mem.blk j bj hbj hl.1
      simp only [hs] at q2
      obtain ⟨arr',te',r1,r2,r3⟩:=q2.cells hl.2
      rw [hh] at r1; simp only [Option.some.injEq,Obj.cells.injEq] at r1; obtain ⟨rfl,rfl,-⟩:=r1
      obtain ⟨y,s1,s2⟩:=r3 c _ hc
      refine ⟨y,s1,?_⟩
      have:y=.slice none 0 0:=by cases s2; rfl
      rw [this]; exact .rsl0)
     exact hg C Z a w ⟨hr.tmp,m2,hr.marks,hr.gh,hr.base⟩
   · cases h
 · cases h
/-- A value without its nil slices: they are seen as empty ones. -/
def dnl1:AV→AV
 | .nilSl=>.rsl [] 0 0
 | v=>v
theorem dnl1_ok {Z:Nat→Prop} {w:World} {C:Ctx} {v:AV} {c:Value} (h:VR Z w C v c):VR Z w C (dnl1 v) c:=by
 cases h <;> first | exact .rsl0 | (simp only [dnl1]; constructor <;> assumption)
/-- Told 'wt t': a value loses its nil slices; a pointer's block is laid down as it lies. -/
def wtA (st:St) (t:Nat):Option (St × List Prop):=match st.tmps[t]? with
 | some (.agg cs)=>some (⟨st.tmps.set t (.agg (cs.map dnl1)),st.blks⟩,[])
 | some (.ptr k g off)=>(match st.blks[k]? with
  | some bk=>(match bk.live && bk.flat && bk.sz != 0,g == bk.gen with
   | true,true=>some (⟨st.tmps.set t (.rptr bk.cells off),st.blks.set k (killB bk)⟩,[])
   | _,_=>none)
  | none=>none)
 | some (.sl k g off len _)=>(match st.blks[k]? with
  | some bk=>(match bk.live && bk.flat && bk.sz != 0 with
   | true=>some (⟨st.tmps.set t (.rsl bk.cells off len),st.blks.set k (killB bk)⟩,[g=bk.gen])
   | _=>none)
  | none=>none)
 | _=>none
theorem wtA_step {t:Nat} {o1:List Prop} (h:wtA st t=some (st',o1)) (ho:AllP o1) (hg:G P E K st'):G P E K st:=by
 intro C Z a w hr
 unfold wtA at h
 split at h
 · rename_i cs hc
   simp only [Option.some.injEq,Prod.mk.injEq] at h
   obtain ⟨rfl,rfl⟩:=h
   refine hg C Z a w ⟨⟨by rw [List.length_set]; exact hr.tmp.1,fun i c v hi hv=>?_⟩,hr.mem,hr.marks,hr.gh,hr.base⟩
   rw [List.getElem?_set] at hi
   split at hi
   · rename_i e
     subst e
     split at hi
     · cases hi
       have:=hr.tmp.2 t _ v hc hv
       cases this with
       | @agg _ _ arr hl hh =>
        refine .agg (by simpa using hl) fun i c v p q=>?_
        rw [List.getElem?_map] at p
        cases hci:cs[i]? with
        | none=>rw [hci] at p; simp at p
        | some y =>
         rw [hci] at p
         simp only [Option.map_some,Option.some.injEq] at p
         subst p
         exact dnl1_ok (hh i y v hci q)
     · cases hi
   · exact hr.tmp.2 i c v hi hv
 · rename_i k g off hc
   split at h
   · rename_i bk hbk
     split at h
     · rename_i hk1 hk2
       simp only [Option.some.injEq,Prod.mk.injEq] at h
       obtain ⟨rfl,rfl⟩:=h
       simp only [Bool.and_eq_true,bne_iff_ne,ne_eq] at hk1
       have hgk:g=bk.gen:=by simpa using hk2
       obtain ⟨m1,le1,ev1⟩:=hr.mem.kill hbk
       have ht:=hr.tmp.next le1 ev1
       refine hg _ _ a w ⟨⟨by rw [List.length_set]; exact ht.1,fun i c v hi hv=>?_⟩,m1,hr.marks.evo ev1,hr.gh.next le1 ev1,hr.base.next le1 ev1⟩
       rw [List.getElem?_set] at hi
       split at hi
       · rename_i e
         subst e
         split at hi
         · cases hi
           exact VR.layP hr.mem hbk hk1.1.1 hk1.2 hk1.1.2 hgk (hr.tmp.2 t _ v hc hv)
         · cases hi
       · exact ht.2 i c v hi hv
     · cases h
   · cases h
 · rename_i k g off len sz hc
   split at h
   · rename_i bk hbk
     split at h
     · rename_i hk1
       simp only [Option.some.injEq,Prod.mk.injEq] at h
       obtain ⟨rfl,rfl⟩:=h
       simp only [Bool.and_eq_true,bne_iff_ne,ne_eq] at hk1
       have hgk:g=bk.gen:=ho.1
       obtain ⟨m1,le1,ev1⟩:=hr.mem.kill hbk
       have ht:=hr.tmp.next le1 ev1
       refine hg _ _ a w ⟨⟨by rw [List.length_set]; exact ht.1,fun i c v hi hv=>?_⟩,m1,hr.marks.evo ev1,hr.gh.next le1 ev1,hr.base.next le1 ev1⟩
       rw [List.getElem?_set] at hi
       split at hi
       · rename_i e
         subst e
         split at hi
         · cases hi
           exact VR.lay hr.mem hbk hk1.1.1 hk1.2 hk1.1.2 hgk (hr.tmp.2 t _ v hc hv)
         · cases hi
       · exact ht.2 i c v hi hv
     · cases h
   · cases h
 · cases h
end
end Ax
namespace Ax
open Go
section
variable {P:Program} {E:Env} {K K':List Item} {st st':St}
def tick:List EV→List EV
 | .hold (j+1) :: evs=>.hold j :: evs
 | evs=>evs
/-- What comes next,in text order,up to where 'stop' is told: a loop's body,a range over a function,a return,a jump out of a round,or the end. -/
def walk (P:Program):Nat→List Item→St→List EV→Option (List Item × St × List EV × List Prop)
 | 0,K,st,evs=>some (K,st,evs,[])
 | n+1,K,st,evs =>
  match K with
  | .code .skip :: k=>walk P n k st evs
  | .inBlock _ :: k=>walk P n k st evs
  | .code (.seq x y) :: k=>walk P n (.code x :: .code y :: k) st evs
  | .code (.block id body) :: k=>walk P n (.code body :: .inBlock id :: k) st evs
  | .code (.cond c x y) :: k =>
   (match Wj st.tmps c,evs with
   | .bool t,.b u :: evs=>(match walk P n (.code (bif u then x else y) :: k) st evs with
    | some (K',st',evs',obs)=>some (K',st',evs',(t=u) :: obs)
    | none=>none)
   | _,_=>none)
  | .code (.region _ ops false) :: k=>walk P n (.inRegion ops (List.range' 0 ops.size) :: k) st evs
  | .code (.region _ ops true) :: k =>
   (match drawA P ops st evs with
   | some (st1,evs1,o1)=>(match walk P n k st1 evs1 with
    | some (K',st',evs',obs)=>some (K',st',evs',o1++obs)
    | none=>none)
   | none=>none)
  | .inRegion ops [] :: k=>walk P n k st evs
  | .inRegion ops (i :: is) :: k =>
   (match evs with
   | .hold 0 :: evs=>some (.inRegion ops (i :: is) :: k,st,evs,[])
   | .frz j c :: evs=>(match layCell st j c with
    | some (st1,o1)=>(match walk P n (.inRegion ops (i :: is) :: k) st1 evs with
     | some (K',st',evs',obs)=>some (K',st',evs',o1++obs)
     | none=>none)
    | none=>none)
   | .flat j :: evs=>(match flatA st j with
    | some (st1,o1)=>(match walk P n (.inRegion ops (i :: is) :: k) st1 evs with
     | some (K',st',evs',obs)=>some (K',st',evs',o1 :: obs)
     | none=>none)
    | none=>none)
   | .wt t :: evs1=>(match wtA st t with
    | some (st1,o1)=>(match walk P n (.inRegion ops (i :: is) :: k) st1 evs1 with
     | some (K',st',evs',obs)=>some (K',st',evs',o1++obs)
     | none=>none)
    | none=>(match ops[i]? with
     | none=>none
     | some o=>(match opL P ops i o st (.wt t :: evs1) with
      | none=>none
      | some (st1,evs1,o1)=>(match walk P n (.inRegion ops is :: k) st1 evs1 with
       | some (K',st',evs',obs)=>some (K',st',evs',o1++obs)
       | none=>none))))
   | evs=>(match ops[i]? with
    | none=>none
    | some o=>(match opL P ops i o st (tick evs) with
     | none=>none
     | some (st1,evs1,o1)=>(match walk P n (.inRegion ops is :: k) st1 evs1 with
      | some (K',st',evs',obs)=>some (K',st',evs',o1++obs)
      | none=>none))))
  | .code (.exit id) :: k=>(match exitTo id k with
   | some k'=>walk P n k' st evs
   | none=>some (.code (.exit id) :: k,st,evs,[]))
  | .code (.loop body) :: k=>(match evs with
   | .stop :: evs=>some (.code body :: .inLoop body :: k,st,evs,[])
   | evs=>walk P n (.code body :: .inLoop body :: k) st evs)
  | .inLoop body :: k=>(match evs with
   | .stop :: evs=>some (.code body :: .inLoop body :: k,st,evs,[])
   | evs=>walk P n (.code body :: .inLoop body :: k) st evs)
  | K=>some (K,st,evs,[])
theorem Xe {HK:Prop} (hk:HK) (hmx:P.follows .mixedOrders=true):∀ {n:Nat} {K K':List Item} {st st':St} {evs evs':List EV} {obs:List Prop},
 walk P n K st evs=some (K',st',evs',obs)→AllP obs→G P E K' st'→G P E K st
 | 0,K,K',st,st',evs,evs',obs,h,ho,hg=>by
  simp only [walk,Option.some.injEq,Prod.mk.injEq] at h
  obtain ⟨rfl,rfl,-,-⟩:=h
  exact hg
 | n+1,K,K',st,st',evs,evs',obs,h,ho,hg=>by
  unfold walk at h
  split at h
  · exact .of_step (fun a w=>stepR_skip) (Xe hk hmx h ho hg)
  · exact .of_step (fun a w=>stepR_inBlock) (Xe hk hmx h ho hg)
  · exact .of_step (fun a w=>stepR_seq) (Xe hk hmx h ho hg)
  · exact .of_step (fun a w=>stepR_block) (Xe hk hmx h ho hg)
  · rename_i c x y k
    split at h
    · rename_i t u evs1 hc
      split at h
      · rename_i K1 st1 evs2 obs1 h1
        simp only [Option.some.injEq,Prod.mk.injEq] at h
        obtain ⟨rfl,rfl,rfl,rfl⟩:=h
        obtain ⟨rfl,ho⟩:=ho
        have h2:=Xe hk hmx h1 ho hg
        intro C Z a w hr
        have hv:=Yu hr.tmp c
        rw [hc] at hv
        generalize hcv:a.eval c=cv at hv
        cases hv
        refine .step (.one (stepR_cond hcv)) ?_
        have:=h2 C Z a w hr
        cases t <;> exact this
      · cases h
    · cases h
  · rename_i id ops k
    have:=Xe hk hmx h ho hg
    rw [← List.range_eq_range'] at this
    exact .of_step (fun a w=>stepR_region) this
  · rename_i id ops k
    split at h
    · rename_i st1 evs1 o1 h1
      split at h
      · rename_i K2 st2 evs2 obs2 h2
        simp only [Option.some.injEq,Prod.mk.injEq] at h
        obtain ⟨rfl,rfl,rfl,rfl⟩:=h
        obtain ⟨a1,a2⟩:=QE.1 ho
        exact draw_step hk hmx h1 a1 (Xe hk hmx h2 a2 hg)
      · cases h
    · cases h
  · exact .of_step (fun a w=>stepR_region_end) (Xe hk hmx h ho hg)
  · rename_i ops i is k
    split at h
    · simp only [Option.some.injEq,Prod.mk.injEq] at h
      obtain ⟨rfl,rfl,-,-⟩:=h
      exact hg
    · split at h
      · rename_i st1 o1 h1
        split at h
        · rename_i K2 st2 evs2 obs2 h2
          simp only [Option.some.injEq,Prod.mk.injEq] at h
          obtain ⟨rfl,rfl,rfl,rfl⟩:=h
          obtain ⟨a1,a2⟩:=QE.1 ho
          exact layCell_step h1 a1 (Xe hk hmx h2 a2 hg)
        · cases h
      · cases h
    · split at h
      · rename_i st1 o1 h1
        split at h
        · rename_i K2 st2 evs2 obs2 h2
          simp only [Option.some.injEq,Prod.mk.injEq] at h
          obtain ⟨rfl,rfl,rfl,rfl⟩:=h
          exact flatA_step h1 ho.1 (Xe hk hmx h2 ho.2 hg)
        · cases h
      · cases h
    · split at h
      · rename_i st1 o1 h1
        split at h
        · rename_i K2 st2 evs2 obs2 h2
          simp only [Option.some.injEq,Prod.mk.injEq] at h
          obtain ⟨rfl,rfl,rfl,rfl⟩:=h
          obtain ⟨a1,a2⟩:=QE.1 ho
          exact wtA_step h1 a1 (Xe hk hmx h2 a2 hg)
        · cases h
      · split at h
        · cases h
        · rename_i o hoi
          split at h
          · cases h
          · rename_i st1 evs1 o1 h1
            split at h
            · rename_i K2 st2 evs2 obs2 h2
              simp only [Option.some.injEq,Prod.mk.injEq] at h
              obtain ⟨rfl,rfl,rfl,rfl⟩:=h
              obtain ⟨a1,a2⟩:=QE.1 ho
              exact opL_step hoi hk h1 a1 (Xe hk hmx h2 a2 hg)
            · cases h
    · split at h
      · cases h
      · rename_i o hoi
        split at h
        · cases h
        · rename_i st1 evs1 o1 h1
          split at h
          · rename_i K2 st2 evs2 obs2 h2
            simp only [Option.some.injEq,Prod.mk.injEq] at h
            obtain ⟨rfl,rfl,rfl,rfl⟩:=h
            obtain ⟨a1,a2⟩:=QE.1 ho
            exact opL_step hoi hk h1 a1 (Xe hk hmx h2 a2 hg)
          · cases h
  · rename_i id k
    split at h
    · rename_i k' hx
      exact .of_step (fun a w=>stepR_exit hx) (Xe hk hmx h ho hg)
    · simp only [Option.some.injEq,Prod.mk.injEq] at h
      obtain ⟨rfl,rfl,-,-⟩:=h
      exact hg
  · split at h
    · simp only [Option.some.injEq,Prod.mk.injEq] at h
      obtain ⟨rfl,rfl,-,-⟩:=h
      exact .of_step (fun a w=>stepR_loop) hg
    · exact .of_step (fun a w=>stepR_loop) (Xe hk hmx h ho hg)
  · split at h
    · simp only [Option.some.injEq,Prod.mk.injEq] at h
      obtain ⟨rfl,rfl,-,-⟩:=h
      exact .of_step (fun a w=>stepR_inLoop) hg
    · exact .of_step (fun a w=>stepR_inLoop) (Xe hk hmx h ho hg)
  · simp only [Option.some.injEq,Prod.mk.injEq] at h
    obtain ⟨rfl,rfl,-,-⟩:=h
    exact hg
/-- A function that only reads, called by its value. -/
theorem QQ {f : FuncId} {fn : Func} {c : Code} {first args cap : List AV} {res : AV} (hf : P.funcs[f]? = some fn) (hname : (fn.name == "runtime.NumGoroutine") = false) (hb : fn.body = some c)
    (h : Pure P f (first ++ args ++ cap) res) : Qd P (.clos f first cap) args res := by
  intro Z w cf cargs hz hcf ha
  cases hcf with
  | @clos _ _ _ _ fa ca hl h1 hl' h2 =>
    refine ⟨{ target := .fn (.func f) ca, args := fa ++ cargs }, f, fa ++ cargs ++ ca, rfl, ?_, ?_⟩
    · have := Go.Proofs.enters_of (P := P) hf hname hb (fa ++ cargs ++ ca) w
      simpa [invoke] using this
    · refine h Z w _ hz ⟨by have := ha.1; simp at this; simp [hl, hl', this], fun i x y p q => ?_⟩
      have hal : args.length = cargs.size := by simpa using ha.1
      simp only [Array.toList_append] at q
      rw [List.append_assoc] at p q
      by_cases i1 : i < first.length
      · rw [List.getElem?_append_left i1] at p
        rw [List.getElem?_append_left (by simpa [← hl] using i1)] at q
        exact h1 i x y p (by simpa using q)
      · rw [List.getElem?_append_right (by omega)] at p
        rw [List.getElem?_append_right (by simp; omega)] at q
        have e1 : fa.toList.length = first.length := by simp [hl]
        rw [e1] at q
        by_cases i2 : i - first.length < args.length
        · rw [List.getElem?_append_left i2] at p
          rw [List.getElem?_append_left (by simpa [← hal] using i2)] at q
          exact ha.2 _ x y p q
        · rw [List.getElem?_append_right (by omega)] at p
          rw [List.getElem?_append_right (by simp; omega)] at q
          have e2 : cargs.toList.length = args.length := by simp [hal]
          rw [e2] at q
          exact h2 _ x y p (by simpa using q)

end
end Ax
namespace Ax
open Go
/-- The place in the code,by the tests' outcomes. -/
def kAt:Nat→List Item→List EV→List Item
 | 0,K,_=>K
 | n+1,K,evs =>
  match K with
  | .code .skip :: k=>kAt n k evs
  | .inBlock _ :: k=>kAt n k evs
  | .code (.seq x y) :: k=>kAt n (.code x :: .code y :: k) evs
  | .code (.block id body) :: k=>kAt n (.code body :: .inBlock id :: k) evs
  | .code (.cond _ x y) :: k=>(match evs with
   | .b u :: evs=>kAt n (.code (bif u then x else y) :: k) evs
   | _=>K)
  | .code (.region ..) :: k=>kAt n k evs
  | .inRegion .. :: k=>kAt n k evs
  | .code (.exit id) :: k=>(match exitTo id k with
   | some k'=>kAt n k' evs
   | none=>K)
  | .code (.loop body) :: k=>(match evs with
   | .stop :: _=>.code body :: .inLoop body :: k
   | evs=>kAt n (.code body :: .inLoop body :: k) evs)
  | .inLoop body :: k=>(match evs with
   | .stop :: _=>.code body :: .inLoop body :: k
   | evs=>kAt n (.code body :: .inLoop body :: k) evs)
  | K=>K
def Qh (P:Program) (f:FuncId):Code:=((P.funcs[f]?).bind (·.body)).getD .skip
section
variable {P:Program} {E:Env} {K K':List Item} {st st':St}
def isEnd:List Item→Bool
 | []=>true
 | .code .ret :: _=>true
 | _=>false
theorem VV {K:List Item} (h:isEnd K=true):K=[] ∨ ∃ k,K=.code .ret :: k:=by
 unfold isEnd at h
 split at h
 · exact .inl rfl
 · exact .inr ⟨_,rfl⟩
 · cases h
/-- To the end: the result,laid down. -/
def endA (P:Program) (fn:Func) (n:Nat) (K:List Item) (st:St) (evs:List EV):Option (AV × List Prop) :=
 match walk P n K st evs with
 | some (K',st',evs',o1) =>
  (match isEnd K',resA P st' fn.results.toList evs' with
  | true,some (vs,_,o2) =>
   (match (frz 8 (tupA vs)).run (st'.blks[·]?) with
   | some (r,o3)=>some (r,o1++(o2++o3))
   | none=>none)
  | _,_=>none)
 | none=>none
theorem end_step {n:Nat} {f:FuncId} {fn:Func} {evs:List EV} {r res:AV} {obs:List Prop} (hE:Qn P f res E) (hf:P.funcs[f]?=some fn) (hmx:P.follows .mixedOrders=true)
 (h:endA P fn n K st evs=some (r,obs)) (ho:AllP obs) (hr:r=res):G P E K st:=by
 subst hr
 unfold endA at h
 split at h
 · rename_i K' st' evs' o1 h1
   split at h
   · rename_i vs evs2 o2 hK h2
     split at h
     · rename_i r' o3 h3
       simp only [Option.some.injEq,Prod.mk.injEq] at h
       obtain ⟨rfl,rfl⟩:=h
       obtain ⟨a1,a2⟩:=QE.1 ho
       obtain ⟨a2,a3⟩:=QE.1 a2
       exact Xe hE.2.1 hmx h1 a1 (G_pure hE hf h2 a2 h3 a3 (VV hK))
     · cases h
   · cases h
 · cases h
end
end Ax
namespace Ax
open Go
section
variable {P:Program} {Z0 M Z F M':Nat→Prop} {w0 w w':World} {C C':Ctx} {blks blks':List Blk}
theorem Mem.apart (hm:Mem Z0 M w0 C Z blks w) (hf:Fr w F w') (h1:∀ b,Own C b→¬ F b) (h2:∀ b,Z b→¬ F b) (hM':∀ b,Own C b→M' b):Mem Z M' w' C Z blks w'∧Evo C Z Z w w':=by
 have hevo:Evo C Z Z w w':=⟨fun b h=>h,fun b hz=>hf.same b (hm.zlt b hz) (h2 b hz),fun k blk o arr e hb h=>⟨arr,by rw [hf.same blk (hm.own k blk o hb).1 (h1 blk ⟨k,o,hb⟩)]; exact h,rfl⟩⟩
 refine ⟨⟨fun k b hb hl=>?_,hm.gen,hm.dd,hm.dom,hm.inj,fun k b o h=>⟨Nat.lt_of_lt_of_le (hm.own k b o h).1 hf.size,(hm.own k b o h).2.1,.inl (hM' b ⟨k,o,h⟩)⟩,
  fun b hz=>Nat.lt_of_lt_of_le (hm.zlt b hz) hf.size,fun b hz=>hz,fun b hz=>.inl hz,Fr.refl _ _⟩,hevo⟩
 obtain ⟨q1,q2⟩:=hm.blk k b hb hl
 refine ⟨q1,?_⟩
 cases hs:C.β k with
 | absent=>simp [hs] at q2
 | unborn=>simp only [hs] at q2 ⊢; exact q2
 | loc blk o =>
  simp only [hs] at q2 ⊢
  exact q2.next (hf.same blk (hm.own k blk o hs).1 (h1 blk ⟨k,o,hs⟩)) (fun c v h=>h.mono hevo.zero) (fun _ c v _ h=>h.mono hevo)
theorem Mem.keep (hm:Mem Z0 M w0 C Z blks w) (hf:Fr w F w') (h1:∀ b,Own C b→¬ F b) (h2:∀ b,Z b→¬ F b) (h3:∀ b,b<w0.heap.size→¬ M b→¬ F b):Mem Z0 M w0 C Z blks w'∧Evo C Z Z w w':=by
 obtain ⟨a,e⟩:=hm.apart (M':=Own C) hf h1 h2 (fun _ h=>h)
 exact ⟨⟨a.blk,hm.gen,hm.dd,hm.dom,hm.inj,fun k b o h=>⟨(a.own k b o h).1,(hm.own k b o h).2⟩,a.zlt,hm.z0,hm.zsub,hm.frame.trans hf h3⟩,e⟩
theorem Mem.back {Z':Nat→Prop} (hm:Mem Z0 M w0 C Z blks w) (h:Mem Z M' w C' Z' blks' w') (hM:∀ b,M' b→M b ∨ w0.heap.size≤b):Mem Z0 M w0 C' Z' blks' w':=by
 have hs:=hm.frame.size
 refine ⟨h.blk,h.gen,h.dd,h.dom,h.inj,fun k b o ho=>?_,h.zlt,fun b hz=>h.z0 b (hm.z0 b hz),fun b hz=>?_,?_⟩
 · obtain ⟨a,b',c⟩:=h.own k b o ho
   refine ⟨a,b',?_⟩
   rcases c with c | c
   · exact hM b c
   · exact .inr (by omega)
 · rcases h.zsub b hz with h1 | h1 | h1
   · exact hm.zsub b h1
   · exact .inr (hM b h1)
   · exact .inr (.inr (by omega))
 · exact hm.frame.trans h.frame fun b hb hnM hm'=>by
    rcases hM b hm' with h1 | h1
    · exact hnM h1
    · omega
/-! ### Whoever ranges: 'F' is what a round may turn,'Kp' what it must find again -/
abbrev Sd:=(Nat→Prop)→(Nat→Prop)→World→Prop
structure Stable (Y:Sd):Prop where
 lt:∀ F Kp w,Y F Kp w→∀ b,F b ∨ Kp b→b<w.heap.size
 mv:∀ F Kp w Mi w',Y F Kp w→Fr w Mi w'→(∀ b,Mi b→¬ F b∧¬ Kp b)→Y F Kp w'
def YCall (P:Program) (yv:Value) (cargs:Array Value) (w:World) (Q:Bool→World→Prop):Prop :=
 ∃ l fn tm asg bd,yv=.func (.yield l) #[] #[]∧(Instr.yield l cargs).run P w=.ok (.round l fn tm asg bd) w ∧
  ∀ (c:Frame) (cs:List Frame),∃ t w',Q t w'∧Steps P (lone (Frame.round l fn tm asg bd .normal) (c :: cs) w) (lone (c.finish (.bool t)) cs w')
def nxt (cont:Nat→Bool) (n:Nat):Option Nat:=bif cont n then some (n+1) else none
def Yields (P:Program) (yv:Value) (Y:Option Nat→Sd) (cont:Nat→Bool) (xs:List (List AV)):Prop :=
 ∀ i x,xs[i]?=some x→∀ F Kp w,Y (some i) F Kp w→∀ cargs:Array Value,VRs (fun _=>False) w C0 x cargs.toList →
  YCall P yv cargs w fun t w'=>t=cont i∧∃ F' Kp',Y (nxt cont i) F' Kp' w'∧Fr w F w'∧(∀ b,F' b→F b ∨ w.heap.size≤b)∧(∀ b,Kp' b→F b ∨ Kp b ∨ w.heap.size≤b)
def At (Y:Sd) (E:Env):Prop:=∃ F Kp,Y F Kp E.w0∧(∀ b,E.M b→¬ F b∧¬ Kp b)∧(∀ b,E.Z0 b→¬ F b)
/-- The iterator's own frame,'o' the side's state. -/
structure IterE (P:Program) (f:FuncId) (xs:List (List AV)) (yv:Value) (Y:Option Nat→Sd) (cont:Nat→Bool) (e o:Option Nat) (E:Env):Prop where
 ro:E.b.roundOf=none
 kind:E.b.kind=.normal
 fn:E.b.fn=f
 gA:E.gA=[]
 cb:E.Cb=C0
 df:E.df=[]
 stab:∀ o,Stable (Y o)
 ylds:Yields P yv Y cont xs
 at':At (Y o) E
 fin:E.Fin=qK P f E.cs fun _ w'=>∃ F Kp,Y e F Kp w'
variable {E:Env} {K K':List Item} {st st':St}
end
end Ax
namespace Ax
open Go
structure RoundE (gA:List AV) (E:Env):Prop where
 ro:∃ l,E.b.roundOf=some l
 kind:E.b.kind=.normal
 gA:E.gA=gA
 cb:E.Cb=C0
 df:E.df=[]
section
variable {P:Program} {E:Env} {K K':List Item} {st st':St}
theorem VRs.app {Z:Nat→Prop} {w:World} {C:Ctx} {a b:List AV} {c d:List Value} (h:VRs Z w C a c) (h':VRs Z w C b d):VRs Z w C (a++b) (c++d):=by
 refine ⟨by simp [h.1,h'.1],fun i x y p q=>?_⟩
 by_cases hi:i<a.length
 · rw [List.getElem?_append_left hi] at p
   rw [List.getElem?_append_left (by rw [← h.1]; exact hi)] at q
   exact h.2 i x y p q
 · rw [List.getElem?_append_right (by omega)] at p
   rw [List.getElem?_append_right (by rw [← h.1]; omega),← h.1] at q
   exact h'.2 _ x y p q
theorem VRs.mono {Z Z':Nat→Prop} {w w':World} {C:Ctx} {a:List AV} {c:List Value} (h:VRs Z w C a c) (he:Evo C Z Z' w w'):VRs Z' w' C a c :=
 ⟨h.1,fun i x y p q=>(h.2 i x y p q).mono he⟩
theorem Fr.weaken {w0 w:World} {M M':Nat→Prop} (h:Fr w0 M w) (hM:∀ b,M b→M' b):Fr w0 M' w :=
 ⟨h.os,h.tape,h.output,h.size,fun b hb hn=>h.same b hb fun hm=>hn (hM b hm)⟩
end
end Ax
namespace Ax
open Go
section
variable {P:Program} {E:Env} {K K':List Item} {st st':St}
end
end Ax
namespace Ax
open Go
section
variable {P:Program} {E:Env} {K K':List Item} {st st':St}
def denil (st:St):List (Nat × Nat)→Option St
 | []=>some st
 | (t,sz) :: r=>match st.tmps[t]? with
  | some .nilSl=>denil ⟨st.tmps.set t (.sl st.blks.length 0 0 0 sz),st.blks++[⟨true,0,sz,true,[],true⟩]⟩ r
  | _=>none
theorem Qao:∀ {ds:List (Nat × Nat)} {st st':St},denil st ds=some st'→G P E K st'→G P E K st
 | [],st,st',h,hg=>by simp only [denil,Option.some.injEq] at h; subst h; exact hg
 | (t,sz) :: r,st,st',h,hg=>by
  simp only [denil] at h
  split at h
  · rename_i ht
    have h1:=Qao h hg
    intro C Z a w hr
    have hlt:t<a.tmps.size:=by
     have:=(List.getElem?_eq_some_iff.1 ht).1
     have h2:=hr.tmp.1
     simp at h2; omega
    have hv:=hr.tmp.2 t .nilSl a.tmps[t] ht (by simp [hlt])
    generalize hc:a.tmps[t]=c at hv
    cases hv
    obtain ⟨C',Z',hle,hevo,hm,hv'⟩:=Wt (a:=none) (sz:=sz) (fl:=true) (idx:=st.blks.length) hr.mem.push (by simp)
    have e:(Eff.new ⟨true,0,sz,true,[],true⟩ (fun k=>AV.sl k 0 0 0 sz)).blks st.blks.length (st.blks++[dead])=st.blks++[⟨true,0,sz,true,[],true⟩]:=by simp [Eff.blks]
    rw [e] at hm
    have ht2:=hr.tmp.next hle hevo
    refine h1 C' Z' a w ⟨⟨by simpa using ht2.1,fun i x y p q=>?_⟩,hm,hr.marks.evo hevo,hr.gh.next hle hevo,hr.base.next hle hevo⟩
    rw [List.getElem?_set] at p
    split at p
    · rename_i e
      subst e
      split at p
      · cases p
        simp only [Array.getElem?_toList] at q
        rw [Array.getElem?_eq_getElem hlt,hc] at q
        cases q
        exact hv'
      · cases p
    · exact ht2.2 i x y p q
  · cases h
theorem Qn.nogh {f:FuncId} {res:AV} (hE:Qn P f res E) (m:Nat):refsBelows m E.gA=true:=by rw [hE.2.2.2.2.1]; rfl
theorem IterE.nogh {f:FuncId} {xs:List (List AV)} {yv:Value} {Y:Option Nat→Sd} {cont:Nat→Bool} {e o:Option Nat} (hE:IterE P f xs yv Y cont e o E) (m:Nat):refsBelows m E.gA=true:=by rw [hE.gA]; rfl
end
end Ax
namespace Ax
open Go
/-- The place at the region behind 'r' others,by the tests' outcomes. -/
def kReg:Nat→List Item→List EV→Nat→List Item
 | 0,K,_,_=>K
 | n+1,K,evs,r =>
  match K with
  | .code .skip :: k=>kReg n k evs r
  | .inBlock _ :: k=>kReg n k evs r
  | .code (.seq x y) :: k=>kReg n (.code x :: .code y :: k) evs r
  | .code (.block id body) :: k=>kReg n (.code body :: .inBlock id :: k) evs r
  | .code (.cond _ x y) :: k=>(match evs with
   | .b u :: evs=>kReg n (.code (bif u then x else y) :: k) evs r
   | _=>K)
  | .code (.region id ops d) :: k=>(match r with
   | 0=>.code (.region id ops d) :: k
   | r+1=>kReg n k evs r)
  | .inRegion .. :: k=>kReg n k evs r
  | .code (.exit id) :: k=>(match exitTo id k with
   | some k'=>kReg n k' evs r
   | none=>K)
  | .code (.loop body) :: k=>kReg n (.code body :: .inLoop body :: k) evs r
  | .inLoop body :: k=>kReg n (.code body :: .inLoop body :: k) evs r
  | K=>K
def toOp (i:Nat):List Item→List Item
 | .code (.region _ ops _) :: k=>.inRegion ops (List.range' i (ops.size - i)) :: k
 | K=>K
section
variable {P:Program} {E:Env} {K K':List Item} {st st':St}
end
end Ax
namespace Ax
open Go
section
variable {P:Program} {E:Env} {K K':List Item} {st st':St}
theorem Ctx.put_same (C:Ctx) (k:Nat):C.put k (C.β k) (C.γ k)=C:=by
 cases C with
 | mk β γ =>
  unfold Ctx.put
  congr 1 <;> funext j <;> by_cases e:j=k <;> simp [e]
theorem denilC_step {k j sz:Nat} {b:Blk} (hk:st.blks[k]?=some b) (hl:b.live=true) (hbz:b.sz ≠ 0) (hj:b.cells[j]?=some .nilSl)
 (hg:G P E K ⟨st.tmps,(st.blks++[(⟨true,0,sz,true,[],true⟩:Blk)]).set k { b with flat:=false,cells:=b.cells.set j (.sl st.blks.length 0 0 0 sz) }⟩):G P E K st:=by
 intro C Z a w hr
 obtain ⟨C',Z',hle,hevo,hm,hv'⟩:=Wt (a:=none) (sz:=sz) (fl:=true) (idx:=st.blks.length) hr.mem.push (by simp)
 have e:(Eff.new ⟨true,0,sz,true,[],true⟩ (fun k=>AV.sl k 0 0 0 sz)).blks st.blks.length (st.blks++[dead])=st.blks++[⟨true,0,sz,true,[],true⟩]:=by simp [Eff.blks]
 rw [e] at hm
 have hkl:k<st.blks.length:=(List.getElem?_eq_some_iff.1 hk).1
 have hk':(st.blks++[(⟨true,0,sz,true,[],true⟩:Blk)])[k]?=some b:=by rw [List.getElem?_append_left hkl]; exact hk
 have hgen:=hm.gen k b hk'
 have hbk:=hm.blk k b hk' hl
 have hc:=hm.change (b':={ b with flat:=false,cells:=b.cells.set j (.sl st.blks.length 0 0 0 sz) }) (w':=w) (s:=C'.β k) (g:=C'.γ k) hk' rfl rfl rfl (Nat.le_refl _) (fun _ _ _=>rfl)
  (fun blk o arr e _ h=>⟨arr,h,rfl⟩) (Nat.le_refl _) (fun _ _=>rfl) hl hgen.symm (fun blk o h=>.inl ⟨o,h⟩) (fun hle' hevo' _=>by
    obtain ⟨q1,q2⟩:=hbk
    refine ⟨fun i c hi=>?_,?_⟩
    · rw [List.getElem?_set] at hi
      split at hi
      · split at hi
        · cases hi; rfl
        · cases hi
      · exact q1 i c hi
    · rw [Ctx.put_same]
      cases hs:C'.β k with
      | absent=>simp [hs] at q2
      | unborn=>simp only [hs] at q2; rw [q2] at hj; simp at hj
      | loc blk o =>
       simp only [hs] at q2 ⊢
       obtain ⟨arr,te,r1,r2,r3⟩:=q2.cells hbz
       refine .inl ⟨hbz,arr,te,r1,by simpa using r2,fun i c hi=>?_⟩
       simp only [Bool.false_eq_true,if_false]
       rw [List.getElem?_set] at hi
       split at hi
       · rename_i eij
         subst eij
         split at hi
         · cases hi
           obtain ⟨v,s1,s2⟩:=r3 j .nilSl hj
           refine ⟨v,s1,?_⟩
           have:v=.slice none 0 0:=by
            cases hf:b.flat with
            | true=>rw [hf] at s2; simp only [if_true] at s2; cases s2; rfl
            | false=>rw [hf] at s2; simp only [Bool.false_eq_true,if_false] at s2; cases s2; rfl
           rw [this]
           exact hv'.mono ⟨fun _ h=>h,fun _ _=>rfl,fun _ _ _ arr _ _ h=>⟨arr,h,rfl⟩⟩
         · cases hi
       · obtain ⟨v,s1,s2⟩:=r3 i c hi
         refine ⟨v,s1,?_⟩
         cases hf:b.flat with
         | true=>rw [hf] at s2; simp only [if_true] at s2; exact s2.of0
         | false=>rw [hf] at s2; simpa using s2)
 rw [Ctx.put_same] at hc
 exact hg C' Z' a w ⟨hr.tmp.next hle hevo,hc.1,hr.marks.evo hevo,hr.gh.next hle hevo,hr.base.next hle hevo⟩
end
end Ax
namespace Ax
open Go
theorem bnT {e:Bool} (h:(!e)=true):e=false:=by cases e <;> simp_all
theorem bnF {e:Bool} (h:(!e)=false):e=true:=by cases e <;> simp_all
theorem bneT {a b:Int} (h:(a != b)=true):¬ (a=b):=by simpa using h
theorem bneF {a b:Int} (h:(a != b)=false):a=b:=by simpa using h
def cI (n:Int):List AV:=[.int .i64 n]
def cB (b:Bool):List AV:=[.bool b]
def rowI (l:List Int):List AV:=l.flatMap cI
def rowB (l:List Bool):List AV:=l.flatMap cB
def cLs {α:Type} (f:List α→List AV) (l:List α):List AV:=[.rsl (f l) 0 l.length]
def Xc {α:Type} (f:List α→List AV) (l:List (List α)):List AV:=l.flatMap (cLs f)
section
variable {α:Type} (f:α→List AV) {s:Nat}
theorem Qv (hf:∀ a,(f a).length=s):∀ l:List α,(l.flatMap f).length=l.length*s
 | []=>by simp
 | a :: l=>by rw [List.flatMap_cons,List.length_append,Qv hf l,hf,List.length_cons,Nat.add_mul]; omega
theorem QaG (hf:∀ a,(f a).length=s):∀ {l:List α} {i:Nat} {a:α} {k:Nat},l[i]?=some a→k≤s →
 (l.flatMap f).drop (0+i*s+k)=(f a).drop k++(l.drop (i+1)).flatMap f
 | [],i,a,k,h,_=>by simp at h
 | b :: l,0,a,k,h,hk=>by
  simp only [List.getElem?_cons_zero,Option.some.injEq] at h
  subst h
  rw [List.flatMap_cons,List.drop_append_of_le_length (by rw [hf]; omega)]
  simp
 | b :: l,i+1,a,k,h,hk=>by
  simp only [List.getElem?_cons_succ] at h
  rw [List.flatMap_cons,show 0+(i+1)*s+k=(f b).length+(0+i*s+k) by rw [hf b,Nat.add_mul]; omega,List.drop_length_add_append]
  exact QaG hf h hk
theorem row_part (hf:∀ a,(f a).length=s) {k m:Nat} (hk:k+m≤s) {l:List α} {i:Nat} {a:α} (h:l[i]?=some a) :
 ((l.flatMap f).drop (0+i*s+k)).take m=((f a).drop k).take m:=by
 rw [QaG f hf h (by omega),List.take_append_of_le_length (by rw [List.length_drop,hf]; omega)]
theorem row_fits (hf:∀ a,(f a).length=s) {k m:Nat} (hk:k+m≤s) {l:List α} {i:Nat} {a:α} (h:l[i]?=some a):0+i*s+k+m≤(l.flatMap f).length:=by
 rw [Qv f hf]
 have hi:=(List.getElem?_eq_some_iff.1 h).1
 have:(i+1)*s≤l.length*s:=Nat.mul_le_mul_right s hi
 rw [Nat.add_mul] at this; omega
theorem WW:∀ {xs A B:List AV} {o:Nat},o+xs.length≤A.length→Qx (A++B) o xs=Qx A o xs++B
 | [],A,B,o,_=>rfl
 | x :: xs,A,B,o,h=>by
  simp only [List.length_cons] at h
  simp only [Qx]
  rw [List.set_append_left (h:=by omega)]
  exact WW (by simp; omega)
theorem Ww:∀ {xs A B:List AV} {o:Nat},Qx (A++B) (A.length+o) xs=A++Qx B o xs
 | [],A,B,o=>rfl
 | x :: xs,A,B,o=>by
  simp only [Qx]
  rw [List.set_append_right (h:=by omega),show A.length+o - A.length=o by omega,show A.length+o+1=A.length+(o+1) by omega]
  exact Ww
theorem QD (hf:∀ a,(f a).length=s) {k:Nat} {xs:List AV}:∀ {l:List α} {i:Nat} {a a':α},l[i]?=some a→Qx (f a) k xs=f a'→k+xs.length≤s →
 Qx (l.flatMap f) (0+i*s+k) xs=(l.set i a').flatMap f
 | [],i,a,a',h,_,_=>by simp at h
 | b :: l,0,a,a',h,he,hk=>by
  simp only [List.getElem?_cons_zero,Option.some.injEq] at h
  subst h
  rw [List.flatMap_cons,List.set_cons_zero,List.flatMap_cons,← he,show 0+0*s+k=k by omega,WW (by rw [hf]; omega)]
 | b :: l,i+1,a,a',h,he,hk=>by
  simp only [List.getElem?_cons_succ] at h
  rw [List.flatMap_cons,List.set_cons_succ,List.flatMap_cons,show 0+(i+1)*s+k=(f b).length+(0+i*s+k) by rw [hf b,Nat.add_mul]; omega,Ww]
  rw [QD hf h he hk]
theorem Xw (a b:List α):(a++b).flatMap f=a.flatMap f++b.flatMap f:=by simp
end
theorem Qp {α:Type} {l:List α} {i:Nat} {a:α} (h:l[i]?=some a):(0:Int)≤(i:Int)∧(i:Int)<(l.length:Int):=by
 have:=(List.getElem?_eq_some_iff.1 h).1; omega
theorem QG {α:Type} {l:List α} {i:Int} {a:α} (h0:0≤i) (h:l[Int.toNat i]?=some a):0≤i∧i<(l.length:Int):=by
 have:=(List.getElem?_eq_some_iff.1 h).1; omega
section
variable {P:Program} {E:Env} {K K':List Item} {st st':St}
def denilC (st:St):List (Nat × Nat × Nat)→Option St
 | []=>some st
 | (k,j,sz) :: r=>match st.blks[k]? with
  | some b=>(match b.live && b.sz != 0,b.cells[j]? with
   | true,some .nilSl=>denilC ⟨st.tmps,(st.blks++[(⟨true,0,sz,true,[],true⟩:Blk)]).set k { b with flat:=false,cells:=b.cells.set j (.sl st.blks.length 0 0 0 sz) }⟩ r
   | _,_=>none)
  | none=>none
theorem yr:∀ {ds:List (Nat × Nat × Nat)} {st st':St},denilC st ds=some st'→G P E K st'→G P E K st
 | [],st,st',h,hg=>by simp only [denilC,Option.some.injEq] at h; subst h; exact hg
 | (k,j,sz) :: r,st,st',h,hg=>by
  simp only [denilC] at h
  split at h
  · rename_i b hb
    split at h
    · rename_i hl hj
      exact denilC_step hb (by simpa using (Bool.and_eq_true_iff.1 hl).1) (by simpa using (Bool.and_eq_true_iff.1 hl).2) hj (yr h hg)
    · cases h
  · cases h
def segC (P:Program) (ds:List (Nat × Nat)) (cs:List (Nat × Nat × Nat)) (live:List Nat) (m n:Nat) (K:List Item) (st:St) (evs:List EV):Option (List Item × St × List Prop) :=
 match walk P n K st evs with
 | some (K',st',_,o1)=>(match denil st' ds with
  | some st1=>(match denilC st1 cs with
   | some st1=>(match weak live m st1 with
    | some st2=>some (K',st2,o1)
    | none=>none)
   | none=>none)
  | none=>none)
 | none=>none
theorem Qg {n m:Nat} {ds:List (Nat × Nat)} {cs:List (Nat × Nat × Nat)} {live:List Nat} {evs:List EV} {obs:List Prop} {HK:Prop} (hk:HK) (hgh:refsBelows m E.gA=true) (hmx:P.follows .mixedOrders=true)
 (h:segC P ds cs live m n K st evs=some (K',st',obs)) (ho:AllP obs) (hg:G P E K' st'):G P E K st:=by
 unfold segC at h
 split at h
 · rename_i K1 st1 evs1 o1 h1
   split at h
   · rename_i st2 h2
     split at h
     · rename_i st3 h3
       split at h
       · rename_i st4 h4
         simp only [Option.some.injEq,Prod.mk.injEq] at h
         obtain ⟨rfl,rfl,rfl⟩:=h
         exact Xe hk hmx h1 ho (Qao h2 (yr h3 (Kb hgh h4 hg)))
       · cases h
     · cases h
   · cases h
 · cases h
end
theorem rp {α:Type} (f:α→List AV) (s k m:Nat) {l:List α} {i:Nat} {a:α} (h:l[i]?=some a) (hf:∀ a,(f a).length=s:=by exact fun _=>rfl) (hk:k+m≤s:=by decide):((l.flatMap f).drop (0+i*s+k)).take m=((f a).drop k).take m:=row_part f hf hk h
theorem rf {α:Type} (f:α→List AV) (s k m:Nat) {l:List α} {i:Nat} {a:α} (h:l[i]?=some a) (hf:∀ a,(f a).length=s:=by exact fun _=>rfl) (hk:k+m≤s:=by decide):0+i*s+k+m≤(l.flatMap f).length:=row_fits f hf hk h
theorem bft (b:Bool):b=true∨b=false:=Bool.eq_false_or_eq_true b
theorem odt {p:Prop} [Decidable p] (h:decide p=true):p:=of_decide_eq_true h
theorem odf {p:Prop} [Decidable p] (h:decide p=false):¬p:=of_decide_eq_false h
abbrev I6 (n:Int):Prop:= -9223372036854775808≤n∧n≤9223372036854775807
end Ax
namespace Ax
open Go
section
variable {σ X:Type} (step:σ→X→σ × Bool)
end
section
variable {P:Program} {E:Env} {K K':List Item} {st st':St}
end
end Ax
namespace Ax
open Go
def AvLe (a b:AV):Prop:=∀ (Z:Nat→Prop) (w:World) (c:Value),VR Z w C0 a c→VR Z w C0 b c
def AvLes:List AV→List AV→Prop
 | [],[]=>True
 | a :: as',b :: bs=>AvLe a b∧AvLes as' bs
 | _,_=>False
theorem AvLe.refl (a:AV):AvLe a a:=fun _ _ _ h=>h
theorem AvLe.of_eq {a b:AV} (h:a=b):AvLe a b:=h ▸ AvLe.refl a
theorem Xr {row:List AV} {off:Nat}:AvLe .nilSl (.rsl row off 0):=fun _ _ _ h=>by cases h; exact .rsl0
theorem AvLes.vrs {Z:Nat→Prop} {w:World}:∀ {as' bs:List AV} {vs:List Value},AvLes as' bs→VRs Z w C0 as' vs→VRs Z w C0 bs vs
 | [],[],vs,_,h=>h
 | a :: as',b :: bs,[],_,h=>by have:=h.1; simp at this
 | a :: as',b :: bs,v :: vs,hl,h=>by
  have h1:VR Z w C0 a v:=h.2 0 a v rfl rfl
  have h2:VRs Z w C0 as' vs:=⟨by have:=h.1; simpa using this,fun i c v p q=>h.2 (i+1) c v (by simpa using p) (by simpa using q)⟩
  have h3:=AvLes.vrs hl.2 h2
  refine ⟨by simp [h3.1],fun i c x p q=>?_⟩
  cases i with
  | zero=>simp at p q; subst p; subst q; exact hl.1 _ _ _ h1
  | succ i=>exact h3.2 i c x (by simpa using p) (by simpa using q)
 | [],b :: bs,_,hl,_=>hl.elim
 | a :: as',[],_,hl,_=>hl.elim
theorem Vk {xs ys:List AV} (h:AvLes xs ys):AvLe (.tup xs) (.tup ys):=fun Z w c hc=>by
 cases hc with
 | @tup _ _ arr hl h1 =>
  have:=h.vrs (vs:=arr.toList) ⟨by simpa using hl,fun i c v p q=>h1 i c v p (by simpa using q)⟩
  exact .tup (by simpa using this.1) fun i c v p q=>this.2 i c v p (by simpa using q)
section
variable {P:Program} {E:Env} {K K':List Item} {st st':St}
theorem Pure.le {f:FuncId} {args args':List AV} {res:AV} (h:Pure P f args res) (hl:AvLes args' args):Pure P f args' res :=
 fun Z w cargs hz ha=>h Z w cargs hz (hl.vrs ha)
theorem Qd.le {fv:AV} {args args':List AV} {res:AV} (h:Qd P fv args res) (hl:AvLes args' args):Qd P fv args' res :=
 fun Z w cf cargs hz hf ha=>h Z w cf cargs hz hf (hl.vrs ha)
theorem G.fin {F':Machine→Prop} (h:G P { E with Fin:=F' } K st) (hm:∀ m,F' m→E.Fin m):G P E K st:=fun C Z a w hr =>
 let ⟨m',hs,hf⟩:=h C Z a w hr
 ⟨m',hs,hm m' hf⟩
theorem qK.mono {f:FuncId} {cs:List Frame} {Q Q':Value→World→Prop} (hq:∀ v w,Q v w→Q' v w) {m:Machine} (h:qK P f cs Q m):qK P f cs Q' m:=by
 obtain ⟨v,w,fr,e,a,b,c⟩:=h
 exact ⟨v,w,fr,e,a,b,hq _ _ c⟩
theorem Qf {n:Nat} {f:FuncId} {fn:Func} {evs:List EV} {r res:AV} {obs:List Prop} (hE:Qn P f res E) (hf:P.funcs[f]?=some fn) (hmx:P.follows .mixedOrders=true)
 (h:endA P fn n K st evs=some (r,obs)) (ho:AllP obs) (hr:AvLe r res):G P E K st:=by
 obtain ⟨e1,e2,e3,e4,e5,e6,e7⟩:=hE
 refine G.fin (F':=qK P f E.cs fun v w'=>VR (Zx E.Z0 E.w0 w') w' C0 r v∧Fr E.w0 (fun _=>False) w') (end_step ⟨e1,e2,e3,e4,e5,rfl,e7⟩ hf hmx h ho rfl) fun m hm=>?_
 rw [e6]
 exact qK.mono (fun v w hq=>⟨hr _ _ _ hq.1,hq.2⟩) hm
end
end Ax
namespace Ax
open Go
theorem Wy {α:Type} (f:α→List AV) (n:Nat) (a:α):(List.replicate n (f a)).flatten=(List.replicate n a).flatMap f:=by
 induction n with
 | zero=>rfl
 | succ n ih=>rw [List.replicate_succ,List.flatten_cons,ih,List.replicate_succ,List.flatMap_cons]
theorem QL {α:Type} (f:α→List AV) {s:Nat} (hf:∀ a,(f a).length=s) (l:List α):((l.flatMap f).drop 0).take (l.length*s)=l.flatMap f:=by
 rw [List.drop_zero,List.take_of_length_le (by rw [Qv f hf]; exact Nat.le_refl _)]
theorem Qaf:∀ {a b:List AV},noRefs (a++b)=(noRefs a && noRefs b)
 | [],b=>by simp [noRefs]
 | x :: a,b=>by simp [noRefs,Qaf,Bool.and_assoc]
theorem QS {α:Type} (f:α→List AV) (hf:∀ a,noRefs (f a)=true):∀ l:List α,noRefs (l.flatMap f)=true
 | []=>rfl
 | a :: l=>by rw [List.flatMap_cons,Qaf,hf,QS f hf l]; rfl
end Ax
namespace Ax
open Go
section
variable {P:Program} {E:Env} {K K':List Item} {st st':St}
/-- What a call leaves: its result,and the blocks. -/
def Left (Z M:Nat→Prop) (w:World) (C:Ctx) (res:AV) (bs2:List Blk) (v:Value) (w':World):Prop :=
 ∃ C' Z',Base C w C' w'∧Mem Z M w C' Z' bs2 w'∧VR Z' w' C' res v
/-- A function that turns blocks 'bs' to 'bs2' (new ones behind them). -/
def Lent (P:Program) (f:FuncId) (args:List AV) (bs:List Blk) (res:AV) (bs2:List Blk):Prop :=
 ∀ (Z:Nat→Prop) (w:World) (C:Ctx) (cargs:Array Value),Mem Z (Own C) w C Z bs w→VRs Z w C args cargs.toList →
  Calls P f cargs w fun e w'=>∃ v,e=.returned v∧Left Z (Own C) w C res bs2 v w'
structure LentE (P:Program) (f:FuncId) (gA:List AV) (res:AV) (bs2:List Blk) (E:Env):Prop where
 ro:E.b.roundOf=none
 kind:E.b.kind=.normal
 fn:E.b.fn=f
 gA:E.gA=gA
 df:E.df=[]
 fin:E.Fin=qK P f E.cs (Left E.Z0 E.M E.w0 E.Cb res bs2)
theorem LentE.nogh {f:FuncId} {k g:Nat} {res:AV} {bs2:List Blk} (hE:LentE P f [.sl k g 0 0 1] res bs2 E) {m:Nat} (h:Nat.ble (k+1) m=true):refsBelows m E.gA=true:=by
 rw [hE.gA]
 have:=Nat.le_of_ble_eq_true h
 simp [refsBelows,XI]; omega
theorem QaL {f:FuncId} {fn:Func} {c:Code} {args:List AV} {bs bs2:List Blk} {res:AV} (b:Blk) (hf:P.funcs[f]?=some fn) (hb:fn.body=some c) (hl:bs.getLast?=some b) (hlv:b.live=true)
 (h:∀ E,LentE P f [.sl (bs.length - 1) b.gen 0 0 1] res bs2 E→G P E [.code c] ⟨args++unds (fn.ntmps - args.length),bs⟩) (hbz:b.sz ≠ 0:=by simp):Lent P f args bs res bs2:=by
 intro Z w C cargs hm ha cs
 have hn:bs ≠ []:=by rintro rfl; simp at hl
 have hlen:0<bs.length:=List.length_pos_iff.2 hn
 have hk:bs[bs.length - 1]?=some b:=by rw [List.getLast?_eq_getElem?] at hl; exact hl
 have hgh:VR Z w C (.sl (bs.length - 1) b.gen 0 0 1) (.slice none 0 0):=by
  have hg:=hm.gen _ _ hk
  refine .sl (by rw [hg]; exact Nat.le_refl _) rfl fun _=>?_
  obtain ⟨q1,q2⟩:=hm.blk _ _ hk hlv
  unfold SlOk
  cases hs:C.β (bs.length - 1) with
  | absent=>simp [hs] at q2
  | unborn=>exact ⟨rfl,none,rfl⟩
  | loc blk o =>
   simp only [hs] at q2
   obtain ⟨arr,e,r1,r2,r3⟩:=q2.cells hbz
   exact ⟨none,0,rfl,Nat.le_refl _,fun h=>absurd rfl h,arr,e,r1,by omega⟩
 have hlow:∀ n,refsBelows n [AV.sl (bs.length - 1) b.gen 0 0 1]=true→∀ k,n≤k→C.β k=.absent∧C.γ k=0:=fun n h1 k h2=>hm.dom k (by
  simp [refsBelows,XI] at h1; omega)
 let E:Env:=⟨Z,Own C,w,{ (default:Frame) with fn:=f,kind:=.normal },cs,qK P f cs (Left Z (Own C) w C res bs2),[.sl (bs.length - 1) b.gen 0 0 1],[.slice none 0 0],[],C,hlow⟩
 have hE:LentE P f [.sl (bs.length - 1) b.gen 0 0 1] res bs2 E:=⟨rfl,rfl,rfl,rfl,rfl,rfl⟩
 have henter:Frame.enter P f cargs .normal=({ (default:Frame) with fn:=f,kind:=.normal }:Frame).atR { tmps:=cargs++Array.replicate (fn.ntmps - cargs.size) undef,defers:=[] } [.code c]:=by
  simp only [Frame.enter,Frame.atR,hf,hb,Option.map_some,Option.getD_some,Option.bind_some]; rfl
 have hl2:args.length=cargs.size:=by simpa using ha.1
 obtain ⟨m',s,v,w',fr,rfl,r1,r2,r3⟩:=h _ hE C Z { tmps:=cargs++Array.replicate (fn.ntmps - cargs.size) undef,defers:=[] } w
  ⟨⟨by simp [Vj,hl2],fun i x y p q=>by
   simp only [Array.toList_append,Array.toList_replicate] at q
   rw [Vj] at p
   by_cases hi:i<args.length
   · rw [List.getElem?_append_left hi] at p
     rw [List.getElem?_append_left (by simpa [← hl2] using hi)] at q
     exact ha.2 i x y p q
   · rw [List.getElem?_append_right (by omega)] at p
     rw [List.getElem?_append_right (by simp; omega)] at q
     have p':=List.mem_replicate.1 (List.mem_of_getElem? p)
     have q':=List.mem_replicate.1 (List.mem_of_getElem? q)
     rw [p'.2,q'.2]
     exact .tup rfl (by simp)⟩,hm,⟨[],.nil,.nil,by simp⟩,⟨rfl,fun i x y p q=>by
   cases i with
   | zero=>simp [E] at p q; rw [← p,← q]; exact hgh
   | succ i=>simp [E] at p⟩,.refl⟩
 rw [henter]
 exact ⟨.returned v,w',fr,⟨v,rfl,r3⟩,s,r1,r2⟩
theorem LentE.nogh0 {f:FuncId} {res:AV} {bs2:List Blk} (hE:LentE P f [] res bs2 E) (m:Nat):refsBelows m E.gA=true:=by rw [hE.gA]; rfl
/-- The same for a function that is handed no block,and gives back new ones. -/
theorem lent_of0 {f:FuncId} {fn:Func} {c:Code} {args:List AV} {bs2:List Blk} {res:AV} (hf:P.funcs[f]?=some fn) (hb:fn.body=some c)
 (h:∀ E,LentE P f [] res bs2 E→G P E [.code c] ⟨args++unds (fn.ntmps - args.length),[]⟩):Lent P f args [] res bs2:=by
 intro Z w C cargs hm ha cs
 have hlow:∀ n,refsBelows n ([]:List AV)=true→∀ k,n≤k→C.β k=.absent∧C.γ k=0:=fun n _ k _=>hm.dom k (by simp)
 let E:Env:=⟨Z,Own C,w,{ (default:Frame) with fn:=f,kind:=.normal },cs,qK P f cs (Left Z (Own C) w C res bs2),[],[],[],C,hlow⟩
 have hE:LentE P f [] res bs2 E:=⟨rfl,rfl,rfl,rfl,rfl,rfl⟩
 have henter:Frame.enter P f cargs .normal=({ (default:Frame) with fn:=f,kind:=.normal }:Frame).atR { tmps:=cargs++Array.replicate (fn.ntmps - cargs.size) undef,defers:=[] } [.code c]:=by
  simp only [Frame.enter,Frame.atR,hf,hb,Option.map_some,Option.getD_some,Option.bind_some]; rfl
 have hl2:args.length=cargs.size:=by simpa using ha.1
 obtain ⟨m',s,v,w',fr,rfl,r1,r2,r3⟩:=h _ hE C Z { tmps:=cargs++Array.replicate (fn.ntmps - cargs.size) undef,defers:=[] } w
  ⟨⟨by simp [Vj,hl2],fun i x y p q=>by
   simp only [Array.toList_append,Array.toList_replicate] at q
   rw [Vj] at p
   by_cases hi:i<args.length
   · rw [List.getElem?_append_left hi] at p
     rw [List.getElem?_append_left (by simpa [← hl2] using hi)] at q
     exact ha.2 i x y p q
   · rw [List.getElem?_append_right (by omega)] at p
     rw [List.getElem?_append_right (by simp; omega)] at q
     have p':=List.mem_replicate.1 (List.mem_of_getElem? p)
     have q':=List.mem_replicate.1 (List.mem_of_getElem? q)
     rw [p'.2,q'.2]
     exact .tup rfl (by simp)⟩,hm,⟨[],.nil,.nil,by simp⟩,⟨rfl,fun i x y p q=>by simp [E] at p⟩,.refl⟩
 rw [henter]
 exact ⟨.returned v,w',fr,⟨v,rfl,r3⟩,s,r1,r2⟩
/-- Called by its value. -/
theorem Yj {f : FuncId} {fn : Func} {c : Code} {first args cap : List AV} {bs bs2 : List Blk} {res : AV} (hf : P.funcs[f]? = some fn) (hname : (fn.name == "runtime.NumGoroutine") = false) (hb : fn.body = some c)
    (h : Lent P f (first ++ args ++ cap) bs res bs2) : VQ P (.clos f first cap) args bs res bs2 := by
  intro Z w C cf cargs hm hcf ha
  cases hcf with
  | @clos _ _ _ _ fa ca hl h1 hl' h2 =>
    refine ⟨{ target := .fn (.func f) ca, args := fa ++ cargs }, f, fa ++ cargs ++ ca, rfl, ?_, ?_⟩
    · have := Go.Proofs.enters_of (P := P) hf hname hb (fa ++ cargs ++ ca) w
      simpa [invoke] using this
    · refine (h Z w C _ hm ⟨by have := ha.1; simp at this; simp [hl, hl', this], fun i x y p q => ?_⟩).mono ?_
      · have hal : args.length = cargs.size := by simpa using ha.1
        simp only [Array.toList_append] at q
        rw [List.append_assoc] at p q
        by_cases i1 : i < first.length
        · rw [List.getElem?_append_left i1] at p
          rw [List.getElem?_append_left (by simpa [← hl] using i1)] at q
          exact h1 i x y p (by simpa using q)
        · rw [List.getElem?_append_right (by omega)] at p
          rw [List.getElem?_append_right (by simp; omega)] at q
          have e1 : fa.toList.length = first.length := by simp [hl]
          rw [e1] at q
          by_cases i2 : i - first.length < args.length
          · rw [List.getElem?_append_left i2] at p
            rw [List.getElem?_append_left (by simpa [← hal] using i2)] at q
            exact ha.2 _ x y p q
          · rw [List.getElem?_append_right (by omega)] at p
            rw [List.getElem?_append_right (by simp; omega)] at q
            have e2 : cargs.toList.length = args.length := by simp [hal]
            rw [e2] at q
            exact h2 _ x y p (by simpa using q)
      · rintro e w' ⟨v, rfl, C', Z', q1, q2, q3⟩
        exact ⟨v, C', Z', rfl, q1, q2, q3⟩

/-- A block that is handed over for good: it lies frozen from here on. -/
def kill (b:Blk):Blk:=⟨false,b.gen+1,b.sz,true,[],false⟩
/-- A call of what only reads: what it is handed is handed over for good. -/
theorem Yi {fv fv':AV} {args args':List AV} {bs:List Blk} {res:AV} {o1 o2:List Prop} (hf:(frz 8 fv).run (bs[·]?)=some (fv',o1)) (h1:AllP o1)
 (ha:(frzL (frz 8) args).run (bs[·]?)=some (args',o2)) (h2:AllP o2) (hp:Qd P fv' args' res):VQ P fv args bs res (bs.map kill):=by
 intro Z w C cf cargs hm hcf hca
 obtain ⟨d,f,as',r1,r2,r3⟩:=hp (ZL C Z) w cf cargs (fun b hz=>by
  rcases hz with hz | ⟨k,o,hb⟩
  · exact hm.zlt b hz
  · exact (hm.own k b o hb).1) (YO hm hf h1 hcf) (WL hm ha h2 hca)
 refine ⟨d,f,as',r1,r2,r3.mono ?_⟩
 rintro e w' ⟨v,rfl,hv,hfr⟩
 have hs:=hfr.size
 have lt_of:∀ k,C.β k ≠ .absent→k<bs.length:=fun k h=>by
  rcases Nat.lt_or_ge k bs.length with h' | h'
  · exact h'
  · exact absurd (hm.dom k h').1 h
 refine ⟨v,⟨fun _=>.absent,fun k=>if k<bs.length then C.γ k+1 else 0⟩,Zx (ZL C Z) w w',rfl,⟨⟨fun k=>?_,fun k hb hg=>?_⟩,fun k blk o arr e hb hg=>?_⟩,
  ⟨fun k b hb hl=>?_,fun k b hb=>?_,fun k b hb hd=>rfl,fun k hk=>?_,fun k k' b o o' h=>?_,fun k b o h=>?_,fun b hz=>?_,fun b hz=>.inl (.inl hz),fun b hz=>?_,?_⟩,hv.of0⟩
 · simp only
   split
   · omega
   · rw [(hm.dom k (by omega)).2]; exact Nat.le_refl _
 · simp only at hg
   rw [if_pos (lt_of k hb)] at hg; omega
 · simp only at hg
   rw [if_pos (lt_of k (by rw [hb]; simp))] at hg; omega
 · rw [List.getElem?_map,Option.map_eq_some_iff] at hb
   obtain ⟨b0,-,rfl⟩:=hb
   simp [kill] at hl
 · rw [List.getElem?_map,Option.map_eq_some_iff] at hb
   obtain ⟨b0,hb,rfl⟩:=hb
   have:=(List.getElem?_eq_some_iff.1 hb).1
   simp only [if_pos this,kill]
   rw [hm.gen k b0 hb]
 · simp only [List.length_map] at hk
   simp only [if_neg (show ¬ k<bs.length by omega),and_self]
 · cases h
 · cases h
 · rcases hz with (hz | ⟨k,o,hb⟩) | hz
   · have:=hm.zlt b hz; omega
   · have:=(hm.own k b o hb).1; omega
   · exact hz.2
 · rcases hz with (hz | hz) | hz
   · exact .inl hz
   · exact .inr (.inl hz)
   · exact .inr (.inr hz.1)
 · exact hfr.weaken fun _ h=>h.elim
/-- To the end of a function that turns what it was handed: the first 'm' blocks are left. -/
def endB (P:Program) (fn:Func) (live:List Nat) (m n:Nat) (K:List Item) (st:St) (evs:List EV):Option (AV × List Blk × List Prop) :=
 match walk P n K st evs with
 | some (K',st1,evs1,o1) =>
  (match isEnd K',weak live m st1 with
  | true,some st2 =>
   (match resA P st2 fn.results.toList evs1 with
   | some (vs,_,o2)=>some (tupA vs,st2.blks,o1++o2)
   | none=>none)
  | _,_=>none)
 | none=>none
theorem XK {n m:Nat} {live:List Nat} {f:FuncId} {fn:Func} {evs:List EV} {r res:AV} {gA:List AV} {bs2 bs3:List Blk} {obs:List Prop} (hE:LentE P f gA res bs2 E) (hgh:refsBelows m E.gA=true) (hf:P.funcs[f]?=some fn) (hmx:P.follows .mixedOrders=true)
 (h:endB P fn live m n K st evs=some (r,bs3,obs)) (ho:AllP obs) (hr:r=res) (hb:bs3=bs2):G P E K st:=by
 subst hr
 subst hb
 unfold endB at h
 split at h
 · rename_i K' st1 evs1 o1 h1
   split at h
   · rename_i st2 hK h2
     split at h
     · rename_i vs evs2 o2 h3
       simp only [Option.some.injEq,Prod.mk.injEq] at h
       obtain ⟨rfl,rfl,rfl⟩:=h
       obtain ⟨a1,a2⟩:=QE.1 ho
       have hfn:=hE.fn
       refine Xe hE.kind hmx h1 a1 (Kb hgh h2 (G_end (Post:=Left E.Z0 E.M E.w0 E.Cb (tupA vs) st2.blks) hE.ro hE.kind hE.df (by rw [hfn]; exact hf) (by rw [hE.fin,hfn]) h3 a2 (fun C Z w v hm hv hbs=>⟨C,Z,hbs,hm,hv⟩) (VV hK)))
     · cases h
   · cases h
 · cases h
end
end Ax
namespace Ax
open Go
section
variable {P:Program} {E:Env} {K K':List Item} {st st':St}
/-! ### The frame of a deferred closure -/
def EndedK (P:Program) (f:FuncId) (cs:List Frame) (Post:Value→World→Prop) (m:Machine):Prop :=
 ∃ v w' fr,m=lone fr cs w'∧fr.kind=.deferred∧fr.going P w' (.returned v)∧Post v w'
structure LentKE (P:Program) (f:FuncId) (gA:List AV) (res:AV) (bs2:List Blk) (E:Env):Prop where
 ro:E.b.roundOf=none
 kind:E.b.kind=.deferred
 fn:E.b.fn=f
 gA:E.gA=gA
 df:E.df=[]
 fin:E.Fin=EndedK P f E.cs (Left E.Z0 E.M E.w0 E.Cb res bs2)
/-- Marks are taken off,whatever lies behind them. -/
theorem ya {cs:List Frame} {M Z:Nat→Prop} {w0:World} {tl:List Deferred}:∀ (Ds:List Nat) (fr:Frame) (w:World),fr.mode=.returning→fr.defers=Ds.map mark++tl→Ds.Nodup →
 (∀ D ∈ Ds,Z D∧(M D ∨ w0.heap.size≤D)∧w.heap[D]?=some (.deferred (some []))) →
 ∃ w',Steps P (lone fr cs w) (lone { fr with defers:=tl } cs w')∧EvoC w w'∧(Fr w0 M w→Fr w0 M w')∧∀ b,b ∉ Ds→w'.heap[b]?=w.heap[b]?
 | [],fr,w,hm,hd,hn,h=>by
  refine ⟨w,?_,⟨fun _ _ _ h=>h,rfl⟩,fun h=>h,fun _ _=>rfl⟩
  have:fr={ fr with defers:=tl }:=by cases fr; simp at hd; simp [hd]
  rw [← this]; exact .refl _ _
 | D :: Ds,fr,w,hm,hd,hn,h=>by
  obtain ⟨h1,h2,h3⟩:=h D (by simp)
  have s1:=step_collected (P:=P) (cs:=cs) (fr:=fr) (by rw [hm]; simp) (d:=mark D) (ds:=Ds.map mark++tl) (by simpa using hd) rfl (run_takeDeferred h3)
  obtain ⟨w',s2,e2,f2,g2⟩:=ya (M:=M) Ds { fr with defers:=[]++(Ds.map mark++tl) } (w.putObj D (.deferred none)) hm rfl (List.nodup_cons.1 hn).2 fun D' hD'=>by
   obtain ⟨a,b,c⟩:=h D' (by simp [hD'])
   refine ⟨a,b,?_⟩
   have:D ≠ D':=fun e=>(List.nodup_cons.1 hn).1 (e ▸ hD')
   simp [World.putObj,this,c]
  refine ⟨w',.trans (.one s1) s2,⟨fun b ob hnd hb=>e2.objs b ob hnd ?_,by rw [e2.size]; simp [World.putObj]⟩,fun hf=>f2 ?_,fun b hb=>?_⟩
  · have:D ≠ b:=by rintro rfl; rw [h3] at hb; cases hb; exact hnd _ rfl
    simp [World.putObj,this,hb]
  · refine ⟨hf.os,hf.tape,hf.output,by simpa [World.putObj] using hf.size,fun b hb hM=>?_⟩
    have:D ≠ b:=by rintro rfl; rcases h2 with h2 | h2; exact hM h2; omega
    simp [World.putObj,this]; exact hf.same b hb hM
  · rw [g2 b (fun h=>hb (by simp [h]))]
    have:D ≠ b:=by rintro rfl; exact hb (by simp)
    simp [World.putObj,this]
theorem endK_step {n m:Nat} {live:List Nat} {f:FuncId} {fn:Func} {evs:List EV} {r res:AV} {gA:List AV} {bs2 bs3:List Blk} {obs:List Prop} (hE:LentKE P f gA res bs2 E) (hgh:refsBelows m E.gA=true) (hf:P.funcs[f]?=some fn) (hmx:P.follows .mixedOrders=true)
 (h:endB P fn live m n K st evs=some (r,bs3,obs)) (ho:AllP obs) (hr:r=res) (hb:bs3=bs2):G P E K st:=by
 subst hr
 subst hb
 unfold endB at h
 split at h
 · rename_i K' st1 evs1 o1 h1
   split at h
   · rename_i st2 hK h2
     split at h
     · rename_i vs evs2 o2 h3
       simp only [Option.some.injEq,Prod.mk.injEq] at h
       obtain ⟨rfl,rfl,rfl⟩:=h
       obtain ⟨a1,a2⟩:=QE.1 ho
       refine Xe hE.kind hmx h1 a1 (Kb hgh h2 ?_)
       intro C Z a w hrel
       have hs:step P (lone (E.b.atR a K') E.cs w)=.next (lone { E.b.atR a K' with mode:=.returning } E.cs w):=by
        rcases VV hK with rfl | ⟨k,rfl⟩
        · exact stepR_end hE.ro
        · exact stepR_ret hE.ro
       obtain ⟨Ds,d1,d2,d3⟩:=hrel.marks
       obtain ⟨w',s2,e2,f2⟩:=qp (P:=P) (cs:=E.cs) (M:=E.M) (w0:=E.w0) Ds { E.b.atR a K' with mode:=.returning } w rfl (d2.eq hE.df) d1 d3
       have hm':=hrel.mem.evoC e2 (f2 hrel.mem.frame)
       have ht':VRs Z w' C st2.tmps a.tmps.toList:=⟨hrel.tmp.1,fun i c v p q=>(hrel.tmp.2 i c v p q).evoC e2⟩
       obtain ⟨cs,r1,r2⟩:=VU hm' ht' h3 a2
       refine ⟨_,.trans (.one hs) s2,?_⟩
       rw [hE.fin]
       exact ⟨_,w',_,rfl,hE.kind,⟨rfl,rfl,fn,by rw [← hE.fn] at hf; exact hf,qe r1⟩,C,Z,hrel.base.evoC e2,hm',qN r2⟩
     · cases h
   · cases h
 · cases h
theorem LentKE.nogh {f:FuncId} {k g:Nat} {res:AV} {bs2:List Blk} (hE:LentKE P f [.sl k g 0 0 1] res bs2 E) {m:Nat} (h:Nat.ble (k+1) m=true):refsBelows m E.gA=true:=by
 rw [hE.gA]
 have:=Nat.le_of_ble_eq_true h
 simp [refsBelows,XI]; omega
/-- A closure that turns blocks,called by deferral while its frame returns. -/
def WE (P:Program) (fv:AV) (bs:List Blk) (res:AV) (bs2:List Blk):Prop :=
 ∀ (Z:Nat→Prop) (w:World) (C:Ctx) (cf:Value),Mem Z (Own C) w C Z bs w→VR Z w C fv cf→∀ d,(Deferred.ofValue cf #[]).run P w=.ok d w →
  ∃ fn' cap f args',d.target=.fn fn' cap∧(invoke d.target d.args).run P w=.ok (.enter f args') w ∧
   CallsD P f args' .returning w fun e u' w'=>u'=.returning∧∃ v C' Z',e=.returned v∧Base C w C' w'∧Mem Z (Own C) w C' Z' bs2 w'∧VR Z' w' C' res v
theorem lentDF_of {f : FuncId} {fn : Func} {c : Code} {first cap : List AV} {bs bs2 : List Blk} {res : AV} (b : Blk) (hf : P.funcs[f]? = some fn) (hname : (fn.name == "runtime.NumGoroutine") = false) (hb : fn.body = some c) (hl : bs.getLast? = some b) (hlv : b.live = true)
    (h : ∀ E, LentKE P f [.sl (bs.length - 1) b.gen 0 0 1] res bs2 E → G P E [.code c] ⟨(first ++ cap) ++ unds (fn.ntmps - (first ++ cap).length), bs⟩) (hbz : b.sz ≠ 0 := by simp) : WE P (.clos f first cap) bs res bs2 := by
  intro Z w C cf hm hcf d hd
  cases hcf with
  | @clos _ _ _ _ fa ca hfl h1 hfl' h2 =>
    simp only [Deferred.ofValue, Array.append_empty, Sem.run_pure, Result.ok.injEq] at hd
    obtain ⟨rfl, -⟩ := hd
    refine ⟨.func f, ca, f, fa ++ ca, rfl, ?_, ?_⟩
    · have := Go.Proofs.enters_of (P := P) hf hname hb (fa ++ ca) w
      simpa [invoke] using this
    · intro c0 cs hu
      have ha : VRs Z w C (first ++ cap) (fa ++ ca).toList := by
        refine ⟨by simp [hfl, hfl'], fun i x y p q => ?_⟩
        simp only [Array.toList_append] at q
        by_cases i1 : i < first.length
        · rw [List.getElem?_append_left i1] at p
          rw [List.getElem?_append_left (by simpa [← hfl] using i1)] at q
          exact h1 i x y p (by simpa using q)
        · rw [List.getElem?_append_right (by omega)] at p
          rw [List.getElem?_append_right (by simp; omega)] at q
          have e1 : fa.toList.length = first.length := by simp [hfl]
          rw [e1] at q
          exact h2 _ x y p (by simpa using q)
      have hn : bs ≠ [] := by rintro rfl; simp at hl
      have hlen : 0 < bs.length := List.length_pos_iff.2 hn
      have hk : bs[bs.length - 1]? = some b := by rw [List.getLast?_eq_getElem?] at hl; exact hl
      have hgh : VR Z w C (.sl (bs.length - 1) b.gen 0 0 1) (.slice none 0 0) := by
        have hg := hm.gen _ _ hk
        refine .sl (by rw [hg]; exact Nat.le_refl _) rfl fun _ => ?_
        obtain ⟨q1, q2⟩ := hm.blk _ _ hk hlv
        unfold SlOk
        cases hs : C.β (bs.length - 1) with
        | absent => simp [hs] at q2
        | unborn => exact ⟨rfl, none, rfl⟩
        | loc blk o =>
          simp only [hs] at q2
          obtain ⟨arr, e, r1, r2, r3⟩ := q2.cells hbz
          exact ⟨none, 0, rfl, Nat.le_refl _, fun h => absurd rfl h, arr, e, r1, by omega⟩
      have hlow : ∀ n, refsBelows n [AV.sl (bs.length - 1) b.gen 0 0 1] = true → ∀ k, n ≤ k → C.β k = .absent ∧ C.γ k = 0 := fun n h1 k h2 => hm.dom k (by
        simp [refsBelows, XI] at h1; omega)
      let E : Env := ⟨Z, Own C, w, { (default : Frame) with fn := f, kind := .deferred }, c0 :: cs, EndedK P f (c0 :: cs) (Left Z (Own C) w C res bs2), [.sl (bs.length - 1) b.gen 0 0 1], [.slice none 0 0], [], C, hlow⟩
      have hE : LentKE P f [.sl (bs.length - 1) b.gen 0 0 1] res bs2 E := ⟨rfl, rfl, rfl, rfl, rfl, rfl⟩
      have henter : Frame.enter P f (fa ++ ca) .deferred = ({ (default : Frame) with fn := f, kind := .deferred } : Frame).atR { tmps := (fa ++ ca) ++ Array.replicate (fn.ntmps - (fa ++ ca).size) undef, defers := [] } [.code c] := by
        simp only [Frame.enter, Frame.atR, hf, hb, Option.map_some, Option.getD_some, Option.bind_some]; rfl
      have hl2 : (first ++ cap).length = (fa ++ ca).size := by simpa using ha.1
      obtain ⟨m', s, v, w', fr, rfl, r1, r2, r3⟩ := h _ hE C Z { tmps := (fa ++ ca) ++ Array.replicate (fn.ntmps - (fa ++ ca).size) undef, defers := [] } w
        ⟨⟨by rw [Vj, List.length_append, hl2]; simp; omega, fun i x y p q => by
            simp only [Array.toList_append (xs := fa ++ ca), Array.toList_replicate] at q
            rw [Vj] at p
            by_cases hi : i < (first ++ cap).length
            · rw [List.getElem?_append_left hi] at p
              rw [List.getElem?_append_left (by rw [Array.length_toList, ← hl2]; exact hi)] at q
              exact ha.2 i x y p q
            · rw [List.getElem?_append_right (by omega)] at p
              rw [List.getElem?_append_right (by rw [Array.length_toList, ← hl2]; omega)] at q
              have p' := List.mem_replicate.1 (List.mem_of_getElem? p)
              have q' := List.mem_replicate.1 (List.mem_of_getElem? q)
              rw [p'.2, q'.2]
              exact .tup rfl (by simp)⟩, hm, ⟨[], .nil, .nil, by simp⟩, ⟨rfl, fun i x y p q => by
            cases i with
            | zero => simp [E] at p q; rw [← p, ← q]; exact hgh
            | succ i => simp [E] at p⟩, .refl⟩
      obtain ⟨C', Z', q1, q2, q3⟩ := r3
      refine ⟨.returned v, .returning, w', fr, ⟨rfl, v, C', Z', rfl, q1, q2, q3⟩, ?_, r1, r2⟩
      have e0 : ({ c0 with mode := .returning } : Frame) = c0 := by rw [← hu]
      rw [henter, e0]
      exact s

/-! ### The frame that has deferred -/
structure LentDE (P:Program) (f:FuncId) (g0:List AV) (clo:AV) (res:AV) (bs2:List Blk) (E:Env):Prop where
 ro:E.b.roundOf=none
 kind:E.b.kind=.normal
 fn:E.b.fn=f
 gA:E.gA=g0++[clo]
 df:∃ cf d,E.gV.getLast?=some cf∧(∀ w,(Deferred.ofValue cf #[]).run P w=.ok d w)∧E.df=[d]
 fin:E.Fin=qK P f E.cs (Left E.Z0 E.M E.w0 E.Cb res bs2)
 low:∀ n,refsBelows n g0=true→∀ k,n≤k→E.Cb.β k=.absent∧E.Cb.γ k=0
theorem WX {n:Nat}:∀ {a b:List AV},refsBelows n (a++b)=true→refsBelows n a=true
 | [],b,_=>rfl
 | x :: a,b,h=>by
  simp only [List.cons_append,refsBelows,Bool.and_eq_true] at h ⊢
  exact ⟨h.1,WX h.2⟩
theorem defer_step {ops:Array Oper} {i:Nat} {o:Oper} {rest:List Nat} {k:List Item} {fop:Operand} {f fi:FuncId} {gA first cap:List AV} {res:AV} {bs2:List Blk} (hE:LentE P f gA res bs2 E)
 (ho:ops[i]?=some o) (hop:o.op=.defer ⟨.value fop,#[],#[]⟩) (hd:o.dst=none) (hg0:o.guard=none) (hfv:Wj st.tmps fop=.clos fi first cap)
 (h:∀ E',LentDE P f gA (.clos fi first cap) res bs2 E'→G P E' (.inRegion ops rest :: k) st):G P E (.inRegion ops (i :: rest) :: k) st:=by
 intro C Z a w hr
 have hwc:Region.wanted o (yielded ops a.tmps)=true:=by simp [Region.wanted,hg0]
 have hgo:=stepGR_op (P:=P) (b:=E.b) (a:=a) (k:=k) (cs:=E.cs) (w:=w) (rest:=rest) ho hwc
 rw [hE.ro,Oper.semAt_none] at hgo
 have hcf:=Yu hr.tmp fop
 rw [hfv] at hcf
 generalize hcv:a.eval fop=cf at hcf
 obtain ⟨d,hd1⟩:∃ d,∀ w,(Deferred.ofValue cf #[]).run P w=.ok d w:=by
  cases hcf with
  | clos=>exact ⟨_,fun w=>rfl⟩
 have hexec:(execOp a.eval o).run P w=.ok (.defer d) w:=by
  obtain ⟨dst,op,ty,pos,after,guard⟩:=o
  simp only at hop
  subst hop
  have e:=hd1 w
  simp only [execOp,resolve,hcv,List.map_toArray,List.map_nil,Array.map_empty,Sem.run_bind,e,Result.andThen_ok,Sem.run_pure]
 have hst:step P (lone (E.b.atR a (.inRegion ops (i :: rest) :: k)) E.cs w)=.next (lone (E.b.atR { a with defers:=d :: a.defers } (.inRegion ops rest :: k)) E.cs w):=by
  refine step_lone_go ?_
  rw [hgo]
  simp only [stepG.apply,hexec,Sem.runT_eq]
  simp [Frame.atR,Frame.finish,ho,hd]
 have hlow:∀ n,refsBelows n (E.gA++[AV.clos fi first cap])=true→∀ k,n≤k→E.Cb.β k=.absent∧E.Cb.γ k=0:=fun n h1=>E.low n (WX h1)
 let E':Env:=⟨E.Z0,E.M,E.w0,E.b,E.cs,E.Fin,E.gA++[.clos fi first cap],E.gV++[cf],d :: E.df,E.Cb,hlow⟩
 have hE':LentDE P f gA (.clos fi first cap) res bs2 E':=⟨hE.ro,hE.kind,hE.fn,by show E.gA++_=_; rw [hE.gA],⟨cf,d,by simp [E'],hd1,by show d :: E.df=[d]; rw [hE.df]⟩,hE.fin,fun n h1=>E.low n (by rw [hE.gA]; exact h1)⟩
 obtain ⟨Ds,m1,m2,m3⟩:=hr.marks
 refine .step (.one hst) (h E' hE' C Z { a with defers:=d :: a.defers } w ⟨hr.tmp,hr.mem,⟨Ds,m1,.df d m2,m3⟩,?_,hr.base⟩)
 obtain ⟨g1,g2⟩:=hr.gh
 refine ⟨by simp [E',g1],fun j x y p q=>?_⟩
 simp only [E'] at p q
 by_cases hj:j<E.gA.length
 · rw [List.getElem?_append_left hj] at p
   rw [List.getElem?_append_left (by omega)] at q
   exact g2 j x y p q
 · rw [List.getElem?_append_right (by omega)] at p
   rw [List.getElem?_append_right (by omega)] at q
   rw [g1] at p
   cases hz:j - E.gV.length with
   | zero=>rw [hz] at p q; simp at p q; rw [← p,← q]; exact hcf
   | succ z=>rw [hz] at p; simp at p
/-- A deferral of a closure without arguments. -/
def deferA (K:List Item) (st:St):Option (List Item × AV) :=
 match K with
 | .inRegion ops (i :: rest) :: k =>
  (match ops[i]? with
  | some { dst:=none,op:=.defer { callee:=.value fop,args:=⟨[]⟩,argTypes:=⟨[]⟩ },type:=_,pos:=_,after:=_,guard:=none }=>some (.inRegion ops rest :: k,Wj st.tmps fop)
  | _=>none)
 | _=>none
theorem defer_at {f fi:FuncId} {gA first cap:List AV} {res:AV} {bs2:List Blk} (hE:LentE P f gA res bs2 E) (h:deferA K st=some (K',.clos fi first cap))
 (hg:∀ E',LentDE P f gA (.clos fi first cap) res bs2 E'→G P E' K' st):G P E K st:=by
 unfold deferA at h
 split at h
 · split at h
   · rename_i hoi
     simp only [Option.some.injEq,Prod.mk.injEq] at h
     obtain ⟨rfl,h2⟩:=h
     exact defer_step hE hoi rfl rfl rfl h2 hg
   · cases h
 · cases h
theorem Mix.split1 {df:List Deferred} {Ds:List Nat} {ds:List Deferred} (h:Mix df Ds ds):∀ {d:Deferred},df=[d]→∃ D1 D2,Ds=D1++D2∧ds=D1.map mark++d :: D2.map mark:=by
 induction h with
 | nil=>intro d e; cases e
 | mk D _ ih=>intro d e; obtain ⟨D1,D2,rfl,rfl⟩:=ih e; exact ⟨D :: D1,D2,rfl,rfl⟩
 | df d' h _=>intro d e; cases e; exact ⟨[],_,rfl,by rw [h.eq rfl]; rfl⟩
theorem LentDE.nogh {f:FuncId} {k g fi k2 g2 o2:Nat} {res:AV} {bs2:List Blk} (hE:LentDE P f [.sl k g 0 0 1] (.clos fi [] [.ptr k2 g2 o2]) res bs2 E) {m:Nat} (h:(Nat.ble (k+1) m && Nat.ble (k2+1) m)=true):refsBelows m E.gA=true:=by
 rw [hE.gA]
 rw [Bool.and_eq_true] at h
 have h1:=Nat.le_of_ble_eq_true h.1
 have h2:=Nat.le_of_ble_eq_true h.2
 simp [refsBelows,XI]; omega
/-- To the end,through the deferred call. -/
def endD (P:Program) (fn:Func) (clo:AV) (ρ:List Nat) (bsD:List Blk) (live:List Nat) (m n:Nat) (K:List Item) (st:St) (evs:List EV):Option (AV × List Blk × List Prop) :=
 match walk P n K st evs with
 | some (K',st1,evs1,o1) =>
  (match isEnd K',Vq ρ && Nat.ble ρ.length bsD.length && Vb (fun j=>ρ.contains j) clo,lend (fun j=>ρ.idxOf j) (fun j=>ρ.contains j) st1.blks ρ with
  | true,true,some bs =>
   (match weak live m ⟨st1.tmps,XJ st1.blks ρ (bsD.map (renB (outN st1.blks.length ρ)))++(bsD.drop ρ.length).map (renB (outN st1.blks.length ρ))⟩ with
   | some st2 =>
    (match resA P st2 fn.results.toList evs1 with
    | some (vs,_,o3)=>some (tupA vs,st2.blks,o1++(WE P (ren (fun j=>ρ.idxOf j) clo) bs (.tup []) bsD :: o3))
    | none=>none)
   | none=>none)
  | _,_,_=>none)
 | none=>none
theorem YR {n m:Nat} {live:List Nat} {f:FuncId} {fn:Func} {evs:List EV} {r res clo:AV} {gA:List AV} {ρ:List Nat} {bs2 bs3 bsD:List Blk} {obs:List Prop} (hE:LentDE P f gA clo res bs2 E) (hgh:refsBelows m gA=true) (hf:P.funcs[f]?=some fn) (hmx:P.follows .mixedOrders=true)
 (h:endD P fn clo ρ bsD live m n K st evs=some (r,bs3,obs)) (ho:AllP obs) (hr:r=res) (hb:bs3=bs2):G P E K st:=by
 subst hr
 subst hb
 unfold endD at h
 split at h
 · rename_i K' st1 evs1 o1 h1
   split at h
   · rename_i bs hK hcd hlend
     split at h
     · rename_i st2 h2
       split at h
       · rename_i vs evs2 o3 h3
         simp only [Option.some.injEq,Prod.mk.injEq] at h
         obtain ⟨rfl,rfl,rfl⟩:=h
         obtain ⟨a1,a2⟩:=QE.1 ho
         obtain ⟨aD,a3⟩:=a2
         simp only [Bool.and_eq_true] at hcd
         obtain ⟨⟨hn,hle⟩,hrf⟩:=hcd
         have hle:=Nat.le_of_ble_eq_true hle
         refine Xe hE.kind hmx h1 a1 ?_
         intro C Z a w hrel
         have hs:step P (lone (E.b.atR a K') E.cs w)=.next (lone { E.b.atR a K' with mode:=.returning } E.cs w):=by
          rcases VV hK with rfl | ⟨k,rfl⟩
          · exact stepR_end hE.ro
          · exact stepR_ret hE.ro
         obtain ⟨cf,d,g1,g2,g3⟩:=hE.df
         obtain ⟨Ds,d1,d2,d3⟩:=hrel.marks
         obtain ⟨D1,D2,rfl,hds⟩:=d2.split1 g3
         have hnd:=List.nodup_append.1 d1
         obtain ⟨w1,s1,e1,f1,k1⟩:=ya (P:=P) (cs:=E.cs) (M:=E.M) (w0:=E.w0) (tl:=d :: D2.map mark) D1 { E.b.atR a K' with mode:=.returning } w rfl hds hnd.1 (fun D hD=>d3 D (by simp [hD]))
         have hm1:=hrel.mem.evoC e1 (f1 hrel.mem.frame)
         have ht1:VRs Z w1 C st1.tmps a.tmps.toList:=⟨hrel.tmp.1,fun i c v p q=>(hrel.tmp.2 i c v p q).evoC e1⟩
         -- the closure
         have hclo:VR Z w1 C clo cf:=by
          obtain ⟨q1,q2⟩:=hrel.gh
          rw [hE.gA] at q1 q2
          have hl:E.gV.length=gA.length+1:=by simpa using q1.symm
          have hg:E.gV[gA.length]?=some cf:=by rw [List.getLast?_eq_getElem?,hl] at g1; simpa using g1
          exact (q2 gA.length clo cf (by simp) hg).evoC e1
         obtain ⟨hmL,hρ,hcon⟩:=hm1.lend hn hlend
         obtain ⟨fn',cap,fD,argsD,t1,t2,t3⟩:=aD Z w1 (subC C ρ) cf hmL (hclo.ren hcon hrf) d (g2 w1)
         have sD:=step_defer (P:=P) (fr:={ { E.b.atR a K' with mode:=.returning } with defers:=d :: D2.map mark }) (cs:=E.cs) (w:=w1) (by simp) (d:=d) (ds:=D2.map mark) rfl t1 t2
         obtain ⟨e,u',w2,fr,⟨rfl,v,C1,Z1,rfl,hb,hm2,hv⟩,hsteps,hkD,hgo⟩:=t3 { { { E.b.atR a K' with mode:=.returning } with defers:=d :: D2.map mark } with defers:=D2.map mark } E.cs rfl
         have sR:=step_going_returned (P:=P) (c:={ { { { E.b.atR a K' with mode:=.returning } with defers:=d :: D2.map mark } with defers:=D2.map mark } with mode:=.returning }) (cs:=E.cs) hkD hgo
         obtain ⟨hm3,hevo,hout⟩:=hm1.given hn hρ hle hb hm2
         have hd2:∀ D ∈ D2,Z D∧(E.M D ∨ E.w0.heap.size≤D)∧w1.heap[D]?=some (.deferred (some [])):=fun D hD=>by
          obtain ⟨x1,x2,x3⟩:=d3 D (by simp [hD])
          refine ⟨x1,x2,?_⟩
          rw [k1 D (fun h=>hnd.2.2 D h D hD rfl)]; exact x3
         obtain ⟨w3,s3,e3,f3,-⟩:=ya (P:=P) (cs:=E.cs) (M:=E.M) (Z:=Z1) (w0:=E.w0) (tl:=[]) D2 { { { { { E.b.atR a K' with mode:=.returning } with defers:=d :: D2.map mark } with defers:=D2.map mark } with mode:=.returning } with mode:=settle .returning } w2 rfl (by simp) hnd.2.1 (fun D hD=>by
          obtain ⟨x1,x2,x3⟩:=hd2 D hD
          exact ⟨hevo.zsub D x1,x2,by rw [hevo.same D x1]; exact x3⟩)
         have hm4:=hm3.evoC e3 (f3 hm3.frame)
         have ht4:VRs Z1 w3 (YZ C C1 st1.blks.length ρ) st1.tmps a.tmps.toList:=⟨ht1.1,fun i c v p q=>((ht1.evoG hevo).2 i c v p q).evoC e3⟩
         have hbase:=((hrel.base.evoC e1).nextG hevo).evoC e3
         have hrel2:Rel [] E.Z0 E.M E.w0 [] [] E.Cb (YZ C C1 st1.blks.length ρ) Z1 ⟨st1.tmps,XJ st1.blks ρ (bsD.map (renB (outN st1.blks.length ρ)))++(bsD.drop ρ.length).map (renB (outN st1.blks.length ρ))⟩ { a with defers:=[] } w3 :=
          ⟨ht4,hm4,⟨[],.nil,.nil,by simp⟩,⟨rfl,fun i x y p q=>by simp at p⟩,hbase⟩
         have hrel3:=weak_rel (hE.low m hgh) rfl h2 hrel2
         obtain ⟨cs,r1,r2⟩:=VU hrel3.mem hrel3.tmp h3 a3
         refine ⟨_,.trans (.one hs) (.trans s1 (.trans (.one sD) (.trans hsteps (.trans (.one sR) s3)))),?_⟩
         rw [hE.fin]
         have hfn:=hE.fn
         exact ⟨_,w3,_,rfl,hfn,⟨rfl,rfl,hE.kind,fn,by rw [← hfn] at hf; exact hf,qe r1⟩,_,_,hrel3.base,hrel3.mem,qN r2⟩
       · cases h
     · cases h
   · cases h
 · cases h
/-! ### What comes back in new memory -/
def PureN0 (P:Program) (f:FuncId) (args:List AV) (res:AV):Prop :=
 ∀ (Z:Nat→Prop) (w:World) (cargs:Array Value),(∀ b,Z b→b<w.heap.size)→VRs Z w C0 args cargs.toList →
  Calls P f cargs w fun e w'=>∃ v,e=.returned v∧VR (Zn w w') w' C0 res v∧Fr w (fun _=>False) w'
structure PureNE (P:Program) (f:FuncId) (res:AV) (E:Env):Prop where
 ro:E.b.roundOf=none
 kind:E.b.kind=.normal
 fn:E.b.fn=f
 nm:∀ b,¬ E.M b
 gA:E.gA=[]
 fin:E.Fin=(qK P f E.cs fun v w'=>VR (Zn E.w0 w') w' C0 res v∧Fr E.w0 (fun _=>False) w')
 cb:E.Cb=C0
 df:E.df=[]
theorem PureNE.nogh {f:FuncId} {res:AV} (hE:PureNE P f res E) (m:Nat):refsBelows m E.gA=true:=by rw [hE.gA]; rfl
theorem pureN_of {f:FuncId} {fn:Func} {c:Code} {args:List AV} {res:AV} (hf:P.funcs[f]?=some fn) (hb:fn.body=some c)
 (h:∀ E,PureNE P f res E→G P E [.code c] ⟨args++unds (fn.ntmps - args.length),[]⟩):PureN0 P f args res:=by
 intro Z w cargs hz ha cs
 have hE:PureNE P f res (callEnv P f Z (fun _=>False) w cs fun v w'=>VR (Zn w w') w' C0 res v∧Fr w (fun _=>False) w') :=
  ⟨rfl,rfl,rfl,fun _ h=>h,rfl,rfl,rfl,rfl⟩
 have henter:Frame.enter P f cargs .normal=({ (default:Frame) with fn:=f,kind:=.normal }:Frame).atR { tmps:=cargs++Array.replicate (fn.ntmps - cargs.size) undef,defers:=[] } [.code c]:=by
  simp only [Frame.enter,Frame.atR,hf,hb,Option.map_some,Option.getD_some,Option.bind_some]; rfl
 have hl:args.length=cargs.size:=by simpa using ha.1
 obtain ⟨m',s,v,w',fr,rfl,r1,r2,r3⟩:=h _ hE C0 Z { tmps:=cargs++Array.replicate (fn.ntmps - cargs.size) undef,defers:=[] } w
  ⟨⟨by simp [Vj,hl],fun i x y p q=>by
   simp only [Array.toList_append,Array.toList_replicate] at q
   rw [Vj] at p
   by_cases hi:i<args.length
   · rw [List.getElem?_append_left hi] at p
     rw [List.getElem?_append_left (by simpa [← hl] using hi)] at q
     exact ha.2 i x y p q
   · rw [List.getElem?_append_right (by omega)] at p
     rw [List.getElem?_append_right (by simp; omega)] at q
     have p':=List.mem_replicate.1 (List.mem_of_getElem? p)
     have q':=List.mem_replicate.1 (List.mem_of_getElem? q)
     rw [p'.2,q'.2]
     exact .tup rfl (by simp)⟩,mem_nil hz,⟨[],.nil,.nil,by simp⟩,⟨rfl,fun _ _ _ h _=>by cases h⟩,.bot⟩
 rw [henter]
 exact ⟨.returned v,w',fr,⟨v,rfl,r3⟩,s,r1,r2⟩
theorem Xj {f : FuncId} {fn : Func} {c : Code} {first args cap : List AV} {res : AV} (hf : P.funcs[f]? = some fn) (hname : (fn.name == "runtime.NumGoroutine") = false) (hb : fn.body = some c)
    (h : PureN0 P f (first ++ args ++ cap) res) : Vx P (.clos f first cap) args res := by
  intro Z w cf cargs hz hcf ha
  cases hcf with
  | @clos _ _ _ _ fa ca hl h1 hl' h2 =>
    refine ⟨{ target := .fn (.func f) ca, args := fa ++ cargs }, f, fa ++ cargs ++ ca, rfl, ?_, ?_⟩
    · have := Go.Proofs.enters_of (P := P) hf hname hb (fa ++ cargs ++ ca) w
      simpa [invoke] using this
    · refine h Z w _ hz ⟨by have := ha.1; simp at this; simp [hl, hl', this], fun i x y p q => ?_⟩
      have hal : args.length = cargs.size := by simpa using ha.1
      simp only [Array.toList_append] at q
      rw [List.append_assoc] at p q
      by_cases i1 : i < first.length
      · rw [List.getElem?_append_left i1] at p
        rw [List.getElem?_append_left (by simpa [← hl] using i1)] at q
        exact h1 i x y p (by simpa using q)
      · rw [List.getElem?_append_right (by omega)] at p
        rw [List.getElem?_append_right (by simp; omega)] at q
        have e1 : fa.toList.length = first.length := by simp [hl]
        rw [e1] at q
        by_cases i2 : i - first.length < args.length
        · rw [List.getElem?_append_left i2] at p
          rw [List.getElem?_append_left (by simpa [← hal] using i2)] at q
          exact ha.2 _ x y p q
        · rw [List.getElem?_append_right (by omega)] at p
          rw [List.getElem?_append_right (by simp; omega)] at q
          have e2 : cargs.toList.length = args.length := by simp [hal]
          rw [e2] at q
          exact h2 _ x y p (by simpa using q)

theorem VR.layN {Z Z0 M:Nat→Prop} {w0 w:World} {C:Ctx} {blks:List Blk} (hm:Mem Z0 M w0 C Z blks w) {k g off len sz:Nat} {b:Blk} {c:Value} (hb:blks[k]?=some b) (hl:b.live=true) (hz:b.sz ≠ 0) (hf:b.flat=true) (hg:g=b.gen) (hsc:∀ x ∈ b.cells,XU x=true)
 (h:VR Z w C (.sl k g off len sz) c) {C':Ctx}:VR (fun c=>∃ o,C.β k=.loc c o) w C' (.rsl b.cells off len) c:=by
 have hok:=sl_at hm hb hg h
 obtain ⟨hk,h1⟩:=hm.blk k b hb hl
 unfold SlOk at hok
 split at hok
 · rename_i bl o hβ
   obtain ⟨a,cap,rfl,hlc,ha,-⟩:=hok
   simp only [hβ] at h1
   obtain ⟨arr,e,hh,hsz,hc⟩:=h1.cells hz
   by_cases hlen:len=0
   · subst hlen; exact .rsl0
   · obtain rfl:=ha (by omega)
     refine .rsl (fun i=>arr.getD (o+i) undef) ⟨o,hβ⟩ hlc (fun i hi=>?_) hk (fun i c hi=>?_)
     · rw [Vs hh]; simp [Array.getD,show o+i<arr.size by omega]
     · obtain ⟨v,h2,h3⟩:=hc i c hi
       simp only [hf,if_true] at h3
       have:arr.getD (o+i) undef=v:=by
        have hlt:=(Array.getElem?_eq_some_iff.1 h2).1
        simp [Array.getD,hlt]; exact (Array.getElem?_eq_some_iff.1 h2).2
       show VR _ w C0 c (arr.getD (o+i) undef)
       rw [this]
       exact VT (hsc c (List.mem_of_getElem? hi)) h3
 · obtain ⟨rfl,a,rfl⟩:=hok
   exact .rsl0
 · exact hok.elim
/-- A value that leads nowhere but to flat blocks of scalars of the call's own,laid down. -/
def frN1 (blks:List Blk):AV→Option (AV × List Prop)
 | .sl k g off len _=>(match blks[k]? with
  | some b=>(match b.live && b.flat && b.sz != 0 with
   | true=>some (.rsl b.cells off len,[g=b.gen,∀ x ∈ b.cells,XU x=true])
   | false=>none)
  | none=>none)
 | v=>(match XU v with
  | true=>some (v,[])
  | false=>none)
def frNL (blks:List Blk):List AV→Option (List AV × List Prop)
 | []=>some ([],[])
 | v :: vs=>(match frN1 blks v,frNL blks vs with
  | some (r,o),some (rs,os)=>some (r :: rs,o++os)
  | _,_=>none)
def frN (blks:List Blk):AV→Option (AV × List Prop)
 | .agg cs=>(match frNL blks cs with
  | some (rs,o)=>some (.agg rs,o)
  | none=>none)
 | v=>frN1 blks v
theorem Qal {Z Z0 M:Nat→Prop} {w0 w:World} {C C':Ctx} {blks:List Blk} (hm:Mem Z0 M w0 C Z blks w) {v r:AV} {c:Value} {o:List Prop} (h:frN1 blks v=some (r,o)) (ho:AllP o) (hv:VR Z w C v c):VR (Own C) w C' r c:=by
 have sc:∀ v,XU v=true→VR Z w C v c→VR (Own C) w C' v c:=fun v hs hv=>VT hs hv
 cases v with
 | sl k g off len sz =>
  simp only [frN1] at h
  split at h
  · rename_i b hb
    split at h
    · rename_i hlb
      simp only [Option.some.injEq,Prod.mk.injEq] at h
      obtain ⟨rfl,rfl⟩:=h
      simp only [Bool.and_eq_true,bne_iff_ne,ne_eq] at hlb
      exact (VR.layN hm hb hlb.1.1 hlb.2 hlb.1.2 ho.1 ho.2.1 hv).zmono fun c ⟨o,hc⟩=>⟨k,o,hc⟩
    · cases h
  · cases h
 | _ =>
  simp only [frN1] at h
  split at h
  · rename_i hs
    simp only [Option.some.injEq,Prod.mk.injEq] at h
    obtain ⟨rfl,-⟩:=h
    exact sc _ hs hv
  · cases h
theorem Qak {Z Z0 M:Nat→Prop} {w0 w:World} {C C':Ctx} {blks:List Blk} (hm:Mem Z0 M w0 C Z blks w):∀ {vs rs:List AV} {o:List Prop},frNL blks vs=some (rs,o)→AllP o→rs.length=vs.length ∧
 ∀ (i:Nat) (r:AV) (c:Value),rs[i]?=some r→(∀ v,vs[i]?=some v→VR Z w C v c)→VR (Own C) w C' r c
 | [],rs,o,h,ho=>by
  simp only [frNL,Option.some.injEq,Prod.mk.injEq] at h
  obtain ⟨rfl,-⟩:=h
  exact ⟨rfl,fun i r c h=>by simp at h⟩
 | v :: vs,rs,o,h,ho=>by
  simp only [frNL] at h
  split at h
  · rename_i r1 o1 rs1 os1 h1 h2
    simp only [Option.some.injEq,Prod.mk.injEq] at h
    obtain ⟨rfl,rfl⟩:=h
    obtain ⟨p1,p2⟩:=QE.1 ho
    obtain ⟨q1,q2⟩:=Qak (C':=C') hm h2 p2
    refine ⟨by simp [q1],fun i r c hr hv=>?_⟩
    cases i with
    | zero =>
     simp only [List.getElem?_cons_zero,Option.some.injEq] at hr
     subst hr
     exact Qal hm h1 p1 (hv v rfl)
    | succ i=>exact q2 i r c (by simpa using hr) (fun v hv'=>hv v (by simpa using hv'))
  · cases h
theorem frN_sound {Z Z0 M:Nat→Prop} {w0 w:World} {C C':Ctx} {blks:List Blk} (hm:Mem Z0 M w0 C Z blks w) {v r:AV} {c:Value} {o:List Prop} (h:frN blks v=some (r,o)) (ho:AllP o) (hv:VR Z w C v c):VR (Own C) w C' r c:=by
 cases v with
 | agg cs =>
  simp only [frN] at h
  split at h
  · rename_i rs o1 h1
    simp only [Option.some.injEq,Prod.mk.injEq] at h
    obtain ⟨rfl,rfl⟩:=h
    obtain ⟨q1,q2⟩:=Qak (C':=C') hm h1 ho
    cases hv with
    | agg hl hh=>exact .agg (by rw [q1]; exact hl) fun i r c hr hc=>q2 i r c hr fun v hv=>hh i v c hv hc
  · cases h
 | _=>exact Qal hm (by simpa only [frN] using h) ho hv
def endN (P:Program) (fn:Func) (n:Nat) (K:List Item) (st:St) (evs:List EV):Option (AV × List Prop) :=
 match walk P n K st evs with
 | some (K',st',evs',o1) =>
  (match isEnd K',resA P st' fn.results.toList evs' with
  | true,some (vs,_,o2) =>
   (match frN st'.blks (tupA vs) with
   | some (r,o3)=>some (r,o1++(o2++o3))
   | none=>none)
  | _,_=>none)
 | none=>none
theorem endN_step {n:Nat} {f:FuncId} {fn:Func} {evs:List EV} {r res:AV} {obs:List Prop} (hE:PureNE P f res E) (hf:P.funcs[f]?=some fn) (hmx:P.follows .mixedOrders=true)
 (h:endN P fn n K st evs=some (r,obs)) (ho:AllP obs) (hr:r=res):G P E K st:=by
 subst hr
 unfold endN at h
 split at h
 · rename_i K' st' evs' o1 h1
   split at h
   · rename_i vs evs2 o2 hK h2
     split at h
     · rename_i r' o3 h3
       simp only [Option.some.injEq,Prod.mk.injEq] at h
       obtain ⟨rfl,rfl⟩:=h
       obtain ⟨a1,a2⟩:=QE.1 ho
       obtain ⟨a2,a3⟩:=QE.1 a2
       have hfn:=hE.fn
       refine Xe hE.kind hmx h1 a1 (G_end (Post:=fun v w'=>VR (Zn E.w0 w') w' C0 r' v∧Fr E.w0 (fun _=>False) w') hE.ro hE.kind hE.df (by rw [hfn]; exact hf) (by rw [hE.fin,hfn]) h2 a2 (fun C Z w v hm hv _=>⟨?_,?_⟩) (VV hK))
       · refine (frN_sound hm h3 a3 hv).zmono fun c hc=>?_
         obtain ⟨k,o,hc⟩:=hc
         obtain ⟨q1,q2,q3⟩:=hm.own k c o hc
         exact ⟨q3.resolve_left (hE.nm c),q1⟩
       · have:=hm.frame
         exact ⟨this.os,this.tape,this.output,this.size,fun b hb _=>this.same b hb (hE.nm b)⟩
     · cases h
   · cases h
 · cases h
/-- What gives back a slice over new memory, as it is called amid others. -/
theorem QaI {f : FuncId} {fn : Func} {c : Code} {first args cap : List AV} {g len sz : Nat} {cells : List AV} (hf : P.funcs[f]? = some fn) (hname : (fn.name == "runtime.NumGoroutine") = false) (hb : fn.body = some c)
    (h : Lent P f (first ++ args ++ cap) [] (.sl 0 g 0 len sz) [⟨true, g, sz, true, cells, true⟩]) (hz : sz ≠ 0) (hsc : ∀ x ∈ cells, XU x = true) : PureO P (.clos f first cap) args len sz cells := by
  intro Z w cf cargs hzl hcf ha
  have hno : ∀ b, ¬ Own C0 b := fun b ⟨k, o, h⟩ => by simp [C0] at h
  have hm : Mem Z (Own C0) w C0 Z [] w := ⟨fun k b h => by simp at h, fun k b h => by simp at h, fun k b h => by simp at h, fun k _ => ⟨rfl, rfl⟩, fun k k' b o o' h => by simp [C0] at h, fun k b o h => by simp [C0] at h, hzl, fun b h => h, fun b h => .inl h, .refl w _⟩
  obtain ⟨d, f', as1, r1, r2, r3⟩ := Yj hf hname hb h Z w C0 cf cargs hm hcf ha
  refine ⟨d, f', as1, r1, r2, r3.mono ?_⟩
  rintro e w' ⟨v, C', Z', rfl, hbase, hm', hv⟩
  have hfr : Fr w (fun _ => False) w' := ⟨hm'.frame.os, hm'.frame.tape, hm'.frame.output, hm'.frame.size, fun b h1 _ => hm'.frame.same b h1 (hno b)⟩
  refine ⟨v, rfl, ?_, hfr⟩
  have hb0 : ([⟨true, g, sz, true, cells, true⟩] : List Blk)[0]? = some ⟨true, g, sz, true, cells, true⟩ := rfl
  have hgen := hm'.gen 0 _ hb0
  obtain ⟨hk, hblk⟩ := hm'.blk 0 _ hb0 rfl
  cases hv with
  | sl _ _ hs =>
    have hs := hs hgen.symm
    unfold SlOk at hs
    cases hβ : C'.β 0 with
    | absent => simp [hβ] at hs
    | unborn =>
      simp only [hβ] at hs hblk
      obtain ⟨rfl, a, rfl⟩ := hs
      exact .inl ⟨rfl, hblk, a, rfl⟩
    | loc blk o =>
      simp only [hβ] at hs hblk
      obtain ⟨a, cp, rfl, h1, h2, arr, e, h3, h4⟩ := hs
      obtain ⟨arr', e', h5, h6, h7⟩ := hblk.cells hz
      rw [h3] at h5
      simp only [Option.some.injEq, Obj.cells.injEq] at h5
      obtain ⟨rfl, rfl, -⟩ := h5
      have hown := (hm'.own 0 blk o hβ).2.2
      refine .inr ⟨blk, o, a, cp, arr, e, rfl, h1, by simpa using h2, hown.resolve_left (hno blk), h3, by simpa using h4, h6, fun i c hi => ⟨hk i c hi, ?_⟩⟩
      obtain ⟨u, q1, q2⟩ := h7 i c hi
      exact ⟨u, q1, fun Z C => VT (hsc c (List.mem_of_getElem? hi)) q2⟩
end
end Ax
namespace Ax
open Go
section
variable {P:Program} {E:Env} {K k:List Item} {st:St}
end
end Ax
namespace Ax
open Go
def qL:List AV→List AV→Prop
 | [],[]=>True
 | x :: xs,y :: ys=>AvLe x y∧XE y=true∧YX y=true∧qL xs ys
 | _,_=>False
theorem qL.app:∀ {a b c d:List AV},qL a b→qL c d→qL (a++c) (b++d)
 | [],[],c,d,_,h=>h
 | x :: a,y :: b,c,d,h1,h2=>⟨h1.1,h1.2.1,h1.2.2.1,qL.app h1.2.2.2 h2⟩
theorem qL.length:∀ {a b:List AV},qL a b→b.length=a.length
 | [],[],_=>rfl
 | x :: a,y :: b,h=>by simp [qL.length h.2.2.2]
theorem qL.get:∀ {a b:List AV} {i:Nat} {y:AV},qL a b→b[i]?=some y→∃ x,a[i]?=some x∧AvLe x y∧XE y=true∧YX y=true
 | [],[],i,y,_,h=>by simp at h
 | x :: a,z :: b,0,y,h,hi=>by simp at hi; subst hi; exact ⟨x,rfl,h.1,h.2.1,h.2.2.1⟩
 | x :: a,z :: b,i+1,y,h,hi=>by
  obtain ⟨x',h1,h2⟩:=qL.get h.2.2.2 (by simpa using hi)
  exact ⟨x',by simpa using h1,h2⟩
theorem Wx {xs ys:List AV} {off len:Nat} (h:qL xs ys):AvLe (.rsl xs off len) (.rsl ys off len):=fun Z w c hc=>by
 cases hc with
 | @rsl _ _ _ _ cap blk o cv hz hl hc hk hr =>
  refine .rsl cv hz hl (fun i hi=>hc i (by rw [← h.length]; exact hi)) (fun i c hi=>?_) (fun i c hi=>?_)
  · obtain ⟨x,h1,h2,h3,-⟩:=h.get hi; exact h3
  · obtain ⟨x,h1,h2,h3,-⟩:=h.get hi; exact h2 _ _ _ (hr i x h1)
 | rsl0=>exact .rsl0
section
variable {P:Program} {E:Env} {K:List Item} {st:St}
theorem weakB_step {k:Nat} {b:Blk} {cells':List AV} (hb:st.blks[k]?=some b) (hl:b.live=true) (hz:b.sz ≠ 0) (hf:b.flat=true) (hle:qL b.cells cells')
 (hg:G P E K ⟨st.tmps,st.blks.set k { b with cells:=cells' }⟩):G P E K st:=by
 intro C Z a w hr
 have hm:=hr.mem
 obtain ⟨q1,q2⟩:=hm.blk k b hb hl
 have hgen:=hm.gen k b hb
 have:=hm.change (b':={ b with cells:=cells' }) (w':=w) (s:=C.β k) (g:=C.γ k) hb rfl rfl rfl (Nat.le_refl _) (fun _ _ _=>rfl)
  (fun blk o arr e _ h=>⟨arr,h,rfl⟩) (Nat.le_refl _) (fun _ _=>rfl) hl hgen.symm (fun blk o h=>.inl ⟨o,h⟩) (fun hle' hevo _=>by
    refine ⟨fun i x hi=>(hle.get hi).choose_spec.2.2.1,?_⟩
    rw [Ctx.put_id]
    cases hs:C.β k with
    | absent=>simp [hs] at q2
    | unborn =>
     simp only [hs] at q2 ⊢
     have:=hle.length
     rw [q2] at this
     exact List.length_eq_zero_iff.1 this
    | loc blk o =>
     simp only [hs] at q2 ⊢
     obtain ⟨arr,te,r1,r2,r3⟩:=q2.cells hz
     refine .inl ⟨hz,arr,te,r1,by rw [hle.length]; exact r2,fun i x hi=>?_⟩
     obtain ⟨x0,h1,h2,-,-⟩:=hle.get hi
     obtain ⟨v,s1,s2⟩:=r3 i x0 h1
     refine ⟨v,s1,?_⟩
     simp only [hf,if_true] at s2 ⊢
     exact h2 _ _ _ s2)
 rw [Ctx.put_id] at this
 exact hg C Z a w ⟨hr.tmp,this.1,hr.marks,hr.gh,hr.base⟩
end
end Ax
namespace Ax
open Go
theorem sub_le {row:List AV} {off len:Nat}:AvLe (.rsl row off len) (.rsl (row.drop off) 0 len):=fun Z w c h=>by
 cases h with
 | @rsl _ _ _ _ cap blk o cv hz hl hc hk hr =>
  have e:(⟨blk,o+off,none⟩:Addr)=⟨blk,o+off+0,none⟩:=rfl
  rw [e]
  refine .rsl (o:=o+off) (fun i=>cv (off+i)) hz hl (fun i hi=>?_) (fun i c hi=>?_) (fun i c hi=>?_)
  · rw [List.length_drop] at hi
    have:=hc (off+i) (by omega)
    rwa [← Nat.add_assoc] at this
  · rw [List.getElem?_drop] at hi; exact hk _ c hi
  · rw [List.getElem?_drop] at hi; exact hr _ c hi
 | rsl0=>exact .rsl0
theorem take_le {row:List AV} {k len:Nat}:AvLe (.rsl row 0 len) (.rsl (row.take k) 0 len):=fun Z w c h=>by
 cases h with
 | @rsl _ _ _ _ cap blk o cv hz hl hc hk hr =>
  refine .rsl cv hz hl (fun i hi=>?_) (fun i c hi=>?_) (fun i c hi=>?_)
  · rw [List.length_take] at hi; exact hc i (by omega)
  · rw [List.getElem?_take] at hi; split at hi
    · exact hk i c hi
    · cases hi
  · rw [List.getElem?_take] at hi; split at hi
    · exact hr i c hi
    · cases hi
 | rsl0=>exact .rsl0
theorem flat_take {α:Type} (c:α→List AV) {s:Nat} (hs:∀ x,(c x).length=s):∀ {l:List α} {k:Nat},(l.flatMap c).take (k*s)=(l.take k).flatMap c
 | [],k=>by simp
 | x :: l,0=>by simp
 | x :: l,k+1=>by
  have:=flat_take c hs (l:=l) (k:=k)
  rw [List.flatMap_cons,List.take_succ_cons,List.flatMap_cons,← this,List.take_append,hs x,List.take_of_length_le (by rw [hs x,Nat.add_mul]; omega)]
  congr 2
  rw [Nat.add_mul]; omega
theorem Yq {α:Type} (c:α→List AV) {s:Nat} (hs:∀ x,(c x).length=s) {l:List α} {len:Nat} (hl:len≤l.length) :
 AvLe (.rsl (l.flatMap c) 0 len) (.rsl ((l.take len).flatMap c) 0 (l.take len).length):=by
 rw [← flat_take c hs,List.length_take,Nat.min_eq_left hl]; exact take_le
section
variable {P:Program} {E:Env} {K:List Item} {st:St}
end
end Ax
namespace Go.Proofs.Ytgdfkjjgdkejfaa
open Go Ax
open Go.Proofs
theorem Ql:Try.prog.follows .mixedOrders=true:=by kernel_rfl
structure Bk where
 time:Int
 station:Bool
 hold:Int
 walk:Bool
def cBk (t:Bk):List AV:=[.int .i64 t.time,.bool t.station,.int .i64 t.hold,.bool t.walk]
def Qk (l:List Bk):List AV:=l.flatMap cBk
structure Cir where
 blocks:List Bk
 cars:List Int
structure Prs where
 at_:Int
 kind:Int
 block:Int
def cPrs (t:Prs):List AV:=[.int .i64 t.at_,.int .i64 t.kind,.int .i64 t.block]
def QV (l:List Prs):List AV:=l.flatMap cPrs
structure Flt where
 frm:Int
 kind:Int
 chan:Int
 block:Int
 val:Int
def cFlt (t:Flt):List AV:=[.int .i64 t.frm,.int .i64 t.kind,.int .i64 t.chan,.int .i64 t.block,.int .i64 t.val]
def Qo (l:List Flt):List AV:=l.flatMap cFlt
structure Spt where
 block:Int
 ran:Int
 opn:Bool
def cSpt (t:Spt):List AV:=[.int .i64 t.block,.int .i64 t.ran,.bool t.opn]
def Qb (l:List Spt):List AV:=l.flatMap cSpt
structure Car where
 spot:Spt
 stood:Int
def cCar (t:Car):List AV:=[.int .i64 t.spot.block,.int .i64 t.spot.ran,.bool t.spot.opn,.int .i64 t.stood]
def Qi (l:List Car):List AV:=l.flatMap cCar
structure Said where
 a:Int
 b:Int
def Xf (t:Said):List AV:=[.int .i64 t.a,.int .i64 t.b]
def Qe (l:List Said):List AV:=l.flatMap Xf
structure Scr where
 ticks:Int
 presses:List Prs
 faults:List Flt
theorem f52b:Try.f52.body=some (Qh Try.prog 52):=by kernel_rfl
theorem u52 {a c k:List AV} {r:AV} (h:Pure Try.prog 52 (a++c++k) r):Qd Try.prog (.clos 52 a k) c r:=QQ Try.func52 (by kernel_rfl) f52b h
theorem p52_start_0 (n:Int) (lo:Int) (hi:Int) {E:Env} {res:AV} (hE:Qn Try.prog 52 res E) (ho:AllP [(decide (n≥lo))=true])
 (hr:AvLe (.bool (decide (n≤hi))) res):G Try.prog E [.code (Qh Try.prog 52)] ⟨[.int .i64 n,.int .i64 lo,.int .i64 hi]++unds (Try.f52.ntmps - 3),[]⟩ :=
 Qf (n:=400) (evs:=[.b true]) (obs:=_) hE Try.func52 Ql (by kernel_rfl) ho hr
theorem p52_start_1 (n:Int) (lo:Int) (hi:Int) {E:Env} {res:AV} (hE:Qn Try.prog 52 res E) (ho:AllP [(decide (n≥lo))=false])
 (hr:AvLe (.bool false) res):G Try.prog E [.code (Qh Try.prog 52)] ⟨[.int .i64 n,.int .i64 lo,.int .i64 hi]++unds (Try.f52.ntmps - 3),[]⟩ :=
 Qf (n:=400) (evs:=[.b false]) (obs:=_) hE Try.func52 Ql (by kernel_rfl) ho hr
theorem f52W (n:Int) (lo:Int) (hi:Int) {E:Env} {rv:Bool} (hE:Qn Try.prog 52 (.bool rv) E)
 (h:((n≥lo→rv=(decide (n≤hi)))∧(¬ (n≥lo)→rv=false))):G Try.prog E [.code (Qh Try.prog 52)] ⟨[.int .i64 n,.int .i64 lo,.int .i64 hi]++unds (Try.f52.ntmps - 3),[]⟩:=by
 rcases bft (decide (n≥lo)) with hc0 | hc0
 · have h:=h.1 (odt hc0)
   exact p52_start_0 n lo hi hE ⟨hc0,trivial⟩ (AvLe.of_eq (by rw [h]; try rfl))
 · have h:=h.2 (odf hc0)
   exact p52_start_1 n lo hi hE ⟨hc0,trivial⟩ (AvLe.of_eq (by rw [h]; try rfl))
theorem f50b:Try.f50.body=some (Qh Try.prog 50):=by kernel_rfl
theorem u50 {a c k:List AV} {r:AV} (h:Pure Try.prog 50 (a++c++k) r):Qd Try.prog (.clos 50 a k) c r:=QQ Try.func50 (by kernel_rfl) f50b h
theorem p50_start_0 (n:Int) (lo:Int) (hi:Int) {E:Env} {res:AV} (hE:Qn Try.prog 50 res E) (ho:AllP [(decide (n≥lo))=true])
 (hr:AvLe (.bool (decide (n≤hi))) res):G Try.prog E [.code (Qh Try.prog 50)] ⟨[.int .i64 n,.int .i64 lo,.int .i64 hi]++unds (Try.f50.ntmps - 3),[]⟩ :=
 Qf (n:=400) (evs:=[.b true]) (obs:=_) hE Try.func50 Ql (by kernel_rfl) ho hr
theorem p50_start_1 (n:Int) (lo:Int) (hi:Int) {E:Env} {res:AV} (hE:Qn Try.prog 50 res E) (ho:AllP [(decide (n≥lo))=false])
 (hr:AvLe (.bool false) res):G Try.prog E [.code (Qh Try.prog 50)] ⟨[.int .i64 n,.int .i64 lo,.int .i64 hi]++unds (Try.f50.ntmps - 3),[]⟩ :=
 Qf (n:=400) (evs:=[.b false]) (obs:=_) hE Try.func50 Ql (by kernel_rfl) ho hr
theorem f50W (n:Int) (lo:Int) (hi:Int) {E:Env} {rv:Bool} (hE:Qn Try.prog 50 (.bool rv) E)
 (h:((n≥lo→rv=(decide (n≤hi)))∧(¬ (n≥lo)→rv=false))):G Try.prog E [.code (Qh Try.prog 50)] ⟨[.int .i64 n,.int .i64 lo,.int .i64 hi]++unds (Try.f50.ntmps - 3),[]⟩:=by
 rcases bft (decide (n≥lo)) with hc0 | hc0
 · have h:=h.1 (odt hc0)
   exact p50_start_0 n lo hi hE ⟨hc0,trivial⟩ (AvLe.of_eq (by rw [h]; try rfl))
 · have h:=h.2 (odf hc0)
   exact p50_start_1 n lo hi hE ⟨hc0,trivial⟩ (AvLe.of_eq (by rw [h]; try rfl))
def Qj (n lo hi:Int):Bool:=decide (n≥lo) && decide (n≤hi)
theorem QN (n lo hi:Int):Pure Try.prog 52 [.int .i64 n,.int .i64 lo,.int .i64 hi] (.bool (Qj n lo hi)):=QT Try.func52 f52b fun E hE=>by
 refine f52W n lo hi hE ⟨fun h=>by simp [Qj,h],fun h=>by simp only [Qj]; rw [decide_eq_false h]; rfl⟩
theorem Xu (n lo hi:Int):Pure Try.prog 50 [.int .i64 n,.int .i64 lo,.int .i64 hi] (.bool (Qj n lo hi)):=QT Try.func50 f50b fun E hE=>by
 refine f50W n lo hi hE ⟨fun h=>by simp [Qj,h],fun h=>by simp only [Qj]; rw [decide_eq_false h]; rfl⟩
theorem Xi {n lo hi:Int}:Qj n lo hi=true ↔ lo≤n∧n≤hi:=by simp [Qj]
theorem within_not {n lo hi:Int}:Qj n lo hi=false ↔ ¬ (lo≤n∧n≤hi):=by rw [← Xi]; simp
def idxG {α:Type} (p:α→Bool) (l:List α):Int:=match l.findIdx? p with
 | some i=>(i:Int)
 | none=>-1
theorem VW {α:Type} (p:α→Bool) (l:List α):∀ (d i:Nat),i+d=l.length→(∀ j x,j<i→l[j]?=some x→p x=false)→∀ (Q:Nat→Prop),(∀ i,i<l.length→(∀ x,l[i]?=some x→(p x=true→idxG p l=i))→(∀ x,l[i]?=some x→p x=false→Q (i+1))→Q i) →
 ((∀ x ∈ l,p x=false)→idxG p l=-1→Q l.length)→Q i:=by
 intro d
 induction d with
 | zero =>
  intro i hi hp Q h1 h2
  have:i=l.length:=by omega
  subst this
  have hall:∀ x ∈ l,p x=false:=fun x hx=>by
   obtain ⟨j,hj⟩:=List.getElem?_of_mem hx
   exact hp j x (List.getElem?_eq_some_iff.1 hj).1 hj
  exact h2 hall (by simp only [idxG]; rw [List.findIdx?_eq_none_iff.2 hall])
 | succ d ih =>
  intro i hi hp Q h1 h2
  refine h1 i (by omega) (fun x hx hpx=>?_) (fun x hx hpx=>ih (i+1) (by omega) (fun j y hj hy=>?_) Q h1 h2)
  · have:l.findIdx? p=some i:=by
     rw [List.findIdx?_eq_some_iff_getElem]
     have hlt:=(List.getElem?_eq_some_iff.1 hx).1
     have he:=(List.getElem?_eq_some_iff.1 hx).2
     refine ⟨hlt,by rw [he]; exact hpx,fun j hj=>?_⟩
     have:=hp j _ hj (List.getElem?_eq_getElem (by omega))
     simp [this]
    simp only [idxG,this]
  · rcases Nat.lt_or_ge j i with h | h
    · exact hp j y h hy
    · have:j=i:=by omega
      subst this
      rw [hx] at hy; cases hy; exact hpx
theorem WJ {α:Type} (p:α→Bool) (l:List α):decide (idxG p l≥0)=l.any p:=by
 cases h:l.findIdx? p with
 | none =>
  have e:idxG p l=-1:=by simp only [idxG,h]
  rw [e]
  rw [List.findIdx?_eq_none_iff] at h
  rw [show l.any p=false from by simpa using fun x hx=>by simpa using h x hx]; rfl
 | some i =>
  have e:idxG p l=(i:Int):=by simp only [idxG,h]
  rw [e]
  have:=List.findIdx?_eq_some_iff_getElem.1 h
  obtain ⟨h1,h2,-⟩:=this
  have:l.any p=true:=by rw [List.any_eq_true]; exact ⟨l[i],List.getElem_mem _,h2⟩
  rw [this]; simp
theorem f53b:Try.f53.body=some (Qh Try.prog 53):=by kernel_rfl
theorem u53 {a c k:List AV} {r:AV} (h:Pure Try.prog 53 (a++c++k) r):Qd Try.prog (.clos 53 a k) c r:=QQ Try.func53 (by kernel_rfl) f53b h
theorem p53_start_0 (c:Cir) (n:Int) {E:Env} {res:AV} (hE:Qn Try.prog 53 res E) (ho:AllP [InR .i64 ((c.blocks.length:Int) - 1),Qd Try.prog (.clos 52 [] []) [.int .i64 n,.int .i64 0,.int .i64 ((c.blocks.length:Int) - 1)] (.bool (Qj n 0 ((c.blocks.length:Int) - 1)))])
 (hr:AvLe (.bool (Qj n 0 ((c.blocks.length:Int) - 1))) res):G Try.prog E [.code (Qh Try.prog 53)] ⟨[.agg [.rsl (Qk c.blocks) 0 c.blocks.length,.rsl (rowI c.cars) 0 c.cars.length],.int .i64 n]++unds (Try.f53.ntmps - 2),[]⟩ :=
 Qf (n:=400) (evs:=[.v (.bool (Qj n 0 ((c.blocks.length:Int) - 1)))]) (obs:=_) hE Try.func53 Ql (by kernel_rfl) ho hr
theorem f53W (c:Cir) (n:Int) {E:Env} {rv:Bool} (hE:Qn Try.prog 53 (.bool rv) E)
 (h:((I6 ((c.blocks.length:Int) - 1))∧rv=(Qj n 0 ((c.blocks.length:Int) - 1)))):G Try.prog E [.code (Qh Try.prog 53)] ⟨[.agg [.rsl (Qk c.blocks) 0 c.blocks.length,.rsl (rowI c.cars) 0 c.cars.length],.int .i64 n]++unds (Try.f53.ntmps - 2),[]⟩:=by
 obtain ⟨q0_0,h⟩:=h
 exact p53_start_0 c n hE ⟨q0_0,(u52 (QN n 0 ((c.blocks.length:Int) - 1))),trivial⟩ (AvLe.of_eq (by rw [h]; try rfl))
theorem f83b:Try.f83.body=some (Qh Try.prog 83):=by kernel_rfl
theorem u83 {a c k:List AV} {r:AV} (h:Pure Try.prog 83 (a++c++k) r):Qd Try.prog (.clos 83 a k) c r:=QQ Try.func83 (by kernel_rfl) f83b h
def f83K0 (P:Program):List Item:=kAt 400 [.code (Qh P 83)] [.stop]
def f83S0 (l:(List Int)) (v:Int) (i:Nat):St:=⟨([.rsl (rowI l) 0 l.length,.int .i64 v]++jj 5 ([.int .i64 (l.length:Int),.int .i64 (i:Int)]++Js 10)),[]⟩
def f83G0 (E:Env) (l:(List Int)) (v:Int) (i:Nat):Prop:=G Try.prog E (f83K0 Try.prog) (f83S0 l v i )
theorem p83_start_0 (l:(List Int)) (v:Int) {E:Env} {rv:AV} (hE:Qn Try.prog 83 rv E) (ho:AllP [])
 (hg:G Try.prog E (f83K0 Try.prog) ⟨([.rsl (rowI l) 0 l.length,.int .i64 v]++jj 5 ([.int .i64 (l.length:Int),.int .i64 0]++Js 10)),[]⟩):G Try.prog E [.code (Qh Try.prog 83)] ⟨[.rsl (rowI l) 0 l.length,.int .i64 v]++unds (Try.f83.ntmps - 2),[]⟩ :=
 Qg (n:=400) (ds:=[]) (cs:=[]) (live:=[0,1,7,8]) (m:=0) (evs:=[.stop]) (obs:=_) hE.2.1 (hE.nogh _) Ql (by kernel_rfl) ho hg
theorem f83W (l:(List Int)) (v:Int) {E:Env} {rv:Int} (hE:Qn Try.prog 83 (.int .i64 rv) E)
 (h:f83G0 E l v 0):G Try.prog E [.code (Qh Try.prog 83)] ⟨[.rsl (rowI l) 0 l.length,.int .i64 v]++unds (Try.f83.ntmps - 2),[]⟩:=by
 exact p83_start_0 l v hE trivial h
theorem p83_0_0 (l:(List Int)) (v:Int) (i:Nat) (e:Int) {E:Env} {res:AV} (hE:Qn Try.prog 83 res E) (ho:AllP [(decide ((i:Int)<(l.length:Int)))=true,0≤(i:Int)∧(i:Int)<(l.length:Int),((rowI l).drop (0+(Int.toNat (i:Int))*1)).take 1=[.int .i64 e],(v == e)=true])
 (hr:AvLe (.int .i64 (i:Int)) res):G Try.prog E (f83K0 Try.prog) (f83S0 l v i ) :=
 Qf (n:=400) (evs:=[.b true,.ld (.int .i64 e),.b true]) (obs:=_) hE Try.func83 Ql (by kernel_rfl) ho hr
theorem p83_0_1 (l:(List Int)) (v:Int) (i:Nat) (e:Int) {E:Env} {rv:AV} (hE:Qn Try.prog 83 rv E) (ho:AllP [(decide ((i:Int)<(l.length:Int)))=true,0≤(i:Int)∧(i:Int)<(l.length:Int),((rowI l).drop (0+(Int.toNat (i:Int))*1)).take 1=[.int .i64 e],(v == e)=false,InR .i64 ((i:Int)+1)])
 (hg:G Try.prog E (f83K0 Try.prog) ⟨([.rsl (rowI l) 0 l.length,.int .i64 v]++jj 5 ([.int .i64 (l.length:Int),.int .i64 ((i:Int)+1)]++Js 10)),[]⟩):G Try.prog E (f83K0 Try.prog) (f83S0 l v i ) :=
 Qg (n:=400) (ds:=[]) (cs:=[]) (live:=[0,1,7,8]) (m:=0) (evs:=[.b true,.ld (.int .i64 e),.b false,.stop]) (obs:=_) hE.2.1 (hE.nogh _) Ql (by kernel_rfl) ho hg
theorem p83_0_2 (l:(List Int)) (v:Int) (i:Nat) {E:Env} {res:AV} (hE:Qn Try.prog 83 res E) (ho:AllP [(decide ((i:Int)<(l.length:Int)))=false])
 (hr:AvLe (.int .i64 (-1)) res):G Try.prog E (f83K0 Try.prog) (f83S0 l v i ) :=
 Qf (n:=400) (evs:=[.b false]) (obs:=_) hE Try.func83 Ql (by kernel_rfl) ho hr
theorem f83W0 (l:(List Int)) (v:Int) (i:Nat) {E:Env} {rv:Int} (hE:Qn Try.prog 83 (.int .i64 rv) E)
 (h:(((i:Int)<(l.length:Int)→(∃ e:Int,l[i]?=some e∧((v=e→rv=(i:Int))∧(¬ (v=e)→((I6 ((i:Int)+1))∧f83G0 E l v (i+1))))))∧(¬ ((i:Int)<(l.length:Int))→rv=(-1)))):f83G0 E l v i:=by
 rcases bft (decide ((i:Int)<(l.length:Int))) with hc0 | hc0
 · have h:=h.1 (odt hc0)
   obtain ⟨e,h1,h⟩:=h
   rcases bft (v == e) with hc1 | hc1
   · have h:=h.1 (eq_of_beq hc1)
     exact p83_0_0 l v i e hE ⟨hc0,(Qp h1),(rp cI 1 0 1 h1),hc1,trivial⟩ (AvLe.of_eq (by rw [h]; try rfl))
   · have h:=h.2 (ne_of_beq_false hc1)
     obtain ⟨q5_2,h⟩:=h
     exact p83_0_1 l v i e hE ⟨hc0,(Qp h1),(rp cI 1 0 1 h1),hc1,q5_2,trivial⟩ h
 · have h:=h.2 (odf hc0)
   exact p83_0_2 l v i hE ⟨hc0,trivial⟩ (AvLe.of_eq (by rw [h]; try rfl))
theorem Vg (c:Cir) (n:Int) (h:c.blocks.length≤9223372036854775807):Pure Try.prog 53 [.agg [.rsl (Qk c.blocks) 0 c.blocks.length,.rsl (rowI c.cars) 0 c.cars.length],.int .i64 n] (.bool (Qj n 0 (c.blocks.length - 1))):=QT Try.func53 f53b fun E hE =>
 f53W c n hE ⟨by omega,rfl⟩
theorem index_ok (l:List Int) (v:Int) (h:l.length≤9223372036854775807):Pure Try.prog 83 [.rsl (rowI l) 0 l.length,.int .i64 v] (.int .i64 (idxG (fun x=>v == x) l)):=QT Try.func83 f83b fun E hE=>by
 refine f83W l v hE (VW (fun x=>v == x) l l.length 0 (by omega) (fun j x hj=>by omega) (fun i=>f83G0 E l v i) (fun i hi' h1 h2=>?_) (fun _ h2=>?_))
 · have hx:l[i]?=some l[i]:=List.getElem?_eq_getElem hi'
   exact f83W0 l v i hE ⟨fun _=>⟨_,hx,fun hp=>h1 _ hx (by simp [hp]),fun hp=>⟨by omega,h2 _ hx (by simp [hp])⟩⟩,fun h=>by omega⟩
 · exact f83W0 l v _ hE ⟨fun h=>by omega,fun _=>h2⟩
theorem f54b:Try.f54.body=some (Qh Try.prog 54):=by kernel_rfl
theorem u54 {a c k:List AV} {r:AV} (h:Pure Try.prog 54 (a++c++k) r):Qd Try.prog (.clos 54 a k) c r:=QQ Try.func54 (by kernel_rfl) f54b h
theorem p54_start_0 (l:(List Int)) (v:Int) {E:Env} {res:AV} (hE:Qn Try.prog 54 res E) (ho:AllP [Qd Try.prog (.clos 83 [] []) [.rsl (rowI l) 0 l.length,.int .i64 v] (.int .i64 (idxG (fun x=>v == x) l))])
 (hr:AvLe (.bool (decide ((idxG (fun x=>v == x) l)≥0))) res):G Try.prog E [.code (Qh Try.prog 54)] ⟨[.rsl (rowI l) 0 l.length,.int .i64 v]++unds (Try.f54.ntmps - 2),[]⟩ :=
 Qf (n:=400) (evs:=[.v (.int .i64 (idxG (fun x=>v == x) l))]) (obs:=_) hE Try.func54 Ql (by kernel_rfl) ho hr
theorem f54W (l:(List Int)) (v:Int) {E:Env} {rv:Bool} (hE:Qn Try.prog 54 (.bool rv) E)
 (h:((l.length≤9223372036854775807)∧rv=(decide ((idxG (fun x=>v == x) l)≥0)))):G Try.prog E [.code (Qh Try.prog 54)] ⟨[.rsl (rowI l) 0 l.length,.int .i64 v]++unds (Try.f54.ntmps - 2),[]⟩:=by
 obtain ⟨h1,h⟩:=h
 exact p54_start_0 l v hE ⟨(u83 (index_ok l v h1)),trivial⟩ (AvLe.of_eq (by rw [h]; try rfl))
theorem Yg (l:List Int) (v:Int) (h:l.length≤9223372036854775807):Pure Try.prog 54 [.rsl (rowI l) 0 l.length,.int .i64 v] (.bool (l.any (fun x=>v == x))):=QT Try.func54 f54b fun E hE =>
 f54W l v hE ⟨h,(WJ _ l).symm⟩
/-- Different blocks: the first 'i' of them. -/
def YD (nb:Nat) (l:List Int):Nat→Bool
 | 0=>true
 | i+1=>YD nb l i && Qj (l.getD i 0) 0 ((nb:Int) - 1) && !((l.take i).any fun x=>l.getD i 0 == x)
def QY (nb:Nat) (l:List Int):Bool:=YD nb l l.length
theorem yg {nb:Nat} {l:List Int} {i:Nat}:∀ {n:Nat},i≤n→YD nb l i=false→YD nb l n=false
 | 0,h,hf=>by rw [show i=0 by omega] at hf; cases hf
 | n+1,h,hf=>by
  rcases Nat.lt_or_ge n i with h1 | h1
  · rw [show n+1=i by omega]; exact hf
  · simp [YD,yg h1 hf]
theorem Wd {α:Type} {l:List α} {i:Nat} {x d:α} (h:l[i]?=some x):l.getD i d=x:=by simp [List.getD,h]
theorem getD_some {α:Type} {l:List α} {i:Nat} {d:α} (h:i<l.length):l[i]?=some (l.getD i d):=by simp [List.getD,h]
theorem f51b:Try.f51.body=some (Qh Try.prog 51):=by kernel_rfl
theorem u51 {a c k:List AV} {r:AV} (h:Pure Try.prog 51 (a++c++k) r):Qd Try.prog (.clos 51 a k) c r:=QQ Try.func51 (by kernel_rfl) f51b h
def f51K0 (P:Program):List Item:=kAt 400 [.code (Qh P 51)] [.stop]
def f51S0 (c:Cir) (l:(List Int)) (i:Nat):St:=⟨([J,.rsl (rowI l) 0 l.length,.ptr 0 0 0,J,J,.int .i64 (i:Int)]++Js 31),[⟨true,0,1,true,[.rsl (Qk c.blocks) 0 c.blocks.length,.rsl (rowI c.cars) 0 c.cars.length],false⟩]⟩
def f51G0 (E:Env) (c:Cir) (l:(List Int)) (i:Nat):Prop:=G Try.prog E (f51K0 Try.prog) (f51S0 c l i )
def f51K1 (P:Program):List Item:=kAt 400 [.code (Qh P 51)] [.b true,.b false,.stop]
def f51S1 (c:Cir) (l:(List Int)) (i:Nat) (k:Nat):St:=⟨([J,.rsl (rowI l) 0 l.length,.ptr 0 0 0,J,J,.int .i64 (i:Int),.int .i64 (k:Int)]++Js 30),[⟨true,0,1,true,[.rsl (Qk c.blocks) 0 c.blocks.length,.rsl (rowI c.cars) 0 c.cars.length],false⟩]⟩
def f51G1 (E:Env) (c:Cir) (l:(List Int)) (i:Nat) (k:Nat):Prop:=G Try.prog E (f51K1 Try.prog) (f51S1 c l i k )
abbrev z51_1 (c:Cir):List Blk:=[⟨true,0,1,true,[.rsl (Qk c.blocks) 0 c.blocks.length,.rsl (rowI c.cars) 0 c.cars.length],false⟩]
theorem p51_start_0 (c:Cir) (l:(List Int)) {E:Env} {rv:AV} (hE:Qn Try.prog 51 rv E) (ho:AllP [])
 (hg:G Try.prog E (f51K0 Try.prog) ⟨([J,.rsl (rowI l) 0 l.length,.ptr 0 0 0,J,J,.int .i64 0]++Js 31),(z51_1 c)⟩):G Try.prog E [.code (Qh Try.prog 51)] ⟨[.agg [.rsl (Qk c.blocks) 0 c.blocks.length,.rsl (rowI c.cars) 0 c.cars.length],.rsl (rowI l) 0 l.length]++unds (Try.f51.ntmps - 2),[]⟩ :=
 Qg (n:=400) (ds:=[]) (cs:=[]) (live:=[1,2,5]) (m:=1) (evs:=[.stop]) (obs:=_) hE.2.1 (hE.nogh _) Ql (by kernel_rfl) ho hg
theorem f51W (c:Cir) (l:(List Int)) {E:Env} {rv:Bool} (hE:Qn Try.prog 51 (.bool rv) E)
 (h:f51G0 E c l 0):G Try.prog E [.code (Qh Try.prog 51)] ⟨[.agg [.rsl (Qk c.blocks) 0 c.blocks.length,.rsl (rowI c.cars) 0 c.cars.length],.rsl (rowI l) 0 l.length]++unds (Try.f51.ntmps - 2),[]⟩:=by
 exact p51_start_0 c l hE trivial h
theorem p51_0_0 (c:Cir) (l:(List Int)) (i:Nat) (e:Int) {E:Env} {res:AV} (hE:Qn Try.prog 51 res E) (ho:AllP [(decide ((i:Int)<(l.length:Int)))=true,0≤(i:Int)∧(i:Int)<(l.length:Int),((rowI l).drop (0+(Int.toNat (i:Int))*1)).take 1=[.int .i64 e],InR .i64 ((c.blocks.length:Int) - 1),Qd Try.prog (.clos 50 [] []) [.int .i64 e,.int .i64 0,.int .i64 ((c.blocks.length:Int) - 1)] (.bool (Qj e 0 ((c.blocks.length:Int) - 1))),(!(Qj e 0 ((c.blocks.length:Int) - 1)))=true])
 (hr:AvLe (.bool false) res):G Try.prog E (f51K0 Try.prog) (f51S0 c l i ) :=
 Qf (n:=400) (evs:=[.b true,.ld (.int .i64 e),.v (.bool (Qj e 0 ((c.blocks.length:Int) - 1))),.b true]) (obs:=_) hE Try.func51 Ql (by kernel_rfl) ho hr
theorem p51_0_1 (c:Cir) (l:(List Int)) (i:Nat) (e:Int) {E:Env} {rv:AV} (hE:Qn Try.prog 51 rv E) (ho:AllP [(decide ((i:Int)<(l.length:Int)))=true,0≤(i:Int)∧(i:Int)<(l.length:Int),((rowI l).drop (0+(Int.toNat (i:Int))*1)).take 1=[.int .i64 e],InR .i64 ((c.blocks.length:Int) - 1),Qd Try.prog (.clos 50 [] []) [.int .i64 e,.int .i64 0,.int .i64 ((c.blocks.length:Int) - 1)] (.bool (Qj e 0 ((c.blocks.length:Int) - 1))),(!(Qj e 0 ((c.blocks.length:Int) - 1)))=false])
 (hg:G Try.prog E (f51K1 Try.prog) ⟨([J,.rsl (rowI l) 0 l.length,.ptr 0 0 0,J,J,.int .i64 (i:Int),.int .i64 0]++Js 30),(z51_1 c)⟩):G Try.prog E (f51K0 Try.prog) (f51S0 c l i ) :=
 Qg (n:=400) (ds:=[]) (cs:=[]) (live:=[1,2,5,6]) (m:=1) (evs:=[.b true,.ld (.int .i64 e),.v (.bool (Qj e 0 ((c.blocks.length:Int) - 1))),.b false,.stop]) (obs:=_) hE.2.1 (hE.nogh _) Ql (by kernel_rfl) ho hg
theorem p51_0_2 (c:Cir) (l:(List Int)) (i:Nat) {E:Env} {res:AV} (hE:Qn Try.prog 51 res E) (ho:AllP [(decide ((i:Int)<(l.length:Int)))=false])
 (hr:AvLe (.bool true) res):G Try.prog E (f51K0 Try.prog) (f51S0 c l i ) :=
 Qf (n:=400) (evs:=[.b false]) (obs:=_) hE Try.func51 Ql (by kernel_rfl) ho hr
theorem f51W0 (c:Cir) (l:(List Int)) (i:Nat) {E:Env} {rv:Bool} (hE:Qn Try.prog 51 (.bool rv) E)
 (h:(((i:Int)<(l.length:Int)→(∃ e:Int,l[i]?=some e∧((I6 ((c.blocks.length:Int) - 1))∧(((Qj e 0 ((c.blocks.length:Int) - 1))=false→rv=false)∧((Qj e 0 ((c.blocks.length:Int) - 1))=true→f51G1 E c l i 0)))))∧(¬ ((i:Int)<(l.length:Int))→rv=true))):f51G0 E c l i:=by
 rcases bft (decide ((i:Int)<(l.length:Int))) with hc0 | hc0
 · have h:=h.1 (odt hc0)
   obtain ⟨e,h1,h⟩:=h
   obtain ⟨q4_1,h⟩:=h
   rcases bft (!(Qj e 0 ((c.blocks.length:Int) - 1))) with hc1 | hc1
   · have h:=h.1 (bnT hc1)
     exact p51_0_0 c l i e hE ⟨hc0,(Qp h1),(rp cI 1 0 1 h1),q4_1,(u50 (Xu e 0 ((c.blocks.length:Int) - 1))),hc1,trivial⟩ (AvLe.of_eq (by rw [h]; try rfl))
   · have h:=h.2 (bnF hc1)
     exact p51_0_1 c l i e hE ⟨hc0,(Qp h1),(rp cI 1 0 1 h1),q4_1,(u50 (Xu e 0 ((c.blocks.length:Int) - 1))),hc1,trivial⟩ h
 · have h:=h.2 (odf hc0)
   exact p51_0_2 c l i hE ⟨hc0,trivial⟩ (AvLe.of_eq (by rw [h]; try rfl))
theorem p51_1_0 (c:Cir) (l:(List Int)) (i:Nat) (k:Nat) (e:Int) (e1:Int) {E:Env} {res:AV} (hE:Qn Try.prog 51 res E) (ho:AllP [(decide ((k:Int)<(i:Int)))=true,0≤(k:Int)∧(k:Int)<(l.length:Int),((rowI l).drop (0+(Int.toNat (k:Int))*1)).take 1=[.int .i64 e],0≤(i:Int)∧(i:Int)<(l.length:Int),((rowI l).drop (0+(Int.toNat (i:Int))*1)).take 1=[.int .i64 e1],(e == e1)=true])
 (hr:AvLe (.bool false) res):G Try.prog E (f51K1 Try.prog) (f51S1 c l i k ) :=
 Qf (n:=400) (evs:=[.b true,.ld (.int .i64 e),.ld (.int .i64 e1),.b true]) (obs:=_) hE Try.func51 Ql (by kernel_rfl) ho hr
theorem p51_1_1 (c:Cir) (l:(List Int)) (i:Nat) (k:Nat) (e:Int) (e1:Int) {E:Env} {rv:AV} (hE:Qn Try.prog 51 rv E) (ho:AllP [(decide ((k:Int)<(i:Int)))=true,0≤(k:Int)∧(k:Int)<(l.length:Int),((rowI l).drop (0+(Int.toNat (k:Int))*1)).take 1=[.int .i64 e],0≤(i:Int)∧(i:Int)<(l.length:Int),((rowI l).drop (0+(Int.toNat (i:Int))*1)).take 1=[.int .i64 e1],(e == e1)=false,InR .i64 ((k:Int)+1)])
 (hg:G Try.prog E (f51K1 Try.prog) ⟨([J,.rsl (rowI l) 0 l.length,.ptr 0 0 0,J,J,.int .i64 (i:Int),.int .i64 ((k:Int)+1)]++Js 30),(z51_1 c)⟩):G Try.prog E (f51K1 Try.prog) (f51S1 c l i k ) :=
 Qg (n:=400) (ds:=[]) (cs:=[]) (live:=[1,2,5,6]) (m:=1) (evs:=[.b true,.ld (.int .i64 e),.ld (.int .i64 e1),.b false,.stop]) (obs:=_) hE.2.1 (hE.nogh _) Ql (by kernel_rfl) ho hg
theorem p51_1_2 (c:Cir) (l:(List Int)) (i:Nat) (k:Nat) {E:Env} {rv:AV} (hE:Qn Try.prog 51 rv E) (ho:AllP [(decide ((k:Int)<(i:Int)))=false,InR .i64 ((i:Int)+1)])
 (hg:G Try.prog E (f51K0 Try.prog) ⟨([J,.rsl (rowI l) 0 l.length,.ptr 0 0 0,J,J,.int .i64 ((i:Int)+1)]++Js 31),(z51_1 c)⟩):G Try.prog E (f51K1 Try.prog) (f51S1 c l i k ) :=
 Qg (n:=400) (ds:=[]) (cs:=[]) (live:=[1,2,5]) (m:=1) (evs:=[.b false,.stop]) (obs:=_) hE.2.1 (hE.nogh _) Ql (by kernel_rfl) ho hg
theorem f51W1 (c:Cir) (l:(List Int)) (i:Nat) (k:Nat) {E:Env} {rv:Bool} (hE:Qn Try.prog 51 (.bool rv) E)
 (h:(((k:Int)<(i:Int)→(∃ e:Int,l[k]?=some e∧(∃ e1:Int,l[i]?=some e1∧((e=e1→rv=false)∧(¬ (e=e1)→((I6 ((k:Int)+1))∧f51G1 E c l i (k+1)))))))∧(¬ ((k:Int)<(i:Int))→((I6 ((i:Int)+1))∧f51G0 E c l (i+1))))):f51G1 E c l i k:=by
 rcases bft (decide ((k:Int)<(i:Int))) with hc0 | hc0
 · have h:=h.1 (odt hc0)
   obtain ⟨e,h1,h⟩:=h
   obtain ⟨e1,h2,h⟩:=h
   rcases bft (e == e1) with hc1 | hc1
   · have h:=h.1 (eq_of_beq hc1)
     exact p51_1_0 c l i k e e1 hE ⟨hc0,(Qp h1),(rp cI 1 0 1 h1),(Qp h2),(rp cI 1 0 1 h2),hc1,trivial⟩ (AvLe.of_eq (by rw [h]; try rfl))
   · have h:=h.2 (ne_of_beq_false hc1)
     obtain ⟨q8_2,h⟩:=h
     exact p51_1_1 c l i k e e1 hE ⟨hc0,(Qp h1),(rp cI 1 0 1 h1),(Qp h2),(rp cI 1 0 1 h2),hc1,q8_2,trivial⟩ h
 · have h:=h.2 (odf hc0)
   obtain ⟨q1_1,h⟩:=h
   exact p51_1_2 c l i k hE ⟨hc0,q1_1,trivial⟩ h
theorem apart_ok (c:Cir) (l:List Int) (h:c.blocks.length≤9223372036854775807) (hl:l.length≤9223372036854775807):Pure Try.prog 51 [.agg [.rsl (Qk c.blocks) 0 c.blocks.length,.rsl (rowI c.cars) 0 c.cars.length],.rsl (rowI l) 0 l.length] (.bool (QY c.blocks.length l)):=QT Try.func51 f51b fun E hE=>by
 have key:∀ (d i:Nat),i+d=l.length→YD c.blocks.length l i=true→f51G0 E c l i:=by
  intro d
  induction d with
  | zero=>intro i hi ha; exact f51W0 c l i (rv:=QY c.blocks.length l) hE ⟨fun h=>by omega,fun _=>by rw [QY,show l.length=i by omega,ha]⟩
  | succ d ih =>
   intro i hi ha
   have hx:l[i]?=some (l.getD i 0):=getD_some (by omega)
   have no:YD c.blocks.length l (i+1)=false→QY c.blocks.length l=false:=fun h=>yg (by omega) h
   refine f51W0 c l i (rv:=QY c.blocks.length l) hE ⟨fun _=>⟨_,hx,by omega,fun hw=>no (by simp [YD,-List.getD_eq_getElem?_getD,hw]),fun hw=>?_⟩,fun h=>by omega⟩
   have inner:∀ (e k:Nat),k+e=i→(∀ j,j<k→∀ y,l[j]?=some y→¬ (l.getD i 0=y))→f51G1 E c l i k:=by
    intro e
    induction e with
    | zero =>
     intro k hk hne
     refine f51W1 c l i k (rv:=QY c.blocks.length l) hE ⟨fun h=>by omega,fun _=>⟨by omega,ih (i+1) (by omega) ?_⟩⟩
     have:((l.take i).any fun x=>l.getD i 0 == x)=false:=by
      rw [List.any_eq_false]
      intro x hxm
      obtain ⟨j,hj⟩:=List.getElem?_of_mem hxm
      rw [List.getElem?_take] at hj
      split at hj
      · simpa [-List.getD_eq_getElem?_getD] using hne j (by omega) x hj
      · cases hj
     simp only [YD,ha,hw,this]; rfl
    | succ e ihe =>
     intro k hk hne
     have hy:l[k]?=some (l.getD k 0):=getD_some (by omega)
     refine f51W1 c l i k (rv:=QY c.blocks.length l) hE ⟨fun _=>⟨_,hy,_,hx,fun heq=>no ?_,fun hneq=>⟨by omega,ihe (k+1) (by omega) fun j hj y hjy=>?_⟩⟩,fun h=>by omega⟩
     · have:((l.take i).any fun x=>l.getD i 0 == x)=true:=by
        rw [List.any_eq_true]
        exact ⟨_,List.mem_of_getElem? (i:=k) (by rw [List.getElem?_take,if_pos (by omega)]; exact hy),by simp [-List.getD_eq_getElem?_getD,heq]⟩
       simp only [YD,this]; simp
     · rcases Nat.lt_or_ge j k with h1 | h1
       · exact hne j h1 y hjy
       · rw [show j=k by omega] at hjy; rw [hy] at hjy; cases hjy; exact fun h=>hneq h.symm
   exact inner i 0 (by omega) (fun j hj=>by omega)
 exact f51W c l (rv:=QY c.blocks.length l) hE (key l.length 0 (by omega) rfl)
theorem YU (c:Cir) (l:List Int) (h:c.blocks.length≤9223372036854775807∧l.length≤9223372036854775807):Pure Try.prog 51 [.agg [.rsl (Qk c.blocks) 0 c.blocks.length,.rsl (rowI c.cars) 0 c.cars.length],.rsl (rowI l) 0 l.length] (.bool (QY c.blocks.length l)):=apart_ok c l h.1 h.2
def bkOk (b:Bk):Bool:=Qj b.time 1 30 && Qj b.hold 0 30 && (b.station || b.hold == 0)
def VJ (c:Cir):Bool:=Qj c.blocks.length 2 12 && decide (c.cars.length≤10) && c.blocks.all bkOk && QY c.blocks.length c.cars
def QK (c:Cir):Int:=if VJ c=true then 0 else 20
theorem checkC_eq {c:Cir}:QK c=0 ↔ VJ c=true:=by unfold QK; split <;> simp_all
theorem f30b:Try.f30.body=some (Qh Try.prog 30):=by kernel_rfl
theorem u30 {a c k:List AV} {r:AV} (h:Pure Try.prog 30 (a++c++k) r):Qd Try.prog (.clos 30 a k) c r:=QQ Try.func30 (by kernel_rfl) f30b h
def KV (P:Program):List Item:=kAt 400 [.code (Qh P 30)] [.b false,.stop]
def f30S0 (c:Cir) (i:Nat):St:=⟨([J,.ptr 0 0 0]++jj 17 ([.rsl (Qk c.blocks) 0 c.blocks.length,.int .i64 (c.blocks.length:Int),.int .i64 (i:Int)]++Js 45)),[⟨true,0,1,true,[.rsl (Qk c.blocks) 0 c.blocks.length,.rsl (rowI c.cars) 0 c.cars.length],false⟩]⟩
def f30G0 (E:Env) (c:Cir) (i:Nat):Prop:=G Try.prog E (KV Try.prog) (f30S0 c i )
def f30K1 (P:Program):List Item:=kAt 400 [.code (Qh P 30)] [.b false,.b false,.stop]
def f30S1 (c:Cir) (k:Nat):St:=⟨([J,.ptr 0 0 0]++jj 45 ([.rsl (rowI c.cars) 0 c.cars.length,.int .i64 (c.cars.length:Int),.int .i64 (k:Int)]++Js 17)),[⟨true,0,1,true,[.rsl (Qk c.blocks) 0 c.blocks.length,.rsl (rowI c.cars) 0 c.cars.length],false⟩]⟩
def f30G1 (E:Env) (c:Cir) (k:Nat):Prop:=G Try.prog E (f30K1 Try.prog) (f30S1 c k )
abbrev yY (c:Cir):List AV:=[.rsl (Qk c.blocks) 0 c.blocks.length,.rsl (rowI c.cars) 0 c.cars.length]
abbrev KR (be:Bk):List AV:=[.int .i64 be.time,.bool be.station,.int .i64 be.hold,.bool be.walk]
abbrev z30_3 (c:Cir) (i:Nat):List AV:=[J,.ptr 0 0 0]++jj 17 ([.rsl (Qk c.blocks) 0 c.blocks.length,.int .i64 (c.blocks.length:Int),.int .i64 ((i:Int)+1)]++Js 45)
theorem p30_start_0 (c:Cir) {E:Env} {res:AV} (hE:Qn Try.prog 30 res E) (ho:AllP [Qd Try.prog (.clos 52 [] []) [.int .i64 (c.blocks.length:Int),.int .i64 2,.int .i64 12] (.bool (Qj (c.blocks.length:Int) 2 12)),(!(Qj (c.blocks.length:Int) 2 12))=true,true=true])
 (hr:AvLe (.int .i64 20) res):G Try.prog E [.code (Qh Try.prog 30)] ⟨[.agg (yY c)]++unds (Try.f30.ntmps - 1),[]⟩ :=
 Qf (n:=400) (evs:=[.v (.bool (Qj (c.blocks.length:Int) 2 12)),.b true,.b true]) (obs:=_) hE Try.func30 Ql (by kernel_rfl) ho hr
theorem p30_start_1 (c:Cir) {E:Env} {res:AV} (hE:Qn Try.prog 30 res E) (ho:AllP [Qd Try.prog (.clos 52 [] []) [.int .i64 (c.blocks.length:Int),.int .i64 2,.int .i64 12] (.bool (Qj (c.blocks.length:Int) 2 12)),(!(Qj (c.blocks.length:Int) 2 12))=false,(decide ((c.cars.length:Int) > 10))=true])
 (hr:AvLe (.int .i64 20) res):G Try.prog E [.code (Qh Try.prog 30)] ⟨[.agg (yY c)]++unds (Try.f30.ntmps - 1),[]⟩ :=
 Qf (n:=400) (evs:=[.v (.bool (Qj (c.blocks.length:Int) 2 12)),.b false,.b true]) (obs:=_) hE Try.func30 Ql (by kernel_rfl) ho hr
theorem p30_start_2 (c:Cir) {E:Env} {rv:AV} (hE:Qn Try.prog 30 rv E) (ho:AllP [Qd Try.prog (.clos 52 [] []) [.int .i64 (c.blocks.length:Int),.int .i64 2,.int .i64 12] (.bool (Qj (c.blocks.length:Int) 2 12)),(!(Qj (c.blocks.length:Int) 2 12))=false,(decide ((c.cars.length:Int) > 10))=false])
 (hg:G Try.prog E (KV Try.prog) ⟨([J,.ptr 0 0 0]++jj 17 ([.rsl (Qk c.blocks) 0 c.blocks.length,.int .i64 (c.blocks.length:Int),.int .i64 0]++Js 45)),[⟨true,0,1,true,(yY c),false⟩]⟩):G Try.prog E [.code (Qh Try.prog 30)] ⟨[.agg (yY c)]++unds (Try.f30.ntmps - 1),[]⟩ :=
 Qg (n:=400) (ds:=[]) (cs:=[]) (live:=[1,19,20,21]) (m:=1) (evs:=[.v (.bool (Qj (c.blocks.length:Int) 2 12)),.b false,.b false,.stop]) (obs:=_) hE.2.1 (hE.nogh _) Ql (by kernel_rfl) ho hg
theorem f30W (c:Cir) {E:Env} {rv:Int} (hE:Qn Try.prog 30 (.int .i64 rv) E)
 (h:(((Qj (c.blocks.length:Int) 2 12)=false→rv=20)∧((Qj (c.blocks.length:Int) 2 12)=true→(((c.cars.length:Int) > 10→rv=20)∧(¬ ((c.cars.length:Int) > 10)→f30G0 E c 0))))):G Try.prog E [.code (Qh Try.prog 30)] ⟨[.agg [.rsl (Qk c.blocks) 0 c.blocks.length,.rsl (rowI c.cars) 0 c.cars.length]]++unds (Try.f30.ntmps - 1),[]⟩:=by
 rcases bft (!(Qj (c.blocks.length:Int) 2 12)) with hc0 | hc0
 · have h:=h.1 (bnT hc0)
   exact p30_start_0 c hE ⟨(u52 (QN (c.blocks.length:Int) 2 12)),hc0,rfl,trivial⟩ (AvLe.of_eq (by rw [h]; try rfl))
 · have h:=h.2 (bnF hc0)
   rcases bft (decide ((c.cars.length:Int) > 10)) with hc1 | hc1
   · have h:=h.1 (odt hc1)
     exact p30_start_1 c hE ⟨(u52 (QN (c.blocks.length:Int) 2 12)),hc0,hc1,trivial⟩ (AvLe.of_eq (by rw [h]; try rfl))
   · have h:=h.2 (odf hc1)
     exact p30_start_2 c hE ⟨(u52 (QN (c.blocks.length:Int) 2 12)),hc0,hc1,trivial⟩ h
theorem p30_0_0 (c:Cir) (i:Nat) (be:Bk) {E:Env} {res:AV} (hE:Qn Try.prog 30 res E) (ho:AllP [(decide ((i:Int)<(c.blocks.length:Int)))=true,0≤(i:Int)∧(i:Int)<(c.blocks.length:Int),((Qk c.blocks).drop (0+(Int.toNat (i:Int))*4)).take 4=(KR be),4≤4,Qd Try.prog (.clos 52 [] []) [.int .i64 be.time,.int .i64 1,.int .i64 30] (.bool (Qj be.time 1 30)),(!(Qj be.time 1 30))=true,true=true,true=true])
 (hr:AvLe (.int .i64 20) res):G Try.prog E (KV Try.prog) (f30S0 c i ) :=
 Qf (n:=400) (evs:=[.b true,.ld (.agg (KR be)),.v (.bool (Qj be.time 1 30)),.b true,.b true,.b true]) (obs:=_) hE Try.func30 Ql (by kernel_rfl) ho hr
theorem p30_0_1 (c:Cir) (i:Nat) (be:Bk) {E:Env} {res:AV} (hE:Qn Try.prog 30 res E) (ho:AllP [(decide ((i:Int)<(c.blocks.length:Int)))=true,0≤(i:Int)∧(i:Int)<(c.blocks.length:Int),((Qk c.blocks).drop (0+(Int.toNat (i:Int))*4)).take 4=(KR be),4≤4,Qd Try.prog (.clos 52 [] []) [.int .i64 be.time,.int .i64 1,.int .i64 30] (.bool (Qj be.time 1 30)),(!(Qj be.time 1 30))=false,Qd Try.prog (.clos 52 [] []) [.int .i64 be.hold,.int .i64 0,.int .i64 30] (.bool (Qj be.hold 0 30)),(!(Qj be.hold 0 30))=true,true=true])
 (hr:AvLe (.int .i64 20) res):G Try.prog E (KV Try.prog) (f30S0 c i ) :=
 Qf (n:=400) (evs:=[.b true,.ld (.agg (KR be)),.v (.bool (Qj be.time 1 30)),.b false,.v (.bool (Qj be.hold 0 30)),.b true,.b true]) (obs:=_) hE Try.func30 Ql (by kernel_rfl) ho hr
theorem p30_0_2 (c:Cir) (i:Nat) (be:Bk) {E:Env} {res:AV} (hE:Qn Try.prog 30 res E) (ho:AllP [(decide ((i:Int)<(c.blocks.length:Int)))=true,0≤(i:Int)∧(i:Int)<(c.blocks.length:Int),((Qk c.blocks).drop (0+(Int.toNat (i:Int))*4)).take 4=(KR be),4≤4,Qd Try.prog (.clos 52 [] []) [.int .i64 be.time,.int .i64 1,.int .i64 30] (.bool (Qj be.time 1 30)),(!(Qj be.time 1 30))=false,Qd Try.prog (.clos 52 [] []) [.int .i64 be.hold,.int .i64 0,.int .i64 30] (.bool (Qj be.hold 0 30)),(!(Qj be.hold 0 30))=false,(!be.station)=true,(be.hold != 0)=true])
 (hr:AvLe (.int .i64 20) res):G Try.prog E (KV Try.prog) (f30S0 c i ) :=
 Qf (n:=400) (evs:=[.b true,.ld (.agg (KR be)),.v (.bool (Qj be.time 1 30)),.b false,.v (.bool (Qj be.hold 0 30)),.b false,.b true,.b true]) (obs:=_) hE Try.func30 Ql (by kernel_rfl) ho hr
theorem p30_0_3 (c:Cir) (i:Nat) (be:Bk) {E:Env} {rv:AV} (hE:Qn Try.prog 30 rv E) (ho:AllP [(decide ((i:Int)<(c.blocks.length:Int)))=true,0≤(i:Int)∧(i:Int)<(c.blocks.length:Int),((Qk c.blocks).drop (0+(Int.toNat (i:Int))*4)).take 4=(KR be),4≤4,Qd Try.prog (.clos 52 [] []) [.int .i64 be.time,.int .i64 1,.int .i64 30] (.bool (Qj be.time 1 30)),(!(Qj be.time 1 30))=false,Qd Try.prog (.clos 52 [] []) [.int .i64 be.hold,.int .i64 0,.int .i64 30] (.bool (Qj be.hold 0 30)),(!(Qj be.hold 0 30))=false,(!be.station)=true,(be.hold != 0)=false,InR .i64 ((i:Int)+1)])
 (hg:G Try.prog E (KV Try.prog) ⟨(z30_3 c i),[⟨true,0,1,true,(yY c),false⟩]⟩):G Try.prog E (KV Try.prog) (f30S0 c i ) :=
 Qg (n:=400) (ds:=[]) (cs:=[]) (live:=[1,19,20,21]) (m:=1) (evs:=[.b true,.ld (.agg (KR be)),.v (.bool (Qj be.time 1 30)),.b false,.v (.bool (Qj be.hold 0 30)),.b false,.b true,.b false,.stop]) (obs:=_) hE.2.1 (hE.nogh _) Ql (by kernel_rfl) ho hg
theorem p30_0_4 (c:Cir) (i:Nat) (be:Bk) {E:Env} {rv:AV} (hE:Qn Try.prog 30 rv E) (ho:AllP [(decide ((i:Int)<(c.blocks.length:Int)))=true,0≤(i:Int)∧(i:Int)<(c.blocks.length:Int),((Qk c.blocks).drop (0+(Int.toNat (i:Int))*4)).take 4=(KR be),4≤4,Qd Try.prog (.clos 52 [] []) [.int .i64 be.time,.int .i64 1,.int .i64 30] (.bool (Qj be.time 1 30)),(!(Qj be.time 1 30))=false,Qd Try.prog (.clos 52 [] []) [.int .i64 be.hold,.int .i64 0,.int .i64 30] (.bool (Qj be.hold 0 30)),(!(Qj be.hold 0 30))=false,(!be.station)=false,false=false,InR .i64 ((i:Int)+1)])
 (hg:G Try.prog E (KV Try.prog) ⟨(z30_3 c i),[⟨true,0,1,true,(yY c),false⟩]⟩):G Try.prog E (KV Try.prog) (f30S0 c i ) :=
 Qg (n:=400) (ds:=[]) (cs:=[]) (live:=[1,19,20,21]) (m:=1) (evs:=[.b true,.ld (.agg (KR be)),.v (.bool (Qj be.time 1 30)),.b false,.v (.bool (Qj be.hold 0 30)),.b false,.b false,.b false,.stop]) (obs:=_) hE.2.1 (hE.nogh _) Ql (by kernel_rfl) ho hg
theorem p30_0_5 (c:Cir) (i:Nat) {E:Env} {rv:AV} (hE:Qn Try.prog 30 rv E) (ho:AllP [(decide ((i:Int)<(c.blocks.length:Int)))=false])
 (hg:G Try.prog E (f30K1 Try.prog) ⟨([J,.ptr 0 0 0]++jj 45 ([.rsl (rowI c.cars) 0 c.cars.length,.int .i64 (c.cars.length:Int),.int .i64 0]++Js 17)),[⟨true,0,1,true,(yY c),false⟩]⟩):G Try.prog E (KV Try.prog) (f30S0 c i ) :=
 Qg (n:=400) (ds:=[]) (cs:=[]) (live:=[1,47,48,49]) (m:=1) (evs:=[.b false,.stop]) (obs:=_) hE.2.1 (hE.nogh _) Ql (by kernel_rfl) ho hg
theorem f30W0 (c:Cir) (i:Nat) {E:Env} {rv:Int} (hE:Qn Try.prog 30 (.int .i64 rv) E)
 (h:(((i:Int)<(c.blocks.length:Int)→(∃ be:Bk,c.blocks[i]?=some be∧(((Qj be.time 1 30)=false→rv=20)∧((Qj be.time 1 30)=true→(((Qj be.hold 0 30)=false→rv=20)∧((Qj be.hold 0 30)=true→((be.station=false→((¬ (be.hold=0)→rv=20)∧(be.hold=0→((I6 ((i:Int)+1))∧f30G0 E c (i+1)))))∧(be.station=true→((I6 ((i:Int)+1))∧f30G0 E c (i+1))))))))))∧(¬ ((i:Int)<(c.blocks.length:Int))→f30G1 E c 0))):f30G0 E c i:=by
 rcases bft (decide ((i:Int)<(c.blocks.length:Int))) with hc0 | hc0
 · have h:=h.1 (odt hc0)
   obtain ⟨be,h1,h⟩:=h
   rcases bft (!(Qj be.time 1 30)) with hc1 | hc1
   · have h:=h.1 (bnT hc1)
     exact p30_0_0 c i be hE ⟨hc0,(Qp h1),(rp cBk 4 0 4 h1),(by decide),(u52 (QN be.time 1 30)),hc1,rfl,rfl,trivial⟩ (AvLe.of_eq (by rw [h]; try rfl))
   · have h:=h.2 (bnF hc1)
     rcases bft (!(Qj be.hold 0 30)) with hc2 | hc2
     · have h:=h.1 (bnT hc2)
       exact p30_0_1 c i be hE ⟨hc0,(Qp h1),(rp cBk 4 0 4 h1),(by decide),(u52 (QN be.time 1 30)),hc1,(u52 (QN be.hold 0 30)),hc2,rfl,trivial⟩ (AvLe.of_eq (by rw [h]; try rfl))
     · have h:=h.2 (bnF hc2)
       rcases bft (!be.station) with hc3 | hc3
       · have h:=h.1 (bnT hc3)
         rcases bft (be.hold != 0) with hc4 | hc4
         · have h:=h.1 (bneT hc4)
           exact p30_0_2 c i be hE ⟨hc0,(Qp h1),(rp cBk 4 0 4 h1),(by decide),(u52 (QN be.time 1 30)),hc1,(u52 (QN be.hold 0 30)),hc2,hc3,hc4,trivial⟩ (AvLe.of_eq (by rw [h]; try rfl))
         · have h:=h.2 (bneF hc4)
           obtain ⟨q11_5,h⟩:=h
           exact p30_0_3 c i be hE ⟨hc0,(Qp h1),(rp cBk 4 0 4 h1),(by decide),(u52 (QN be.time 1 30)),hc1,(u52 (QN be.hold 0 30)),hc2,hc3,hc4,q11_5,trivial⟩ h
       · have h:=h.2 (bnF hc3)
         obtain ⟨q11_4,h⟩:=h
         exact p30_0_4 c i be hE ⟨hc0,(Qp h1),(rp cBk 4 0 4 h1),(by decide),(u52 (QN be.time 1 30)),hc1,(u52 (QN be.hold 0 30)),hc2,hc3,rfl,q11_4,trivial⟩ h
 · have h:=h.2 (odf hc0)
   exact p30_0_5 c i hE ⟨hc0,trivial⟩ h
theorem p30_1_0 (c:Cir) (k:Nat) (e:Int) {E:Env} {res:AV} (hE:Qn Try.prog 30 res E) (ho:AllP [(decide ((k:Int)<(c.cars.length:Int)))=true,0≤(k:Int)∧(k:Int)<(c.cars.length:Int),((rowI c.cars).drop (0+(Int.toNat (k:Int))*1)).take 1=[.int .i64 e],Qd Try.prog (.clos 53 [] []) [.agg (yY c),.int .i64 e] (.bool (Qj e 0 (c.blocks.length - 1))),(!(Qj e 0 (c.blocks.length - 1)))=true,true=true])
 (hr:AvLe (.int .i64 20) res):G Try.prog E (f30K1 Try.prog) (f30S1 c k ) :=
 Qf (n:=400) (evs:=[.b true,.ld (.int .i64 e),.v (.bool (Qj e 0 (c.blocks.length - 1))),.b true,.b true]) (obs:=_) hE Try.func30 Ql (by kernel_rfl) ho hr
theorem p30_1_1 (c:Cir) (k:Nat) (e:Int) {E:Env} {res:AV} (hE:Qn Try.prog 30 res E) (ho:AllP [(decide ((k:Int)<(c.cars.length:Int)))=true,0≤(k:Int)∧(k:Int)<(c.cars.length:Int),((rowI c.cars).drop (0+(Int.toNat (k:Int))*1)).take 1=[.int .i64 e],Qd Try.prog (.clos 53 [] []) [.agg (yY c),.int .i64 e] (.bool (Qj e 0 (c.blocks.length - 1))),(!(Qj e 0 (c.blocks.length - 1)))=false,0≤(Int.toNat (k:Int)),(Int.toNat (k:Int))≤c.cars.length,0≤(k:Int),Qd Try.prog (.clos 54 [] []) [.rsl (rowI c.cars) 0 (Int.toNat (k:Int)),.int .i64 e] (.bool ((c.cars.take (Int.toNat (k:Int))).any (fun x=>e == x))),((c.cars.take (Int.toNat (k:Int))).any (fun x=>e == x))=true])
 (hr:AvLe (.int .i64 20) res):G Try.prog E (f30K1 Try.prog) (f30S1 c k ) :=
 Qf (n:=400) (evs:=[.b true,.ld (.int .i64 e),.v (.bool (Qj e 0 (c.blocks.length - 1))),.b false,.v (.bool ((c.cars.take (Int.toNat (k:Int))).any (fun x=>e == x))),.b true]) (obs:=_) hE Try.func30 Ql (by kernel_rfl) ho hr
theorem p30_1_2 (c:Cir) (k:Nat) (e:Int) {E:Env} {rv:AV} (hE:Qn Try.prog 30 rv E) (ho:AllP [(decide ((k:Int)<(c.cars.length:Int)))=true,0≤(k:Int)∧(k:Int)<(c.cars.length:Int),((rowI c.cars).drop (0+(Int.toNat (k:Int))*1)).take 1=[.int .i64 e],Qd Try.prog (.clos 53 [] []) [.agg (yY c),.int .i64 e] (.bool (Qj e 0 (c.blocks.length - 1))),(!(Qj e 0 (c.blocks.length - 1)))=false,0≤(Int.toNat (k:Int)),(Int.toNat (k:Int))≤c.cars.length,0≤(k:Int),Qd Try.prog (.clos 54 [] []) [.rsl (rowI c.cars) 0 (Int.toNat (k:Int)),.int .i64 e] (.bool ((c.cars.take (Int.toNat (k:Int))).any (fun x=>e == x))),((c.cars.take (Int.toNat (k:Int))).any (fun x=>e == x))=false,InR .i64 ((k:Int)+1)])
 (hg:G Try.prog E (f30K1 Try.prog) ⟨([J,.ptr 0 0 0]++jj 45 ([.rsl (rowI c.cars) 0 c.cars.length,.int .i64 (c.cars.length:Int),.int .i64 ((k:Int)+1)]++Js 17)),[⟨true,0,1,true,(yY c),false⟩]⟩):G Try.prog E (f30K1 Try.prog) (f30S1 c k ) :=
 Qg (n:=400) (ds:=[]) (cs:=[]) (live:=[1,47,48,49]) (m:=1) (evs:=[.b true,.ld (.int .i64 e),.v (.bool (Qj e 0 (c.blocks.length - 1))),.b false,.v (.bool ((c.cars.take (Int.toNat (k:Int))).any (fun x=>e == x))),.b false,.stop]) (obs:=_) hE.2.1 (hE.nogh _) Ql (by kernel_rfl) ho hg
theorem p30_1_3 (c:Cir) (k:Nat) {E:Env} {res:AV} (hE:Qn Try.prog 30 res E) (ho:AllP [(decide ((k:Int)<(c.cars.length:Int)))=false])
 (hr:AvLe (.int .i64 0) res):G Try.prog E (f30K1 Try.prog) (f30S1 c k ) :=
 Qf (n:=400) (evs:=[.b false]) (obs:=_) hE Try.func30 Ql (by kernel_rfl) ho hr
theorem f30W1 (c:Cir) (k:Nat) {E:Env} {rv:Int} (hE:Qn Try.prog 30 (.int .i64 rv) E)
 (h:(((k:Int)<(c.cars.length:Int)→(∃ e:Int,c.cars[k]?=some e∧((c.blocks.length≤9223372036854775807)∧(((Qj e 0 (c.blocks.length - 1))=false→rv=20)∧((Qj e 0 (c.blocks.length - 1))=true→((Int.toNat (k:Int))≤c.cars.length∧(((c.cars.take (Int.toNat (k:Int))).length≤9223372036854775807)∧((((c.cars.take (Int.toNat (k:Int))).any (fun x=>e == x))=true→rv=20)∧(((c.cars.take (Int.toNat (k:Int))).any (fun x=>e == x))=false→((I6 ((k:Int)+1))∧f30G1 E c (k+1)))))))))))∧(¬ ((k:Int)<(c.cars.length:Int))→rv=0))):f30G1 E c k:=by
 rcases bft (decide ((k:Int)<(c.cars.length:Int))) with hc0 | hc0
 · have h:=h.1 (odt hc0)
   obtain ⟨e,h1,h⟩:=h
   obtain ⟨h2,h⟩:=h
   rcases bft (!(Qj e 0 (c.blocks.length - 1))) with hc1 | hc1
   · have h:=h.1 (bnT hc1)
     exact p30_1_0 c k e hE ⟨hc0,(Qp h1),(rp cI 1 0 1 h1),(u53 (Vg c e h2)),hc1,rfl,trivial⟩ (AvLe.of_eq (by rw [h]; try rfl))
   · have h:=h.2 (bnF hc1)
     obtain ⟨q7_2,h⟩:=h
     obtain ⟨h3,h⟩:=h
     rcases bft ((c.cars.take (Int.toNat (k:Int))).any (fun x=>e == x)) with hc2 | hc2
     · have h:=h.1 hc2
       exact p30_1_1 c k e hE ⟨hc0,(Qp h1),(rp cI 1 0 1 h1),(u53 (Vg c e h2)),hc1,(Nat.zero_le _),q7_2,(by omega),(Qd.le (args:=[.rsl (rowI (c.cars.take (Int.toNat (k:Int)))) 0 ((c.cars.take (Int.toNat (k:Int))).length),.int .i64 e]) (u54 (Yg (c.cars.take (Int.toNat (k:Int))) e h3)) ⟨(by exact Yq cI (s:=1) (fun _=>rfl) (by omega)),⟨AvLe.of_eq rfl,trivial⟩⟩),hc2,trivial⟩ (AvLe.of_eq (by rw [h]; try rfl))
     · have h:=h.2 hc2
       obtain ⟨q11_3,h⟩:=h
       exact p30_1_2 c k e hE ⟨hc0,(Qp h1),(rp cI 1 0 1 h1),(u53 (Vg c e h2)),hc1,(Nat.zero_le _),q7_2,(by omega),(Qd.le (args:=[.rsl (rowI (c.cars.take (Int.toNat (k:Int)))) 0 ((c.cars.take (Int.toNat (k:Int))).length),.int .i64 e]) (u54 (Yg (c.cars.take (Int.toNat (k:Int))) e h3)) ⟨(by exact Yq cI (s:=1) (fun _=>rfl) (by omega)),⟨AvLe.of_eq rfl,trivial⟩⟩),hc2,q11_3,trivial⟩ h
 · have h:=h.2 (odf hc0)
   exact p30_1_3 c k hE ⟨hc0,trivial⟩ (AvLe.of_eq (by rw [h]; try rfl))
theorem f26b:Try.f26.body=some (Qh Try.prog 26):=by kernel_rfl
theorem u26 {a c k:List AV} {r:AV} (h:Pure Try.prog 26 (a++c++k) r):Qd Try.prog (.clos 26 a k) c r:=QQ Try.func26 (by kernel_rfl) f26b h
def KB (P:Program):List Item:=kAt 400 [.code (Qh P 26)] [.b false,.stop]
def f26S0 (c:Cir) (i:Nat):St:=⟨([J,.ptr 0 0 0,J,.int .i64 (i:Int)]++Js 49),[⟨true,0,1,true,[.rsl (Qk c.blocks) 0 c.blocks.length,.rsl (rowI c.cars) 0 c.cars.length],false⟩]⟩
def f26G0 (E:Env) (c:Cir) (i:Nat):Prop:=G Try.prog E (KB Try.prog) (f26S0 c i )
abbrev KS (be:Bk):List AV:=[.int .i64 be.time,.bool be.station,.int .i64 be.hold,.bool be.walk]
abbrev z26_2 (c:Cir):List AV:=[.rsl (Qk c.blocks) 0 c.blocks.length,.rsl (rowI c.cars) 0 c.cars.length]
theorem p26_start_0 (c:Cir) {E:Env} {res:AV} (hE:Qn Try.prog 26 res E) (ho:AllP [Qd Try.prog (.clos 50 [] []) [.int .i64 (c.blocks.length:Int),.int .i64 2,.int .i64 12] (.bool (Qj (c.blocks.length:Int) 2 12)),(!(Qj (c.blocks.length:Int) 2 12))=true,true=true])
 (hr:AvLe (.int .i64 20) res):G Try.prog E [.code (Qh Try.prog 26)] ⟨[.agg (z26_2 c)]++unds (Try.f26.ntmps - 1),[]⟩ :=
 Qf (n:=400) (evs:=[.v (.bool (Qj (c.blocks.length:Int) 2 12)),.b true,.b true]) (obs:=_) hE Try.func26 Ql (by kernel_rfl) ho hr
theorem p26_start_1 (c:Cir) {E:Env} {res:AV} (hE:Qn Try.prog 26 res E) (ho:AllP [Qd Try.prog (.clos 50 [] []) [.int .i64 (c.blocks.length:Int),.int .i64 2,.int .i64 12] (.bool (Qj (c.blocks.length:Int) 2 12)),(!(Qj (c.blocks.length:Int) 2 12))=false,(decide ((c.cars.length:Int) > 10))=true])
 (hr:AvLe (.int .i64 20) res):G Try.prog E [.code (Qh Try.prog 26)] ⟨[.agg (z26_2 c)]++unds (Try.f26.ntmps - 1),[]⟩ :=
 Qf (n:=400) (evs:=[.v (.bool (Qj (c.blocks.length:Int) 2 12)),.b false,.b true]) (obs:=_) hE Try.func26 Ql (by kernel_rfl) ho hr
theorem p26_start_2 (c:Cir) {E:Env} {rv:AV} (hE:Qn Try.prog 26 rv E) (ho:AllP [Qd Try.prog (.clos 50 [] []) [.int .i64 (c.blocks.length:Int),.int .i64 2,.int .i64 12] (.bool (Qj (c.blocks.length:Int) 2 12)),(!(Qj (c.blocks.length:Int) 2 12))=false,(decide ((c.cars.length:Int) > 10))=false])
 (hg:G Try.prog E (KB Try.prog) ⟨([J,.ptr 0 0 0,J,.int .i64 0]++Js 49),[⟨true,0,1,true,(z26_2 c),false⟩]⟩):G Try.prog E [.code (Qh Try.prog 26)] ⟨[.agg (z26_2 c)]++unds (Try.f26.ntmps - 1),[]⟩ :=
 Qg (n:=400) (ds:=[]) (cs:=[]) (live:=[1,3]) (m:=1) (evs:=[.v (.bool (Qj (c.blocks.length:Int) 2 12)),.b false,.b false,.stop]) (obs:=_) hE.2.1 (hE.nogh _) Ql (by kernel_rfl) ho hg
theorem f26W (c:Cir) {E:Env} {rv:Int} (hE:Qn Try.prog 26 (.int .i64 rv) E)
 (h:(((Qj (c.blocks.length:Int) 2 12)=false→rv=20)∧((Qj (c.blocks.length:Int) 2 12)=true→(((c.cars.length:Int) > 10→rv=20)∧(¬ ((c.cars.length:Int) > 10)→f26G0 E c 0))))):G Try.prog E [.code (Qh Try.prog 26)] ⟨[.agg [.rsl (Qk c.blocks) 0 c.blocks.length,.rsl (rowI c.cars) 0 c.cars.length]]++unds (Try.f26.ntmps - 1),[]⟩:=by
 rcases bft (!(Qj (c.blocks.length:Int) 2 12)) with hc0 | hc0
 · have h:=h.1 (bnT hc0)
   exact p26_start_0 c hE ⟨(u50 (Xu (c.blocks.length:Int) 2 12)),hc0,rfl,trivial⟩ (AvLe.of_eq (by rw [h]; try rfl))
 · have h:=h.2 (bnF hc0)
   rcases bft (decide ((c.cars.length:Int) > 10)) with hc1 | hc1
   · have h:=h.1 (odt hc1)
     exact p26_start_1 c hE ⟨(u50 (Xu (c.blocks.length:Int) 2 12)),hc0,hc1,trivial⟩ (AvLe.of_eq (by rw [h]; try rfl))
   · have h:=h.2 (odf hc1)
     exact p26_start_2 c hE ⟨(u50 (Xu (c.blocks.length:Int) 2 12)),hc0,hc1,trivial⟩ h
theorem p26_0_0 (c:Cir) (i:Nat) (be:Bk) {E:Env} {res:AV} (hE:Qn Try.prog 26 res E) (ho:AllP [(decide ((i:Int)<(c.blocks.length:Int)))=true,0≤(i:Int)∧(i:Int)<(c.blocks.length:Int),((Qk c.blocks).drop (0+(Int.toNat (i:Int))*4)).take 4=(KS be),4≤4,Qd Try.prog (.clos 50 [] []) [.int .i64 be.time,.int .i64 1,.int .i64 30] (.bool (Qj be.time 1 30)),(!(Qj be.time 1 30))=true,true=true,true=true])
 (hr:AvLe (.int .i64 20) res):G Try.prog E (KB Try.prog) (f26S0 c i ) :=
 Qf (n:=400) (evs:=[.b true,.auto,.ld (.agg (KS be)),.v (.bool (Qj be.time 1 30)),.b true,.b true,.b true]) (obs:=_) hE Try.func26 Ql (by kernel_rfl) ho hr
theorem p26_0_1 (c:Cir) (i:Nat) (be:Bk) {E:Env} {res:AV} (hE:Qn Try.prog 26 res E) (ho:AllP [(decide ((i:Int)<(c.blocks.length:Int)))=true,0≤(i:Int)∧(i:Int)<(c.blocks.length:Int),((Qk c.blocks).drop (0+(Int.toNat (i:Int))*4)).take 4=(KS be),4≤4,Qd Try.prog (.clos 50 [] []) [.int .i64 be.time,.int .i64 1,.int .i64 30] (.bool (Qj be.time 1 30)),(!(Qj be.time 1 30))=false,Qd Try.prog (.clos 50 [] []) [.int .i64 be.hold,.int .i64 0,.int .i64 30] (.bool (Qj be.hold 0 30)),(!(Qj be.hold 0 30))=true,true=true])
 (hr:AvLe (.int .i64 20) res):G Try.prog E (KB Try.prog) (f26S0 c i ) :=
 Qf (n:=400) (evs:=[.b true,.auto,.ld (.agg (KS be)),.v (.bool (Qj be.time 1 30)),.b false,.v (.bool (Qj be.hold 0 30)),.b true,.b true]) (obs:=_) hE Try.func26 Ql (by kernel_rfl) ho hr
theorem p26_0_2 (c:Cir) (i:Nat) (be:Bk) {E:Env} {res:AV} (hE:Qn Try.prog 26 res E) (ho:AllP [(decide ((i:Int)<(c.blocks.length:Int)))=true,0≤(i:Int)∧(i:Int)<(c.blocks.length:Int),((Qk c.blocks).drop (0+(Int.toNat (i:Int))*4)).take 4=(KS be),4≤4,Qd Try.prog (.clos 50 [] []) [.int .i64 be.time,.int .i64 1,.int .i64 30] (.bool (Qj be.time 1 30)),(!(Qj be.time 1 30))=false,Qd Try.prog (.clos 50 [] []) [.int .i64 be.hold,.int .i64 0,.int .i64 30] (.bool (Qj be.hold 0 30)),(!(Qj be.hold 0 30))=false,(!be.station)=true,(be.hold != 0)=true])
 (hr:AvLe (.int .i64 20) res):G Try.prog E (KB Try.prog) (f26S0 c i ) :=
 Qf (n:=400) (evs:=[.b true,.auto,.ld (.agg (KS be)),.v (.bool (Qj be.time 1 30)),.b false,.v (.bool (Qj be.hold 0 30)),.b false,.b true,.b true]) (obs:=_) hE Try.func26 Ql (by kernel_rfl) ho hr
theorem p26_0_3 (c:Cir) (i:Nat) (be:Bk) {E:Env} {rv:AV} (hE:Qn Try.prog 26 rv E) (ho:AllP [(decide ((i:Int)<(c.blocks.length:Int)))=true,0≤(i:Int)∧(i:Int)<(c.blocks.length:Int),((Qk c.blocks).drop (0+(Int.toNat (i:Int))*4)).take 4=(KS be),4≤4,Qd Try.prog (.clos 50 [] []) [.int .i64 be.time,.int .i64 1,.int .i64 30] (.bool (Qj be.time 1 30)),(!(Qj be.time 1 30))=false,Qd Try.prog (.clos 50 [] []) [.int .i64 be.hold,.int .i64 0,.int .i64 30] (.bool (Qj be.hold 0 30)),(!(Qj be.hold 0 30))=false,(!be.station)=true,(be.hold != 0)=false,InR .i64 ((i:Int)+1)])
 (hg:G Try.prog E (KB Try.prog) ⟨([J,.ptr 0 0 0,J,.int .i64 ((i:Int)+1)]++Js 49),[⟨true,0,1,true,(z26_2 c),false⟩]⟩):G Try.prog E (KB Try.prog) (f26S0 c i ) :=
 Qg (n:=400) (ds:=[]) (cs:=[]) (live:=[1,3]) (m:=1) (evs:=[.b true,.auto,.ld (.agg (KS be)),.v (.bool (Qj be.time 1 30)),.b false,.v (.bool (Qj be.hold 0 30)),.b false,.b true,.b false,.stop]) (obs:=_) hE.2.1 (hE.nogh _) Ql (by kernel_rfl) ho hg
theorem p26_0_4 (c:Cir) (i:Nat) (be:Bk) {E:Env} {rv:AV} (hE:Qn Try.prog 26 rv E) (ho:AllP [(decide ((i:Int)<(c.blocks.length:Int)))=true,0≤(i:Int)∧(i:Int)<(c.blocks.length:Int),((Qk c.blocks).drop (0+(Int.toNat (i:Int))*4)).take 4=(KS be),4≤4,Qd Try.prog (.clos 50 [] []) [.int .i64 be.time,.int .i64 1,.int .i64 30] (.bool (Qj be.time 1 30)),(!(Qj be.time 1 30))=false,Qd Try.prog (.clos 50 [] []) [.int .i64 be.hold,.int .i64 0,.int .i64 30] (.bool (Qj be.hold 0 30)),(!(Qj be.hold 0 30))=false,(!be.station)=false,false=false,InR .i64 ((i:Int)+1)])
 (hg:G Try.prog E (KB Try.prog) ⟨([J,.ptr 0 0 0,J,.int .i64 ((i:Int)+1)]++Js 49),[⟨true,0,1,true,(z26_2 c),false⟩]⟩):G Try.prog E (KB Try.prog) (f26S0 c i ) :=
 Qg (n:=400) (ds:=[]) (cs:=[]) (live:=[1,3]) (m:=1) (evs:=[.b true,.auto,.ld (.agg (KS be)),.v (.bool (Qj be.time 1 30)),.b false,.v (.bool (Qj be.hold 0 30)),.b false,.b false,.b false,.stop]) (obs:=_) hE.2.1 (hE.nogh _) Ql (by kernel_rfl) ho hg
theorem p26_0_5 (c:Cir) (i:Nat) {E:Env} {res:AV} (hE:Qn Try.prog 26 res E) (ho:AllP [(decide ((i:Int)<(c.blocks.length:Int)))=false,Qd Try.prog (.clos 51 [] []) [.agg (z26_2 c),.rsl (rowI c.cars) 0 c.cars.length] (.bool (QY c.blocks.length c.cars)),(!(QY c.blocks.length c.cars))=true])
 (hr:AvLe (.int .i64 20) res):G Try.prog E (KB Try.prog) (f26S0 c i ) :=
 Qf (n:=400) (evs:=[.b false,.v (.bool (QY c.blocks.length c.cars)),.b true]) (obs:=_) hE Try.func26 Ql (by kernel_rfl) ho hr
theorem p26_0_6 (c:Cir) (i:Nat) {E:Env} {res:AV} (hE:Qn Try.prog 26 res E) (ho:AllP [(decide ((i:Int)<(c.blocks.length:Int)))=false,Qd Try.prog (.clos 51 [] []) [.agg (z26_2 c),.rsl (rowI c.cars) 0 c.cars.length] (.bool (QY c.blocks.length c.cars)),(!(QY c.blocks.length c.cars))=false])
 (hr:AvLe (.int .i64 0) res):G Try.prog E (KB Try.prog) (f26S0 c i ) :=
 Qf (n:=400) (evs:=[.b false,.v (.bool (QY c.blocks.length c.cars)),.b false]) (obs:=_) hE Try.func26 Ql (by kernel_rfl) ho hr
theorem f26W0 (c:Cir) (i:Nat) {E:Env} {rv:Int} (hE:Qn Try.prog 26 (.int .i64 rv) E)
 (h:(((i:Int)<(c.blocks.length:Int)→(∃ be:Bk,c.blocks[i]?=some be∧(((Qj be.time 1 30)=false→rv=20)∧((Qj be.time 1 30)=true→(((Qj be.hold 0 30)=false→rv=20)∧((Qj be.hold 0 30)=true→((be.station=false→((¬ (be.hold=0)→rv=20)∧(be.hold=0→((I6 ((i:Int)+1))∧f26G0 E c (i+1)))))∧(be.station=true→((I6 ((i:Int)+1))∧f26G0 E c (i+1))))))))))∧(¬ ((i:Int)<(c.blocks.length:Int))→((c.blocks.length≤9223372036854775807∧c.cars.length≤9223372036854775807)∧(((QY c.blocks.length c.cars)=false→rv=20)∧((QY c.blocks.length c.cars)=true→rv=0)))))):f26G0 E c i:=by
 rcases bft (decide ((i:Int)<(c.blocks.length:Int))) with hc0 | hc0
 · have h:=h.1 (odt hc0)
   obtain ⟨be,h1,h⟩:=h
   rcases bft (!(Qj be.time 1 30)) with hc1 | hc1
   · have h:=h.1 (bnT hc1)
     exact p26_0_0 c i be hE ⟨hc0,(Qp h1),(rp cBk 4 0 4 h1),(by decide),(u50 (Xu be.time 1 30)),hc1,rfl,rfl,trivial⟩ (AvLe.of_eq (by rw [h]; try rfl))
   · have h:=h.2 (bnF hc1)
     rcases bft (!(Qj be.hold 0 30)) with hc2 | hc2
     · have h:=h.1 (bnT hc2)
       exact p26_0_1 c i be hE ⟨hc0,(Qp h1),(rp cBk 4 0 4 h1),(by decide),(u50 (Xu be.time 1 30)),hc1,(u50 (Xu be.hold 0 30)),hc2,rfl,trivial⟩ (AvLe.of_eq (by rw [h]; try rfl))
     · have h:=h.2 (bnF hc2)
       rcases bft (!be.station) with hc3 | hc3
       · have h:=h.1 (bnT hc3)
         rcases bft (be.hold != 0) with hc4 | hc4
         · have h:=h.1 (bneT hc4)
           exact p26_0_2 c i be hE ⟨hc0,(Qp h1),(rp cBk 4 0 4 h1),(by decide),(u50 (Xu be.time 1 30)),hc1,(u50 (Xu be.hold 0 30)),hc2,hc3,hc4,trivial⟩ (AvLe.of_eq (by rw [h]; try rfl))
         · have h:=h.2 (bneF hc4)
           obtain ⟨q11_5,h⟩:=h
           exact p26_0_3 c i be hE ⟨hc0,(Qp h1),(rp cBk 4 0 4 h1),(by decide),(u50 (Xu be.time 1 30)),hc1,(u50 (Xu be.hold 0 30)),hc2,hc3,hc4,q11_5,trivial⟩ h
       · have h:=h.2 (bnF hc3)
         obtain ⟨q11_4,h⟩:=h
         exact p26_0_4 c i be hE ⟨hc0,(Qp h1),(rp cBk 4 0 4 h1),(by decide),(u50 (Xu be.time 1 30)),hc1,(u50 (Xu be.hold 0 30)),hc2,hc3,rfl,q11_4,trivial⟩ h
 · have h:=h.2 (odf hc0)
   obtain ⟨h1,h⟩:=h
   rcases bft (!(QY c.blocks.length c.cars)) with hc1 | hc1
   · have h:=h.1 (bnT hc1)
     exact p26_0_5 c i hE ⟨hc0,(u51 (YU c c.cars h1)),hc1,trivial⟩ (AvLe.of_eq (by rw [h]; try rfl))
   · have h:=h.2 (bnF hc1)
     exact p26_0_6 c i hE ⟨hc0,(u51 (YU c c.cars h1)),hc1,trivial⟩ (AvLe.of_eq (by rw [h]; try rfl))
theorem VI {c:Cir} (h:VJ c=false):QK c=20:=by rw [QK,h]; rfl
theorem all_no {α:Type} {p:α→Bool} {l:List α} {i:Nat} {x:α} (hi:l[i]?=some x) (h:p x=false):l.all p=false:=by
 rw [List.all_eq_false]; exact ⟨x,List.mem_of_getElem? hi,by simp [h]⟩
theorem all_pre {α:Type} {p:α→Bool} {l:List α} (h:∀ j x,j<l.length→l[j]?=some x→p x=true):l.all p=true:=by
 rw [List.all_eq_true]
 intro x hx
 obtain ⟨j,hj⟩:=List.getElem?_of_mem hx
 exact h j x (List.getElem?_eq_some_iff.1 hj).1 hj
theorem checkLoop (c:Cir) (n:Nat) (Q:Nat→Prop) (hn:n=c.blocks.length) (bad:(∃ (i:Nat) (x:Bk),c.blocks[i]?=some x∧bkOk x=false)→QK c=20)
 (h0:∀ i,i<c.blocks.length→(∀ x,c.blocks[i]?=some x→(bkOk x=false→QK c=20)∧(bkOk x=true→Q (i+1)))→Q i) (h1:c.blocks.all bkOk=true→Q c.blocks.length):Q 0:=by
 have key:∀ (d i:Nat),i+d=c.blocks.length→(∀ j x,j<i→c.blocks[j]?=some x→bkOk x=true)→Q i:=by
  intro d
  induction d with
  | zero=>intro i hi hp; rw [show i=c.blocks.length by omega]; exact h1 (all_pre fun j x hj hx=>hp j x (by omega) hx)
  | succ d ih =>
   intro i hi hp
   refine h0 i (by omega) fun x hx=>⟨fun hb=>bad ⟨i,x,hx,hb⟩,fun hb=>ih (i+1) (by omega) fun j y hj hy=>?_⟩
   rcases Nat.lt_or_ge j i with h | h
   · exact hp j y h hy
   · rw [show j=i by omega,hx] at hy; cases hy; exact hb
 exact key c.blocks.length 0 (by omega) (fun j x hj=>by omega)
theorem YK (c:Cir) (h:c.blocks.length≤9223372036854775807∧c.cars.length≤9223372036854775807):Pure Try.prog 30 [.agg [.rsl (Qk c.blocks) 0 c.blocks.length,.rsl (rowI c.cars) 0 c.cars.length]] (.int .i64 (QK c)):=QT Try.func30 f30b fun E hE=>by
 refine f30W c (rv:=QK c) hE ⟨fun hw=>VI (by simp [VJ,hw]),fun hw=>⟨fun hc=>VI (by simp [VJ,show ¬ (c.cars.length≤10) by omega]),fun hc=>?_⟩⟩
 have cars:∀ (hb:c.blocks.all bkOk=true) (d k:Nat),k+d=c.cars.length→YD c.blocks.length c.cars k=true→f30G1 E c k:=by
  intro hb d
  induction d with
  | zero=>intro k hk ha; exact f30W1 c k (rv:=QK c) hE ⟨fun h=>by omega,fun _=>by rw [QK,if_pos]; simp only [VJ,hw,hb,QY,show c.cars.length=k by omega,ha]; simp; omega⟩
  | succ d ih =>
   intro k hk ha
   have hx:c.cars[k]?=some (c.cars.getD k 0):=getD_some (by omega)
   have no:YD c.blocks.length c.cars (k+1)=false→QK c=20:=fun h=>VI (by simp [VJ,QY,yg (show k+1≤c.cars.length by omega) h])
   refine f30W1 c k (rv:=QK c) hE ⟨fun _=>⟨_,hx,h.1,fun hb1=>no (by simp [YD,-List.getD_eq_getElem?_getD,hb1]),fun hb1=>⟨by omega,by simp only [List.length_take]; omega,fun ha1=>no ?_,fun ha1=>⟨by omega,ih (k+1) (by omega) ?_⟩⟩⟩,fun h=>by omega⟩
   · rw [Int.toNat_natCast] at ha1; simp only [YD,ha1]; simp
   · rw [Int.toNat_natCast] at ha1; simp only [YD,ha,hb1,ha1]; rfl
 refine checkLoop c c.blocks.length (fun i=>f30G0 E c i) rfl (fun ⟨i,x,hx,hb⟩=>VI (by simp [VJ,all_no hx hb])) (fun i hi hq=>?_) (fun hb=>?_)
 · have hx:c.blocks[i]?=some c.blocks[i]:=List.getElem?_eq_getElem hi
   obtain ⟨q1,q2⟩:=hq _ hx
   generalize c.blocks[i]=x at hx q1 q2
   refine f30W0 c i (rv:=QK c) hE ⟨fun _=>⟨x,hx,fun h1=>q1 (by simp [bkOk,h1]),fun h1=>⟨fun h2=>q1 (by simp [bkOk,h2]),fun h2=>⟨fun h3=>⟨fun h4=>q1 (by simp [bkOk,h3,h4]),fun h4=>⟨by omega,q2 (by rw [bkOk,h1,h2]; simp [h4])⟩⟩,fun h3=>⟨by omega,q2 (by simp [bkOk,h1,h2,h3])⟩⟩⟩⟩,fun h=>by omega⟩
 · exact f30W0 c _ (rv:=QK c) hE ⟨fun h=>by omega,fun _=>cars hb c.cars.length 0 (by omega) rfl⟩
theorem KJ (c:Cir) (h:c.blocks.length≤9223372036854775807∧c.cars.length≤9223372036854775807):Pure Try.prog 26 [.agg [.rsl (Qk c.blocks) 0 c.blocks.length,.rsl (rowI c.cars) 0 c.cars.length]] (.int .i64 (QK c)):=QT Try.func26 f26b fun E hE=>by
 refine f26W c (rv:=QK c) hE ⟨fun hw=>VI (by simp [VJ,hw]),fun hw=>⟨fun hc=>VI (by simp [VJ,show ¬ (c.cars.length≤10) by omega]),fun hc=>?_⟩⟩
 refine checkLoop c c.blocks.length (fun i=>f26G0 E c i) rfl (fun ⟨i,x,hx,hb⟩=>VI (by simp [VJ,all_no hx hb])) (fun i hi hq=>?_) (fun hb=>?_)
 · have hx:c.blocks[i]?=some c.blocks[i]:=List.getElem?_eq_getElem hi
   obtain ⟨q1,q2⟩:=hq _ hx
   generalize c.blocks[i]=x at hx q1 q2
   refine f26W0 c i (rv:=QK c) hE ⟨fun _=>⟨x,hx,fun h1=>q1 (by simp [bkOk,h1]),fun h1=>⟨fun h2=>q1 (by simp [bkOk,h2]),fun h2=>⟨fun h3=>⟨fun h4=>q1 (by simp [bkOk,h3,h4]),fun h4=>⟨by omega,q2 (by rw [bkOk,h1,h2]; simp [h4])⟩⟩,fun h3=>⟨by omega,q2 (by simp [bkOk,h1,h2,h3])⟩⟩⟩⟩,fun h=>by omega⟩
 · refine f26W0 c _ (rv:=QK c) hE ⟨fun h=>by omega,fun _=>⟨h,fun ha=>VI (by simp [VJ,ha]),fun ha=>?_⟩⟩
   rw [QK,if_pos]; simp only [VJ,hw,hb,ha]; simp; omega
end Go.Proofs.Ytgdfkjjgdkejfaa
namespace Go.Proofs.Ytgdfkjjgdkejfaa
open Go Ax
open Go.Proofs
def XW (nb:Nat) (ticks:Int) (p:Prs):Bool:=Qj p.at_ 0 (ticks - 1) && Qj p.kind 1 3 && Qj p.block 0 ((nb:Int) - 1)
def Yk (nb:Nat) (x:Flt):Bool:=Qj x.frm 0 500 && Qj x.kind 1 3 && Qj x.chan 0 1 && Qj x.block 0 ((nb:Int) - 1) && Qj x.val 0 1
theorem f66b:Try.f66.body=some (Qh Try.prog 66):=by kernel_rfl
theorem u66 {a c k:List AV} {r:AV} (h:Pure Try.prog 66 (a++c++k) r):Qd Try.prog (.clos 66 a k) c r:=QQ Try.func66 (by kernel_rfl) f66b h
abbrev z66_1 (p:Prs) (ticks:Int) (c:Cir):List AV:=[.agg [.int .i64 p.at_,.int .i64 p.kind,.int .i64 p.block],.rptr [.int .i64 ticks] 0,.rptr [.rsl (Qk c.blocks) 0 c.blocks.length,.rsl (rowI c.cars) 0 c.cars.length] 0]
theorem p66_start_0 (p:Prs) (ticks:Int) (c:Cir) {E:Env} {res:AV} (hE:Qn Try.prog 66 res E) (ho:AllP [InR .i64 (ticks - 1),Qd Try.prog (.clos 52 [] []) [.int .i64 p.at_,.int .i64 0,.int .i64 (ticks - 1)] (.bool (Qj p.at_ 0 (ticks - 1))),(!(Qj p.at_ 0 (ticks - 1)))=true,true=true])
 (hr:AvLe (.bool true) res):G Try.prog E [.code (Qh Try.prog 66)] ⟨(z66_1 p ticks c)++unds (Try.f66.ntmps - 3),[]⟩ :=
 Qf (n:=400) (evs:=[.v (.bool (Qj p.at_ 0 (ticks - 1))),.b true,.b true]) (obs:=_) hE Try.func66 Ql (by kernel_rfl) ho hr
theorem p66_start_1 (p:Prs) (ticks:Int) (c:Cir) {E:Env} {res:AV} (hE:Qn Try.prog 66 res E) (ho:AllP [InR .i64 (ticks - 1),Qd Try.prog (.clos 52 [] []) [.int .i64 p.at_,.int .i64 0,.int .i64 (ticks - 1)] (.bool (Qj p.at_ 0 (ticks - 1))),(!(Qj p.at_ 0 (ticks - 1)))=false,Qd Try.prog (.clos 52 [] []) [.int .i64 p.kind,.int .i64 1,.int .i64 3] (.bool (Qj p.kind 1 3)),(!(Qj p.kind 1 3))=true])
 (hr:AvLe (.bool true) res):G Try.prog E [.code (Qh Try.prog 66)] ⟨(z66_1 p ticks c)++unds (Try.f66.ntmps - 3),[]⟩ :=
 Qf (n:=400) (evs:=[.v (.bool (Qj p.at_ 0 (ticks - 1))),.b false,.v (.bool (Qj p.kind 1 3)),.b true]) (obs:=_) hE Try.func66 Ql (by kernel_rfl) ho hr
theorem p66_start_2 (p:Prs) (ticks:Int) (c:Cir) {E:Env} {res:AV} (hE:Qn Try.prog 66 res E) (ho:AllP [InR .i64 (ticks - 1),Qd Try.prog (.clos 52 [] []) [.int .i64 p.at_,.int .i64 0,.int .i64 (ticks - 1)] (.bool (Qj p.at_ 0 (ticks - 1))),(!(Qj p.at_ 0 (ticks - 1)))=false,Qd Try.prog (.clos 52 [] []) [.int .i64 p.kind,.int .i64 1,.int .i64 3] (.bool (Qj p.kind 1 3)),(!(Qj p.kind 1 3))=false,Qd Try.prog (.clos 53 [] []) [.agg [.rsl (Qk c.blocks) 0 c.blocks.length,.rsl (rowI c.cars) 0 c.cars.length],.int .i64 p.block] (.bool (Qj p.block 0 (c.blocks.length - 1)))])
 (hr:AvLe (.bool (!(Qj p.block 0 (c.blocks.length - 1)))) res):G Try.prog E [.code (Qh Try.prog 66)] ⟨(z66_1 p ticks c)++unds (Try.f66.ntmps - 3),[]⟩ :=
 Qf (n:=400) (evs:=[.v (.bool (Qj p.at_ 0 (ticks - 1))),.b false,.v (.bool (Qj p.kind 1 3)),.b false,.v (.bool (Qj p.block 0 (c.blocks.length - 1)))]) (obs:=_) hE Try.func66 Ql (by kernel_rfl) ho hr
theorem f66W (p:Prs) (ticks:Int) (c:Cir) {E:Env} {rv:Bool} (hE:Qn Try.prog 66 (.bool rv) E)
 (h:((I6 (ticks - 1))∧(((Qj p.at_ 0 (ticks - 1))=false→rv=true)∧((Qj p.at_ 0 (ticks - 1))=true→(((Qj p.kind 1 3)=false→rv=true)∧((Qj p.kind 1 3)=true→((c.blocks.length≤9223372036854775807)∧rv=(!(Qj p.block 0 (c.blocks.length - 1)))))))))):G Try.prog E [.code (Qh Try.prog 66)] ⟨[.agg [.int .i64 p.at_,.int .i64 p.kind,.int .i64 p.block],.rptr [.int .i64 ticks] 0,.rptr [.rsl (Qk c.blocks) 0 c.blocks.length,.rsl (rowI c.cars) 0 c.cars.length] 0]++unds (Try.f66.ntmps - 3),[]⟩:=by
 obtain ⟨q0_0,h⟩:=h
 rcases bft (!(Qj p.at_ 0 (ticks - 1))) with hc0 | hc0
 · have h:=h.1 (bnT hc0)
   exact p66_start_0 p ticks c hE ⟨q0_0,(u52 (QN p.at_ 0 (ticks - 1))),hc0,rfl,trivial⟩ (AvLe.of_eq (by rw [h]; try rfl))
 · have h:=h.2 (bnF hc0)
   rcases bft (!(Qj p.kind 1 3)) with hc1 | hc1
   · have h:=h.1 (bnT hc1)
     exact p66_start_1 p ticks c hE ⟨q0_0,(u52 (QN p.at_ 0 (ticks - 1))),hc0,(u52 (QN p.kind 1 3)),hc1,trivial⟩ (AvLe.of_eq (by rw [h]; try rfl))
   · have h:=h.2 (bnF hc1)
     obtain ⟨h1,h⟩:=h
     exact p66_start_2 p ticks c hE ⟨q0_0,(u52 (QN p.at_ 0 (ticks - 1))),hc0,(u52 (QN p.kind 1 3)),hc1,(u53 (Vg c p.block h1)),trivial⟩ (AvLe.of_eq (by rw [h]; try rfl))
theorem f67b:Try.f67.body=some (Qh Try.prog 67):=by kernel_rfl
theorem u67 {a c k:List AV} {r:AV} (h:Pure Try.prog 67 (a++c++k) r):Qd Try.prog (.clos 67 a k) c r:=QQ Try.func67 (by kernel_rfl) f67b h
abbrev z67_2 (c:Cir):List AV:=[.rsl (Qk c.blocks) 0 c.blocks.length,.rsl (rowI c.cars) 0 c.cars.length]
abbrev z67_1 (x:Flt) (c:Cir):List AV:=[.agg [.int .i64 x.frm,.int .i64 x.kind,.int .i64 x.chan,.int .i64 x.block,.int .i64 x.val],.rptr (z67_2 c) 0]
theorem p67_start_0 (x:Flt) (c:Cir) {E:Env} {res:AV} (hE:Qn Try.prog 67 res E) (ho:AllP [Qd Try.prog (.clos 52 [] []) [.int .i64 x.frm,.int .i64 0,.int .i64 500] (.bool (Qj x.frm 0 500)),(!(Qj x.frm 0 500))=true,true=true,true=true,true=true])
 (hr:AvLe (.bool true) res):G Try.prog E [.code (Qh Try.prog 67)] ⟨(z67_1 x c)++unds (Try.f67.ntmps - 2),[]⟩ :=
 Qf (n:=400) (evs:=[.v (.bool (Qj x.frm 0 500)),.b true,.b true,.b true,.b true]) (obs:=_) hE Try.func67 Ql (by kernel_rfl) ho hr
theorem p67_start_1 (x:Flt) (c:Cir) {E:Env} {res:AV} (hE:Qn Try.prog 67 res E) (ho:AllP [Qd Try.prog (.clos 52 [] []) [.int .i64 x.frm,.int .i64 0,.int .i64 500] (.bool (Qj x.frm 0 500)),(!(Qj x.frm 0 500))=false,Qd Try.prog (.clos 52 [] []) [.int .i64 x.kind,.int .i64 1,.int .i64 3] (.bool (Qj x.kind 1 3)),(!(Qj x.kind 1 3))=true,true=true,true=true])
 (hr:AvLe (.bool true) res):G Try.prog E [.code (Qh Try.prog 67)] ⟨(z67_1 x c)++unds (Try.f67.ntmps - 2),[]⟩ :=
 Qf (n:=400) (evs:=[.v (.bool (Qj x.frm 0 500)),.b false,.v (.bool (Qj x.kind 1 3)),.b true,.b true,.b true]) (obs:=_) hE Try.func67 Ql (by kernel_rfl) ho hr
theorem p67_start_2 (x:Flt) (c:Cir) {E:Env} {res:AV} (hE:Qn Try.prog 67 res E) (ho:AllP [Qd Try.prog (.clos 52 [] []) [.int .i64 x.frm,.int .i64 0,.int .i64 500] (.bool (Qj x.frm 0 500)),(!(Qj x.frm 0 500))=false,Qd Try.prog (.clos 52 [] []) [.int .i64 x.kind,.int .i64 1,.int .i64 3] (.bool (Qj x.kind 1 3)),(!(Qj x.kind 1 3))=false,Qd Try.prog (.clos 52 [] []) [.int .i64 x.chan,.int .i64 0,.int .i64 1] (.bool (Qj x.chan 0 1)),(!(Qj x.chan 0 1))=true,true=true])
 (hr:AvLe (.bool true) res):G Try.prog E [.code (Qh Try.prog 67)] ⟨(z67_1 x c)++unds (Try.f67.ntmps - 2),[]⟩ :=
 Qf (n:=400) (evs:=[.v (.bool (Qj x.frm 0 500)),.b false,.v (.bool (Qj x.kind 1 3)),.b false,.v (.bool (Qj x.chan 0 1)),.b true,.b true]) (obs:=_) hE Try.func67 Ql (by kernel_rfl) ho hr
theorem p67_start_3 (x:Flt) (c:Cir) {E:Env} {res:AV} (hE:Qn Try.prog 67 res E) (ho:AllP [Qd Try.prog (.clos 52 [] []) [.int .i64 x.frm,.int .i64 0,.int .i64 500] (.bool (Qj x.frm 0 500)),(!(Qj x.frm 0 500))=false,Qd Try.prog (.clos 52 [] []) [.int .i64 x.kind,.int .i64 1,.int .i64 3] (.bool (Qj x.kind 1 3)),(!(Qj x.kind 1 3))=false,Qd Try.prog (.clos 52 [] []) [.int .i64 x.chan,.int .i64 0,.int .i64 1] (.bool (Qj x.chan 0 1)),(!(Qj x.chan 0 1))=false,Qd Try.prog (.clos 53 [] []) [.agg (z67_2 c),.int .i64 x.block] (.bool (Qj x.block 0 (c.blocks.length - 1))),(!(Qj x.block 0 (c.blocks.length - 1)))=true])
 (hr:AvLe (.bool true) res):G Try.prog E [.code (Qh Try.prog 67)] ⟨(z67_1 x c)++unds (Try.f67.ntmps - 2),[]⟩ :=
 Qf (n:=400) (evs:=[.v (.bool (Qj x.frm 0 500)),.b false,.v (.bool (Qj x.kind 1 3)),.b false,.v (.bool (Qj x.chan 0 1)),.b false,.v (.bool (Qj x.block 0 (c.blocks.length - 1))),.b true]) (obs:=_) hE Try.func67 Ql (by kernel_rfl) ho hr
theorem p67_start_4 (x:Flt) (c:Cir) {E:Env} {res:AV} (hE:Qn Try.prog 67 res E) (ho:AllP [Qd Try.prog (.clos 52 [] []) [.int .i64 x.frm,.int .i64 0,.int .i64 500] (.bool (Qj x.frm 0 500)),(!(Qj x.frm 0 500))=false,Qd Try.prog (.clos 52 [] []) [.int .i64 x.kind,.int .i64 1,.int .i64 3] (.bool (Qj x.kind 1 3)),(!(Qj x.kind 1 3))=false,Qd Try.prog (.clos 52 [] []) [.int .i64 x.chan,.int .i64 0,.int .i64 1] (.bool (Qj x.chan 0 1)),(!(Qj x.chan 0 1))=false,Qd Try.prog (.clos 53 [] []) [.agg (z67_2 c),.int .i64 x.block] (.bool (Qj x.block 0 (c.blocks.length - 1))),(!(Qj x.block 0 (c.blocks.length - 1)))=false,Qd Try.prog (.clos 52 [] []) [.int .i64 x.val,.int .i64 0,.int .i64 1] (.bool (Qj x.val 0 1))])
 (hr:AvLe (.bool (!(Qj x.val 0 1))) res):G Try.prog E [.code (Qh Try.prog 67)] ⟨(z67_1 x c)++unds (Try.f67.ntmps - 2),[]⟩ :=
 Qf (n:=400) (evs:=[.v (.bool (Qj x.frm 0 500)),.b false,.v (.bool (Qj x.kind 1 3)),.b false,.v (.bool (Qj x.chan 0 1)),.b false,.v (.bool (Qj x.block 0 (c.blocks.length - 1))),.b false,.v (.bool (Qj x.val 0 1))]) (obs:=_) hE Try.func67 Ql (by kernel_rfl) ho hr
theorem f67W (x:Flt) (c:Cir) {E:Env} {rv:Bool} (hE:Qn Try.prog 67 (.bool rv) E)
 (h:(((Qj x.frm 0 500)=false→rv=true)∧((Qj x.frm 0 500)=true→(((Qj x.kind 1 3)=false→rv=true)∧((Qj x.kind 1 3)=true→(((Qj x.chan 0 1)=false→rv=true)∧((Qj x.chan 0 1)=true→((c.blocks.length≤9223372036854775807)∧(((Qj x.block 0 (c.blocks.length - 1))=false→rv=true)∧((Qj x.block 0 (c.blocks.length - 1))=true→rv=(!(Qj x.val 0 1)))))))))))):G Try.prog E [.code (Qh Try.prog 67)] ⟨[.agg [.int .i64 x.frm,.int .i64 x.kind,.int .i64 x.chan,.int .i64 x.block,.int .i64 x.val],.rptr [.rsl (Qk c.blocks) 0 c.blocks.length,.rsl (rowI c.cars) 0 c.cars.length] 0]++unds (Try.f67.ntmps - 2),[]⟩:=by
 rcases bft (!(Qj x.frm 0 500)) with hc0 | hc0
 · have h:=h.1 (bnT hc0)
   exact p67_start_0 x c hE ⟨(u52 (QN x.frm 0 500)),hc0,rfl,rfl,rfl,trivial⟩ (AvLe.of_eq (by rw [h]; try rfl))
 · have h:=h.2 (bnF hc0)
   rcases bft (!(Qj x.kind 1 3)) with hc1 | hc1
   · have h:=h.1 (bnT hc1)
     exact p67_start_1 x c hE ⟨(u52 (QN x.frm 0 500)),hc0,(u52 (QN x.kind 1 3)),hc1,rfl,rfl,trivial⟩ (AvLe.of_eq (by rw [h]; try rfl))
   · have h:=h.2 (bnF hc1)
     rcases bft (!(Qj x.chan 0 1)) with hc2 | hc2
     · have h:=h.1 (bnT hc2)
       exact p67_start_2 x c hE ⟨(u52 (QN x.frm 0 500)),hc0,(u52 (QN x.kind 1 3)),hc1,(u52 (QN x.chan 0 1)),hc2,rfl,trivial⟩ (AvLe.of_eq (by rw [h]; try rfl))
     · have h:=h.2 (bnF hc2)
       obtain ⟨h1,h⟩:=h
       rcases bft (!(Qj x.block 0 (c.blocks.length - 1))) with hc3 | hc3
       · have h:=h.1 (bnT hc3)
         exact p67_start_3 x c hE ⟨(u52 (QN x.frm 0 500)),hc0,(u52 (QN x.kind 1 3)),hc1,(u52 (QN x.chan 0 1)),hc2,(u53 (Vg c x.block h1)),hc3,trivial⟩ (AvLe.of_eq (by rw [h]; try rfl))
       · have h:=h.2 (bnF hc3)
         exact p67_start_4 x c hE ⟨(u52 (QN x.frm 0 500)),hc0,(u52 (QN x.kind 1 3)),hc1,(u52 (QN x.chan 0 1)),hc2,(u53 (Vg c x.block h1)),hc3,(u52 (QN x.val 0 1)),trivial⟩ (AvLe.of_eq (by rw [h]; try rfl))
theorem badP_ok (p:Prs) (ticks:Int) (c:Cir) (h:c.blocks.length≤9223372036854775807∧(0≤ticks∧ticks≤500)):Pure Try.prog 66 [.agg [.int .i64 p.at_,.int .i64 p.kind,.int .i64 p.block],.rptr [.int .i64 ticks] 0,.rptr [.rsl (Qk c.blocks) 0 c.blocks.length,.rsl (rowI c.cars) 0 c.cars.length] 0] (.bool (!XW c.blocks.length ticks p)):=QT Try.func66 f66b fun E hE =>
 f66W p ticks c (rv:=!XW c.blocks.length ticks p) hE ⟨by omega,fun h1=>by simp [XW,h1],fun h1=>⟨fun h2=>by simp [XW,h2],fun h2=>⟨h.1,by simp [XW,h1,h2]⟩⟩⟩
theorem badF_ok (x:Flt) (c:Cir) (h:c.blocks.length≤9223372036854775807):Pure Try.prog 67 [.agg [.int .i64 x.frm,.int .i64 x.kind,.int .i64 x.chan,.int .i64 x.block,.int .i64 x.val],.rptr [.rsl (Qk c.blocks) 0 c.blocks.length,.rsl (rowI c.cars) 0 c.cars.length] 0] (.bool (!Yk c.blocks.length x)):=QT Try.func67 f67b fun E hE =>
 f67W x c (rv:=!Yk c.blocks.length x) hE ⟨fun h1=>by simp [Yk,h1],fun h1=>⟨fun h2=>by simp [Yk,h2],fun h2=>⟨fun h3=>by simp [Yk,h3],fun h3=>⟨h,fun h4=>by simp [Yk,h4],fun h4=>by simp [Yk,h1,h2,h3,h4]⟩⟩⟩⟩
theorem f87b:Try.f87.body=some (Qh Try.prog 87):=by kernel_rfl
theorem u87 {a c k:List AV} {r:AV} (h:Pure Try.prog 87 (a++c++k) r):Qd Try.prog (.clos 87 a k) c r:=QQ Try.func87 (by kernel_rfl) f87b h
def f87K0 (P:Program):List Item:=kAt 400 [.code (Qh P 87)] [.stop]
def f87S0 (l:(List Prs)) (ticks:Int) (c:Cir) (i:Nat):St:=⟨([.rsl (QV l) 0 l.length,.clos 66 [] [.rptr [.int .i64 ticks] 0,.rptr [.rsl (Qk c.blocks) 0 c.blocks.length,.rsl (rowI c.cars) 0 c.cars.length] 0]]++jj 5 ([.int .i64 (l.length:Int),.int .i64 (i:Int)]++Js 10)),[]⟩
def f87G0 (E:Env) (l:(List Prs)) (ticks:Int) (c:Cir) (i:Nat):Prop:=G Try.prog E (f87K0 Try.prog) (f87S0 l ticks c i )
abbrev z87_1 (ticks:Int) (c:Cir):List AV:=[.rptr [.int .i64 ticks] 0,.rptr [.rsl (Qk c.blocks) 0 c.blocks.length,.rsl (rowI c.cars) 0 c.cars.length] 0]
abbrev z87_2 (pe:Prs):List AV:=[.int .i64 pe.at_,.int .i64 pe.kind,.int .i64 pe.block]
theorem p87_start_0 (l:(List Prs)) (ticks:Int) (c:Cir) {E:Env} {rv:AV} (hE:Qn Try.prog 87 rv E) (ho:AllP [])
 (hg:G Try.prog E (f87K0 Try.prog) ⟨([.rsl (QV l) 0 l.length,.clos 66 [] (z87_1 ticks c)]++jj 5 ([.int .i64 (l.length:Int),.int .i64 0]++Js 10)),[]⟩):G Try.prog E [.code (Qh Try.prog 87)] ⟨[.rsl (QV l) 0 l.length,.clos 66 [] (z87_1 ticks c)]++unds (Try.f87.ntmps - 2),[]⟩ :=
 Qg (n:=400) (ds:=[]) (cs:=[]) (live:=[0,1,7,8]) (m:=0) (evs:=[.stop]) (obs:=_) hE.2.1 (hE.nogh _) Ql (by kernel_rfl) ho hg
theorem f87W (l:(List Prs)) (ticks:Int) (c:Cir) {E:Env} {rv:Int} (hE:Qn Try.prog 87 (.int .i64 rv) E)
 (h:f87G0 E l ticks c 0):G Try.prog E [.code (Qh Try.prog 87)] ⟨[.rsl (QV l) 0 l.length,.clos 66 [] [.rptr [.int .i64 ticks] 0,.rptr [.rsl (Qk c.blocks) 0 c.blocks.length,.rsl (rowI c.cars) 0 c.cars.length] 0]]++unds (Try.f87.ntmps - 2),[]⟩:=by
 exact p87_start_0 l ticks c hE trivial h
theorem p87_0_0 (l:(List Prs)) (ticks:Int) (c:Cir) (i:Nat) (pe:Prs) {E:Env} {res:AV} (hE:Qn Try.prog 87 res E) (ho:AllP [(decide ((i:Int)<(l.length:Int)))=true,0≤(i:Int)∧(i:Int)<(l.length:Int),((QV l).drop (0+(Int.toNat (i:Int))*3)).take 3=(z87_2 pe),Qd Try.prog (.clos 66 [] (z87_1 ticks c)) [.agg (z87_2 pe)] (.bool (!XW c.blocks.length ticks pe)),(!XW c.blocks.length ticks pe)=true])
 (hr:AvLe (.int .i64 (i:Int)) res):G Try.prog E (f87K0 Try.prog) (f87S0 l ticks c i ) :=
 Qf (n:=400) (evs:=[.b true,.ld (.agg (z87_2 pe)),.v (.bool (!XW c.blocks.length ticks pe)),.b true]) (obs:=_) hE Try.func87 Ql (by kernel_rfl) ho hr
theorem p87_0_1 (l:(List Prs)) (ticks:Int) (c:Cir) (i:Nat) (pe:Prs) {E:Env} {rv:AV} (hE:Qn Try.prog 87 rv E) (ho:AllP [(decide ((i:Int)<(l.length:Int)))=true,0≤(i:Int)∧(i:Int)<(l.length:Int),((QV l).drop (0+(Int.toNat (i:Int))*3)).take 3=(z87_2 pe),Qd Try.prog (.clos 66 [] (z87_1 ticks c)) [.agg (z87_2 pe)] (.bool (!XW c.blocks.length ticks pe)),(!XW c.blocks.length ticks pe)=false,InR .i64 ((i:Int)+1)])
 (hg:G Try.prog E (f87K0 Try.prog) ⟨([.rsl (QV l) 0 l.length,.clos 66 [] (z87_1 ticks c)]++jj 5 ([.int .i64 (l.length:Int),.int .i64 ((i:Int)+1)]++Js 10)),[]⟩):G Try.prog E (f87K0 Try.prog) (f87S0 l ticks c i ) :=
 Qg (n:=400) (ds:=[]) (cs:=[]) (live:=[0,1,7,8]) (m:=0) (evs:=[.b true,.ld (.agg (z87_2 pe)),.v (.bool (!XW c.blocks.length ticks pe)),.b false,.stop]) (obs:=_) hE.2.1 (hE.nogh _) Ql (by kernel_rfl) ho hg
theorem p87_0_2 (l:(List Prs)) (ticks:Int) (c:Cir) (i:Nat) {E:Env} {res:AV} (hE:Qn Try.prog 87 res E) (ho:AllP [(decide ((i:Int)<(l.length:Int)))=false])
 (hr:AvLe (.int .i64 (-1)) res):G Try.prog E (f87K0 Try.prog) (f87S0 l ticks c i ) :=
 Qf (n:=400) (evs:=[.b false]) (obs:=_) hE Try.func87 Ql (by kernel_rfl) ho hr
theorem f87W0 (l:(List Prs)) (ticks:Int) (c:Cir) (i:Nat) {E:Env} {rv:Int} (hE:Qn Try.prog 87 (.int .i64 rv) E)
 (h:(((i:Int)<(l.length:Int)→(∃ pe:Prs,l[i]?=some pe∧((c.blocks.length≤9223372036854775807∧(0≤ticks∧ticks≤500))∧(((!XW c.blocks.length ticks pe)=true→rv=(i:Int))∧((!XW c.blocks.length ticks pe)=false→((I6 ((i:Int)+1))∧f87G0 E l ticks c (i+1)))))))∧(¬ ((i:Int)<(l.length:Int))→rv=(-1)))):f87G0 E l ticks c i:=by
 rcases bft (decide ((i:Int)<(l.length:Int))) with hc0 | hc0
 · have h:=h.1 (odt hc0)
   obtain ⟨pe,h1,h⟩:=h
   obtain ⟨h2,h⟩:=h
   rcases bft (!XW c.blocks.length ticks pe) with hc1 | hc1
   · have h:=h.1 hc1
     exact p87_0_0 l ticks c i pe hE ⟨hc0,(Qp h1),(rp cPrs 3 0 3 h1),(u66 (badP_ok pe ticks c h2)),hc1,trivial⟩ (AvLe.of_eq (by rw [h]; try rfl))
   · have h:=h.2 hc1
     obtain ⟨q6_2,h⟩:=h
     exact p87_0_1 l ticks c i pe hE ⟨hc0,(Qp h1),(rp cPrs 3 0 3 h1),(u66 (badP_ok pe ticks c h2)),hc1,q6_2,trivial⟩ h
 · have h:=h.2 (odf hc0)
   exact p87_0_2 l ticks c i hE ⟨hc0,trivial⟩ (AvLe.of_eq (by rw [h]; try rfl))
theorem f88b:Try.f88.body=some (Qh Try.prog 88):=by kernel_rfl
theorem u88 {a c k:List AV} {r:AV} (h:Pure Try.prog 88 (a++c++k) r):Qd Try.prog (.clos 88 a k) c r:=QQ Try.func88 (by kernel_rfl) f88b h
def f88K0 (P:Program):List Item:=kAt 400 [.code (Qh P 88)] [.stop]
def f88S0 (l:(List Flt)) (c:Cir) (i:Nat):St:=⟨([.rsl (Qo l) 0 l.length,.clos 67 [] [.rptr [.rsl (Qk c.blocks) 0 c.blocks.length,.rsl (rowI c.cars) 0 c.cars.length] 0]]++jj 5 ([.int .i64 (l.length:Int),.int .i64 (i:Int)]++Js 10)),[]⟩
def f88G0 (E:Env) (l:(List Flt)) (c:Cir) (i:Nat):Prop:=G Try.prog E (f88K0 Try.prog) (f88S0 l c i )
abbrev z88_1 (fe:Flt):List AV:=[.int .i64 fe.frm,.int .i64 fe.kind,.int .i64 fe.chan,.int .i64 fe.block,.int .i64 fe.val]
abbrev z88_2 (c:Cir):List AV:=[.rptr [.rsl (Qk c.blocks) 0 c.blocks.length,.rsl (rowI c.cars) 0 c.cars.length] 0]
theorem p88_start_0 (l:(List Flt)) (c:Cir) {E:Env} {rv:AV} (hE:Qn Try.prog 88 rv E) (ho:AllP [])
 (hg:G Try.prog E (f88K0 Try.prog) ⟨([.rsl (Qo l) 0 l.length,.clos 67 [] (z88_2 c)]++jj 5 ([.int .i64 (l.length:Int),.int .i64 0]++Js 10)),[]⟩):G Try.prog E [.code (Qh Try.prog 88)] ⟨[.rsl (Qo l) 0 l.length,.clos 67 [] (z88_2 c)]++unds (Try.f88.ntmps - 2),[]⟩ :=
 Qg (n:=400) (ds:=[]) (cs:=[]) (live:=[0,1,7,8]) (m:=0) (evs:=[.stop]) (obs:=_) hE.2.1 (hE.nogh _) Ql (by kernel_rfl) ho hg
theorem f88W (l:(List Flt)) (c:Cir) {E:Env} {rv:Int} (hE:Qn Try.prog 88 (.int .i64 rv) E)
 (h:f88G0 E l c 0):G Try.prog E [.code (Qh Try.prog 88)] ⟨[.rsl (Qo l) 0 l.length,.clos 67 [] [.rptr [.rsl (Qk c.blocks) 0 c.blocks.length,.rsl (rowI c.cars) 0 c.cars.length] 0]]++unds (Try.f88.ntmps - 2),[]⟩:=by
 exact p88_start_0 l c hE trivial h
theorem p88_0_0 (l:(List Flt)) (c:Cir) (i:Nat) (fe:Flt) {E:Env} {res:AV} (hE:Qn Try.prog 88 res E) (ho:AllP [(decide ((i:Int)<(l.length:Int)))=true,0≤(i:Int)∧(i:Int)<(l.length:Int),((Qo l).drop (0+(Int.toNat (i:Int))*5)).take 5=(z88_1 fe),Qd Try.prog (.clos 67 [] (z88_2 c)) [.agg (z88_1 fe)] (.bool (!Yk c.blocks.length fe)),(!Yk c.blocks.length fe)=true])
 (hr:AvLe (.int .i64 (i:Int)) res):G Try.prog E (f88K0 Try.prog) (f88S0 l c i ) :=
 Qf (n:=400) (evs:=[.b true,.ld (.agg (z88_1 fe)),.v (.bool (!Yk c.blocks.length fe)),.b true]) (obs:=_) hE Try.func88 Ql (by kernel_rfl) ho hr
theorem p88_0_1 (l:(List Flt)) (c:Cir) (i:Nat) (fe:Flt) {E:Env} {rv:AV} (hE:Qn Try.prog 88 rv E) (ho:AllP [(decide ((i:Int)<(l.length:Int)))=true,0≤(i:Int)∧(i:Int)<(l.length:Int),((Qo l).drop (0+(Int.toNat (i:Int))*5)).take 5=(z88_1 fe),Qd Try.prog (.clos 67 [] (z88_2 c)) [.agg (z88_1 fe)] (.bool (!Yk c.blocks.length fe)),(!Yk c.blocks.length fe)=false,InR .i64 ((i:Int)+1)])
 (hg:G Try.prog E (f88K0 Try.prog) ⟨([.rsl (Qo l) 0 l.length,.clos 67 [] (z88_2 c)]++jj 5 ([.int .i64 (l.length:Int),.int .i64 ((i:Int)+1)]++Js 10)),[]⟩):G Try.prog E (f88K0 Try.prog) (f88S0 l c i ) :=
 Qg (n:=400) (ds:=[]) (cs:=[]) (live:=[0,1,7,8]) (m:=0) (evs:=[.b true,.ld (.agg (z88_1 fe)),.v (.bool (!Yk c.blocks.length fe)),.b false,.stop]) (obs:=_) hE.2.1 (hE.nogh _) Ql (by kernel_rfl) ho hg
theorem p88_0_2 (l:(List Flt)) (c:Cir) (i:Nat) {E:Env} {res:AV} (hE:Qn Try.prog 88 res E) (ho:AllP [(decide ((i:Int)<(l.length:Int)))=false])
 (hr:AvLe (.int .i64 (-1)) res):G Try.prog E (f88K0 Try.prog) (f88S0 l c i ) :=
 Qf (n:=400) (evs:=[.b false]) (obs:=_) hE Try.func88 Ql (by kernel_rfl) ho hr
theorem f88W0 (l:(List Flt)) (c:Cir) (i:Nat) {E:Env} {rv:Int} (hE:Qn Try.prog 88 (.int .i64 rv) E)
 (h:(((i:Int)<(l.length:Int)→(∃ fe:Flt,l[i]?=some fe∧((c.blocks.length≤9223372036854775807)∧(((!Yk c.blocks.length fe)=true→rv=(i:Int))∧((!Yk c.blocks.length fe)=false→((I6 ((i:Int)+1))∧f88G0 E l c (i+1)))))))∧(¬ ((i:Int)<(l.length:Int))→rv=(-1)))):f88G0 E l c i:=by
 rcases bft (decide ((i:Int)<(l.length:Int))) with hc0 | hc0
 · have h:=h.1 (odt hc0)
   obtain ⟨fe,h1,h⟩:=h
   obtain ⟨h2,h⟩:=h
   rcases bft (!Yk c.blocks.length fe) with hc1 | hc1
   · have h:=h.1 hc1
     exact p88_0_0 l c i fe hE ⟨hc0,(Qp h1),(rp cFlt 5 0 5 h1),(u67 (badF_ok fe c h2)),hc1,trivial⟩ (AvLe.of_eq (by rw [h]; try rfl))
   · have h:=h.2 hc1
     obtain ⟨q6_2,h⟩:=h
     exact p88_0_1 l c i fe hE ⟨hc0,(Qp h1),(rp cFlt 5 0 5 h1),(u67 (badF_ok fe c h2)),hc1,q6_2,trivial⟩ h
 · have h:=h.2 (odf hc0)
   exact p88_0_2 l c i hE ⟨hc0,trivial⟩ (AvLe.of_eq (by rw [h]; try rfl))
theorem idxP_ok (l:List Prs) (ticks:Int) (c:Cir) (h:(c.blocks.length≤9223372036854775807∧(0≤ticks∧ticks≤500))∧l.length≤9223372036854775807):Pure Try.prog 87 [.rsl (QV l) 0 l.length,.clos 66 [] [.rptr [.int .i64 ticks] 0,.rptr [.rsl (Qk c.blocks) 0 c.blocks.length,.rsl (rowI c.cars) 0 c.cars.length] 0]] (.int .i64 (idxG (fun p=>!XW c.blocks.length ticks p) l)):=QT Try.func87 f87b fun E hE=>by
 refine f87W l ticks c hE (VW (fun p=>!XW c.blocks.length ticks p) l l.length 0 (by omega) (fun j x hj=>by omega) (fun i=>f87G0 E l ticks c i) (fun i hi' h1 h2=>?_) (fun _ h2=>?_))
 · have hx:l[i]?=some l[i]:=List.getElem?_eq_getElem hi'
   exact f87W0 l ticks c i hE ⟨fun _=>⟨_,hx,h.1,fun hp=>h1 _ hx hp,fun hp=>⟨by omega,h2 _ hx hp⟩⟩,fun h=>by omega⟩
 · exact f87W0 l ticks c _ hE ⟨fun h=>by omega,fun _=>h2⟩
theorem idxF_ok (l:List Flt) (c:Cir) (h:(c.blocks.length≤9223372036854775807)∧l.length≤9223372036854775807):Pure Try.prog 88 [.rsl (Qo l) 0 l.length,.clos 67 [] [.rptr [.rsl (Qk c.blocks) 0 c.blocks.length,.rsl (rowI c.cars) 0 c.cars.length] 0]] (.int .i64 (idxG (fun x=>!Yk c.blocks.length x) l)):=QT Try.func88 f88b fun E hE=>by
 refine f88W l c hE (VW (fun x=>!Yk c.blocks.length x) l l.length 0 (by omega) (fun j x hj=>by omega) (fun i=>f88G0 E l c i) (fun i hi' h1 h2=>?_) (fun _ h2=>?_))
 · have hx:l[i]?=some l[i]:=List.getElem?_eq_getElem hi'
   exact f88W0 l c i hE ⟨fun _=>⟨_,hx,h.1,fun hp=>h1 _ hx hp,fun hp=>⟨by omega,h2 _ hx hp⟩⟩,fun h=>by omega⟩
 · exact f88W0 l c _ hE ⟨fun h=>by omega,fun _=>h2⟩
theorem f68b:Try.f68.body=some (Qh Try.prog 68):=by kernel_rfl
theorem u68 {a c k:List AV} {r:AV} (h:Pure Try.prog 68 (a++c++k) r):Qd Try.prog (.clos 68 a k) c r:=QQ Try.func68 (by kernel_rfl) f68b h
theorem p68_start_0 (l:(List Prs)) (ticks:Int) (c:Cir) {E:Env} {res:AV} (hE:Qn Try.prog 68 res E) (ho:AllP [Qd Try.prog (.clos 87 [] []) [.rsl (QV l) 0 l.length,.clos 66 [] [.rptr [.int .i64 ticks] 0,.rptr [.rsl (Qk c.blocks) 0 c.blocks.length,.rsl (rowI c.cars) 0 c.cars.length] 0]] (.int .i64 (idxG (fun p=>!XW c.blocks.length ticks p) l))])
 (hr:AvLe (.bool (decide ((idxG (fun p=>!XW c.blocks.length ticks p) l)≥0))) res):G Try.prog E [.code (Qh Try.prog 68)] ⟨[.rsl (QV l) 0 l.length,.clos 66 [] [.rptr [.int .i64 ticks] 0,.rptr [.rsl (Qk c.blocks) 0 c.blocks.length,.rsl (rowI c.cars) 0 c.cars.length] 0]]++unds (Try.f68.ntmps - 2),[]⟩ :=
 Qf (n:=400) (evs:=[.v (.int .i64 (idxG (fun p=>!XW c.blocks.length ticks p) l))]) (obs:=_) hE Try.func68 Ql (by kernel_rfl) ho hr
theorem f68W (l:(List Prs)) (ticks:Int) (c:Cir) {E:Env} {rv:Bool} (hE:Qn Try.prog 68 (.bool rv) E)
 (h:(((c.blocks.length≤9223372036854775807∧(0≤ticks∧ticks≤500))∧l.length≤9223372036854775807)∧rv=(decide ((idxG (fun p=>!XW c.blocks.length ticks p) l)≥0)))):G Try.prog E [.code (Qh Try.prog 68)] ⟨[.rsl (QV l) 0 l.length,.clos 66 [] [.rptr [.int .i64 ticks] 0,.rptr [.rsl (Qk c.blocks) 0 c.blocks.length,.rsl (rowI c.cars) 0 c.cars.length] 0]]++unds (Try.f68.ntmps - 2),[]⟩:=by
 obtain ⟨h1,h⟩:=h
 exact p68_start_0 l ticks c hE ⟨(u87 (idxP_ok l ticks c h1)),trivial⟩ (AvLe.of_eq (by rw [h]; try rfl))
theorem f69b:Try.f69.body=some (Qh Try.prog 69):=by kernel_rfl
theorem u69 {a c k:List AV} {r:AV} (h:Pure Try.prog 69 (a++c++k) r):Qd Try.prog (.clos 69 a k) c r:=QQ Try.func69 (by kernel_rfl) f69b h
theorem p69_start_0 (l:(List Flt)) (c:Cir) {E:Env} {res:AV} (hE:Qn Try.prog 69 res E) (ho:AllP [Qd Try.prog (.clos 88 [] []) [.rsl (Qo l) 0 l.length,.clos 67 [] [.rptr [.rsl (Qk c.blocks) 0 c.blocks.length,.rsl (rowI c.cars) 0 c.cars.length] 0]] (.int .i64 (idxG (fun x=>!Yk c.blocks.length x) l))])
 (hr:AvLe (.bool (decide ((idxG (fun x=>!Yk c.blocks.length x) l)≥0))) res):G Try.prog E [.code (Qh Try.prog 69)] ⟨[.rsl (Qo l) 0 l.length,.clos 67 [] [.rptr [.rsl (Qk c.blocks) 0 c.blocks.length,.rsl (rowI c.cars) 0 c.cars.length] 0]]++unds (Try.f69.ntmps - 2),[]⟩ :=
 Qf (n:=400) (evs:=[.v (.int .i64 (idxG (fun x=>!Yk c.blocks.length x) l))]) (obs:=_) hE Try.func69 Ql (by kernel_rfl) ho hr
theorem f69W (l:(List Flt)) (c:Cir) {E:Env} {rv:Bool} (hE:Qn Try.prog 69 (.bool rv) E)
 (h:(((c.blocks.length≤9223372036854775807)∧l.length≤9223372036854775807)∧rv=(decide ((idxG (fun x=>!Yk c.blocks.length x) l)≥0)))):G Try.prog E [.code (Qh Try.prog 69)] ⟨[.rsl (Qo l) 0 l.length,.clos 67 [] [.rptr [.rsl (Qk c.blocks) 0 c.blocks.length,.rsl (rowI c.cars) 0 c.cars.length] 0]]++unds (Try.f69.ntmps - 2),[]⟩:=by
 obtain ⟨h1,h⟩:=h
 exact p69_start_0 l c hE ⟨(u88 (idxF_ok l c h1)),trivial⟩ (AvLe.of_eq (by rw [h]; try rfl))
theorem Qba (l:List Prs) (ticks:Int) (c:Cir) (h:(c.blocks.length≤9223372036854775807∧(0≤ticks∧ticks≤500))∧l.length≤9223372036854775807):Pure Try.prog 68 [.rsl (QV l) 0 l.length,.clos 66 [] [.rptr [.int .i64 ticks] 0,.rptr [.rsl (Qk c.blocks) 0 c.blocks.length,.rsl (rowI c.cars) 0 c.cars.length] 0]] (.bool (l.any fun p=>!XW c.blocks.length ticks p)):=QT Try.func68 f68b fun E hE =>
 f68W l ticks c hE ⟨h,(WJ _ l).symm⟩
theorem anyF_ok (l:List Flt) (c:Cir) (h:(c.blocks.length≤9223372036854775807)∧l.length≤9223372036854775807):Pure Try.prog 69 [.rsl (Qo l) 0 l.length,.clos 67 [] [.rptr [.rsl (Qk c.blocks) 0 c.blocks.length,.rsl (rowI c.cars) 0 c.cars.length] 0]] (.bool (l.any fun x=>!Yk c.blocks.length x)):=QT Try.func69 f69b fun E hE =>
 f69W l c hE ⟨h,(WJ _ l).symm⟩
theorem f15b:Try.f15.body=some (Qh Try.prog 15):=by kernel_rfl
theorem u15 {a c k:List AV} {r:AV} (h:Pure Try.prog 15 (a++c++k) r):Qd Try.prog (.clos 15 a k) c r:=QQ Try.func15 (by kernel_rfl) f15b h
theorem p15_start_0 (c:Cir) {E:Env} {res:AV} (hE:Qn Try.prog 15 res E) (ho:AllP [(decide ((c.blocks.length:Int) > 15))=true])
 (hr:AvLe (.bool true) res):G Try.prog E [.code (Qh Try.prog 15)] ⟨[.agg [.rsl (Qk c.blocks) 0 c.blocks.length,.rsl (rowI c.cars) 0 c.cars.length]]++unds (Try.f15.ntmps - 1),[]⟩ :=
 Qf (n:=400) (evs:=[.b true]) (obs:=_) hE Try.func15 Ql (by kernel_rfl) ho hr
theorem p15_start_1 (c:Cir) {E:Env} {res:AV} (hE:Qn Try.prog 15 res E) (ho:AllP [(decide ((c.blocks.length:Int) > 15))=false])
 (hr:AvLe (.bool (decide ((c.cars.length:Int) > 12))) res):G Try.prog E [.code (Qh Try.prog 15)] ⟨[.agg [.rsl (Qk c.blocks) 0 c.blocks.length,.rsl (rowI c.cars) 0 c.cars.length]]++unds (Try.f15.ntmps - 1),[]⟩ :=
 Qf (n:=400) (evs:=[.b false]) (obs:=_) hE Try.func15 Ql (by kernel_rfl) ho hr
theorem f15W (c:Cir) {E:Env} {rv:Bool} (hE:Qn Try.prog 15 (.bool rv) E)
 (h:(((c.blocks.length:Int) > 15→rv=true)∧(¬ ((c.blocks.length:Int) > 15)→rv=(decide ((c.cars.length:Int) > 12))))):G Try.prog E [.code (Qh Try.prog 15)] ⟨[.agg [.rsl (Qk c.blocks) 0 c.blocks.length,.rsl (rowI c.cars) 0 c.cars.length]]++unds (Try.f15.ntmps - 1),[]⟩:=by
 rcases bft (decide ((c.blocks.length:Int) > 15)) with hc0 | hc0
 · have h:=h.1 (odt hc0)
   exact p15_start_0 c hE ⟨hc0,trivial⟩ (AvLe.of_eq (by rw [h]; try rfl))
 · have h:=h.2 (odf hc0)
   exact p15_start_1 c hE ⟨hc0,trivial⟩ (AvLe.of_eq (by rw [h]; try rfl))
theorem f18b:Try.f18.body=some (Qh Try.prog 18):=by kernel_rfl
theorem u18 {a c k:List AV} {r:AV} (h:Pure Try.prog 18 (a++c++k) r):Qd Try.prog (.clos 18 a k) c r:=QQ Try.func18 (by kernel_rfl) f18b h
theorem p18_start_0 (c:Cir) {E:Env} {res:AV} (hE:Qn Try.prog 18 res E) (ho:AllP [0=0,0=0,(0+c.blocks.length)≤2147483648,((Qk c.blocks).drop 0).take (c.blocks.length*4)=(Qk c.blocks),(Qk c.blocks).length=(c.blocks.length*4),noRefs (Qk c.blocks)=true,0=0,0=0,(0+c.cars.length)≤2147483648,((rowI c.cars).drop 0).take (c.cars.length*1)=(rowI c.cars),(rowI c.cars).length=(c.cars.length*1),noRefs (rowI c.cars)=true,2≤2,1=1,1=1])
 (hr:AvLe (.agg [.rsl (Qk c.blocks) 0 (0+c.blocks.length),.rsl (rowI c.cars) 0 (0+c.cars.length)]) res):G Try.prog E [.code (Qh Try.prog 18)] ⟨[.agg [.rsl (Qk c.blocks) 0 c.blocks.length,.rsl (rowI c.cars) 0 c.cars.length]]++unds (Try.f18.ntmps - 1),[]⟩ :=
 Qf (n:=400) (evs:=[.cs (Qk c.blocks),.cs (rowI c.cars)]) (obs:=_) hE Try.func18 Ql (by kernel_rfl) ho hr
theorem f18W (c:Cir) {E:Env} {rv:Cir} (hE:Qn Try.prog 18 (.agg [.rsl (Qk rv.blocks) 0 rv.blocks.length,.rsl (rowI rv.cars) 0 rv.cars.length]) E)
 (h:((0+c.blocks.length)≤2147483648∧((0+c.cars.length)≤2147483648∧rv=c))):G Try.prog E [.code (Qh Try.prog 18)] ⟨[.agg [.rsl (Qk c.blocks) 0 c.blocks.length,.rsl (rowI c.cars) 0 c.cars.length]]++unds (Try.f18.ntmps - 1),[]⟩:=by
 obtain ⟨h1,h⟩:=h
 obtain ⟨h2,h⟩:=h
 exact p18_start_0 c hE ⟨rfl,rfl,h1,(by exact QL cBk (fun _=>rfl) c.blocks),(by exact Qv cBk (fun _=>rfl) c.blocks),(by exact QS cBk (fun _=>rfl) c.blocks),rfl,rfl,h2,(by exact QL cI (fun _=>rfl) c.cars),(by exact Qv cI (fun _=>rfl) c.cars),(by exact QS cI (fun _=>rfl) c.cars),(by decide),rfl,rfl,trivial⟩ (AvLe.of_eq (by rw [h]; rw [(show AV.rsl (Qk c.blocks) 0 (0+c.blocks.length)=AV.rsl (Qk c.blocks) 0 c.blocks.length from by rw [show (0+c.blocks.length)=c.blocks.length from by simp])]; rw [(show AV.rsl (rowI c.cars) 0 (0+c.cars.length)=AV.rsl (rowI c.cars) 0 c.cars.length from by rw [show (0+c.cars.length)=c.cars.length from by simp])]; try rfl))
theorem f42b:Try.f42.body=some (Qh Try.prog 42):=by kernel_rfl
theorem u42 {a c k:List AV} {r:AV} (h:Pure Try.prog 42 (a++c++k) r):Qd Try.prog (.clos 42 a k) c r:=QQ Try.func42 (by kernel_rfl) f42b h
theorem p42_start_0 {E:Env} {res:AV} (hE:Qn Try.prog 42 res E) (ho:AllP [2≤2,0=0,0=0])
 (hr:AvLe (.agg [.rsl [.int .i64 2,.bool true,.int .i64 3,.bool true,.int .i64 3,.bool false,.int .i64 0,.bool false,.int .i64 2,.bool false,.int .i64 0,.bool true,.int .i64 1,.bool false,.int .i64 0,.bool false] 0 4,.rsl [.int .i64 0,.int .i64 2] 0 2]) res):G Try.prog E [.code (Qh Try.prog 42)] ⟨[]++unds (Try.f42.ntmps - 0),[]⟩ :=
 Qf (n:=400) (evs:=[]) (obs:=_) hE Try.func42 Ql (by kernel_rfl) ho hr
theorem f42W {E:Env} {rv:Cir} (hE:Qn Try.prog 42 (.agg [.rsl (Qk rv.blocks) 0 rv.blocks.length,.rsl (rowI rv.cars) 0 rv.cars.length]) E)
 (h:rv=(⟨[(⟨2,true,3,true⟩:Bk),(⟨3,false,0,false⟩:Bk),(⟨2,false,0,true⟩:Bk),(⟨1,false,0,false⟩:Bk)],[0,2]⟩:Cir)):G Try.prog E [.code (Qh Try.prog 42)] ⟨[]++unds (Try.f42.ntmps - 0),[]⟩:=by
 exact p42_start_0 hE ⟨(by decide),rfl,rfl,trivial⟩ (AvLe.of_eq (by rw [h]; try rfl))
def farB (c:Cir):Bool:=decide (c.blocks.length > 15) || decide (c.cars.length > 12)
theorem QU (c:Cir):Pure Try.prog 15 [.agg [.rsl (Qk c.blocks) 0 c.blocks.length,.rsl (rowI c.cars) 0 c.cars.length]] (.bool (farB c)):=QT Try.func15 f15b fun E hE =>
 f15W c (rv:=farB c) hE ⟨fun h=>by rw [farB,decide_eq_true (show c.blocks.length > 15 by omega)]; rfl,fun h=>by rw [farB,decide_eq_false (show ¬ c.blocks.length > 15 by omega),Bool.false_or,decide_eq_decide]; omega⟩
theorem QC (c:Cir) (h:c.blocks.length≤2147483648∧c.cars.length≤2147483648):Pure Try.prog 18 [.agg [.rsl (Qk c.blocks) 0 c.blocks.length,.rsl (rowI c.cars) 0 c.cars.length]] (.agg [.rsl (Qk c.blocks) 0 c.blocks.length,.rsl (rowI c.cars) 0 c.cars.length]):=QT Try.func18 f18b fun E hE=>f18W c (rv:=c) hE ⟨by omega,by omega,rfl⟩
def exC:Cir:=⟨[⟨2,true,3,true⟩,⟨3,false,0,false⟩,⟨2,false,0,true⟩,⟨1,false,0,false⟩],[0,2]⟩
theorem XH:Pure Try.prog 42 [] (.agg [.rsl (Qk exC.blocks) 0 exC.blocks.length,.rsl (rowI exC.cars) 0 exC.cars.length]):=QT Try.func42 f42b fun E hE=>f42W (rv:=exC) hE rfl
theorem f43b:Try.f43.body=some (Qh Try.prog 43):=by kernel_rfl
theorem u43 {a c k:List AV} {r:AV} (h:Pure Try.prog 43 (a++c++k) r):Qd Try.prog (.clos 43 a k) c r:=QQ Try.func43 (by kernel_rfl) f43b h
abbrev yW (c:Cir):List AV:=[.rsl (Qk c.blocks) 0 c.blocks.length,.rsl (rowI c.cars) 0 c.cars.length]
abbrev z43_2 (c:Cir) (ticks:Int) (l:(List Prs)) (f:(List Flt)):List AV:=[.agg (yW c),.int .i64 ticks,.rsl (QV l) 0 l.length,.rsl (Qo f) 0 f.length]
abbrev z43_3 (l:(List Prs)) (ticks:Int) (c:Cir):List AV:=[.rsl (QV l) 0 l.length,.clos 66 [] [.rptr [.int .i64 ticks] 0,.rptr (yW c) 0]]
theorem p43_start_0 (c:Cir) (ticks:Int) (l:(List Prs)) (f:(List Flt)) {E:Env} {res:AV} (hE:Qn Try.prog 43 res E) (ho:AllP [Qd Try.prog (.clos 30 [] []) [.agg (yW c)] (.int .i64 (QK c)),((QK c) != 0)=true])
 (hr:AvLe (.int .i64 (QK c)) res):G Try.prog E [.code (Qh Try.prog 43)] ⟨(z43_2 c ticks l f)++unds (Try.f43.ntmps - 4),[]⟩ :=
 Qf (n:=400) (evs:=[.v (.int .i64 (QK c)),.b true]) (obs:=_) hE Try.func43 Ql (by kernel_rfl) ho hr
theorem p43_start_1 (c:Cir) (ticks:Int) (l:(List Prs)) (f:(List Flt)) {E:Env} {res:AV} (hE:Qn Try.prog 43 res E) (ho:AllP [Qd Try.prog (.clos 30 [] []) [.agg (yW c)] (.int .i64 (QK c)),((QK c) != 0)=false,Qd Try.prog (.clos 52 [] []) [.int .i64 ticks,.int .i64 0,.int .i64 500] (.bool (Qj ticks 0 500)),(!(Qj ticks 0 500))=true])
 (hr:AvLe (.int .i64 1) res):G Try.prog E [.code (Qh Try.prog 43)] ⟨(z43_2 c ticks l f)++unds (Try.f43.ntmps - 4),[]⟩ :=
 Qf (n:=400) (evs:=[.v (.int .i64 (QK c)),.b false,.v (.bool (Qj ticks 0 500)),.b true]) (obs:=_) hE Try.func43 Ql (by kernel_rfl) ho hr
theorem p43_start_2 (c:Cir) (ticks:Int) (l:(List Prs)) (f:(List Flt)) {E:Env} {res:AV} (hE:Qn Try.prog 43 res E) (ho:AllP [Qd Try.prog (.clos 30 [] []) [.agg (yW c)] (.int .i64 (QK c)),((QK c) != 0)=false,Qd Try.prog (.clos 52 [] []) [.int .i64 ticks,.int .i64 0,.int .i64 500] (.bool (Qj ticks 0 500)),(!(Qj ticks 0 500))=false,(decide ((l.length:Int) > 200))=true])
 (hr:AvLe (.int .i64 2) res):G Try.prog E [.code (Qh Try.prog 43)] ⟨(z43_2 c ticks l f)++unds (Try.f43.ntmps - 4),[]⟩ :=
 Qf (n:=400) (evs:=[.v (.int .i64 (QK c)),.b false,.v (.bool (Qj ticks 0 500)),.b false,.b true]) (obs:=_) hE Try.func43 Ql (by kernel_rfl) ho hr
theorem p43_start_3 (c:Cir) (ticks:Int) (l:(List Prs)) (f:(List Flt)) {E:Env} {res:AV} (hE:Qn Try.prog 43 res E) (ho:AllP [Qd Try.prog (.clos 30 [] []) [.agg (yW c)] (.int .i64 (QK c)),((QK c) != 0)=false,Qd Try.prog (.clos 52 [] []) [.int .i64 ticks,.int .i64 0,.int .i64 500] (.bool (Qj ticks 0 500)),(!(Qj ticks 0 500))=false,(decide ((l.length:Int) > 200))=false,Qd Try.prog (.clos 68 [] []) (z43_3 l ticks c) (.bool (l.any (fun p=>!XW c.blocks.length ticks p))),(l.any (fun p=>!XW c.blocks.length ticks p))=true])
 (hr:AvLe (.int .i64 21) res):G Try.prog E [.code (Qh Try.prog 43)] ⟨(z43_2 c ticks l f)++unds (Try.f43.ntmps - 4),[]⟩ :=
 Qf (n:=400) (evs:=[.v (.int .i64 (QK c)),.b false,.v (.bool (Qj ticks 0 500)),.b false,.b false,.v (.bool (l.any (fun p=>!XW c.blocks.length ticks p))),.b true]) (obs:=_) hE Try.func43 Ql (by kernel_rfl) ho hr
theorem p43_start_4 (c:Cir) (ticks:Int) (l:(List Prs)) (f:(List Flt)) {E:Env} {res:AV} (hE:Qn Try.prog 43 res E) (ho:AllP [Qd Try.prog (.clos 30 [] []) [.agg (yW c)] (.int .i64 (QK c)),((QK c) != 0)=false,Qd Try.prog (.clos 52 [] []) [.int .i64 ticks,.int .i64 0,.int .i64 500] (.bool (Qj ticks 0 500)),(!(Qj ticks 0 500))=false,(decide ((l.length:Int) > 200))=false,Qd Try.prog (.clos 68 [] []) (z43_3 l ticks c) (.bool (l.any (fun p=>!XW c.blocks.length ticks p))),(l.any (fun p=>!XW c.blocks.length ticks p))=false,(decide ((f.length:Int) > 5))=true])
 (hr:AvLe (.int .i64 2) res):G Try.prog E [.code (Qh Try.prog 43)] ⟨(z43_2 c ticks l f)++unds (Try.f43.ntmps - 4),[]⟩ :=
 Qf (n:=400) (evs:=[.v (.int .i64 (QK c)),.b false,.v (.bool (Qj ticks 0 500)),.b false,.b false,.v (.bool (l.any (fun p=>!XW c.blocks.length ticks p))),.b false,.b true]) (obs:=_) hE Try.func43 Ql (by kernel_rfl) ho hr
theorem p43_start_5 (c:Cir) (ticks:Int) (l:(List Prs)) (f:(List Flt)) {E:Env} {res:AV} (hE:Qn Try.prog 43 res E) (ho:AllP [Qd Try.prog (.clos 30 [] []) [.agg (yW c)] (.int .i64 (QK c)),((QK c) != 0)=false,Qd Try.prog (.clos 52 [] []) [.int .i64 ticks,.int .i64 0,.int .i64 500] (.bool (Qj ticks 0 500)),(!(Qj ticks 0 500))=false,(decide ((l.length:Int) > 200))=false,Qd Try.prog (.clos 68 [] []) (z43_3 l ticks c) (.bool (l.any (fun p=>!XW c.blocks.length ticks p))),(l.any (fun p=>!XW c.blocks.length ticks p))=false,(decide ((f.length:Int) > 5))=false,Qd Try.prog (.clos 69 [] []) [.rsl (Qo f) 0 f.length,.clos 67 [] [.rptr (yW c) 0]] (.bool (f.any (fun x=>!Yk c.blocks.length x))),(f.any (fun x=>!Yk c.blocks.length x))=true])
 (hr:AvLe (.int .i64 22) res):G Try.prog E [.code (Qh Try.prog 43)] ⟨(z43_2 c ticks l f)++unds (Try.f43.ntmps - 4),[]⟩ :=
 Qf (n:=400) (evs:=[.v (.int .i64 (QK c)),.b false,.v (.bool (Qj ticks 0 500)),.b false,.b false,.v (.bool (l.any (fun p=>!XW c.blocks.length ticks p))),.b false,.b false,.v (.bool (f.any (fun x=>!Yk c.blocks.length x))),.b true]) (obs:=_) hE Try.func43 Ql (by kernel_rfl) ho hr
theorem p43_start_6 (c:Cir) (ticks:Int) (l:(List Prs)) (f:(List Flt)) {E:Env} {res:AV} (hE:Qn Try.prog 43 res E) (ho:AllP [Qd Try.prog (.clos 30 [] []) [.agg (yW c)] (.int .i64 (QK c)),((QK c) != 0)=false,Qd Try.prog (.clos 52 [] []) [.int .i64 ticks,.int .i64 0,.int .i64 500] (.bool (Qj ticks 0 500)),(!(Qj ticks 0 500))=false,(decide ((l.length:Int) > 200))=false,Qd Try.prog (.clos 68 [] []) (z43_3 l ticks c) (.bool (l.any (fun p=>!XW c.blocks.length ticks p))),(l.any (fun p=>!XW c.blocks.length ticks p))=false,(decide ((f.length:Int) > 5))=false,Qd Try.prog (.clos 69 [] []) [.rsl (Qo f) 0 f.length,.clos 67 [] [.rptr (yW c) 0]] (.bool (f.any (fun x=>!Yk c.blocks.length x))),(f.any (fun x=>!Yk c.blocks.length x))=false])
 (hr:AvLe (.int .i64 0) res):G Try.prog E [.code (Qh Try.prog 43)] ⟨(z43_2 c ticks l f)++unds (Try.f43.ntmps - 4),[]⟩ :=
 Qf (n:=400) (evs:=[.v (.int .i64 (QK c)),.b false,.v (.bool (Qj ticks 0 500)),.b false,.b false,.v (.bool (l.any (fun p=>!XW c.blocks.length ticks p))),.b false,.b false,.v (.bool (f.any (fun x=>!Yk c.blocks.length x))),.b false]) (obs:=_) hE Try.func43 Ql (by kernel_rfl) ho hr
theorem f43W (c:Cir) (ticks:Int) (l:(List Prs)) (f:(List Flt)) {E:Env} {rv:Int} (hE:Qn Try.prog 43 (.int .i64 rv) E)
 (h:((c.blocks.length≤9223372036854775807∧c.cars.length≤9223372036854775807)∧((¬ ((QK c)=0)→rv=(QK c))∧((QK c)=0→(((Qj ticks 0 500)=false→rv=1)∧((Qj ticks 0 500)=true→(((l.length:Int) > 200→rv=2)∧(¬ ((l.length:Int) > 200)→(((c.blocks.length≤9223372036854775807∧(0≤ticks∧ticks≤500))∧l.length≤9223372036854775807)∧(((l.any (fun p=>!XW c.blocks.length ticks p))=true→rv=21)∧((l.any (fun p=>!XW c.blocks.length ticks p))=false→(((f.length:Int) > 5→rv=2)∧(¬ ((f.length:Int) > 5)→(((c.blocks.length≤9223372036854775807)∧f.length≤9223372036854775807)∧(((f.any (fun x=>!Yk c.blocks.length x))=true→rv=22)∧((f.any (fun x=>!Yk c.blocks.length x))=false→rv=0)))))))))))))))):G Try.prog E [.code (Qh Try.prog 43)] ⟨[.agg [.rsl (Qk c.blocks) 0 c.blocks.length,.rsl (rowI c.cars) 0 c.cars.length],.int .i64 ticks,.rsl (QV l) 0 l.length,.rsl (Qo f) 0 f.length]++unds (Try.f43.ntmps - 4),[]⟩:=by
 obtain ⟨h1,h⟩:=h
 rcases bft ((QK c) != 0) with hc0 | hc0
 · have h:=h.1 (bneT hc0)
   exact p43_start_0 c ticks l f hE ⟨(u30 (YK c h1)),hc0,trivial⟩ (AvLe.of_eq (by rw [h]; try rfl))
 · have h:=h.2 (bneF hc0)
   rcases bft (!(Qj ticks 0 500)) with hc1 | hc1
   · have h:=h.1 (bnT hc1)
     exact p43_start_1 c ticks l f hE ⟨(u30 (YK c h1)),hc0,(u52 (QN ticks 0 500)),hc1,trivial⟩ (AvLe.of_eq (by rw [h]; try rfl))
   · have h:=h.2 (bnF hc1)
     rcases bft (decide ((l.length:Int) > 200)) with hc2 | hc2
     · have h:=h.1 (odt hc2)
       exact p43_start_2 c ticks l f hE ⟨(u30 (YK c h1)),hc0,(u52 (QN ticks 0 500)),hc1,hc2,trivial⟩ (AvLe.of_eq (by rw [h]; try rfl))
     · have h:=h.2 (odf hc2)
       obtain ⟨h2,h⟩:=h
       rcases bft (l.any (fun p=>!XW c.blocks.length ticks p)) with hc3 | hc3
       · have h:=h.1 hc3
         exact p43_start_3 c ticks l f hE ⟨(u30 (YK c h1)),hc0,(u52 (QN ticks 0 500)),hc1,hc2,(u68 (Qba l ticks c h2)),hc3,trivial⟩ (AvLe.of_eq (by rw [h]; try rfl))
       · have h:=h.2 hc3
         rcases bft (decide ((f.length:Int) > 5)) with hc4 | hc4
         · have h:=h.1 (odt hc4)
           exact p43_start_4 c ticks l f hE ⟨(u30 (YK c h1)),hc0,(u52 (QN ticks 0 500)),hc1,hc2,(u68 (Qba l ticks c h2)),hc3,hc4,trivial⟩ (AvLe.of_eq (by rw [h]; try rfl))
         · have h:=h.2 (odf hc4)
           obtain ⟨h3,h⟩:=h
           rcases bft (f.any (fun x=>!Yk c.blocks.length x)) with hc5 | hc5
           · have h:=h.1 hc5
             exact p43_start_5 c ticks l f hE ⟨(u30 (YK c h1)),hc0,(u52 (QN ticks 0 500)),hc1,hc2,(u68 (Qba l ticks c h2)),hc3,hc4,(u69 (anyF_ok f c h3)),hc5,trivial⟩ (AvLe.of_eq (by rw [h]; try rfl))
           · have h:=h.2 hc5
             exact p43_start_6 c ticks l f hE ⟨(u30 (YK c h1)),hc0,(u52 (QN ticks 0 500)),hc1,hc2,(u68 (Qba l ticks c h2)),hc3,hc4,(u69 (anyF_ok f c h3)),hc5,trivial⟩ (AvLe.of_eq (by rw [h]; try rfl))
def Xp (c:Cir) (ticks:Int) (l:List Prs) (f:List Flt):Int :=
 if QK c=0 then (if Qj ticks 0 500=true then (if l.length > 200 then 2 else if (l.any fun p=>!XW c.blocks.length ticks p)=true then 21 else if f.length > 5 then 2 else if (f.any fun x=>!Yk c.blocks.length x)=true then 22 else 0) else 1) else QK c
theorem qH (c:Cir) (ticks:Int) (l:List Prs) (f:List Flt) (h:(c.blocks.length≤9223372036854775807∧c.cars.length≤9223372036854775807)∧l.length≤9223372036854775807∧f.length≤9223372036854775807):Pure Try.prog 43 [.agg [.rsl (Qk c.blocks) 0 c.blocks.length,.rsl (rowI c.cars) 0 c.cars.length],.int .i64 ticks,.rsl (QV l) 0 l.length,.rsl (Qo f) 0 f.length] (.int .i64 (Xp c ticks l f)):=QT Try.func43 f43b fun E hE=>by
 refine f43W c ticks l f (rv:=Xp c ticks l f) hE ⟨h.1,fun h0=>by rw [Xp,if_neg h0],fun h0=>⟨fun h1=>by rw [Xp,if_pos h0,h1]; rfl,fun h1=>⟨fun h2=>by rw [Xp,if_pos h0,if_pos h1,if_pos (by omega)],fun h2=>⟨⟨⟨h.1.1,Xi.1 h1⟩,h.2.1⟩,fun h3=>by rw [Xp,if_pos h0,if_pos h1,if_neg (by omega),if_pos h3],fun h3=>⟨fun h4=>by rw [Xp,if_pos h0,if_pos h1,if_neg (by omega),if_neg (by rw [h3]; simp),if_pos (by omega)],fun h4=>⟨⟨h.1.1,h.2.2⟩,fun h5=>by rw [Xp,if_pos h0,if_pos h1,if_neg (by omega),if_neg (by rw [h3]; simp),if_neg (by omega),if_pos h5],fun h5=>by rw [Xp,if_pos h0,if_pos h1,if_neg (by omega),if_neg (by rw [h3]; simp),if_neg (by omega),if_neg (by rw [h5]; simp)]⟩⟩⟩⟩⟩⟩
end Go.Proofs.Ytgdfkjjgdkejfaa