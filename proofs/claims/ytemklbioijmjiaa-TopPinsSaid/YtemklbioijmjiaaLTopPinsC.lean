/- A part of the proof: several texts, one behind the other. -/
import Derived.Test.YtemklbioijmjiaaLTopPinsB
import Derived.Test.YtemklbioijmjiaaChecked
import Derived.Laws.Bits64b
set_option linter.unusedVariables false
set_option linter.unusedSimpArgs false
set_option maxRecDepth 100000
namespace Ax
open Go
/-- The side of an iterator that ranges over another one: its own memory,its temporaries and marks,the loop's record,and the side of whoever ranges over it. -/
def QY (l:Nat) (tv:Array Value) (ds:List Deferred) (T:List AV) (rec:Option Nat→Loop) (B:List Blk) (Y:Option Nat→Sd) (o:Option Nat):Sd:=fun F Kp w =>
 ∃ C Z Ds F2 K2,Mem Z (fun b=>Own C b ∨ b ∈ Ds) w C Z B w∧VRs Z w C T tv.toList∧Ds.Nodup∧Mix [] Ds ds∧(∀ D ∈ Ds,Z D∧w.heap[D]?=some (.deferred (some []))) ∧
  w.heap[l]?=some (.loop (rec o))∧¬ Z l∧¬ Own C l∧Y o F2 K2 w∧(∀ b,(Own C b ∨ b=l) ∨ b ∈ Ds→¬ F2 b∧¬ K2 b)∧(∀ b,Z b→¬ F2 b) ∧
  (∀ b,F b ↔ ((Own C b ∨ b=l) ∨ F2 b))∧∀ b,Kp b ↔ (Z b ∨ K2 b)
section
variable {P:Program} {E:Env} {K K':List Item} {st st':St}
theorem QY.stable {l:Nat} {tv:Array Value} {ds:List Deferred} {T:List AV} {rec:Option Nat→Loop} {B:List Blk} {Y:Option Nat→Sd} (hY:∀ o,Stable (Y o)) {o:Option Nat}:Stable (QY l tv ds T rec B Y o):=by
 constructor
 · rintro F Kp w ⟨C,Z,Ds,F2,K2,hm,hv,hn,hx,hd,hl,hzl,hol,hy,hdj,hzf,hF,hK⟩ b hb
   rw [hF,hK] at hb
   rcases hb with ((⟨k,o',hb⟩ | rfl) | hb) | hb | hb
   · exact (hm.own k b o' hb).1
   · exact XD hl
   · exact (hY o).lt _ _ _ hy b (.inl hb)
   · exact hm.zlt b hb
   · exact (hY o).lt _ _ _ hy b (.inr hb)
 · rintro F Kp w Mi w' ⟨C,Z,Ds,F2,K2,hm,hv,hn,hx,hd,hl,hzl,hol,hy,hdj,hzf,hF,hK⟩ hf hMi
   have h1:∀ b,Own C b→¬ Mi b:=fun b hb h=>(hMi b h).1 ((hF b).2 (.inl (.inl hb)))
   have h2:∀ b,Z b→¬ Mi b:=fun b hb h=>(hMi b h).2 ((hK b).2 (.inl hb))
   obtain ⟨hm',he⟩:=hm.apart (M':=fun b=>Own C b ∨ b ∈ Ds) hf h1 h2 (fun _ h=>.inl h)
   refine ⟨C,Z,Ds,F2,K2,hm',hv.mono he,hn,hx,fun D hD=>⟨(hd D hD).1,by rw [he.same D (hd D hD).1]; exact (hd D hD).2⟩,?_,hzl,hol,(hY o).mv _ _ _ Mi _ hy hf (fun b h=>⟨fun h'=>(hMi b h).1 ((hF b).2 (.inr h')),fun h'=>(hMi b h).2 ((hK b).2 (.inr h'))⟩),hdj,hzf,hF,hK⟩
   rw [hf.same l (XD hl) (fun h=>(hMi l h).1 ((hF l).2 (.inl (.inr rfl))))]; exact hl
/-- One round: before the yield,the yield,behind it. -/
theorem relay_round {fn:FuncId} {l:Nat} {tv:Array Value} {ds:List Deferred} {T:List AV} {rec:Option Nat→Loop} {B:List Blk} {ps:Array Tmp} {assign body:Code} {D:Nat} {jump:Code} {cont:Nat→Bool}
 {yv:Value} {Y:Option Nat→Sd} {xs:List (List AV)} (hYs:∀ o,Stable (Y o)) (hyl:Qac P yv Y cont xs)
 {i:Nat} {x y:List AV} {S1 S2:St} {Ky Kz:List Item} {dst:Option Nat} (hT:T.length=tv.size) (hps:x.length=ps.size) (hxi:xs[i]?=some y)
 (hrec:∀ n,rec (some n)={ state:=.ready,pending:=none,fn,tmps:=tv,params:=ps,assign,body,defers:=D })
 (hrecN:rec none={ state:=.done,pending:=some jump,fn,tmps:=tv,params:=ps,assign,body,defers:=D })
 (hA:∀ E',RoundE T E'→E'.Fin=VG (·=[.beginRound,.code body]) (·=S1) E'→G P E' [.code assign,.beginRound,.code body] ⟨Wd T ps.toList x,B⟩)
 (hB:∀ E',RoundE T E'→E'.Fin=VG (·=Ky) (·=S2) E'→G P E' [.code body] S1)
 (hy:Kd Ky S2=some (Kz,dst,yv,y)) (hsy:scalars y=true)
 (hZ:∀ E',RoundE T E'→E'.Fin=VG (fun K=>if cont i=true then K=[] else Wc jump K) (fun st=>st.blks=B) E'→G P E' Kz ⟨putA S2.tmps dst (.bool (cont i)),S2.blks⟩)
 {F Kp:Nat→Prop} {w:World} (hY:QY l tv ds T rec B Y (some i) F Kp w) {cargs:Array Value} (hx:VRs (fun _=>False) w C0 x cargs.toList) :
 YCall P (.func (.yield l) #[] #[]) cargs w fun t w'=>t=cont i∧∃ F' Kp',QY l tv ds T rec B Y (nxt cont i) F' Kp' w'∧Fr w F w'∧(∀ b,F' b→F b ∨ w.heap.size≤b)∧(∀ b,Kp' b→F b ∨ Kp b ∨ w.heap.size≤b):=by
 obtain ⟨C,Z,Ds0,F2,K2,hm,hv,hn0,hx0,hd0,hl,hzl,hol,hyw,hdj,hzf,hF,hK⟩:=hY
 have hcs:cargs.size=ps.size:=by have:=hx.1; simp at this; omega
 rw [hrec] at hl
 have hlw:=XD hl
 have hltY:=(hYs _).lt _ _ _ hyw
 refine ⟨l,fn,_,assign,body,rfl,run_yield hl hcs,fun c cs=>?_⟩
 let br:Frame:={ (default:Frame) with fn:=fn,kind:=.normal,roundOf:=some l }
 let tm:Array Value:=(ps.zip cargs).foldl (fun tmps (t,a)=>tmps.setIfInBounds t a) tv
 have hround:Frame.round l fn tm assign body .normal=br.atR { tmps:=tm,defers:=[] } [.code assign,.beginRound,.code body]:=by
  simp [Frame.round,Frame.atR,br]
 have htm:VRs Z w C (Wd T ps.toList x) tm.toList:=by
  have:=qd (ps:=ps.toList) (T:=T) (x:=x) (us:=cargs.toList) (tm:=tv) hv ⟨hx.1,fun i c v p q=>((hx.2 i c v p q).zmono (fun b h=>h.elim)).of0⟩
  have e:tm=(ps.toList.zip cargs.toList).foldl (fun tm p=>tm.setIfInBounds p.1 p.2) tv:=by
   show (ps.zip cargs).foldl _ tv=_
   rw [← Array.foldl_toList,Array.toList_zip]
  rw [e]; exact this
 -- the assignment
 let E1b:Env:={ Z0:=Z,M:=Own C,w0:=w,b:=br,cs:=c :: cs,Fin:=fun _=>True,gA:=T,gV:=tv.toList }
 let E1:Env:={ E1b with Fin:=VG (·=[.beginRound,.code body]) (·=S1) E1b }
 obtain ⟨m1,s1,C1,Z1,a1,w1,K1,st1,rfl,rfl,hr1,rfl⟩:=hA E1 ⟨⟨l,rfl⟩,rfl,rfl,rfl⟩ rfl C Z { tmps:=tm,defers:=[] } w ⟨htm,hm.rebase (fun _ h=>h),⟨[],.nil,.nil,by simp⟩,hv,.bot⟩
 have f1:Fr w (Own C) w1:=hr1.mem.frame
 have own1:∀ b,Own C1 b→Own C b ∨ w.heap.size≤b:=fun b ⟨k,o,h⟩=>(hr1.mem.own k b o h).2.2
 have z1:∀ b,Z1 b→Z b ∨ Own C b ∨ w.heap.size≤b:=fun b h=>hr1.mem.zsub b h
 have hol1:¬ Own C1 l:=fun h=>by rcases own1 l h with h | h; exact hol h; omega
 have hzl1:¬ Z1 l:=fun h=>by rcases z1 l h with h | h | h; exact hzl h; exact hol h; omega
 have hl1:w1.heap[l]?=some (.loop { state:=.ready,pending:=none,fn,tmps:=tv,params:=ps,assign,body,defers:=D }):=by rw [f1.same l hlw hol]; exact hl
 -- the round begins
 have hbeg:=stepR_beginRound (P:=P) (b:=br) (a:=a1) (k:=[.code body]) (cs:=c :: cs) (w:=w1) (l:=l) rfl (run_beginRound hl1 rfl)
 obtain ⟨hm2,he2⟩:=hr1.mem.apart (M':=Own C1) (WV (w:=w1) (l:=l) (o:=.loop { state:=.busy,pending:=none,fn,tmps:=tv,params:=ps,assign,body,defers:=D })) (fun b hb e=>hol1 (e ▸ hb)) (fun b hb e=>hzl1 (e ▸ hb)) (fun b h=>h)
 generalize hw2:w1.putObj l (.loop { state:=.busy,pending:=none,fn,tmps:=tv,params:=ps,assign,body,defers:=D })=w2 at hbeg hm2 he2
 have f2:Fr w1 (·=l) w2:=hw2 ▸ WV
 have hl2:w2.heap[l]?=some (.loop { state:=.busy,pending:=none,fn,tmps:=tv,params:=ps,assign,body,defers:=D }):=by rw [← hw2]; exact World.putObj_heap_same (Nat.lt_of_lt_of_le hlw f1.size)
 obtain ⟨Ds,d1,d2,d3⟩:=hr1.marks
 let E2b:Env:={ Z0:=Z1,M:=fun b=>Own C1 b ∨ b ∈ Ds,w0:=w2,b:=br,cs:=c :: cs,Fin:=fun _=>True,gA:=T,gV:=tv.toList }
 let E2:Env:={ E2b with Fin:=VG (·=Ky) (·=S2) E2b }
 obtain ⟨m2,s2,C2,Z2,a2,w3,K2',st2,rfl,rfl,hr2,rfl⟩:=hB E2 ⟨⟨l,rfl⟩,rfl,rfl,rfl⟩ rfl C1 Z1 a1 w2
  ⟨hr1.tmp.mono he2,hm2.rebase (fun _ h=>.inl h),⟨Ds,d1,d2,fun D' hD=>⟨(d3 D' hD).1,.inl (.inr hD),by rw [he2.same D' (d3 D' hD).1]; exact (d3 D' hD).2.2⟩⟩,hr1.gh.mono he2,.bot⟩
 have f3:Fr w2 (fun b=>Own C1 b ∨ b ∈ Ds) w3:=hr2.mem.frame
 have dsM:∀ b,b ∈ Ds→Own C b ∨ w.heap.size≤b:=fun b h=>(d3 b h).2.1
 have m2M:∀ b,(Own C1 b ∨ b ∈ Ds)→Own C b ∨ w.heap.size≤b:=fun b h=>h.elim (own1 b) (dsM b)
 have e1:=f1.size
 have e2:=f2.size
 have e3:=f3.size
 have own2:∀ b,Own C2 b→Own C b ∨ w.heap.size≤b:=fun b ⟨k,o,h⟩=>by
  rcases (hr2.mem.own k b o h).2.2 with h | h
  · exact m2M b h
  · exact .inr (Nat.le_trans (Nat.le_trans e1 e2) h)
 have z2:∀ b,Z2 b→Z b ∨ Own C b ∨ w.heap.size≤b:=fun b h=>by
  rcases hr2.mem.zsub b h with h | h | h
  · exact z1 b h
  · exact .inr (m2M b h)
  · exact .inr (.inr (Nat.le_trans (Nat.le_trans e1 e2) h))
 have hol2:¬ Own C2 l:=fun h=>by rcases own2 l h with h | h; exact hol h; omega
 have hzl2:¬ Z2 l:=fun h=>by rcases z2 l h with h | h | h; exact hzl h; exact hol h; omega
 have hlw2:l<w2.heap.size:=XD hl2
 have hl3:w3.heap[l]?=some (.loop { state:=.busy,pending:=none,fn,tmps:=tv,params:=ps,assign,body,defers:=D }):=by
  rw [f3.same l hlw2 (fun h=>by rcases m2M l h with h | h; exact hol h; omega)]; exact hl2
 have hlw3:l<w3.heap.size:=XD hl3
 -- what turned so far is none of the other side's
 let Ours:Nat→Prop:=fun b=>Own C b ∨ b=l ∨ w.heap.size≤b
 have ours:∀ b,Ours b→¬ F2 b∧¬ K2 b:=by
  rintro b (h | h | h)
  · exact hdj b (.inl (.inl h))
  · exact hdj b (.inl (.inr h))
  · exact ⟨fun h'=>by have:=hltY b (.inl h'); omega,fun h'=>by have:=hltY b (.inr h'); omega⟩
 have g3:Fr w (fun b=>Own C b ∨ b=l) w3:=by
  have q1:Fr w (fun b=>Own C b ∨ b=l) w1:=f1.weaken fun b h=>.inl h
  have q2:Fr w (fun b=>Own C b ∨ b=l) w2:=q1.trans f2 fun b _ hn e=>hn (.inr e)
  exact q2.trans f3 fun b hb hn h=>by
   rcases m2M b h with h | h
   · exact hn (.inl h)
   · omega
 have hyw3:=(hYs _).mv _ _ _ _ _ hyw g3 (fun b h=>ours b (h.imp id .inl))
 -- the yield
 unfold Kd at hy
 split at hy
 rotate_left
 · cases hy
 rename_i ops j rest kk
 split at hy
 rotate_left
 · cases hy
 rename_i o ho
 split at hy
 rotate_left
 · cases hy
 rename_i fop args ats hop hw
 split at hy
 rotate_left
 · cases hy
 rename_i yv' hf
 simp only [Option.some.injEq,Prod.mk.injEq] at hy
 obtain ⟨rfl,rfl,rfl,rfl⟩:=hy
 have hwc:=XI hr2.tmp hw
 have hgo:=stepGR_op (P:=P) (b:=br) (k:=kk) (cs:=c :: cs) (w:=w3) (rest:=rest) ho hwc
 rw [Oper.semAt_eq _ _ _ (by intro c hc; rw [hop] at hc; cases hc)] at hgo
 have hfin:∀ v,(br.atR a2 (.inRegion ops (j :: rest) :: kk)).finish v=br.atR (a2.put o.dst v) (.inRegion ops rest :: kk):=by
  intro v; rw [Frame.finish_atR,ho]; rfl
 have hfv:=Xc hr2.tmp fop
 rw [hf] at hfv
 generalize hyv:a2.eval fop=yv2 at hfv
 cases hfv
 have hargs:VRs Z2 w3 C2 (args.toList.map (Yu st2.tmps)) (args.map a2.eval).toList:=by
  refine ⟨by simp,fun j c v p q=>?_⟩
  simp only [List.getElem?_map,Option.map_eq_some_iff] at p
  obtain ⟨y,p1,p2⟩:=p
  simp only [Array.toList_map,List.getElem?_map,p1,Option.map_some,Option.some.injEq] at q
  rw [← p2,← q]
  exact Xc hr2.tmp y
 obtain ⟨ly,fny,tmy,asgy,bdy,hyl',hrun,hst⟩:=hyl i _ hxi F2 K2 w3 hyw3 _ (Km hsy hargs)
 obtain ⟨t,w4,⟨rfl,F3,K3,hY4,f4,hF3,hK3⟩,s3⟩:=hst (br.atR a2 (.inRegion ops (j :: rest) :: kk)) (c :: cs)
 have hexec:(execOp a2.eval o).run P w3=.ok (.round ly fny tmy asgy bdy) w3:=by
  obtain ⟨dst,op,ty,pos,after,guard⟩:=o
  simp only at hop
  subst hop
  simp only [execOp,resolve,hyv,hyl',Deferred.ofValue,Sem.run_bind,Sem.run_pure,Result.andThen_ok,invoke]
  simpa using hrun
 have henter:step P (lone (br.atR a2 (.inRegion ops (j :: rest) :: kk)) (c :: cs) w3) =
  .next (lone (Frame.round ly fny tmy asgy bdy .normal) (br.atR a2 (.inRegion ops (j :: rest) :: kk) :: c :: cs) w3) :=
  step_lone_go (by rw [hgo]; simp [stepG.apply,hexec])
 rw [hfin] at s3
 have e4:=f4.size
 have hltY4:=(hYs _).lt _ _ _ hY4
 obtain ⟨Ds2,q1,q2,q3⟩:=hr2.marks
 have our2:∀ b,Own C2 b ∨ b ∈ Ds2→Ours b:=by
  rintro b (h | h)
  · exact (own2 b h).imp id .inr
  · rcases (q3 b h).2.1 with h | h
    · exact (m2M b h).imp id .inr
    · exact .inr (.inr (Nat.le_trans (Nat.le_trans e1 e2) h))
 have zF2:∀ b,Z2 b→¬ F2 b:=by
  intro b hb hF
  rcases z2 b hb with h | h | h
  · exact hzf b h hF
  · exact (ours b (.inl h)).1 hF
  · exact (ours b (.inr (.inr h))).1 hF
 obtain ⟨hmem,hevo⟩:=hr2.mem.apart (M':=fun b=>Own C2 b ∨ b ∈ Ds2) f4 (fun b hb=>(ours b (our2 b (.inl hb))).1) zF2 (fun b hb=>.inl hb)
 have hl4:w4.heap[l]?=some (.loop { state:=.busy,pending:=none,fn,tmps:=tv,params:=ps,assign,body,defers:=D }):=by
  rw [f4.same l hlw3 (ours l (.inr (.inl rfl))).1]; exact hl3
 -- behind the yield
 let E3b:Env:={ Z0:=Z2,M:=fun b=>Own C2 b ∨ b ∈ Ds2,w0:=w4,b:=br,cs:=c :: cs,Fin:=fun _=>True,gA:=T,gV:=tv.toList }
 let E3:Env:={ E3b with Fin:=VG (fun K=>if cont i=true then K=[] else Wc jump K) (fun st=>st.blks=B) E3b }
 have hdf:(a2.put o.dst (.bool (cont i))).defers=a2.defers:=by cases o.dst <;> rfl
 obtain ⟨m3,s4,C3,Z3,a3,w5,K3',st3,hK3',hS3,hr3,rfl⟩:=hZ E3 ⟨⟨l,rfl⟩,rfl,rfl,rfl⟩ rfl C2 Z2 (a2.put o.dst (.bool (cont i))) w4
  ⟨VRs.put ⟨hr2.tmp.1,fun j c v p q=>(hr2.tmp.2 j c v p q).mono hevo⟩ (.bool _) o.dst,hmem,by
   rw [hdf]
   exact ⟨Ds2,q1,q2,fun D' hD=>⟨(q3 D' hD).1,.inl (.inr hD),by rw [hevo.same D' (q3 D' hD).1]; exact (q3 D' hD).2.2⟩⟩,hr2.gh.mono hevo,.bot⟩
 have f5:Fr w4 (fun b=>Own C2 b ∨ b ∈ Ds2) w5:=hr3.mem.frame
 have e5:=f5.size
 have lt2:∀ b,Own C2 b ∨ b ∈ Ds2→b<w3.heap.size:=by
  rintro b (⟨k,o,h⟩ | h)
  · exact (hr2.mem.own k b o h).1
  · exact hr2.mem.zlt b (q3 b h).1
 have F3no:∀ b,Ours b→b<w3.heap.size→¬ F3 b∧¬ K3 b:=fun b h hb =>
  ⟨fun h'=>by rcases hF3 b h' with h' | h'; exact (ours b h).1 h'; omega,fun h'=>by rcases hK3 b h' with h' | h' | h'; exact (ours b h).1 h'; exact (ours b h).2 h'; omega⟩
 have F3no2:∀ b,w4.heap.size≤b→¬ F3 b∧¬ K3 b:=fun b hb=>⟨fun h=>by have:=hltY4 b (.inl h); omega,fun h=>by have:=hltY4 b (.inr h); omega⟩
 have own3:∀ b,Own C3 b→(Own C2 b ∨ b ∈ Ds2) ∨ w4.heap.size≤b:=fun b ⟨k,o,h⟩=>(hr3.mem.own k b o h).2.2
 have z3:∀ b,Z3 b→Z2 b ∨ (Own C2 b ∨ b ∈ Ds2) ∨ w4.heap.size≤b:=fun b h=>hr3.mem.zsub b h
 have hol3:¬ Own C3 l:=fun h=>by
  rcases own3 l h with h | h
  · rcases h with h | h
    · exact hol2 h
    · exact hzl2 (q3 l h).1
  · omega
 have hzl3:¬ Z3 l:=fun h=>by
  rcases z3 l h with h | (h | h) | h
  · exact hzl2 h
  · exact hol2 h
  · exact hzl2 (q3 l h).1
  · omega
 have hl5:w5.heap[l]?=some (.loop { state:=.busy,pending:=none,fn,tmps:=tv,params:=ps,assign,body,defers:=D }):=by
  rw [f5.same l (Nat.lt_of_lt_of_le hlw3 e4) (fun h=>by
   rcases h with h | h
   · exact hol2 h
   · exact hzl2 (q3 l h).1)]; exact hl4
 have zz:∀ b,Z b→Z3 b:=fun b h=>hr3.mem.z0 b (hr2.mem.z0 b (hr1.mem.z0 b h))
 have hds5:∀ D' ∈ Ds0,Z3 D'∧w5.heap[D']?=some (.deferred (some [])):=by
  intro D' hD
  obtain ⟨hz,hh⟩:=hd0 D' hD
  have hlt:=hm.zlt D' hz
  have hno:¬ Own C D':=fun ⟨k,o,h⟩=>(hm.own k D' o h).2.1 hz
  have hne:D' ≠ l:=fun e=>hzl (e ▸ hz)
  have hz2:Z2 D':=hr2.mem.z0 D' (hr1.mem.z0 D' hz)
  refine ⟨zz D' hz,?_⟩
  rw [f5.same D' (by omega) (fun h=>by
   rcases our2 D' h with h' | h' | h'
   · exact hno h'
   · exact hne h'
   · omega),f4.same D' (by omega) (zF2 D' hz2),f3.same D' (by omega) (fun h=>by rcases m2M D' h with h | h; exact hno h; omega),f2.same D' (by omega) hne,f1.same D' hlt hno]
  exact hh
 have g5:Fr w F w5:=by
  have p3:Fr w F w3:=g3.weaken fun b h=>(hF b).2 (.inl h)
  have p4:Fr w F w4:=p3.trans f4 fun b _ hn h=>hn ((hF b).2 (.inr h))
  exact p4.trans f5 fun b hb hn h=>by
   rcases our2 b h with h' | h' | h'
   · exact hn ((hF b).2 (.inl (.inl h')))
   · exact hn ((hF b).2 (.inl (.inr h')))
   · omega
 -- the round ends
 have fin:∀ (r':Loop) (t:Bool),(∃ v,step P (lone (br.atR a3 K3') (c :: cs) w5)=.next (lone (c.finish v) cs (w5.putObj l (.loop r')))∧v=.bool t)→t=cont i→r'=rec (nxt cont i) →
  ∃ t w',(t=cont i∧∃ F' Kp',QY l tv ds T rec B Y (nxt cont i) F' Kp' w'∧Fr w F w'∧(∀ b,F' b→F b ∨ w.heap.size≤b)∧(∀ b,Kp' b→F b ∨ Kp b ∨ w.heap.size≤b)) ∧
   Steps P (lone (Frame.round l fn tm assign body .normal) (c :: cs) w) (lone (c.finish (.bool t)) cs w'):=by
  rintro r' t ⟨v,hstep,rfl⟩ ht hr'
  have f6:Fr w5 (·=l) (w5.putObj l (.loop r')):=WV
  obtain ⟨hm6,he6⟩:=hr3.mem.apart (M':=fun b=>Own C3 b ∨ b ∈ Ds0) f6 (fun b hb e=>hol3 (e ▸ hb)) (fun b hb e=>hzl3 (e ▸ hb)) (fun b h=>.inl h)
  have hY6:Y (nxt cont i) F3 K3 (w5.putObj l (.loop r')):=by
   refine (hYs _).mv _ _ _ (fun b=>(Own C2 b ∨ b ∈ Ds2) ∨ b=l) _ hY4 ((f5.weaken fun b h=>.inl h).trans f6 fun b _ hn e=>hn (.inr e)) ?_
   rintro b (h | h)
   · exact F3no b (our2 b h) (lt2 b h)
   · exact F3no b (.inr (.inl h)) (h ▸ hlw3)
  refine ⟨t,w5.putObj l (.loop r'),⟨ht,fun b=>(Own C3 b ∨ b=l) ∨ F3 b,fun b=>Z3 b ∨ K3 b,⟨C3,Z3,Ds0,F3,K3,by rw [← hS3]; exact hm6,hr3.gh.mono he6,hn0,hx0,fun D' hD=>⟨(hds5 D' hD).1,by rw [he6.same D' (hds5 D' hD).1]; exact (hds5 D' hD).2⟩,by rw [← hr']; exact World.putObj_heap_same (XD hl5),hzl3,hol3,hY6,?_,?_,fun _=>.rfl,fun _=>.rfl⟩,?_,?_,?_⟩,?_⟩
  · rintro b ((h | h) | h)
    · rcases own3 b h with h | h
      · exact F3no b (our2 b h) (lt2 b h)
      · exact F3no2 b h
    · exact F3no b (.inr (.inl h)) (h ▸ hlw3)
    · have hz:=(hd0 b h).1
      have hlt:=hm.zlt b hz
      have hn:=hdj b (.inr h)
      exact ⟨fun h'=>by rcases hF3 b h' with h' | h'; exact hn.1 h'; omega,fun h'=>by rcases hK3 b h' with h' | h' | h'; exact hn.1 h'; exact hn.2 h'; omega⟩
  · intro b hb hf
    rcases z3 b hb with h | h | h
    · rcases hF3 b hf with h' | h'
      · exact zF2 b h h'
      · have:=hr2.mem.zlt b h; omega
    · exact (F3no b (our2 b h) (lt2 b h)).1 hf
    · exact (F3no2 b h).1 hf
  · exact g5.trans WV fun b _ hn e=>hn ((hF b).2 (.inl (.inr e)))
  · rintro b ((h | h) | h)
    · rcases own3 b h with h | h
      · rcases our2 b h with h' | h' | h'
        · exact .inl ((hF b).2 (.inl (.inl h')))
        · exact .inl ((hF b).2 (.inl (.inr h')))
        · exact .inr h'
      · exact .inr (by omega)
    · exact .inl ((hF b).2 (.inl (.inr h)))
    · rcases hF3 b h with h | h
      · exact .inl ((hF b).2 (.inr h))
      · exact .inr (by omega)
  · rintro b (h | h)
    · rcases z3 b h with h | h | h
      · rcases z2 b h with h | h | h
        · exact .inr (.inl ((hK b).2 (.inl h)))
        · exact .inl ((hF b).2 (.inl (.inl h)))
        · exact .inr (.inr h)
      · rcases our2 b h with h' | h' | h'
        · exact .inl ((hF b).2 (.inl (.inl h')))
        · exact .inl ((hF b).2 (.inl (.inr h')))
        · exact .inr (.inr h')
      · exact .inr (.inr (by omega))
    · rcases hK3 b h with h | h | h
      · exact .inl ((hF b).2 (.inr h))
      · exact .inr (.inl ((hK b).2 (.inr h)))
      · exact .inr (.inr (by omega))
  · rw [hround]
    exact s1.trans (Steps.head hbeg (s2.trans (Steps.head henter (s3.trans (s4.trans (.one hstep))))))
 cases hc:cont i with
 | true =>
  simp only [hc,if_true] at hK3'
  subst hK3'
  exact hc ▸ fin _ true ⟨_,stepR_round_end (P:=P) (b:=br) (a:=a3) (cs:=cs) (w:=w5) (c:=c) (l:=l) rfl rfl (run_endRound none hl5),rfl⟩ hc.symm (by simp [nxt,hc,hrec])
 | false =>
  simp only [hc,Bool.false_eq_true,if_false] at hK3'
  obtain ⟨k2,rfl,hj⟩:=hK3'
  refine hc ▸ fin _ false ⟨_,?_,rfl⟩ hc.symm (by simp only [nxt,hc,cond_false,hrecN]; rfl)
  rcases hj with rfl | ⟨id,rfl,hx⟩
  · exact stepR_round_ret (P:=P) (b:=br) (a:=a3) (cs:=cs) (w:=w5) (c:=c) (l:=l) rfl rfl (run_endRound (some .ret) hl5)
  · exact stepR_round_exit (P:=P) (b:=br) (a:=a3) (cs:=cs) (w:=w5) (c:=c) (l:=l) rfl rfl hx (run_endRound (some (.exit id)) hl5)
/-- An iterator's range over another one. -/
theorem relay_step {f:FuncId} {xs xs2:List (List AV)} {yv:Value} {Y:Option Nat→Sd} {cont:Nat→Bool} {fv:AV} {jump:Code} {g:Operand} {ps:Array Tmp} (S1 S2:Nat→St) (Ky Kz:List Item) (dst:Option Nat) (ys:Nat→List AV)
 (hE:IterE P f xs yv Y cont (Xo cont 0 xs.length) (some 0) E) (hlen:xs2.length=xs.length) (hys:∀ i y,xs[i]?=some y→ys i=y)
 (hK:(VJ K).map (fun r=>(r.1,r.2.1))=some (g,ps)) (hfv:Yu st.tmps g=fv) (hnr:XK fv=true) (hit:IterF P fv xs2)
 (hps:∀ (i:Nat) x,xs2[i]?=some x→x.length=ps.size)
 (hA:∀ i x,xs2[i]?=some x→∀ E',RoundE st.tmps E'→G P E' [.beginRound,.code (QW K)] (S1 i)→G P E' [.code (YQ K),.beginRound,.code (QW K)] ⟨Wd st.tmps ps.toList x,st.blks⟩)
 (hB:∀ i x,xs2[i]?=some x→∀ E',RoundE st.tmps E'→G P E' Ky (S2 i)→G P E' [.code (QW K)] (S1 i))
 (hy:∀ i,i<xs.length→Kd Ky (S2 i)=some (Kz,dst,yv,ys i)) (hsy:∀ i,i<xs.length→scalars (ys i)=true)
 (hZ:∀ i,i<xs.length→∀ u:Bool,∀ E',RoundE st.tmps E'→E'.Fin=VG (fun K=>if u=true then K=[] else Wc jump K) (fun s=>s.blks=st.blks) E'→G P E' Kz ⟨putA (S2 i).tmps dst (.bool u),(S2 i).blks⟩)
 (hend:∀ E',IterE P f xs yv Y cont (Xo cont 0 xs.length) (Xo cont 0 xs.length) E'→G P E' (match Xo cont 0 xs.length with | some _=>XO K | none=>.code jump :: XO K) st):G P E K st:=by
 unfold VJ at hK
 split at hK
 rotate_left
 · simp at hK
 rename_i g' ps' assign body k
 simp only [Option.map_some,Option.some.injEq,Prod.mk.injEq] at hK
 obtain ⟨rfl,rfl⟩:=hK
 have eA:YQ (.code (.rangeFunc g' ps' assign body) :: k)=assign:=rfl
 have eB:QW (.code (.rangeFunc g' ps' assign body) :: k)=body:=rfl
 have eR:XO (.code (.rangeFunc g' ps' assign body) :: k)=k:=rfl
 rw [eA,eB] at hA
 rw [eB] at hB
 rw [eR] at hend
 intro C Z a w hr
 have hTl:st.tmps.length=a.tmps.size:=by simpa using hr.tmp.1
 obtain ⟨Ds,d1,d2,d3⟩:=hr.marks
 rw [hE.df] at d2
 -- the other side
 obtain ⟨F0,Kp0,hY0,hM,hZ0⟩:=hE.at'
 have hlt:=(hE.stab _).lt F0 Kp0 E.w0 hY0
 have hYw:=(hE.stab _).mv F0 Kp0 E.w0 E.M w hY0 hr.mem.frame hM
 have hltw:=(hE.stab _).lt F0 Kp0 w hYw
 have ownF:∀ b,Own C b→¬ F0 b∧¬ Kp0 b:=by
  rintro b ⟨k',o',hb⟩
  rcases (hr.mem.own k' b o' hb).2.2 with h | h
  · exact hM b h
  · exact ⟨fun h'=>by have:=hlt b (.inl h'); omega,fun h'=>by have:=hlt b (.inr h'); omega⟩
 have zF:∀ b,Z b→¬ F0 b:=by
  intro b hb hF
  rcases hr.mem.zsub b hb with h | h | h
  · exact hZ0 b h hF
  · exact (hM b h).1 hF
  · have:=hlt b (.inl hF); omega
 have mkF:∀ D ∈ Ds,¬ F0 D∧¬ Kp0 D:=by
  intro D hD
  rcases (d3 D hD).2.1 with h | h
  · exact hM D h
  · exact ⟨fun h'=>by have:=hlt D (.inl h'); omega,fun h'=>by have:=hlt D (.inr h'); omega⟩
 -- the record is laid
 have hen:=run_enterLoop_outer (P:=P) (w:=w) E.b.fn a.tmps ps' assign body
 generalize hW:(w.alloc (.deferred (some [])))=wa at hen
 have fa:Fr w (fun _=>False) wa:=hW ▸ yQ
 have sza:wa.heap.size=w.heap.size+1:=by rw [← hW]; simp
 have hDa:wa.heap[w.heap.size]?=some (.deferred (some [])):=by rw [← hW]; exact World.alloc_heap_new w _
 obtain ⟨hma,hea⟩:=hr.mem.call fa
 generalize hL:({ state:=.ready,pending:=none,fn:=E.b.fn,tmps:=a.tmps,params:=ps',assign,body,defers:=w.heap.size }:Loop)=r0 at hen
 generalize hWb:wa.alloc (.loop r0)=wb at hen
 have fb:Fr wa (fun _=>False) wb:=hWb ▸ yQ
 have hlb:wb.heap[w.heap.size+1]?=some (.loop r0):=by rw [← hWb,← sza]; exact World.alloc_heap_new wa _
 obtain ⟨hmb,heb⟩:=hma.apart (M':=fun b=>Own C b ∨ b ∈ w.heap.size :: Ds) fb (fun _ _ h=>h) (fun _ _ h=>h) (fun _ h=>.inl h)
 have zx:∀ b,Zx Z w wa b ↔ (Z b ∨ b=w.heap.size):=fun b=>by
  unfold Zx; rw [sza]
  exact ⟨fun h=>h.imp id (fun h=>by omega),fun h=>h.imp id (fun h=>by omega)⟩
 have hlo:∀ b,Own C b→b<w.heap.size:=fun b ⟨k',o,h⟩=>(hr.mem.own k' b o h).1
 let rec':Option Nat→Loop:=fun o=>match o with
  | some _=>r0
  | none=>{ state:=.done,pending:=some jump,fn:=E.b.fn,tmps:=a.tmps,params:=ps',assign,body,defers:=w.heap.size }
 let ds:List Deferred:=mark w.heap.size :: a.defers
 let Q:Option Nat→Sd:=QY (w.heap.size+1) a.tmps ds st.tmps rec' st.blks Y
 have hQst:∀ o,Stable (Q o):=fun o=>QY.stable hE.stab
 have fab:Fr w (fun _=>False) wb:=fa.trans fb fun _ _ h=>h
 have hQ0:Q (some 0) (fun b=>(Own C b ∨ b=w.heap.size+1) ∨ F0 b) (fun b=>Zx Z w wa b ∨ Kp0 b) wb:=by
  refine ⟨C,Zx Z w wa,w.heap.size :: Ds,F0,Kp0,hmb,(hr.tmp.mono hea).mono heb,?_,.mk _ d2,?_,hlb,?_,?_,(hE.stab _).mv _ _ _ _ _ hYw fab (fun _ h=>h.elim),?_,?_,fun _=>.rfl,fun _=>.rfl⟩
  · refine List.nodup_cons.2 ⟨fun h=>?_,d1⟩
    have:=hr.mem.zlt _ (d3 _ h).1
    omega
  · intro D hD
    rcases List.mem_cons.1 hD with rfl | hD
    · exact ⟨(zx _).2 (.inr rfl),by rw [fb.same _ (by omega) (fun h=>h)]; exact hDa⟩
    · have hlt:=hr.mem.zlt _ (d3 _ hD).1
      exact ⟨(zx _).2 (.inl (d3 _ hD).1),by rw [fb.same _ (by omega) (fun h=>h),fa.same _ hlt (fun h=>h)]; exact (d3 _ hD).2.2⟩
  · rw [zx]; rintro (h | h)
    · have:=hr.mem.zlt _ h; omega
    · omega
  · intro h; have:=hlo _ h; omega
  · rintro b ((h | h) | h)
    · exact ownF b h
    · exact ⟨fun h'=>by have:=hltw b (.inl h'); omega,fun h'=>by have:=hltw b (.inr h'); omega⟩
    · rcases List.mem_cons.1 h with h | h
      · exact ⟨fun h'=>by have:=hltw b (.inl h'); omega,fun h'=>by have:=hltw b (.inr h'); omega⟩
      · exact mkF b h
  · intro b hb hF
    rcases (zx b).1 hb with h | h
    · exact zF b h hF
    · have:=hltw b (.inl hF); omega
 have hyl:Qac P (.func (.yield (w.heap.size+1)) #[] #[]) Q cont xs2:=by
  intro i x hx F Kp w' hQ cargs hca
  have hi:i<xs.length:=by rw [← hlen]; exact (List.getElem?_eq_some_iff.1 hx).1
  have hxi:xs[i]?=some (ys i):=by
   have h1:xs[i]?=some xs[i]:=List.getElem?_eq_getElem hi
   rw [hys i _ h1]; exact h1
  exact relay_round (fn:=E.b.fn) (tv:=a.tmps) (T:=st.tmps) (ps:=ps') (assign:=assign) (body:=body) (D:=w.heap.size) (jump:=jump) (S1:=S1 i) (S2:=S2 i) (Ky:=Ky) (Kz:=Kz) (dst:=dst) hE.stab hE.ylds hTl (hps i x hx) hxi (fun _=>hL.symm) rfl
   (fun E' hR hfin=>hA i x hx E' hR (Qae hfin rfl rfl)) (fun E' hR hfin=>hB i x hx E' hR (Qae hfin rfl rfl)) (hy i hi) (hsy i hi) (hZ i hi (cont i)) hQ hca
 -- the call
 have hcf:=Xc hr.tmp g'
 rw [hfv] at hcf
 obtain ⟨-,heab⟩:=hr.mem.keep fab (fun _ _ h=>h) (fun _ _ h=>h) (fun _ _ _ h=>h)
 obtain ⟨d,f',args',hd1,hd2,hcalls⟩:=hit Z wb _ (w.heap.size+1) Q cont hQst hyl (fun b=>(Own C b ∨ b=w.heap.size+1) ∨ F0 b) (fun b=>Zx Z w wa b ∨ Kp0 b)
  (fun b hb=>⟨Nat.lt_of_lt_of_le (hr.mem.zlt b hb) fab.size,by
    rintro ((⟨k',o,h⟩ | h) | h)
    · exact (hr.mem.own k' b o h).2.1 hb
    · have:=hr.mem.zlt b hb; omega
    · exact zF b hb h⟩) ((hcf.mono heab).ctx hnr) hQ0
 have hstep:=stepR_rangeFunc (P:=P) (b:=E.b) (a:=a) (k:=k) (cs:=E.cs) (w:=w) (g:=g') (ps:=ps') (assign:=assign) (body:=body) (l:=w.heap.size+1) (mark:=[{ target:=.collected w.heap.size,args:=#[] }]) (w₁:=wb) (w₁':=wb) (w₂:=wb) (d:=d) (f:=f') (args:=args')
  (by rw [hE.ro]; exact hen) (by
    have:a.eval (.const (.func (.yield (w.heap.size+1)) #[] #[]))=.func (.yield (w.heap.size+1)) #[] #[]:=rfl
    simp only [rangeCall,resolve,List.map_toArray,List.map_cons,List.map_nil,this]; exact hd1) hd2
 obtain ⟨e,w',fr,⟨v,rfl,F',Kp',hQe⟩,hsteps,-,hleave⟩:=hcalls (E.b.atR { a with defers:=[{ target:=.collected w.heap.size,args:=#[] }]++a.defers } (.inRangeFunc (w.heap.size+1) :: k) :: E.cs)
 refine .step (Steps.head hstep (hsteps.trans (.one (step_leave_returned hleave)))) ?_
 rw [finish_atR_inRangeFunc]
 rw [hlen] at hQe
 obtain ⟨C',Z',Ds',F2,K2,hm',hv',hn',hx',hd',hl',hzl',hol',hy',hdj',hzf',hF',hK'⟩:=hQe
 -- the loop is left
 have f6:Fr w' (·=w.heap.size+1) (w'.putObj (w.heap.size+1) (.loop { rec' (Xo cont 0 xs.length) with state:=.exhausted })):=WV
 obtain ⟨hm2,he2⟩:=hm'.apart (M':=fun b=>Own C' b ∨ b ∈ Ds') f6 (fun b hb e=>hol' (e ▸ hb)) (fun b hb e=>hzl' (e ▸ hb)) (fun b h=>.inl h)
 have hleft:=stepR_endRangeFunc (P:=P) (b:=E.b) (a:={ a with defers:=[{ target:=.collected w.heap.size,args:=#[] }]++a.defers }) (k:=k) (cs:=E.cs) (run_endLoop (P:=P) hl' (by
  rcases Yq (cont:=cont) (n:=xs.length) (i:=0) with h | h
  · rw [h]; show LoopState.done ≠ _; decide
  · rw [h]; show r0.state ≠ _; rw [← hL]; show LoopState.ready ≠ _; decide))
 refine .step (.one hleft) ?_
 have hgo:=hend { E with Z0:=Z',M:=fun b=>Own C' b ∨ b ∈ Ds',w0:=w'.putObj (w.heap.size+1) (.loop { rec' (Xo cont 0 xs.length) with state:=.exhausted }) }
  ⟨hE.ro,hE.kind,hE.fn,hE.gA,hE.cb,hE.df,hE.stab,hE.ylds,⟨F2,K2,(hE.stab _).mv _ _ _ _ _ hy' f6 (fun b h=>hdj' b (.inl (.inr h))),fun b hb=>hdj' b (hb.imp .inl id),hzf'⟩,hE.fin⟩
  C' Z' { a with defers:=[{ target:=.collected w.heap.size,args:=#[] }]++a.defers } _
  ⟨hv'.mono he2,hm2,⟨Ds',hn',(by rw [hE.df]; exact hx'),fun D hD=>⟨(hd' D hD).1,.inl (.inr hD),by rw [he2.same D (hd' D hD).1]; exact (hd' D hD).2⟩⟩,⟨hr.gh.1,fun i c v h _=>by rw [hE.gA] at h; simp at h⟩,(by rw [hE.cb]; exact .bot:Base E.Cb E.wb C' _)⟩
 rcases Yq (cont:=cont) (n:=xs.length) (i:=0) with h | h
 · rw [h] at hgo ⊢; exact hgo
 · rw [h] at hgo ⊢
   have hpend:(rec' (some (0+xs.length))).pending=none:=by show r0.pending=none; rw [← hL]
   have hnil:((rec' (some (0+xs.length))).pending.map Item.code).toList++k=k:=by rw [hpend]; rfl
   rw [hnil]; exact hgo
end
end Ax
namespace Go.Proofs.Ytemklbioijmjiaa
open Go Ax
open Go.Proofs
theorem Qf:Try.prog.follows .mixedOrders=true:=by kernel_rfl
structure Pt where
 x:Int
 y:Int
 z:Int
structure Mot where
 top:Int
 ease:Int
 jerk:Int
def within (n lo hi:Int):Bool:=decide (lo≤n) && decide (n≤hi)
def Qbu (p:Pt):Bool:=within p.x (-10000) 10000 && within p.y (-10000) 10000 && within p.z (-10000) 10000
def ease (m:Mot) (fails:Bool):Int:=bif fails then m.jerk else m.ease
def arm (a b p:Pt):Int:=(b.x - a.x)*(p.y - a.y) - (b.y - a.y)*(p.x - a.x)
end Go.Proofs.Ytemklbioijmjiaa
namespace Go.Proofs.Ytemklbioijmjiaa
open Go Ax
open Go.Proofs
def validP (l:List Pt):Bool:=within l.length 3 60 && !l.any (fun p=>!Qbu p)
end Go.Proofs.Ytemklbioijmjiaa
namespace Go.Proofs.Ytemklbioijmjiaa
open Go Ax
open Go.Proofs
structure Chg where
 phase:Int
 before:Int
 after:Int
end Go.Proofs.Ytemklbioijmjiaa
namespace Go.Proofs.Ytemklbioijmjiaa
open Go Ax
open Go.Proofs
structure Rg where
 seats:List (List Pt)
 feet:List Pt
 frame:Int
 c:Pt
 empty:Int
 full:Int
def linesOf (f:List Pt):List (Pt × Pt):=(List.range' 0 f.length).map fun i=>(f.getD i ⟨0,0,0⟩,f.getD ((i+1) % f.length) ⟨0,0,0⟩)
def phasesOf (r:Rg):Int:=match r.seats.getLast? with
 | some s=>s.length
 | none=>1
end Go.Proofs.Ytemklbioijmjiaa
namespace Go.Proofs.Ytemklbioijmjiaa
open Go Ax
open Go.Proofs
structure RgOk (r:Rg) (n:Nat):Prop where
 seats:r.seats.length≤20
 each:∀ s ∈ r.seats,s.length=n∧validP s=true
 feet0:3≤r.feet.length
 feet1:r.feet.length≤8
 foot:∀ p ∈ r.feet,Qbu p=true
 center:Qbu r.c=true
 frame0:0≤r.frame
 frame1:r.frame≤1000000
 empty0:0≤r.empty
 empty1:r.empty≤r.full
 full1:r.full≤1000000
end Go.Proofs.Ytemklbioijmjiaa
namespace Go.Proofs.Ytemklbioijmjiaa
open Go Ax
open Go.Proofs
def lineAt (r:Rg) (v:Nat):Pt × Pt:=(linesOf r.feet).getD v (⟨0,0,0⟩,⟨0,0,0⟩)
section
variable {L:List (Nat × Nat)} {yv:Value} {Y:Option Nat→Sd} {cont:Nat→Bool} {e:Option Nat} {r:Rg} {nn:Nat}
end
end Go.Proofs.Ytemklbioijmjiaa
namespace Go.Proofs.Ytemklbioijmjiaa
open Go Ax
open Go.Proofs
def footAt (r:Rg) (k:Nat):Pt:=r.feet.getD k ⟨0,0,0⟩
def badF (r:Rg) (i k:Nat):Bool:=((k:Int) != (i:Int)) && (((k:Int) != Int.tmod ((i:Int)+1) (r.feet.length:Int)) && decide (arm (lineAt r i).1 (lineAt r i).2 (footAt r k)≤0))
def convR (r:Rg) (i:Nat):Nat→Nat→Bool
 | _,0=>true
 | k,d+1=>!badF r i k && convR r i (k+1) d
def convP (r:Rg):Nat→Nat→Bool
 | _,0=>true
 | i,d+1=>convR r i 0 r.feet.length && convP r (i+1) d
def convexV (r:Rg):Bool:=convP r 0 r.feet.length
structure FeetOk (r:Rg):Prop where
 feet0:3≤r.feet.length
 feet1:r.feet.length≤8
 foot:∀ p ∈ r.feet,Qbu p=true
end Go.Proofs.Ytemklbioijmjiaa
namespace Go.Proofs.Ytemklbioijmjiaa
open Go Ax
open Go.Proofs
structure RigSmall (r:Rg):Prop where
 seats:r.seats.length≤1000
 feet:r.feet.length≤1000
 each:∀ s ∈ r.seats,s.length≤1000
end Go.Proofs.Ytemklbioijmjiaa
namespace Go.Proofs.Ytemklbioijmjiaa
open Go Ax
open Go.Proofs
def phN (r:Rg):Nat:=(phasesOf r).toNat
structure RigMade (r:Rg):Prop where
 ok:RgOk r (phN r)
 ph:phasesOf r=(phN r:Nat)
 le:phN r≤60
 pos:1≤phN r
 conv:convexV r=true
end Go.Proofs.Ytemklbioijmjiaa
namespace Go.Proofs.Ytemklbioijmjiaa
open Go Ax
open Go.Proofs
/-! ### CheckRig,Moment,Bears,Least -/
/-! ### Least -/
end Go.Proofs.Ytemklbioijmjiaa
namespace Go.Proofs.Ytemklbioijmjiaa
open Go Ax
open Go.Proofs
/-! ### the plain law of Least -/
end Go.Proofs.Ytemklbioijmjiaa

namespace Go.Proofs.Ytemklbioijmjiaa
open Go Ax
open Go.Proofs
structure BPart where
 w:Int
 m:Int
 pins:Int
 needs:List Int
def cBp (t:BPart):List AV:=[.int .i64 t.w,.int .i64 t.m,.int .i64 t.pins,.rsl (rowI t.needs) 0 t.needs.length]
def QF (l:List BPart):List AV:=l.flatMap cBp
structure BKit where
 parts:List BPart
 crane:Int
 vans:List (List Int)
structure Yard where
 k:BKit
 above:List (List Int)
 below:List (List Int)
structure KitSmall (k:BKit):Prop where
 parts:k.parts.length≤20
 needs:∀ p ∈ k.parts,p.needs.length≤9223372036854775807
 vans:k.vans.length≤10
 van:∀ v ∈ k.vans,v.length≤9223372036854775807
/-! ### What can be put up -/
def InN (n:Nat) (l:List Int):Prop:=∀ x ∈ l,0≤x∧x<(n:Int)
def allB (s:List Bool) (l:List Int):Bool:=!(l.any fun x=>!(s.getD x.toNat false))
def upB (y:Yard) (s:List Bool) (p:Int):Bool:=!(s.getD p.toNat false) && (allB s (y.k.parts.getD p.toNat ⟨0,0,0,[]⟩).needs && (decide ((y.k.parts.getD p.toNat ⟨0,0,0,[]⟩).w≤y.k.crane) && allB s (y.above.getD p.toNat [])))
structure YardOk (y:Yard):Prop where
 n:y.k.parts.length≤16
 needs:∀ p ∈ y.k.parts,InN y.k.parts.length p.needs∧p.needs.length≤1000
 alen:y.above.length=y.k.parts.length
 above:∀ l ∈ y.above,InN y.k.parts.length l∧l.length≤1000
def idxG {α:Type} (p:α→Bool) (l:List α):Int:=match l.findIdx? p with
 | some i=>(i:Int)
 | none=>-1
theorem XQ {α:Type} (p:α→Bool) (l:List α):∀ (d i:Nat),i+d=l.length→(∀ j x,j<i→l[j]?=some x→p x=false)→∀ (Q:Nat→Prop),(∀ i,i<l.length→(∀ x,l[i]?=some x→(p x=true→idxG p l=i))→(∀ x,l[i]?=some x→p x=false→Q (i+1))→Q i) →
 ((∀ x ∈ l,p x=false)→idxG p l=-1→Q l.length)→Q i:=by
 intro d
 induction d with
 | zero =>
  intro i hi hp Q h1 h2
  have:i=l.length:=by omega
  subst this
  have hall:∀ x ∈ l,p x=false:=fun x hx=>by
   obtain ⟨j,hj⟩:=List.getElem?_of_mem hx
   exact hp j x (List.getElem?_eq_some_iff.1 hj).1 hj
  exact h2 hall (by simp only [idxG]; rw [List.findIdx?_eq_none_iff.2 hall])
 | succ d ih =>
  intro i hi hp Q h1 h2
  refine h1 i (by omega) (fun x hx hpx=>?_) (fun x hx hpx=>ih (i+1) (by omega) (fun j y hj hy=>?_) Q h1 h2)
  · have:l.findIdx? p=some i:=by
     rw [List.findIdx?_eq_some_iff_getElem]
     have hlt:=(List.getElem?_eq_some_iff.1 hx).1
     have he:=(List.getElem?_eq_some_iff.1 hx).2
     refine ⟨hlt,by rw [he]; exact hpx,fun j hj=>?_⟩
     have:=hp j _ hj (List.getElem?_eq_getElem (by omega))
     simp [this]
    simp only [idxG,this]
  · rcases Nat.lt_or_ge j i with h | h
    · exact hp j y h hy
    · have:j=i:=by omega
      subst this
      rw [hx] at hy; cases hy; exact hpx
theorem Yz {α:Type} (p:α→Bool) (l:List α):decide (idxG p l≥0)=l.any p:=by
 cases h:l.findIdx? p with
 | none =>
  have e:idxG p l=-1:=by simp only [idxG,h]
  rw [e]
  rw [List.findIdx?_eq_none_iff] at h
  rw [show l.any p=false from by simpa using fun x hx=>by simpa using h x hx]; rfl
 | some i =>
  have e:idxG p l=(i:Int):=by simp only [idxG,h]
  rw [e]
  have:=List.findIdx?_eq_some_iff_getElem.1 h
  obtain ⟨h1,h2,-⟩:=this
  have:l.any p=true:=by rw [List.any_eq_true]; exact ⟨l[i],List.getElem_mem _,h2⟩
  rw [this]; simp
theorem f117b:Try.f117.body=some (Qc Try.prog 117):=by kernel_rfl
theorem u117 {a c k:List AV} {r:AV} (h:Pure Try.prog 117 (a++c++k) r):Qd Try.prog (.clos 117 a k) c r:=Qi Try.func117 (by kernel_rfl) f117b h
theorem p117_start_0 (n:Int) (lo:Int) (hi:Int) {E:Env} {res:AV} (hE:Qe Try.prog 117 res E) (ho:AllP [(decide (n≥lo))=true])
 (hr:AvLe (.bool (decide (n≤hi))) res):G Try.prog E [.code (Qc Try.prog 117)] ⟨[.int .i64 n,.int .i64 lo,.int .i64 hi]++unds (Try.f117.ntmps - 3),[]⟩ :=
 Qb (n:=400) (evs:=[.b true]) (obs:=_) hE Try.func117 Qf (by kernel_rfl) ho hr
theorem p117_start_1 (n:Int) (lo:Int) (hi:Int) {E:Env} {res:AV} (hE:Qe Try.prog 117 res E) (ho:AllP [(decide (n≥lo))=false])
 (hr:AvLe (.bool false) res):G Try.prog E [.code (Qc Try.prog 117)] ⟨[.int .i64 n,.int .i64 lo,.int .i64 hi]++unds (Try.f117.ntmps - 3),[]⟩ :=
 Qb (n:=400) (evs:=[.b false]) (obs:=_) hE Try.func117 Qf (by kernel_rfl) ho hr
theorem f117W (n:Int) (lo:Int) (hi:Int) {E:Env} {rv:Bool} (hE:Qe Try.prog 117 (.bool rv) E)
 (h:((n≥lo→rv=(decide (n≤hi)))∧(¬ (n≥lo)→rv=false))):G Try.prog E [.code (Qc Try.prog 117)] ⟨[.int .i64 n,.int .i64 lo,.int .i64 hi]++unds (Try.f117.ntmps - 3),[]⟩:=by
 rcases bft (decide (n≥lo)) with hc0 | hc0
 · have h:=h.1 (odt hc0)
   exact p117_start_0 n lo hi hE ⟨hc0,trivial⟩ (AvLe.of_eq (by rw [h]; try rfl))
 · have h:=h.2 (odf hc0)
   exact p117_start_1 n lo hi hE ⟨hc0,trivial⟩ (AvLe.of_eq (by rw [h]; try rfl))
def Qa (n lo hi:Int):Bool:=decide (n≥lo) && decide (n≤hi)
theorem QK {n lo hi:Int}:Qa n lo hi=true ↔ lo≤n∧n≤hi:=by
 simp only [Qa,Bool.and_eq_true,decide_eq_true_eq,ge_iff_le]
theorem QC (n lo hi:Int):Pure Try.prog 117 [.int .i64 n,.int .i64 lo,.int .i64 hi] (.bool (Qa n lo hi)):=Qu Try.func117 f117b fun E hE=>by
 refine f117W n lo hi hE ⟨fun h=>by simp [Qa,h],fun h=>by simp [Qa,h]⟩
theorem f241b:Try.f241.body=some (Qc Try.prog 241):=by kernel_rfl
theorem u241 {a c k:List AV} {r:AV} (h:Pure Try.prog 241 (a++c++k) r):Qd Try.prog (.clos 241 a k) c r:=Qi Try.func241 (by kernel_rfl) f241b h
theorem p241_start_0 (p:Int) (s:List Bool) (eb:Bool) {E:Env} {res:AV} (hE:Qe Try.prog 241 res E) (ho:AllP [0≤p∧p<(s.length:Int),((rowB s).drop (0+(Int.toNat p)*1)).take 1=[.bool eb]])
 (hr:AvLe (.bool (!eb)) res):G Try.prog E [.code (Qc Try.prog 241)] ⟨[.int .i64 p,.rptr [.rsl (rowB s) 0 s.length] 0]++unds (Try.f241.ntmps - 2),[]⟩ :=
 Qb (n:=400) (evs:=[.auto,.ld (.bool eb)]) (obs:=_) hE Try.func241 Qf (by kernel_rfl) ho hr
theorem f241W (p:Int) (s:List Bool) {E:Env} {rv:Bool} (hE:Qe Try.prog 241 (.bool rv) E)
 (h:(0≤p∧(∃ eb:Bool,s[Int.toNat p]?=some eb∧rv=(!eb)))):G Try.prog E [.code (Qc Try.prog 241)] ⟨[.int .i64 p,.rptr [.rsl (rowB s) 0 s.length] 0]++unds (Try.f241.ntmps - 2),[]⟩:=by
 obtain ⟨h2,h⟩:=h
 obtain ⟨eb,h1,h⟩:=h
 exact p241_start_0 p s eb hE ⟨(Qj h2 h1),(rp cB 1 0 1 h1),trivial⟩ (AvLe.of_eq (by rw [h]; try rfl))
theorem notin_ok (p:Int) (s:List Bool) (h:0≤p∧p<(s.length:Int)):Pure Try.prog 241 [.int .i64 p,.rptr [.rsl (rowB s) 0 s.length] 0] (.bool (!(s.getD p.toNat false))):=Qu Try.func241 f241b fun E hE=>by
 have hg:s[Int.toNat p]?=some (s[Int.toNat p]'(by omega)):=List.getElem?_eq_getElem (by omega)
 have e:s.getD p.toNat false=s[Int.toNat p]'(by omega):=by simp [List.getD,hg]
 rw [e] at hE
 exact f241W p s hE ⟨h.1,_,hg,rfl⟩
theorem f59sb:Try.f59.body=some (Qc Try.prog 59):=by kernel_rfl
def QaZ (P:Program):List Item:=kAt 400 [.code (Qc P 59)] [.stop]
def f59sS0 (l:(List Int)) (s:List Bool) (i:Nat):St:=⟨([.rsl (rowI l) 0 l.length,.clos 241 [] [.rptr [.rsl (rowB s) 0 s.length] 0]]++jj 5 ([.int .i64 (l.length:Int),.int .i64 (i:Int)]++Js 10)),[]⟩
def f59sG0 (E:Env) (l:(List Int)) (s:List Bool) (i:Nat):Prop:=G Try.prog E (QaZ Try.prog) (f59sS0 l s i )
theorem p59s_start_0 (l:(List Int)) (s:List Bool) {E:Env} {rv:AV} (hE:Qe Try.prog 59 rv E) (ho:AllP [])
 (hg:G Try.prog E (QaZ Try.prog) ⟨([.rsl (rowI l) 0 l.length,.clos 241 [] [.rptr [.rsl (rowB s) 0 s.length] 0]]++jj 5 ([.int .i64 (l.length:Int),.int .i64 0]++Js 10)),[]⟩):G Try.prog E [.code (Qc Try.prog 59)] ⟨[.rsl (rowI l) 0 l.length,.clos 241 [] [.rptr [.rsl (rowB s) 0 s.length] 0]]++unds (Try.f59.ntmps - 2),[]⟩ :=
 Qh (n:=400) (ds:=[]) (cs:=[]) (live:=[0,1,7,8]) (m:=0) (evs:=[.stop]) (obs:=_) hE.2.1 (hE.nogh _) Qf (by kernel_rfl) ho hg
theorem f59sW (l:(List Int)) (s:List Bool) {E:Env} {rv:Int} (hE:Qe Try.prog 59 (.int .i64 rv) E)
 (h:f59sG0 E l s 0):G Try.prog E [.code (Qc Try.prog 59)] ⟨[.rsl (rowI l) 0 l.length,.clos 241 [] [.rptr [.rsl (rowB s) 0 s.length] 0]]++unds (Try.f59.ntmps - 2),[]⟩:=by
 exact p59s_start_0 l s hE trivial h
theorem p59s_0_0 (l:(List Int)) (s:List Bool) (i:Nat) (e:Int) {E:Env} {res:AV} (hE:Qe Try.prog 59 res E) (ho:AllP [(decide ((i:Int)<(l.length:Int)))=true,0≤(i:Int)∧(i:Int)<(l.length:Int),((rowI l).drop (0+(Int.toNat (i:Int))*1)).take 1=[.int .i64 e],Qd Try.prog (.clos 241 [] [.rptr [.rsl (rowB s) 0 s.length] 0]) [.int .i64 e] (.bool (!(s.getD (Int.toNat e) false))),(!(s.getD (Int.toNat e) false))=true])
 (hr:AvLe (.int .i64 (i:Int)) res):G Try.prog E (QaZ Try.prog) (f59sS0 l s i ) :=
 Qb (n:=400) (evs:=[.b true,.ld (.int .i64 e),.v (.bool (!(s.getD (Int.toNat e) false))),.b true]) (obs:=_) hE Try.func59 Qf (by kernel_rfl) ho hr
theorem p59s_0_1 (l:(List Int)) (s:List Bool) (i:Nat) (e:Int) {E:Env} {rv:AV} (hE:Qe Try.prog 59 rv E) (ho:AllP [(decide ((i:Int)<(l.length:Int)))=true,0≤(i:Int)∧(i:Int)<(l.length:Int),((rowI l).drop (0+(Int.toNat (i:Int))*1)).take 1=[.int .i64 e],Qd Try.prog (.clos 241 [] [.rptr [.rsl (rowB s) 0 s.length] 0]) [.int .i64 e] (.bool (!(s.getD (Int.toNat e) false))),(!(s.getD (Int.toNat e) false))=false,InR .i64 ((i:Int)+1)])
 (hg:G Try.prog E (QaZ Try.prog) ⟨([.rsl (rowI l) 0 l.length,.clos 241 [] [.rptr [.rsl (rowB s) 0 s.length] 0]]++jj 5 ([.int .i64 (l.length:Int),.int .i64 ((i:Int)+1)]++Js 10)),[]⟩):G Try.prog E (QaZ Try.prog) (f59sS0 l s i ) :=
 Qh (n:=400) (ds:=[]) (cs:=[]) (live:=[0,1,7,8]) (m:=0) (evs:=[.b true,.ld (.int .i64 e),.v (.bool (!(s.getD (Int.toNat e) false))),.b false,.stop]) (obs:=_) hE.2.1 (hE.nogh _) Qf (by kernel_rfl) ho hg
theorem p59s_0_2 (l:(List Int)) (s:List Bool) (i:Nat) {E:Env} {res:AV} (hE:Qe Try.prog 59 res E) (ho:AllP [(decide ((i:Int)<(l.length:Int)))=false])
 (hr:AvLe (.int .i64 (-1)) res):G Try.prog E (QaZ Try.prog) (f59sS0 l s i ) :=
 Qb (n:=400) (evs:=[.b false]) (obs:=_) hE Try.func59 Qf (by kernel_rfl) ho hr
theorem f59sW0 (l:(List Int)) (s:List Bool) (i:Nat) {E:Env} {rv:Int} (hE:Qe Try.prog 59 (.int .i64 rv) E)
 (h:(((i:Int)<(l.length:Int)→(∃ e:Int,l[i]?=some e∧((0≤e∧e<(s.length:Int))∧(((s.getD (Int.toNat e) false)=false→rv=(i:Int))∧((s.getD (Int.toNat e) false)=true→((I6 ((i:Int)+1))∧f59sG0 E l s (i+1)))))))∧(¬ ((i:Int)<(l.length:Int))→rv=(-1)))):f59sG0 E l s i:=by
 rcases bft (decide ((i:Int)<(l.length:Int))) with hc0 | hc0
 · have h:=h.1 (odt hc0)
   obtain ⟨e,h1,h⟩:=h
   obtain ⟨h2,h⟩:=h
   rcases bft (!(s.getD (Int.toNat e) false)) with hc1 | hc1
   · have h:=h.1 (bnT hc1)
     exact p59s_0_0 l s i e hE ⟨hc0,(Qn h1),(rp cI 1 0 1 h1),(u241 (notin_ok e s h2)),hc1,trivial⟩ (AvLe.of_eq (by rw [h]; try rfl))
   · have h:=h.2 (bnF hc1)
     obtain ⟨q6_2,h⟩:=h
     exact p59s_0_1 l s i e hE ⟨hc0,(Qn h1),(rp cI 1 0 1 h1),(u241 (notin_ok e s h2)),hc1,q6_2,trivial⟩ h
 · have h:=h.2 (odf hc0)
   exact p59s_0_2 l s i hE ⟨hc0,trivial⟩ (AvLe.of_eq (by rw [h]; try rfl))
theorem idxNotIn_ok (l:List Int) (s:List Bool) (h:(∀ x ∈ l,0≤x∧x<(s.length:Int))∧l.length≤9223372036854775807):Pure Try.prog 59 [.rsl (rowI l) 0 l.length,.clos 241 [] [.rptr [.rsl (rowB s) 0 s.length] 0]] (.int .i64 (idxG (fun x=>!(s.getD (Int.toNat x) false)) l)):=Qu Try.func59 f59sb fun E hE=>by
 have hl:=h.2
 refine f59sW l s (rv:=idxG (fun x=>!(s.getD (Int.toNat x) false)) l) hE (XQ (fun x=>!(s.getD (Int.toNat x) false)) l l.length 0 (by omega) (fun j x hj=>by omega) (fun i=>f59sG0 E l s i) (fun i hi' h1 h2=>?_) (fun _ h2=>?_))
 · have hx:l[i]?=some l[i]:=List.getElem?_eq_getElem hi'
   have hm:=List.mem_of_getElem? hx
   exact f59sW0 l s i (rv:=idxG (fun x=>!(s.getD (Int.toNat x) false)) l) hE ⟨fun _=>⟨_,hx,h.1 _ hm,fun hp=>h1 _ hx (by simpa using hp),fun hp=>⟨by omega,h2 _ hx (by simpa using hp)⟩⟩,fun h=>by omega⟩
 · exact f59sW0 l s _ (rv:=idxG (fun x=>!(s.getD (Int.toNat x) false)) l) hE ⟨fun h=>by omega,fun _=>h2⟩
theorem f76sb:Try.f76.body=some (Qc Try.prog 76):=by kernel_rfl
theorem p76s_start_0 (l:(List Int)) (s:List Bool) {E:Env} {res:AV} (hE:Qe Try.prog 76 res E) (ho:AllP [Qd Try.prog (.clos 59 [] []) [.rsl (rowI l) 0 l.length,.clos 241 [] [.rptr [.rsl (rowB s) 0 s.length] 0]] (.int .i64 (idxG (fun x=>!(s.getD (Int.toNat x) false)) l))])
 (hr:AvLe (.bool (decide ((idxG (fun x=>!(s.getD (Int.toNat x) false)) l)≥0))) res):G Try.prog E [.code (Qc Try.prog 76)] ⟨[.rsl (rowI l) 0 l.length,.clos 241 [] [.rptr [.rsl (rowB s) 0 s.length] 0]]++unds (Try.f76.ntmps - 2),[]⟩ :=
 Qb (n:=400) (evs:=[.v (.int .i64 (idxG (fun x=>!(s.getD (Int.toNat x) false)) l))]) (obs:=_) hE Try.func76 Qf (by kernel_rfl) ho hr
theorem f76sW (l:(List Int)) (s:List Bool) {E:Env} {rv:Bool} (hE:Qe Try.prog 76 (.bool rv) E)
 (h:(((∀ x ∈ l,0≤x∧x<(s.length:Int))∧l.length≤9223372036854775807)∧rv=(decide ((idxG (fun x=>!(s.getD (Int.toNat x) false)) l)≥0)))):G Try.prog E [.code (Qc Try.prog 76)] ⟨[.rsl (rowI l) 0 l.length,.clos 241 [] [.rptr [.rsl (rowB s) 0 s.length] 0]]++unds (Try.f76.ntmps - 2),[]⟩:=by
 obtain ⟨h1,h⟩:=h
 exact p76s_start_0 l s hE ⟨(Qi Try.func59 (by kernel_rfl) f59sb (idxNotIn_ok l s h1)),trivial⟩ (AvLe.of_eq (by rw [h]; try rfl))
theorem anyNotIn_ok (l:List Int) (s:List Bool) (h:(∀ x ∈ l,0≤x∧x<(s.length:Int))∧l.length≤9223372036854775807):Pure Try.prog 76 [.rsl (rowI l) 0 l.length,.clos 241 [] [.rptr [.rsl (rowB s) 0 s.length] 0]] (.bool (l.any (fun x=>!(s.getD (Int.toNat x) false)))):=Qu Try.func76 f76sb fun E hE =>
 f76sW l s (rv:=l.any (fun x=>!(s.getD (Int.toNat x) false))) hE ⟨h,(Yz _ _).symm⟩
theorem f188b:Try.f188.body=some (Qc Try.prog 188):=by kernel_rfl
theorem u188 {a c k:List AV} {r:AV} (h:Pure Try.prog 188 (a++c++k) r):Qd Try.prog (.clos 188 a k) c r:=Qi Try.func188 (by kernel_rfl) f188b h
theorem p188_start_0 (s:(List Bool)) (l:(List Int)) {E:Env} {res:AV} (hE:Qe Try.prog 188 res E) (ho:AllP [Qd Try.prog (.clos 76 [] []) [.rsl (rowI l) 0 l.length,.clos 241 [] [.rptr [.rsl (rowB s) 0 s.length] 0]] (.bool (l.any (fun x=>!(s.getD (Int.toNat x) false))))])
 (hr:AvLe (.bool (!(l.any (fun x=>!(s.getD (Int.toNat x) false))))) res):G Try.prog E [.code (Qc Try.prog 188)] ⟨[.rsl (rowB s) 0 s.length,.rsl (rowI l) 0 l.length]++unds (Try.f188.ntmps - 2),[]⟩ :=
 Qb (n:=400) (evs:=[.v (.bool (l.any (fun x=>!(s.getD (Int.toNat x) false))))]) (obs:=_) hE Try.func188 Qf (by kernel_rfl) ho hr
theorem f188W (s:(List Bool)) (l:(List Int)) {E:Env} {rv:Bool} (hE:Qe Try.prog 188 (.bool rv) E)
 (h:(((∀ x ∈ l,0≤x∧x<(s.length:Int))∧l.length≤9223372036854775807)∧rv=(!(l.any (fun x=>!(s.getD (Int.toNat x) false)))))):G Try.prog E [.code (Qc Try.prog 188)] ⟨[.rsl (rowB s) 0 s.length,.rsl (rowI l) 0 l.length]++unds (Try.f188.ntmps - 2),[]⟩:=by
 obtain ⟨h1,h⟩:=h
 exact p188_start_0 s l hE ⟨(Qi Try.func76 (by kernel_rfl) f76sb (anyNotIn_ok l s h1)),trivial⟩ (AvLe.of_eq (by rw [h]; try rfl))
theorem all_ok (s:List Bool) (l:List Int) (h:InN s.length l∧l.length≤1000):Pure Try.prog 188 [.rsl (rowB s) 0 s.length,.rsl (rowI l) 0 l.length] (.bool (allB s l)):=Qu Try.func188 f188b fun E hE=>by
 exact f188W s l (rv:=allB s l) hE ⟨⟨h.1,by omega⟩,rfl⟩
theorem f119b:Try.f119.body=some (Qc Try.prog 119):=by kernel_rfl
theorem u119 {a c k:List AV} {r:AV} (h:Pure Try.prog 119 (a++c++k) r):Qd Try.prog (.clos 119 a k) c r:=Qi Try.func119 (by kernel_rfl) f119b h
abbrev z119_1 (y:Yard) (s:(List Bool)) (p:Int):List AV:=[.rptr [.rsl (QF y.k.parts) 0 y.k.parts.length,.int .i64 y.k.crane,.rsl ((Qs rowI) y.k.vans) 0 y.k.vans.length,.rsl ((Qs rowI) y.above) 0 y.above.length,.rsl ((Qs rowI) y.below) 0 y.below.length] 0,.rsl (rowB s) 0 s.length,.int .i64 p]
theorem p119_start_0 (y:Yard) (s:(List Bool)) (p:Int) (eb:Bool) (be:BPart) (le:(List Int)) {E:Env} {res:AV} (hE:Qe Try.prog 119 res E) (ho:AllP [0≤p∧p<(s.length:Int),((rowB s).drop (0+(Int.toNat p)*1)).take 1=[.bool eb],(!eb)=true,0≤p∧p<(y.k.parts.length:Int),((QF y.k.parts).drop ((0+(Int.toNat p)*4)+3)).take 1=[.rsl (rowI be.needs) 0 be.needs.length],Qd Try.prog (.clos 188 [] []) [.rsl (rowB s) 0 s.length,.rsl (rowI be.needs) 0 be.needs.length] (.bool (allB s be.needs)),(allB s be.needs)=true,0≤p∧p<(y.k.parts.length:Int),((QF y.k.parts).drop ((0+(Int.toNat p)*4)+0)).take 1=[.int .i64 be.w],(decide (be.w≤y.k.crane))=true,0≤p∧p<(y.above.length:Int),(((Qs rowI) y.above).drop (0+(Int.toNat p)*1)).take 1=[.rsl (rowI le) 0 le.length],Qd Try.prog (.clos 188 [] []) [.rsl (rowB s) 0 s.length,.rsl (rowI le) 0 le.length] (.bool (allB s le))])
 (hr:AvLe (.bool (allB s le)) res):G Try.prog E [.code (Qc Try.prog 119)] ⟨(z119_1 y s p)++unds (Try.f119.ntmps - 3),[]⟩ :=
 Qb (n:=400) (evs:=[.ld (.bool eb),.b true,.auto,.ld (.rsl (rowI be.needs) 0 be.needs.length),.v (.bool (allB s be.needs)),.b true,.auto,.ld (.int .i64 be.w),.b true,.auto,.ld (.rsl (rowI le) 0 le.length),.v (.bool (allB s le))]) (obs:=_) hE Try.func119 Qf (by kernel_rfl) ho hr
theorem p119_start_1 (y:Yard) (s:(List Bool)) (p:Int) (eb:Bool) (be:BPart) {E:Env} {res:AV} (hE:Qe Try.prog 119 res E) (ho:AllP [0≤p∧p<(s.length:Int),((rowB s).drop (0+(Int.toNat p)*1)).take 1=[.bool eb],(!eb)=true,0≤p∧p<(y.k.parts.length:Int),((QF y.k.parts).drop ((0+(Int.toNat p)*4)+3)).take 1=[.rsl (rowI be.needs) 0 be.needs.length],Qd Try.prog (.clos 188 [] []) [.rsl (rowB s) 0 s.length,.rsl (rowI be.needs) 0 be.needs.length] (.bool (allB s be.needs)),(allB s be.needs)=true,0≤p∧p<(y.k.parts.length:Int),((QF y.k.parts).drop ((0+(Int.toNat p)*4)+0)).take 1=[.int .i64 be.w],(decide (be.w≤y.k.crane))=false])
 (hr:AvLe (.bool false) res):G Try.prog E [.code (Qc Try.prog 119)] ⟨(z119_1 y s p)++unds (Try.f119.ntmps - 3),[]⟩ :=
 Qb (n:=400) (evs:=[.ld (.bool eb),.b true,.auto,.ld (.rsl (rowI be.needs) 0 be.needs.length),.v (.bool (allB s be.needs)),.b true,.auto,.ld (.int .i64 be.w),.b false]) (obs:=_) hE Try.func119 Qf (by kernel_rfl) ho hr
theorem p119_start_2 (y:Yard) (s:(List Bool)) (p:Int) (eb:Bool) (be:BPart) {E:Env} {res:AV} (hE:Qe Try.prog 119 res E) (ho:AllP [0≤p∧p<(s.length:Int),((rowB s).drop (0+(Int.toNat p)*1)).take 1=[.bool eb],(!eb)=true,0≤p∧p<(y.k.parts.length:Int),((QF y.k.parts).drop ((0+(Int.toNat p)*4)+3)).take 1=[.rsl (rowI be.needs) 0 be.needs.length],Qd Try.prog (.clos 188 [] []) [.rsl (rowB s) 0 s.length,.rsl (rowI be.needs) 0 be.needs.length] (.bool (allB s be.needs)),(allB s be.needs)=false,false=false])
 (hr:AvLe (.bool false) res):G Try.prog E [.code (Qc Try.prog 119)] ⟨(z119_1 y s p)++unds (Try.f119.ntmps - 3),[]⟩ :=
 Qb (n:=400) (evs:=[.ld (.bool eb),.b true,.auto,.ld (.rsl (rowI be.needs) 0 be.needs.length),.v (.bool (allB s be.needs)),.b false,.b false]) (obs:=_) hE Try.func119 Qf (by kernel_rfl) ho hr
theorem p119_start_3 (y:Yard) (s:(List Bool)) (p:Int) (eb:Bool) {E:Env} {res:AV} (hE:Qe Try.prog 119 res E) (ho:AllP [0≤p∧p<(s.length:Int),((rowB s).drop (0+(Int.toNat p)*1)).take 1=[.bool eb],(!eb)=false,false=false,false=false])
 (hr:AvLe (.bool false) res):G Try.prog E [.code (Qc Try.prog 119)] ⟨(z119_1 y s p)++unds (Try.f119.ntmps - 3),[]⟩ :=
 Qb (n:=400) (evs:=[.ld (.bool eb),.b false,.b false,.b false]) (obs:=_) hE Try.func119 Qf (by kernel_rfl) ho hr
theorem f119W (y:Yard) (s:(List Bool)) (p:Int) {E:Env} {rv:Bool} (hE:Qe Try.prog 119 (.bool rv) E)
 (h:(0≤p∧(∃ eb:Bool,s[Int.toNat p]?=some eb∧((eb=false→(0≤p∧(∃ be:BPart,y.k.parts[Int.toNat p]?=some be∧((InN s.length be.needs∧be.needs.length≤1000)∧(((allB s be.needs)=true→((be.w≤y.k.crane→(0≤p∧(∃ le:(List Int),y.above[Int.toNat p]?=some le∧((InN s.length le∧le.length≤1000)∧rv=(allB s le)))))∧(¬ (be.w≤y.k.crane)→rv=false)))∧((allB s be.needs)=false→rv=false))))))∧(eb=true→rv=false))))):G Try.prog E [.code (Qc Try.prog 119)] ⟨[.rptr [.rsl (QF y.k.parts) 0 y.k.parts.length,.int .i64 y.k.crane,.rsl ((Qs rowI) y.k.vans) 0 y.k.vans.length,.rsl ((Qs rowI) y.above) 0 y.above.length,.rsl ((Qs rowI) y.below) 0 y.below.length] 0,.rsl (rowB s) 0 s.length,.int .i64 p]++unds (Try.f119.ntmps - 3),[]⟩:=by
 obtain ⟨h2,h⟩:=h
 obtain ⟨eb,h1,h⟩:=h
 rcases bft (!eb) with hc0 | hc0
 · have h:=h.1 (bnT hc0)
   obtain ⟨h4,h⟩:=h
   obtain ⟨be,h3,h⟩:=h
   obtain ⟨h5,h⟩:=h
   rcases bft (allB s be.needs) with hc1 | hc1
   · have h:=h.1 hc1
     rcases bft (decide (be.w≤y.k.crane)) with hc2 | hc2
     · have h:=h.1 (odt hc2)
       obtain ⟨h7,h⟩:=h
       obtain ⟨le,h6,h⟩:=h
       obtain ⟨h8,h⟩:=h
       exact p119_start_0 y s p eb be le hE ⟨(Qj h2 h1),(rp cB 1 0 1 h1),hc0,(Qj h4 h3),(rp cBp 4 3 1 h3),(u188 (all_ok s be.needs h5)),hc1,(Qj h4 h3),(rp cBp 4 0 1 h3),hc2,(Qj h7 h6),(rp (cLs rowI) 1 0 1 h6),(u188 (all_ok s le h8)),trivial⟩ (AvLe.of_eq (by rw [h]; try rfl))
     · have h:=h.2 (odf hc2)
       exact p119_start_1 y s p eb be hE ⟨(Qj h2 h1),(rp cB 1 0 1 h1),hc0,(Qj h4 h3),(rp cBp 4 3 1 h3),(u188 (all_ok s be.needs h5)),hc1,(Qj h4 h3),(rp cBp 4 0 1 h3),hc2,trivial⟩ (AvLe.of_eq (by rw [h]; try rfl))
   · have h:=h.2 hc1
     exact p119_start_2 y s p eb be hE ⟨(Qj h2 h1),(rp cB 1 0 1 h1),hc0,(Qj h4 h3),(rp cBp 4 3 1 h3),(u188 (all_ok s be.needs h5)),hc1,rfl,trivial⟩ (AvLe.of_eq (by rw [h]; try rfl))
 · have h:=h.2 (bnF hc0)
   exact p119_start_3 y s p eb hE ⟨(Qj h2 h1),(rp cB 1 0 1 h1),hc0,rfl,rfl,trivial⟩ (AvLe.of_eq (by rw [h]; try rfl))
theorem QO {α:Type} {l:List α} {i:Int} (d:α) (h:0≤i∧i<(l.length:Int)):l[Int.toNat i]?=some (l.getD (Int.toNat i) d):=by
 have:Int.toNat i<l.length:=by omega
 simp [List.getD,this]
theorem Kf (y:Yard) (s:List Bool) (p:Int) (h:YardOk y∧s.length=y.k.parts.length∧(0≤p∧p<(s.length:Int))):Pure Try.prog 119 [.rptr [.rsl (QF y.k.parts) 0 y.k.parts.length,.int .i64 y.k.crane,.rsl (Qs rowI y.k.vans) 0 y.k.vans.length,.rsl (Qs rowI y.above) 0 y.above.length,.rsl (Qs rowI y.below) 0 y.below.length] 0,.rsl (rowB s) 0 s.length,.int .i64 p] (.bool (upB y s p)):=Qu Try.func119 f119b fun E hE=>by
 obtain ⟨hy,hs,hp⟩:=h
 have g1:=QO (l:=s) false hp
 have g2:=QO (l:=y.k.parts) ⟨0,0,0,[]⟩ (i:=p) (by omega)
 have g3:=QO (l:=y.above) [] (i:=p) (by have:=hy.alen; omega)
 obtain ⟨n1,n2⟩:=hy.needs _ (List.mem_of_getElem? g2)
 obtain ⟨a1,a2⟩:=hy.above _ (List.mem_of_getElem? g3)
 rw [← hs] at n1 a1
 refine f119W y s p (rv:=upB y s p) hE ⟨hp.1,_,g1,fun h1=>⟨hp.1,_,g2,⟨n1,n2⟩,fun h2=>⟨fun h3=>⟨hp.1,_,g3,⟨a1,a2⟩,?_⟩,fun h3=>?_⟩,fun h2=>?_⟩,fun h1=>?_⟩
 · unfold upB; rw [h1,h2,decide_eq_true h3]; rfl
 · unfold upB; rw [h1,h2,decide_eq_false h3]; rfl
 · unfold upB; rw [h1,h2]; rfl
 · unfold upB; rw [h1]; rfl
end Go.Proofs.Ytemklbioijmjiaa
namespace Go.Proofs.Ytemklbioijmjiaa
open Go Ax
open Go.Proofs
theorem PureO_le {P:Program} {fv:AV} {args args':List AV} {len sz:Nat} {cells:List AV} (h:PureO P fv args len sz cells) (hl:QcZ args' args):PureO P fv args' len sz cells :=
 fun Z w cf cargs hz hf ha=>h Z w cf cargs hz hf (hl.vrs ha)
theorem beq_cast (a b:Nat):(a == b)=((a:Int) == (b:Int)):=by
 rw [Bool.eq_iff_iff,beq_iff_eq,beq_iff_eq]; omega
theorem rsl_zero {row:List AV} {off n:Nat} (h:n=0):AvLe (.rsl row off n) (.rsl [] 0 0):=fun Z w c hc=>by
 subst h
 cases hc <;> exact .rsl0
/-- A list turned round,as the loop does it. -/
def revGo:Nat→Int→Int→List Int→List Int
 | 0,_,_,l=>l
 | n+1,i,j,l=>if i<j then revGo n (i+1) (j - 1) ((l.set i.toNat (l.getD j.toNat 0)).set j.toNat (l.getD i.toNat 0)) else l
def revI (l:List Int):List Int:=revGo l.length 0 ((l.length:Int) - 1) l
theorem revGo_len:∀ {n:Nat} {i j:Int} {l:List Int},(revGo n i j l).length=l.length
 | 0,_,_,l=>rfl
 | n+1,i,j,l=>by
  simp only [revGo]
  split
  · rw [revGo_len]; simp
  · rfl
theorem revI_len {l:List Int}:(revI l).length=l.length:=revGo_len
/-! ### Stacking -/
structure StSt where
 many:Nat
 lies:List Int
 above:List (List Int)
 below:List (List Int)
def WN (n:Nat) (van:List Int):Nat→List Int→StSt→Option StSt
 | _,[],s=>some s
 | i,p :: ps,s=>if Qa p 0 ((n:Int) - 1)=true∧¬ (s.lies.getD p.toNat 0 > 0) then WN n van (i+1) ps ⟨s.many+1,s.lies.set p.toNat 1,s.above.set p.toNat (van.drop (i+1)),s.below.set p.toNat (if 0<i then revI (van.take i) else [])⟩ else none
def WS (n:Nat):List (List Int)→StSt→Option StSt
 | [],s=>some s
 | v :: vs,s=>match WN n v 0 v s with
  | some s'=>WS n vs s'
  | none=>none
def Wh (n:Nat):StSt:=⟨0,List.replicate n 0,List.replicate n [],List.replicate n []⟩
def XA (k:BKit):Option StSt:=WS k.parts.length k.vans (Wh k.parts.length)
def QaF (k:BKit):StSt:=(XA k).getD (Wh 0)
def Qo (k:BKit):Yard:=⟨k,(QaF k).above,(QaF k).below⟩
def yardV (y:Yard):AV:=.rptr [.rsl (QF y.k.parts) 0 y.k.parts.length,.int .i64 y.k.crane,.rsl (Qs rowI y.k.vans) 0 y.k.vans.length,.rsl (Qs rowI y.above) 0 y.above.length,.rsl (Qs rowI y.below) 0 y.below.length] 0
def QaG (k:BKit):Bool:=(QaF k).many == k.parts.length
/-- What 'stacked' gives,behind some lorries. -/
def WT (k:BKit) (o:Option StSt):AV:=match o with
 | some s=>.tup [yardV ⟨k,s.above,s.below⟩,.bool (s.many == k.parts.length)]
 | none=>.tup [.nilPtr,.bool false]
/-! ### Which kits are right -/
def yq (n:Nat) (i:Nat):Int→List Int→Bool
 | _,[]=>true
 | last,x :: xs=>if x≤last ∨ x≥(n:Int) ∨ x=(i:Int) then false else yq n i x xs
def QaM (n i:Nat) (p:BPart):Bool:=Qa p.w 1 1000000 && (Qa p.m 1 100 && (Qa p.pins 0 9 && yq n i (-1) p.needs))
def Wj (n:Nat):Nat→List BPart→Bool
 | _,[]=>true
 | i,p :: ps=>QaM n i p && Wj n (i+1) ps
def YM (k:BKit):Bool:=decide (k.parts.length≤16) && (decide (k.vans.length≤6) && (Qa k.crane 1 1000000 && Wj k.parts.length 0 k.parts))
def Vv (k:BKit):Bool:=YM k && ((XA k).isSome && QaG k)
theorem Ke {n:Nat} {van:List Int}:∀ {ps:List Int} {i:Nat} {s s':StSt},WN n van i ps s=some s'→s'.lies.length=s.lies.length∧s'.above.length=s.above.length∧s'.below.length=s.below.length
 | [],i,s,s',h=>by simp only [WN,Option.some.injEq] at h; subst h; exact ⟨rfl,rfl,rfl⟩
 | p :: ps,i,s,s',h=>by
  simp only [WN] at h
  split at h
  · have:=Ke h
    simpa using this
  · cases h
theorem vanGo_in {n:Nat} {van:List Int}:∀ {ps:List Int} {i:Nat} {s s':StSt},WN n van i ps s=some s'→InN n ps
 | [],i,s,s',h=>fun x hx=>by simp at hx
 | p :: ps,i,s,s',h=>by
  simp only [WN] at h
  split at h
  · rename_i c
    have h1:=QK.1 c.1
    have h2:=vanGo_in h
    intro x hx
    rcases List.mem_cons.1 hx with rfl | hx
    · omega
    · exact h2 x hx
  · cases h
/-- What lies above a part: nothing,or the end of a lorry's list. -/
def Ends (vs:List (List Int)) (l:List Int):Prop:=l=[] ∨ ∃ v ∈ vs,∃ i:Nat,l=v.drop i
theorem QaE {n:Nat} {van:List Int} {vs:List (List Int)} (hv:van ∈ vs):∀ {ps:List Int} {i:Nat} {s s':StSt},WN n van i ps s=some s'→(∀ l ∈ s.above,Ends vs l)→∀ l ∈ s'.above,Ends vs l
 | [],i,s,s',h,h0=>by simp only [WN,Option.some.injEq] at h; subst h; exact h0
 | p :: ps,i,s,s',h,h0=>by
  simp only [WN] at h
  split at h
  · refine QaE hv h fun l hl=>?_
    rcases List.mem_or_eq_of_mem_set hl with hl | rfl
    · exact h0 l hl
    · exact .inr ⟨van,hv,_,rfl⟩
  · cases h
theorem QaC {n:Nat} {ws:List (List Int)}:∀ {vs:List (List Int)} {s s':StSt},(∀ v ∈ vs,v ∈ ws)→WS n vs s=some s'→s'.lies.length=s.lies.length∧s'.above.length=s.above.length∧s'.below.length=s.below.length∧(∀ v ∈ vs,InN n v)∧((∀ l ∈ s.above,Ends ws l)→∀ l ∈ s'.above,Ends ws l)
 | [],s,s',_,h=>by simp only [WS,Option.some.injEq] at h; subst h; exact ⟨rfl,rfl,rfl,fun v hv=>by simp at hv,fun h=>h⟩
 | v :: vs,s,s',hw,h=>by
  simp only [WS] at h
  split at h
  · rename_i s1 h1
    obtain ⟨a,b,c⟩:=Ke h1
    obtain ⟨a2,b2,c2,d2,e2⟩:=QaC (fun x hx=>hw x (List.mem_cons_of_mem _ hx)) h
    refine ⟨by omega,by omega,by omega,fun x hx=>?_,fun h0=>e2 (QaE (hw v List.mem_cons_self) h1 h0)⟩
    rcases List.mem_cons.1 hx with rfl | hx
    · exact vanGo_in h1
    · exact d2 x hx
  · cases h
theorem needGo_in {n i:Nat}:∀ {l:List Int} {last:Int},-1≤last→yq n i last l=true→InN n l
 | [],last,_,_=>fun x hx=>by simp at hx
 | y :: l,last,h0,h=>by
  simp only [yq] at h
  split at h
  · cases h
  · rename_i c
    have h2:=needGo_in (by omega) h
    intro x hx
    rcases List.mem_cons.1 hx with rfl | hx
    · omega
    · exact h2 x hx
theorem VK {n:Nat}:∀ {ps:List BPart} {i:Nat},Wj n i ps=true→∀ (j:Nat) (p:BPart),ps[j]?=some p→QaM n (i+j) p=true
 | [],i,_,j,p,hp=>by simp at hp
 | q :: ps,i,h,j,p,hp=>by
  simp only [Wj,Bool.and_eq_true] at h
  cases j with
  | zero =>
   simp only [List.getElem?_cons_zero,Option.some.injEq] at hp
   subst hp; exact h.1
  | succ j =>
   have:=VK h.2 j p (by simpa using hp)
   rw [show i+(j+1)=i+1+j by omega]; exact this
theorem qS {k:BKit} (h:YM k=true):k.parts.length≤16∧∀ p ∈ k.parts,(1≤p.w∧p.w≤1000000)∧InN k.parts.length p.needs:=by
 simp only [YM,Bool.and_eq_true,decide_eq_true_eq] at h
 refine ⟨h.1,fun p hp=>?_⟩
 obtain ⟨j,hj⟩:=List.getElem?_of_mem hp
 have:=VK h.2.2.2 j p hj
 simp only [QaM,Bool.and_eq_true] at this
 exact ⟨QK.1 this.1,needGo_in (by omega) this.2.2.2⟩
theorem Kj {k:BKit} (h:(XA k).isSome=true):XA k=some (QaF k):=by
 unfold QaF
 cases hs:XA k with
 | none=>rw [hs] at h; cases h
 | some s=>rfl
/-- How many parts lie on the lorries so far. -/
def ones (l:List Int):Nat:=l.countP fun x=>decide (x > 0)
theorem yO:∀ {l:List Int} {p:Nat} {x:Int},l[p]?=some x→¬ x > 0→ones (l.set p 1)=ones l+1
 | [],p,x,h,_=>by simp at h
 | y :: l,0,x,h,hx=>by
  simp only [List.getElem?_cons_zero,Option.some.injEq] at h
  subst h
  simp only [ones,List.set_cons_zero,List.countP_cons]
  rw [if_pos (by decide),if_neg (by simpa using hx)]
 | y :: l,p+1,x,h,hx=>by
  have:=yO (l:=l) (p:=p) (by simpa using h) hx
  simp only [ones,List.set_cons_succ,List.countP_cons] at this ⊢
  omega
theorem ones_le (l:List Int):ones l≤l.length:=List.countP_le_length
theorem QaD {n:Nat} {van:List Int}:∀ {ps:List Int} {i:Nat} {s s':StSt},WN n van i ps s=some s'→s.lies.length=n→s.many=ones s.lies→s'.many=s.many+ps.length∧s'.many=ones s'.lies∧s'.lies.length=n
 | [],i,s,s',h,hl,hm=>by simp only [WN,Option.some.injEq] at h; subst h; exact ⟨rfl,hm,hl⟩
 | p :: ps,i,s,s',h,hl,hm=>by
  simp only [WN] at h
  split at h
  · rename_i c
    have h1:=QK.1 c.1
    have g:=QO (l:=s.lies) 0 (i:=p) (by omega)
    have:=QaD h (by simpa using hl) (by simp only; rw [yO g c.2]; omega)
    simp only [List.length_cons] at this ⊢
    omega
  · cases h
theorem QaB {n:Nat}:∀ {vs:List (List Int)} {s s':StSt},WS n vs s=some s'→s.lies.length=n→s.many=ones s.lies→∀ v ∈ vs,v.length≤n
 | [],s,s',_,_,_=>fun v hv=>by simp at hv
 | v :: vs,s,s',h,hl,hm=>by
  simp only [WS] at h
  split at h
  · rename_i s1 h1
    obtain ⟨a,b,c⟩:=QaD h1 hl hm
    intro x hx
    rcases List.mem_cons.1 hx with rfl | hx
    · have:=ones_le s1.lies; omega
    · exact QaB h c b x hx
  · cases h
theorem QaQ {n i:Nat}:∀ {l:List Int} {last:Int},last<(n:Int)→yq n i last l=true→(l.length:Int)≤(n:Int) - 1 - last
 | [],last,h0,_=>by simp; omega
 | y :: l,last,h0,h=>by
  simp only [yq] at h
  split at h
  · cases h
  · have h2:=QaQ (by omega) h
    simp only [List.length_cons]; omega
theorem ones_zero (n:Nat):ones (List.replicate n 0)=0:=by
 simp [ones,List.countP_replicate]
theorem yard_fine {k:BKit} (hs:KitSmall k) (h:YM k=true) (h2:(XA k).isSome=true):YardOk (Qo k):=by
 obtain ⟨k1,k2⟩:=qS h
 have e:=Kj h2
 unfold XA at e
 obtain ⟨a,b,c,d,f⟩:=QaC (ws:=k.vans) (fun v hv=>hv) e
 have nl:∀ p ∈ k.parts,p.needs.length≤1000:=fun p hp=>by
  simp only [YM,Bool.and_eq_true,decide_eq_true_eq] at h
  obtain ⟨j,hj⟩:=List.getElem?_of_mem hp
  have:=VK h.2.2.2 j p hj
  simp only [QaM,Bool.and_eq_true] at this
  have:=QaQ (by omega) this.2.2.2
  omega
 have vl:=QaB e (by simp [Wh]) (by simp only [Wh]; rw [ones_zero])
 refine ⟨k1,fun p hp=>⟨(k2 p hp).2,nl p hp⟩,by show (QaF k).above.length=_; rw [b]; simp [Wh]; rfl,fun l hl=>?_⟩
 have:=f (fun l hl=>by
  simp only [Wh,List.mem_replicate] at hl
  exact .inl hl.2) l hl
 rcases this with rfl | ⟨v,hv,i,rfl⟩
 · exact ⟨fun x hx=>by simp at hx,by simp⟩
 · refine ⟨fun x hx=>d v hv x (List.mem_of_mem_drop hx),?_⟩
   have:=vl v hv
   rw [List.length_drop]; omega
theorem f187b:Try.f187.body=some (Qc Try.prog 187):=by kernel_rfl
def f187K0 (P:Program):List Item:=kAt 400 [.code (Qc P 187)] [.stop]
def f187S0 (l:List Int) (n0:Nat) (i:Nat) (j:Int) (v0:List Int):St:=⟨([.sl 0 n0 0 v0.length 1,J,.int .i64 (i:Int),.int .i64 j]++Js 24),[⟨true,n0,1,true,(rowI v0),true⟩]⟩
def f187G0 (E:Env) (l:List Int) (n0:Nat) (i:Nat) (j:Int) (v0:List Int):Prop:=G Try.prog E (f187K0 Try.prog) (f187S0 l n0 i j v0 )
theorem p187_start_0 (l:List Int) (n0:Nat) {E:Env} {rv:AV} {bs2:List Blk} (hE:LentE Try.prog 187 [.sl 0 n0 0 0 1] rv bs2 E) (ho:AllP [n0=n0,InR .i64 ((l.length:Int) - 1)])
 (hg:G Try.prog E (f187K0 Try.prog) ⟨([.sl 0 n0 0 l.length 1,J,.int .i64 0,.int .i64 ((l.length:Int) - 1)]++Js 24),[⟨true,n0,1,true,(rowI l),true⟩]⟩):G Try.prog E [.code (Qc Try.prog 187)] ⟨[.sl 0 n0 0 l.length 1]++unds (Try.f187.ntmps - 1),[⟨true,n0,1,true,(rowI l),true⟩]⟩ :=
 Qh (n:=400) (ds:=[]) (cs:=[]) (live:=[0,2,3]) (m:=1) (evs:=[.stop]) (obs:=_) hE.kind (hE.nogh (by kernel_rfl)) Qf (by kernel_rfl) ho hg
theorem f187W (l:List Int) (n0:Nat) {E:Env} {rv:Unit} {lo:List Int} (hE:LentE Try.prog 187 [.sl 0 n0 0 0 1] (.tup []) [⟨true,n0,1,true,(rowI lo),true⟩] E)
 (h:((I6 ((l.length:Int) - 1))∧f187G0 E l n0 0 ((l.length:Int) - 1) l)):G Try.prog E [.code (Qc Try.prog 187)] ⟨[.sl 0 n0 0 l.length 1]++unds (Try.f187.ntmps - 1),[⟨true,n0,1,true,(rowI l),true⟩]⟩:=by
 obtain ⟨q1_0,h⟩:=h
 exact p187_start_0 l n0 hE ⟨rfl,q1_0,trivial⟩ h
theorem p187_0_0 (l:List Int) (n0:Nat) (i:Nat) (j:Int) (v0:List Int) (e:Int) (e1:Int) (e2:Int) {E:Env} {rv:AV} {bs2:List Blk} (hE:LentE Try.prog 187 [.sl 0 n0 0 0 1] rv bs2 E) (ho:AllP [(decide ((i:Int)<j))=true,0≤j∧j<(v0.length:Int),n0=n0,n0=n0,((rowI v0).drop (0+(Int.toNat j)*1)).take 1=[.int .i64 e],0≤(i:Int)∧(i:Int)<(v0.length:Int),n0=n0,n0=n0,((rowI v0).drop (0+(Int.toNat (i:Int))*1)).take 1=[.int .i64 e1],0≤(i:Int)∧(i:Int)<(v0.length:Int),n0=n0,((0+(Int.toNat (i:Int))*1)+1)≤(rowI v0).length,n0=n0,0≤j∧j<(v0.length:Int),n0=n0,((0+(Int.toNat j)*1)+1)≤(Qw (rowI v0) (0+(Int.toNat (i:Int))*1) [.int .i64 e]).length,n0=n0,InR .i64 ((i:Int)+1),InR .i64 (j - 1)])
 (hg:G Try.prog E (f187K0 Try.prog) ⟨([.sl 0 n0 0 v0.length 1,J,.int .i64 ((i:Int)+1),.int .i64 (j - 1)]++Js 24),[⟨true,n0,1,true,(Qw (Qw (rowI v0) (0+(Int.toNat (i:Int))*1) [.int .i64 e]) (0+(Int.toNat j)*1) [.int .i64 e1]),true⟩]⟩):G Try.prog E (f187K0 Try.prog) (f187S0 l n0 i j v0 ) :=
 Qh (n:=400) (ds:=[]) (cs:=[]) (live:=[0,2,3]) (m:=1) (evs:=[.b true,.ld (.int .i64 e),.ld (.int .i64 e1),.stop]) (obs:=_) hE.kind (hE.nogh (by kernel_rfl)) Qf (by kernel_rfl) ho hg
theorem p187_0_1 (l:List Int) (n0:Nat) (i:Nat) (j:Int) (v0:List Int) {E:Env} {res:AV} {bs2:List Blk} (hE:LentE Try.prog 187 [.sl 0 n0 0 0 1] res bs2 E) (ho:AllP [(decide ((i:Int)<j))=false])
 (hr:(.tup [])=res) (hb:[⟨true,n0,1,true,(rowI v0),true⟩]=bs2):G Try.prog E (f187K0 Try.prog) (f187S0 l n0 i j v0 ) :=
 Va (n:=400) (live:=[]) (m:=1) (evs:=[.b false]) (obs:=_) hE (hE.nogh (by kernel_rfl)) Try.func187 Qf (by kernel_rfl) ho hr hb
theorem f187W0 (l:List Int) (n0:Nat) (i:Nat) (j:Int) (v0:List Int) {E:Env} {rv:Unit} {lo:List Int} (hE:LentE Try.prog 187 [.sl 0 n0 0 0 1] (.tup []) [⟨true,n0,1,true,(rowI lo),true⟩] E)
 (h:(((i:Int)<j→(0≤j∧(∃ e:Int,v0[Int.toNat j]?=some e∧(∃ e1:Int,v0[i]?=some e1∧(0≤j∧(∃ e2:Int,(v0.set i e)[Int.toNat j]?=some e2∧((I6 ((i:Int)+1))∧((I6 (j - 1))∧f187G0 E l n0 (i+1) (j - 1) ((v0.set i e).set (Int.toNat j) e1)))))))))∧(¬ ((i:Int)<j)→lo=v0))):f187G0 E l n0 i j v0:=by
 rcases bft (decide ((i:Int)<j)) with hc0 | hc0
 · have h:=h.1 (odt hc0)
   obtain ⟨h2,h⟩:=h
   obtain ⟨e,h1,h⟩:=h
   obtain ⟨e1,h3,h⟩:=h
   obtain ⟨h5,h⟩:=h
   obtain ⟨e2,h4,h⟩:=h
   obtain ⟨q20_1,h⟩:=h
   obtain ⟨q21_1,h⟩:=h
   refine p187_0_0 l n0 i j v0 e e1 e2 hE ⟨hc0,(Qj h2 h1),rfl,rfl,(rp cI 1 0 1 h1),(Qn h3),rfl,rfl,(rp cI 1 0 1 h3),(Qn h3),rfl,(rf cI 1 0 1 h3),rfl,(by have hx:=Qj h5 h4; simpa using hx),rfl,(by rw [(show Qw (rowI v0) (0+(Int.toNat (i:Int))*1) [.int .i64 e]=rowI (v0.set i e) from QJ cI (s:=1) (k:=0) (fun _=>rfl) h3 rfl (by first | decide | simp))]; exact rf cI 1 0 1 h4),rfl,q20_1,q21_1,trivial⟩ ?_
   have h:=h
   simp only [f187G0,f187S0,List.length_set] at h
   rw [(show Qw (rowI v0) (0+(Int.toNat (i:Int))*1) [.int .i64 e]=rowI (v0.set i e) from QJ cI (s:=1) (k:=0) (fun _=>rfl) h3 rfl (by first | decide | simp))]; rw [(show Qw (rowI (v0.set i e)) (0+(Int.toNat j)*1) [.int .i64 e1]=rowI ((v0.set i e).set (Int.toNat j) e1) from QJ cI (s:=1) (k:=0) (fun _=>rfl) h4 rfl (by first | decide | simp))]
   exact h
 · have h:=h.2 (odf hc0)
   have qe0:=h
   exact p187_0_1 l n0 i j v0 hE ⟨hc0,trivial⟩ (by try rfl) (by rw [qe0]; all_goals (first | rfl | (simp only [List.length_set]; done) | (simp only [List.length_set]; rfl) | (simp only [List.length_set,List.length_replicate]; done)))
theorem f171b:Try.f171.body=some (Qc Try.prog 171):=by kernel_rfl
def f171Kd4 (P:Program):List Item:=toOp 1 (kReg 400 [.code (Qc P 171)] [] 1)
def QcV (P:Program):List Item:=toOp 2 (kReg 400 [.code (Qc P 171)] [] 1)
theorem p171_k4_0 (l:(List Int)) (nb:Bool) {E:Env} {res:AV} (hE:Qe Try.prog 171 res E) (ho:AllP [nb=true])
 (hr:AvLe (.nilSl) res):G Try.prog E (QcV Try.prog) ⟨[.rsl (rowI l) 0 l.length,.tup [],.nilSl,.rsl (rowI l) 0 l.length,.bool nb,.tup [],.tup [],.tup []],[]⟩ :=
 Qb (n:=400) (evs:=[.b true]) (obs:=_) hE Try.func171 Qf (by kernel_rfl) ho hr
theorem p171_k4_1 (l:(List Int)) (nb:Bool) {E:Env} {res:AV} (hE:Qe Try.prog 171 res E) (ho:AllP [nb=false,1=1,0=0,0=0,(0+l.length)≤2147483648,((rowI l).drop 0).take (l.length*1)=(rowI l),(rowI l).length=(l.length*1),noRefs (rowI l)=true])
 (hr:AvLe (.rsl (rowI l) 0 (0+l.length)) res):G Try.prog E (QcV Try.prog) ⟨[.rsl (rowI l) 0 l.length,.tup [],.nilSl,.rsl (rowI l) 0 l.length,.bool nb,.tup [],.tup [],.tup []],[]⟩ :=
 Qb (n:=400) (evs:=[.b false,.fz,.cs (rowI l)]) (obs:=_) hE Try.func171 Qf (by kernel_rfl) ho hr
theorem f171Wk4 (l:(List Int)) (nb:Bool) {E:Env} {rv:(List Int)} (hE:Qe Try.prog 171 (.rsl (rowI rv) 0 rv.length) E)
 (h:((nb=true→rv=([]:List Int))∧(nb=false→((0+l.length)≤2147483648∧rv=l)))):G Try.prog E (QcV Try.prog) ⟨[.rsl (rowI l) 0 l.length,.tup [],.nilSl,.rsl (rowI l) 0 l.length,.bool nb,.tup [],.tup [],.tup []],[]⟩:=by
 rcases bft nb with hc0 | hc0
 · have h:=h.1 hc0
   exact p171_k4_0 l nb hE ⟨hc0,trivial⟩ (by rw [h]; exact QN)
 · have h:=h.2 hc0
   obtain ⟨h1,h⟩:=h
   exact p171_k4_1 l nb hE ⟨hc0,rfl,rfl,rfl,h1,(by exact qH cI (fun _=>rfl) l),(by exact XB cI (fun _=>rfl) l),(by exact Vy cI (fun _=>rfl) l),trivial⟩ (AvLe.of_eq (by rw [h]; rw [(show AV.rsl (rowI l) 0 (0+l.length)=AV.rsl (rowI l) 0 l.length from by rw [show (0+l.length)=l.length from by simp])]; try rfl))
theorem p171_start_0 (l:(List Int)) {E:Env} {rv:AV} (hE:Qe Try.prog 171 rv E) (ho:AllP [])
 (hg:∀ nb:Bool,(nb=true→l.length=0)→G Try.prog E (QcV Try.prog) ⟨[.rsl (rowI l) 0 l.length,.tup [],.nilSl,.rsl (rowI l) 0 l.length,.bool nb,.tup [],.tup [],.tup []],[]⟩):G Try.prog E [.code (Qc Try.prog 171)] ⟨[.rsl (rowI l) 0 l.length]++unds (Try.f171.ntmps - 1),[]⟩:=by
 refine Qh (K':=f171Kd4 Try.prog) (st':=⟨[.rsl (rowI l) 0 l.length,.tup [],.nilSl,.rsl (rowI l) 0 l.length,.tup [],.tup [],.tup [],.tup []],[]⟩) (n:=400) (ds:=[]) (cs:=[]) (live:=[0,1,2,3,4,5,6,7]) (m:=0) (evs:=[.hold 2]) (obs:=_) hE.2.1 (hE.nogh _) Qf (by kernel_rfl) ho ?_
 exact nil_at (d:=some 4) (m:=l.length) (by kernel_rfl) hg
theorem f171W (l:(List Int)) {E:Env} {rv:(List Int)} (hE:Qe Try.prog 171 (.rsl (rowI rv) 0 rv.length) E)
 (h:(∀ nb:Bool,(nb=true→l.length=0)→((nb=true→rv=([]:List Int))∧(nb=false→((0+l.length)≤2147483648∧rv=l))))):G Try.prog E [.code (Qc Try.prog 171)] ⟨[.rsl (rowI l) 0 l.length]++unds (Try.f171.ntmps - 1),[]⟩:=by
 exact p171_start_0 l hE trivial (fun nb hn=>f171Wk4 l nb (rv:=rv) hE (h nb hn))
theorem Qcs (l:(List Int)) {E:Env} {res:AV} {bs2:List Blk} (hE:LentE Try.prog 171 [] res bs2 E) (ho:AllP [l.length ≠ 0,false=false,0=0,0=0,(0+l.length)≤2147483648,((rowI l).drop 0).take (l.length*1)=(rowI l),(rowI l).length=(l.length*1),noRefs (rowI l)=true])
 (hr:(.sl 0 1 0 (0+l.length) 1)=res) (hb:[⟨true,1,1,true,(rowI l),true⟩]=bs2):G Try.prog E [.code (Qc Try.prog 171)] ⟨[.rsl (rowI l) 0 l.length]++unds (Try.f171.ntmps - 1),[]⟩ :=
 Va (n:=400) (live:=[2]) (m:=1) (evs:=[.b false,.cs (rowI l)]) (obs:=_) hE (hE.nogh0 _) Try.func171 Qf (by kernel_rfl) ho hr hb
theorem f171nW (l:(List Int)) {E:Env} {rv:Unit} {l2:List Int} (hE:LentE Try.prog 171 [] (.sl 0 1 0 l2.length 1) [⟨true,1,1,true,(rowI l2),true⟩] E)
 (h:(l.length ≠ 0∧((0+l.length)≤2147483648∧l2=l))):G Try.prog E [.code (Qc Try.prog 171)] ⟨[.rsl (rowI l) 0 l.length]++unds (Try.f171.ntmps - 1),[]⟩:=by
 obtain ⟨q0_0,h⟩:=h
 obtain ⟨h1,h⟩:=h
 have qe0:=h
 exact Qcs l hE ⟨q0_0,rfl,rfl,rfl,h1,(by exact qH cI (fun _=>rfl) l),(by exact XB cI (fun _=>rfl) l),(by exact Vy cI (fun _=>rfl) l),trivial⟩ (by rw [qe0]; rw [(show (0+l.length)=l.length from by simp)]; try rfl) (by rw [qe0]; all_goals (first | rfl | (simp only [List.length_set]; done) | (simp only [List.length_set]; rfl) | (simp only [List.length_set,List.length_replicate]; done)))
def f187eK0 (P:Program):List Item:=kAt 400 [.code (Qc P 187)] [.stop]
def f187eS0:St:=⟨([.rsl [] 0 0,J,.int .i64 0,.int .i64 (-1)]++Js 24),[]⟩
def f187eG0 (E:Env):Prop:=G Try.prog E (f187eK0 Try.prog) (f187eS0 )
theorem Qcq {E:Env} {rv:AV} (hE:Qe Try.prog 187 rv E) (ho:AllP [InR .i64 (-1)])
 (hg:G Try.prog E (f187eK0 Try.prog) ⟨([.rsl [] 0 0,J,.int .i64 0,.int .i64 (-1)]++Js 24),[]⟩):G Try.prog E [.code (Qc Try.prog 187)] ⟨[.rsl [] 0 0]++unds (Try.f187.ntmps - 1),[]⟩ :=
 Qh (n:=400) (ds:=[]) (cs:=[]) (live:=[0,2,3]) (m:=0) (evs:=[.stop]) (obs:=_) hE.2.1 (hE.nogh _) Qf (by kernel_rfl) ho hg
theorem f187eW {E:Env} {rv:Unit} (hE:Qe Try.prog 187 (.tup []) E)
 (h:f187eG0 E ):G Try.prog E [.code (Qc Try.prog 187)] ⟨[.rsl [] 0 0]++unds (Try.f187.ntmps - 1),[]⟩:=by
 exact Qcq hE ⟨(⟨by decide,by decide⟩),trivial⟩ h
theorem p187e_0_0 {E:Env} {res:AV} (hE:Qe Try.prog 187 res E) (ho:AllP [false=false])
 (hr:AvLe (.tup []) res):G Try.prog E (f187eK0 Try.prog) (f187eS0 ) :=
 Qb (n:=400) (evs:=[.b false]) (obs:=_) hE Try.func187 Qf (by kernel_rfl) ho hr
theorem f187eW0 {E:Env} {rv:Unit} (hE:Qe Try.prog 187 (.tup []) E)
 (h:rv=()):f187eG0 E:=by
 exact p187e_0_0 hE ⟨rfl,trivial⟩ (AvLe.of_eq rfl)
theorem scal_Int (l:List Int):∀ x ∈ rowI l,YO x=true:=fun x hx=>by
 simp only [rowI,List.mem_flatMap] at hx
 obtain ⟨a,-,ha⟩:=hx
 simp only [cI,List.mem_singleton] at ha
 subst ha; rfl
theorem clone_ok (l:List Int) (h:l ≠ []∧l.length≤2147483648):Lent Try.prog 171 [.rsl (rowI l) 0 l.length] [] (.sl 0 1 0 l.length 1) [⟨true,1,1,true,(rowI l),true⟩]:=lent_of0 Try.func171 f171b fun E hE =>
 f171nW l (rv:=()) hE ⟨fun e=>h.1 (List.length_eq_zero_iff.1 e),by omega,rfl⟩
theorem clone0_ok:Pure Try.prog 171 [.rsl (rowI []) 0 0] (.rsl (rowI []) 0 0):=Qu Try.func171 f171b fun E hE =>
 f171W [] (rv:=[]) hE fun nb _=>⟨fun _=>rfl,fun _=>⟨by simp,rfl⟩⟩
theorem cloneE {row:List AV} {n:Nat} (h:decide (0<n)=false):Qd Try.prog (.clos 171 [] []) [.rsl row 0 n] (.rsl [] 0 0) :=
 Qd.le (args:=[.rsl [] 0 0]) (Qi Try.func171 (by kernel_rfl) f171b clone0_ok) ⟨rsl_zero (by have:=of_decide_eq_false h; omega),trivial⟩
theorem rev_ok (l:List Int) (n0:Nat) (h:l.length≤1000):Lent Try.prog 187 [.sl 0 n0 0 l.length 1] [⟨true,n0,1,true,rowI l,true⟩] (.tup []) [⟨true,n0,1,true,rowI (revI l),true⟩]:=by
 refine KC _ Try.func187 f187b rfl rfl fun E hE=>?_
 have key:∀ (n:Nat) (i:Nat) (j:Int) (v:List Int),v.length=l.length→j<(l.length:Int)→j - (i:Int)<(n:Int)→(i:Int)≤l.length→revI l=revGo n i j v→f187G0 E l n0 i j v:=by
  intro n
  induction n with
  | zero =>
   intro i j v hv hj hd hi hr
   exact f187W0 l n0 i j v (rv:=()) hE ⟨fun h=>by omega,fun _=>hr⟩
  | succ n ih =>
   intro i j v hv hj hd hi hr
   simp only [revGo] at hr
   refine f187W0 l n0 i j v (rv:=()) hE ⟨fun hij=>?_,fun hij=>?_⟩
   · rw [if_pos hij] at hr
     have g1:=QO (l:=v) 0 (i:=j) (by omega)
     have g2:=QO (l:=v) 0 (i:=(i:Int)) (by omega)
     have e0:Int.toNat (i:Int)=i:=by omega
     rw [e0] at g2 hr
     have g3:(v.set i (v.getD (Int.toNat j) 0))[Int.toNat j]?=some (v.getD (Int.toNat j) 0):=by rw [List.getElem?_set_ne (by omega)]; exact g1
     refine ⟨by omega,_,g1,_,g2,by omega,_,g3,by omega,by omega,?_⟩
     exact ih (i+1) (j - 1) _ (by simp; omega) (by omega) (by omega) (by omega) hr
   · rw [if_neg hij] at hr
     exact hr
 refine f187W l n0 (rv:=()) hE ⟨by omega,?_⟩
 exact key l.length 0 _ l rfl (by omega) (by omega) (by omega) rfl
theorem rev0:Pure Try.prog 187 [.rsl [] 0 0] (.tup []):=Qu Try.func187 f187b fun E hE=>f187eW (rv:=()) hE (f187eW0 (rv:=()) hE rfl)
theorem rev0_ok (l:List Int) (h:l=[]):Qd Try.prog (.clos 187 [] []) [.rsl (rowI l) 0 l.length] (.tup []):=by
 subst h
 exact Qi Try.func187 (by kernel_rfl) f187b rev0
theorem f118b:Try.f118.body=some (Qc Try.prog 118):=by kernel_rfl
theorem u118 {a c k:List AV} {r:AV} (h:Pure Try.prog 118 (a++c++k) r):Qd Try.prog (.clos 118 a k) c r:=Qi Try.func118 (by kernel_rfl) f118b h
def f118K0 (P:Program):List Item:=kAt 400 [.code (Qc P 118)] [.stop]
def f118S0 (k:BKit) (vans:(List (List Int))) (v4:List Int) (v1:List (List Int)) (v2:List (List Int)) (many:Nat) (i:Nat) (g4:Nat) (g1:Nat) (g2:Nat):St:=⟨(jj 6 ([.int .i64 (k.parts.length:Int),.ptr 3 0 0,.int .i64 (many:Int),.sl 4 g4 0 v4.length 1]++jj 21 ([.rsl ((Qs rowI) vans) 0 vans.length,.int .i64 (vans.length:Int),.int .i64 (i:Int)]++Js 61))),[⟨true,0,1,true,[.rsl (QF k.parts) 0 k.parts.length,.int .i64 k.crane,.rsl ((Qs rowI) k.vans) 0 k.vans.length],false⟩,⟨true,g1,1,true,((Qs rowI) v1),true⟩,⟨true,g2,1,true,((Qs rowI) v2),true⟩,⟨true,0,1,false,[.rsl (QF k.parts) 0 k.parts.length,.int .i64 k.crane,.rsl ((Qs rowI) vans) 0 vans.length,.sl 1 g1 0 v1.length 1,.sl 2 g2 0 v2.length 1],false⟩,⟨true,g4,1,true,(rowI v4),true⟩]⟩
def Qbj (E:Env) (k:BKit) (vans:(List (List Int))) (v4:List Int) (v1:List (List Int)) (v2:List (List Int)) (many:Nat) (i:Nat):Prop:=∀ g4 g1 g2:Nat,G Try.prog E (f118K0 Try.prog) (f118S0 k vans v4 v1 v2 many i g4 g1 g2)
def Wp (P:Program):List Item:=kAt 400 [.code (Qc P 118)] [.b true,.stop]
def yA (k:BKit) (vans:(List (List Int))) (van:(List Int)) (k1:(List Int)) (k11:Nat) (v1:List (List Int)) (v2:List (List Int)) (v4:List Int) (many:Nat) (k111:Nat) (k1111:Nat) (g1:Nat) (g2:Nat) (g4:Nat):St:=⟨(jj 6 ([.int .i64 (k.parts.length:Int),.ptr 3 0 0,.int .i64 (many:Int),.sl 4 g4 0 v4.length 1,J,.rsl (rowI van) 0 van.length]++jj 19 ([.rsl ((Qs rowI) vans) 0 vans.length,.int .i64 (vans.length:Int),.int .i64 (k1111:Int),J,J,J,.rsl (rowI k1) 0 k1.length,.int .i64 (k11:Int),.int .i64 (k111:Int)]++Js 55))),[⟨true,0,1,true,[.rsl (QF k.parts) 0 k.parts.length,.int .i64 k.crane,.rsl ((Qs rowI) k.vans) 0 k.vans.length],false⟩,⟨true,g1,1,true,((Qs rowI) v1),true⟩,⟨true,g2,1,true,((Qs rowI) v2),true⟩,⟨true,0,1,false,[.rsl (QF k.parts) 0 k.parts.length,.int .i64 k.crane,.rsl ((Qs rowI) vans) 0 vans.length,.sl 1 g1 0 v1.length 1,.sl 2 g2 0 v2.length 1],false⟩,⟨true,g4,1,true,(rowI v4),true⟩]⟩
def f118G1 (E:Env) (k:BKit) (vans:(List (List Int))) (van:(List Int)) (k1:(List Int)) (k11:Nat) (v1:List (List Int)) (v2:List (List Int)) (v4:List Int) (many:Nat) (k111:Nat) (k1111:Nat):Prop:=∀ g1 g2 g4:Nat,G Try.prog E (Wp Try.prog) (yA k vans van k1 k11 v1 v2 v4 many k111 k1111 g1 g2 g4)
abbrev Qay (k:BKit):List AV:=[.rsl (QF k.parts) 0 k.parts.length,.int .i64 k.crane,.rsl ((Qs rowI) k.vans) 0 k.vans.length]
abbrev z118_2 (k:BKit) (vans:(List (List Int))) (g1:Nat) (v1:List (List Int)) (g2:Nat) (v2:List (List Int)):List AV:=[.rsl (QF k.parts) 0 k.parts.length,.int .i64 k.crane,.rsl ((Qs rowI) vans) 0 vans.length,.sl 1 g1 0 v1.length 1,.sl 2 g2 0 v2.length 1]
abbrev Qax (e:Int) (k:BKit):AV:=.bool (Qa e 0 ((k.parts.length:Int) - 1))
abbrev z118_4 (van:(List Int)) (k111:Nat):List AV:=[.sl 5 0 0 ((van.take (Int.toNat (k111:Int))).length) 1]
abbrev z118_5 (k:BKit) (many:Nat) (g4:Nat) (v4:List Int) (van:(List Int)) (vans:(List (List Int))) (k1111:Nat) (k1:(List Int)) (k11:Nat) (k111:Nat):List AV:=jj 6 ([.int .i64 (k.parts.length:Int),.ptr 3 0 0,.int .i64 ((many:Int)+1),.sl 4 g4 0 v4.length 1,J,.rsl (rowI van) 0 van.length]++jj 19 ([.rsl ((Qs rowI) vans) 0 vans.length,.int .i64 (vans.length:Int),.int .i64 (k1111:Int),J,J,J,.rsl (rowI k1) 0 k1.length,.int .i64 (k11:Int),.int .i64 ((k111:Int)+1)]++Js 55))
theorem p118_start_0 (k:BKit) (vans:(List (List Int))) {E:Env} {rv:AV} (hE:Qe Try.prog 118 rv E) (ho:AllP [0≤(k.parts.length:Int)∧(k.parts.length:Int)≤(k.parts.length:Int)∧(k.parts.length:Int)≤2147483648,0≤(k.parts.length:Int)∧(k.parts.length:Int)≤(k.parts.length:Int)∧(k.parts.length:Int)≤2147483648,3≤5,0≤(k.parts.length:Int)∧(k.parts.length:Int)≤(k.parts.length:Int)∧(k.parts.length:Int)≤2147483648])
 (hg:G Try.prog E (f118K0 Try.prog) ⟨(jj 6 ([.int .i64 (k.parts.length:Int),.ptr 3 0 0,.int .i64 0,.sl 4 0 0 (Int.toNat (k.parts.length:Int)) 1]++jj 21 ([.rsl ((Qs rowI) vans) 0 vans.length,.int .i64 (vans.length:Int),.int .i64 0]++Js 61))),[⟨true,0,1,true,(Qay k),false⟩,⟨true,0,1,true,((List.replicate (Int.toNat (k.parts.length:Int)) ([.nilSl]:List AV)).flatten),true⟩,⟨true,0,1,true,((List.replicate (Int.toNat (k.parts.length:Int)) ([.nilSl]:List AV)).flatten),true⟩,⟨true,0,1,false,[.rsl (QF k.parts) 0 k.parts.length,.int .i64 k.crane,.rsl ((Qs rowI) vans) 0 vans.length,.sl 1 0 0 (Int.toNat (k.parts.length:Int)) 1,.sl 2 0 0 (Int.toNat (k.parts.length:Int)) 1],false⟩,⟨true,0,1,true,((List.replicate (Int.toNat (k.parts.length:Int)) ([.int .i64 0]:List AV)).flatten),true⟩]⟩):G Try.prog E [.code (Qc Try.prog 118)] ⟨[.agg (Qay k),.rsl ((Qs rowI) vans) 0 vans.length]++unds (Try.f118.ntmps - 2),[]⟩ :=
 Qh (n:=400) (ds:=[]) (cs:=[]) (live:=[6,7,8,9,31,32,33]) (m:=5) (evs:=[.stop]) (obs:=_) hE.2.1 (hE.nogh _) Qf (by kernel_rfl) ho hg
theorem f118W (k:BKit) (vans:(List (List Int))) {E:Env} {rv:AV} (hE:Qe Try.prog 118 rv E)
 (h:(k.parts.length≤2147483648∧(k.parts.length≤2147483648∧(k.parts.length≤2147483648∧Qbj E k vans (List.replicate k.parts.length (0:Int)) (List.replicate k.parts.length (([]:List Int):(List Int))) (List.replicate k.parts.length (([]:List Int):(List Int))) 0 0)))):G Try.prog E [.code (Qc Try.prog 118)] ⟨[.agg [.rsl (QF k.parts) 0 k.parts.length,.int .i64 k.crane,.rsl ((Qs rowI) k.vans) 0 k.vans.length],.rsl ((Qs rowI) vans) 0 vans.length]++unds (Try.f118.ntmps - 2),[]⟩:=by
 obtain ⟨h1,h⟩:=h
 obtain ⟨h2,h⟩:=h
 obtain ⟨h3,h⟩:=h
 refine p118_start_0 k vans hE ⟨⟨by omega,by omega,by have:=h1; omega⟩,⟨by omega,by omega,by have:=h2; omega⟩,(by decide),⟨by omega,by omega,by have:=h3; omega⟩,trivial⟩ ?_
 refine QaA (k:=1) (cells':=((Qs rowI) (List.replicate k.parts.length (([]:List Int):(List Int))))) rfl rfl (by simp) rfl (by have hx:=Vs.rep (n:=k.parts.length) (show Vs [.nilSl] ((cLs rowI) (([]:List Int):(List Int))) from ⟨QN,rfl,rfl,trivial⟩); rw [show (List.replicate k.parts.length ((cLs rowI) (([]:List Int):(List Int)))).flatten=(Qs rowI) (List.replicate k.parts.length (([]:List Int):(List Int))) from VI (cLs rowI) _ _] at hx; exact hx) ?_
 simp only [List.set_cons_succ,List.set_cons_zero]
 refine QaA (k:=2) (cells':=((Qs rowI) (List.replicate k.parts.length (([]:List Int):(List Int))))) rfl rfl (by simp) rfl (by have hx:=Vs.rep (n:=k.parts.length) (show Vs [.nilSl] ((cLs rowI) (([]:List Int):(List Int))) from ⟨QN,rfl,rfl,trivial⟩); rw [show (List.replicate k.parts.length ((cLs rowI) (([]:List Int):(List Int)))).flatten=(Qs rowI) (List.replicate k.parts.length (([]:List Int):(List Int))) from VI (cLs rowI) _ _] at hx; exact hx) ?_
 simp only [List.set_cons_succ,List.set_cons_zero]
 have h:=(h 0 0 0)
 simp only [Qbj,f118S0,List.length_set,List.length_replicate] at h
 rw [(show (List.replicate (Int.toNat (k.parts.length:Int)) ([.int .i64 0]:List AV)).flatten=rowI (List.replicate k.parts.length (0:Int)) from VI cI _ _)]
 exact h
theorem p118_0_0 (k:BKit) (vans:(List (List Int))) (v4:List Int) (v1:List (List Int)) (v2:List (List Int)) (many:Nat) (i:Nat) (g4:Nat) (g1:Nat) (g2:Nat) (le:(List Int)) {E:Env} {rv:AV} (hE:Qe Try.prog 118 rv E) (ho:AllP [(decide ((i:Int)<(vans.length:Int)))=true,0≤(i:Int)∧(i:Int)<(vans.length:Int),(((Qs rowI) vans).drop (0+(Int.toNat (i:Int))*1)).take 1=[.rsl (rowI le) 0 le.length]])
 (hg:G Try.prog E (Wp Try.prog) ⟨(jj 6 ([.int .i64 (k.parts.length:Int),.ptr 3 0 0,.int .i64 (many:Int),.sl 4 g4 0 v4.length 1,J,.rsl (rowI le) 0 le.length]++jj 19 ([.rsl ((Qs rowI) vans) 0 vans.length,.int .i64 (vans.length:Int),.int .i64 (i:Int),J,J,J,.rsl (rowI le) 0 le.length,.int .i64 (le.length:Int),.int .i64 0]++Js 55))),[⟨true,0,1,true,(Qay k),false⟩,⟨true,g1,1,true,((Qs rowI) v1),true⟩,⟨true,g2,1,true,((Qs rowI) v2),true⟩,⟨true,0,1,false,(z118_2 k vans g1 v1 g2 v2),false⟩,⟨true,g4,1,true,(rowI v4),true⟩]⟩):G Try.prog E (f118K0 Try.prog) (f118S0 k vans v4 v1 v2 many i g4 g1 g2) :=
 Qh (n:=400) (ds:=[]) (cs:=[]) (live:=[6,7,8,9,11,31,32,33,37,38,39]) (m:=5) (evs:=[.b true,.ld (.rsl (rowI le) 0 le.length),.stop]) (obs:=_) hE.2.1 (hE.nogh _) Qf (by kernel_rfl) ho hg
theorem p118_0_1 (k:BKit) (vans:(List (List Int))) (v4:List Int) (v1:List (List Int)) (v2:List (List Int)) (many:Nat) (i:Nat) (g4:Nat) (g1:Nat) (g2:Nat) {E:Env} {res:AV} (hE:Qe Try.prog 118 res E) (ho:AllP [(decide ((i:Int)<(vans.length:Int)))=false,g1=g1,g2=g2])
 (hr:AvLe (.tup [.rptr [.rsl (QF k.parts) 0 k.parts.length,.int .i64 k.crane,.rsl ((Qs rowI) vans) 0 vans.length,.rsl ((Qs rowI) v1) 0 v1.length,.rsl ((Qs rowI) v2) 0 v2.length] 0,.bool ((many:Int) == (k.parts.length:Int))]) res):G Try.prog E (f118K0 Try.prog) (f118S0 k vans v4 v1 v2 many i g4 g1 g2) :=
 Qb (n:=400) (evs:=[.b false]) (obs:=_) hE Try.func118 Qf (by kernel_rfl) ho hr
theorem f118W0 (k:BKit) (vans:(List (List Int))) (v4:List Int) (v1:List (List Int)) (v2:List (List Int)) (many:Nat) (i:Nat) {E:Env} {rv:AV} (hE:Qe Try.prog 118 rv E)
 (h:(((i:Int)<(vans.length:Int)→(∃ le:(List Int),vans[i]?=some le∧f118G1 E k vans le le le.length v1 v2 v4 many 0 i))∧(¬ ((i:Int)<(vans.length:Int))→rv=(.tup [.rptr [.rsl (QF k.parts) 0 k.parts.length,.int .i64 k.crane,.rsl ((Qs rowI) vans) 0 vans.length,.rsl ((Qs rowI) v1) 0 v1.length,.rsl ((Qs rowI) v2) 0 v2.length] 0,.bool ((many:Int) == (k.parts.length:Int))])))):Qbj E k vans v4 v1 v2 many i:=by
 intro g4 g1 g2
 rcases bft (decide ((i:Int)<(vans.length:Int))) with hc0 | hc0
 · have h:=h.1 (odt hc0)
   obtain ⟨le,h1,h⟩:=h
   exact p118_0_0 k vans v4 v1 v2 many i g4 g1 g2 le hE ⟨hc0,(Qn h1),(rp (cLs rowI) 1 0 1 h1),trivial⟩ (h g1 g2 g4)
 · have h:=h.2 (odf hc0)
   exact p118_0_1 k vans v4 v1 v2 many i g4 g1 g2 hE ⟨hc0,rfl,rfl,trivial⟩ (AvLe.of_eq (by rw [h]; try rfl))
theorem p118_1_0 (k:BKit) (vans:(List (List Int))) (van:(List Int)) (k1:(List Int)) (k11:Nat) (v1:List (List Int)) (v2:List (List Int)) (v4:List Int) (many:Nat) (k111:Nat) (k1111:Nat) (g1:Nat) (g2:Nat) (g4:Nat) (e:Int) {E:Env} {res:AV} (hE:Qe Try.prog 118 res E) (ho:AllP [(decide ((k111:Int)<(k11:Int)))=true,0≤(k111:Int)∧(k111:Int)<(k1.length:Int),((rowI k1).drop (0+(Int.toNat (k111:Int))*1)).take 1=[.int .i64 e],InR .i64 ((k.parts.length:Int) - 1),Qd Try.prog (.clos 117 [] []) [.int .i64 e,.int .i64 0,.int .i64 ((k.parts.length:Int) - 1)] (Qax e k),(!(Qa e 0 ((k.parts.length:Int) - 1)))=true,true=true])
 (hr:AvLe (.tup [.nilPtr,.bool false]) res):G Try.prog E (Wp Try.prog) (yA k vans van k1 k11 v1 v2 v4 many k111 k1111 g1 g2 g4) :=
 Qb (n:=400) (evs:=[.b true,.ld (.int .i64 e),.v (Qax e k),.b true,.b true]) (obs:=_) hE Try.func118 Qf (by kernel_rfl) ho hr
theorem p118_1_1 (k:BKit) (vans:(List (List Int))) (van:(List Int)) (k1:(List Int)) (k11:Nat) (v1:List (List Int)) (v2:List (List Int)) (v4:List Int) (many:Nat) (k111:Nat) (k1111:Nat) (g1:Nat) (g2:Nat) (g4:Nat) (e:Int) (e1:Int) {E:Env} {res:AV} (hE:Qe Try.prog 118 res E) (ho:AllP [(decide ((k111:Int)<(k11:Int)))=true,0≤(k111:Int)∧(k111:Int)<(k1.length:Int),((rowI k1).drop (0+(Int.toNat (k111:Int))*1)).take 1=[.int .i64 e],InR .i64 ((k.parts.length:Int) - 1),Qd Try.prog (.clos 117 [] []) [.int .i64 e,.int .i64 0,.int .i64 ((k.parts.length:Int) - 1)] (Qax e k),(!(Qa e 0 ((k.parts.length:Int) - 1)))=false,0≤e∧e<(v4.length:Int),g4=g4,g4=g4,((rowI v4).drop (0+(Int.toNat e)*1)).take 1=[.int .i64 e1],(decide (e1 > 0))=true])
 (hr:AvLe (.tup [.nilPtr,.bool false]) res):G Try.prog E (Wp Try.prog) (yA k vans van k1 k11 v1 v2 v4 many k111 k1111 g1 g2 g4) :=
 Qb (n:=400) (evs:=[.b true,.ld (.int .i64 e),.v (Qax e k),.b false,.ld (.int .i64 e1),.b true]) (obs:=_) hE Try.func118 Qf (by kernel_rfl) ho hr
theorem p118_1_2 (k:BKit) (vans:(List (List Int))) (van:(List Int)) (k1:(List Int)) (k11:Nat) (v1:List (List Int)) (v2:List (List Int)) (v4:List Int) (many:Nat) (k111:Nat) (k1111:Nat) (g1:Nat) (g2:Nat) (g4:Nat) (e:Int) (e1:Int) (le:(List Int)) (le1:(List Int)) {E:Env} {rv:AV} (hE:Qe Try.prog 118 rv E) (ho:AllP [(decide ((k111:Int)<(k11:Int)))=true,0≤(k111:Int)∧(k111:Int)<(k1.length:Int),((rowI k1).drop (0+(Int.toNat (k111:Int))*1)).take 1=[.int .i64 e],InR .i64 ((k.parts.length:Int) - 1),Qd Try.prog (.clos 117 [] []) [.int .i64 e,.int .i64 0,.int .i64 ((k.parts.length:Int) - 1)] (Qax e k),(!(Qa e 0 ((k.parts.length:Int) - 1)))=false,0≤e∧e<(v4.length:Int),g4=g4,g4=g4,((rowI v4).drop (0+(Int.toNat e)*1)).take 1=[.int .i64 e1],(decide (e1 > 0))=false,0≤e∧e<(v4.length:Int),g4=g4,((0+(Int.toNat e)*1)+1)≤(rowI v4).length,g4=g4,InR .i64 ((many:Int)+1),InR .i64 ((k111:Int)+1),(Int.toNat ((k111:Int)+1))≤van.length,van.length≤van.length,0≤((k111:Int)+1),0≤e∧e<(v1.length:Int),g1=g1,((0+(Int.toNat e)*1)+1)≤((Qs rowI) v1).length,g1=g1,0≤(Int.toNat (k111:Int)),(Int.toNat (k111:Int))≤van.length,0≤(k111:Int),PureO Try.prog (.clos 171 [] []) [.rsl (rowI van) 0 (Int.toNat (k111:Int))] ((van.take (Int.toNat (k111:Int))).length) 1 (rowI (van.take (Int.toNat (k111:Int)))),0≤e∧e<(v2.length:Int),g2=g2,((0+(Int.toNat e)*1)+1)≤((Qs rowI) v2).length,g2=g2,0≤e∧e<(v2.length:Int),g2=g2,g2=g2,((Qw ((Qs rowI) v2) (0+(Int.toNat e)*1) (z118_4 van k111)).drop (0+(Int.toNat e)*1)).take 1=(z118_4 van k111),QQ Try.prog (.clos 187 [] []) [.sl 0 0 0 ((van.take (Int.toNat (k111:Int))).length) 1] [⟨true,0,1,true,(rowI (van.take (Int.toNat (k111:Int)))),true⟩] (.tup []) [⟨true,0,1,true,(rowI (revI (van.take (Int.toNat (k111:Int))))),true⟩],InR .i64 ((k111:Int)+1),refsBelows 6 (Qw ((Qs rowI) v2) (0+(Int.toNat e)*1) (z118_4 van k111))=true,refsBelows 6 (z118_2 k vans g1 v1 g2 v2)=true]) (hlt0:(0+(Int.toNat e)*1)<((Qs rowI) v1).length) (hse0:((Qw ((Qs rowI) v1) (0+(Int.toNat e)*1) [.rsl (rowI van) (0+((Int.toNat ((k111:Int)+1))*1)) (van.length - (Int.toNat ((k111:Int)+1)))])).set (0+(Int.toNat e)*1) (.rsl (rowI (van.drop (Int.toNat ((k111:Int)+1)))) 0 ((van.drop (Int.toNat ((k111:Int)+1))).length))=(Qs rowI) (v1.set (Int.toNat e) (van.drop (Int.toNat ((k111:Int)+1))))) (hle0:AvLe (.rsl (rowI van) (0+((Int.toNat ((k111:Int)+1))*1)) (van.length - (Int.toNat ((k111:Int)+1)))) (.rsl (rowI (van.drop (Int.toNat ((k111:Int)+1)))) 0 ((van.drop (Int.toNat ((k111:Int)+1))).length))) (hlt1:(0+(Int.toNat e)*1)<((Qs rowI) v2).length) (hse1:((Qw ((Qs rowI) v2) (0+(Int.toNat e)*1) (z118_4 van k111))).set (0+(Int.toNat e)*1) (.rsl (rowI (revI (van.take (Int.toNat (k111:Int))))) 0 ((van.take (Int.toNat (k111:Int))).length))=(Qs rowI) (v2.set (Int.toNat e) (revI (van.take (Int.toNat (k111:Int))))))
 (hg:G Try.prog E (Wp Try.prog) ⟨(z118_5 k many g4 v4 van vans k1111 k1 k11 k111),[⟨true,0,1,true,(Qay k),false⟩,⟨true,g1,1,true,((Qs rowI) (v1.set (Int.toNat e) (van.drop (Int.toNat ((k111:Int)+1))))),true⟩,⟨true,g2,1,true,((Qs rowI) (v2.set (Int.toNat e) (revI (van.take (Int.toNat (k111:Int)))))),true⟩,⟨true,0,1,false,(z118_2 k vans g1 v1 g2 v2),false⟩,⟨true,g4,1,true,(Qw (rowI v4) (0+(Int.toNat e)*1) [.int .i64 1]),true⟩]⟩):G Try.prog E (Wp Try.prog) (yA k vans van k1 k11 v1 v2 v4 many k111 k1111 g1 g2 g4):=by
 refine segP_step (K':=Wp Try.prog) (st':=⟨(z118_5 k many g4 v4 van vans k1111 k1 k11 k111),[⟨true,0,1,true,(Qay k),false⟩,⟨true,g1,1,true,(Qw ((Qs rowI) v1) (0+(Int.toNat e)*1) [.rsl (rowI van) (0+((Int.toNat ((k111:Int)+1))*1)) (van.length - (Int.toNat ((k111:Int)+1)))]),true⟩,⟨true,g2,1,false,(Qw ((Qs rowI) v2) (0+(Int.toNat e)*1) (z118_4 van k111)),true⟩,⟨true,0,1,false,(z118_2 k vans g1 v1 g2 v2),false⟩,⟨true,g4,1,true,(Qw (rowI v4) (0+(Int.toNat e)*1) [.int .i64 1]),true⟩,⟨true,0,1,true,(rowI (revI (van.take (Int.toNat (k111:Int))))),true⟩]⟩) (n:=400) (ds:=[]) (cs:=[]) (live:=[6,7,8,9,11,31,32,33,37,38,39]) (m:=6) (evs:=[.b true,.ld (.int .i64 e),.v (Qax e k),.b false,.ld (.int .i64 e1),.b false,.lent [] (.sl 0 0 0 ((van.take (Int.toNat (k111:Int))).length) 1) [⟨true,0,1,true,(rowI (van.take (Int.toNat (k111:Int)))),true⟩],.auto,.ld (.sl 5 0 0 ((van.take (Int.toNat (k111:Int))).length) 1),.lent [5] (.tup []) [⟨true,0,1,true,(rowI (revI (van.take (Int.toNat (k111:Int))))),true⟩],.stop]) (obs:=_) hE.2.1 (hE.nogh _) Qf (by kernel_rfl) ho ?_
 refine cell_step (j:=1) (c:=(0+(Int.toNat e)*1)) (v':=.rsl (rowI (van.drop (Int.toNat ((k111:Int)+1)))) 0 ((van.drop (Int.toNat ((k111:Int)+1))).length)) (cells':=(Qs rowI) (v1.set (Int.toNat e) (van.drop (Int.toNat ((k111:Int)+1))))) rfl rfl (by simp) (qo hlt0) rfl rfl hle0 hse0 (Vy (cLs rowI) (fun _=>rfl) _) ?_
 simp only [List.set_cons_succ,List.set_cons_zero,QcE]
 refine layS_step (j:=2) (c:=(0+(Int.toNat e)*1)) (cells':=(Qs rowI) (v2.set (Int.toNat e) (revI (van.take (Int.toNat (k111:Int)))))) rfl rfl (by simp) (qo hlt1) rfl rfl rfl rfl hse1 (Vy (cLs rowI) (fun _=>rfl) _) ?_
 simp only [List.set_cons_succ,List.set_cons_zero,QcE]
 exact Vw (live:=[6,7,8,9,11,31,32,33,37,38,39]) (n:=5) (hE.nogh _) (by kernel_rfl) hg
theorem p118_1_3 (k:BKit) (vans:(List (List Int))) (van:(List Int)) (k1:(List Int)) (k11:Nat) (v1:List (List Int)) (v2:List (List Int)) (v4:List Int) (many:Nat) (k111:Nat) (k1111:Nat) (g1:Nat) (g2:Nat) (g4:Nat) (e:Int) (e1:Int) (le:(List Int)) (le1:(List Int)) (le2:(List Int)) {E:Env} {rv:AV} (hE:Qe Try.prog 118 rv E) (ho:AllP [(decide ((k111:Int)<(k11:Int)))=true,0≤(k111:Int)∧(k111:Int)<(k1.length:Int),((rowI k1).drop (0+(Int.toNat (k111:Int))*1)).take 1=[.int .i64 e],InR .i64 ((k.parts.length:Int) - 1),Qd Try.prog (.clos 117 [] []) [.int .i64 e,.int .i64 0,.int .i64 ((k.parts.length:Int) - 1)] (.bool (Qa e 0 ((k.parts.length:Int) - 1))),(!(Qa e 0 ((k.parts.length:Int) - 1)))=false,0≤e∧e<(v4.length:Int),g4=g4,g4=g4,((rowI v4).drop (0+(Int.toNat e)*1)).take 1=[.int .i64 e1],(decide (e1 > 0))=false,0≤e∧e<(v4.length:Int),g4=g4,((0+(Int.toNat e)*1)+1)≤(rowI v4).length,g4=g4,InR .i64 ((many:Int)+1),InR .i64 ((k111:Int)+1),(Int.toNat ((k111:Int)+1))≤van.length,van.length≤van.length,0≤((k111:Int)+1),0≤e∧e<(v1.length:Int),g1=g1,((0+(Int.toNat e)*1)+1)≤((Qs rowI) v1).length,g1=g1,0≤(Int.toNat (k111:Int)),(Int.toNat (k111:Int))≤van.length,0≤(k111:Int),Qd Try.prog (.clos 171 [] []) [.rsl (rowI van) 0 (Int.toNat (k111:Int))] (.rsl [] 0 0),0≤e∧e<(v2.length:Int),g2=g2,((0+(Int.toNat e)*1)+1)≤((Qs rowI) v2).length,g2=g2,0≤e∧e<(v2.length:Int),g2=g2,g2=g2,((Qw ((Qs rowI) v2) (0+(Int.toNat e)*1) [.rsl [] 0 0]).drop (0+(Int.toNat e)*1)).take 1=[.rsl (rowI le2) 0 le2.length],Qd Try.prog (.clos 187 [] []) [.rsl (rowI le2) 0 le2.length] (.tup []),InR .i64 ((k111:Int)+1),refsBelows 5 [.rsl (QF k.parts) 0 k.parts.length,.int .i64 k.crane,.rsl ((Qs rowI) vans) 0 vans.length,.sl 1 g1 0 v1.length 1,.sl 2 g2 0 v2.length 1]=true]) (hlt0:(0+(Int.toNat e)*1)<((Qs rowI) v1).length) (hse0:((Qw ((Qs rowI) v1) (0+(Int.toNat e)*1) [.rsl (rowI van) (0+((Int.toNat ((k111:Int)+1))*1)) (van.length - (Int.toNat ((k111:Int)+1)))])).set (0+(Int.toNat e)*1) (.rsl (rowI (van.drop (Int.toNat ((k111:Int)+1)))) 0 ((van.drop (Int.toNat ((k111:Int)+1))).length))=(Qs rowI) (v1.set (Int.toNat e) (van.drop (Int.toNat ((k111:Int)+1))))) (hle0:AvLe (.rsl (rowI van) (0+((Int.toNat ((k111:Int)+1))*1)) (van.length - (Int.toNat ((k111:Int)+1)))) (.rsl (rowI (van.drop (Int.toNat ((k111:Int)+1)))) 0 ((van.drop (Int.toNat ((k111:Int)+1))).length)))
 (hg:G Try.prog E (Wp Try.prog) ⟨(jj 6 ([.int .i64 (k.parts.length:Int),.ptr 3 0 0,.int .i64 ((many:Int)+1),.sl 4 g4 0 v4.length 1,J,.rsl (rowI van) 0 van.length]++jj 19 ([.rsl ((Qs rowI) vans) 0 vans.length,.int .i64 (vans.length:Int),.int .i64 (k1111:Int),J,J,J,.rsl (rowI k1) 0 k1.length,.int .i64 (k11:Int),.int .i64 ((k111:Int)+1)]++Js 55))),[⟨true,0,1,true,[.rsl (QF k.parts) 0 k.parts.length,.int .i64 k.crane,.rsl ((Qs rowI) k.vans) 0 k.vans.length],false⟩,⟨true,g1,1,true,((Qs rowI) (v1.set (Int.toNat e) (van.drop (Int.toNat ((k111:Int)+1))))),true⟩,⟨true,g2,1,true,(Qw ((Qs rowI) v2) (0+(Int.toNat e)*1) [.rsl [] 0 0]),true⟩,⟨true,0,1,false,[.rsl (QF k.parts) 0 k.parts.length,.int .i64 k.crane,.rsl ((Qs rowI) vans) 0 vans.length,.sl 1 g1 0 v1.length 1,.sl 2 g2 0 v2.length 1],false⟩,⟨true,g4,1,true,(Qw (rowI v4) (0+(Int.toNat e)*1) [.int .i64 1]),true⟩]⟩):G Try.prog E (Wp Try.prog) (yA k vans van k1 k11 v1 v2 v4 many k111 k1111 g1 g2 g4):=by
 refine segP_step (K':=Wp Try.prog) (st':=⟨(jj 6 ([.int .i64 (k.parts.length:Int),.ptr 3 0 0,.int .i64 ((many:Int)+1),.sl 4 g4 0 v4.length 1,J,.rsl (rowI van) 0 van.length]++jj 19 ([.rsl ((Qs rowI) vans) 0 vans.length,.int .i64 (vans.length:Int),.int .i64 (k1111:Int),J,J,J,.rsl (rowI k1) 0 k1.length,.int .i64 (k11:Int),.int .i64 ((k111:Int)+1)]++Js 55))),[⟨true,0,1,true,[.rsl (QF k.parts) 0 k.parts.length,.int .i64 k.crane,.rsl ((Qs rowI) k.vans) 0 k.vans.length],false⟩,⟨true,g1,1,true,(Qw ((Qs rowI) v1) (0+(Int.toNat e)*1) [.rsl (rowI van) (0+((Int.toNat ((k111:Int)+1))*1)) (van.length - (Int.toNat ((k111:Int)+1)))]),true⟩,⟨true,g2,1,true,(Qw ((Qs rowI) v2) (0+(Int.toNat e)*1) [.rsl [] 0 0]),true⟩,⟨true,0,1,false,[.rsl (QF k.parts) 0 k.parts.length,.int .i64 k.crane,.rsl ((Qs rowI) vans) 0 vans.length,.sl 1 g1 0 v1.length 1,.sl 2 g2 0 v2.length 1],false⟩,⟨true,g4,1,true,(Qw (rowI v4) (0+(Int.toNat e)*1) [.int .i64 1]),true⟩]⟩) (n:=400) (ds:=[]) (cs:=[]) (live:=[6,7,8,9,11,31,32,33,37,38,39]) (m:=5) (evs:=[.b true,.ld (.int .i64 e),.v (.bool (Qa e 0 ((k.parts.length:Int) - 1))),.b false,.ld (.int .i64 e1),.b false,.v (.rsl [] 0 0),.auto,.ld (.rsl (rowI le2) 0 le2.length),.v (.tup []),.stop]) (obs:=_) hE.2.1 (hE.nogh _) Qf (by kernel_rfl) ho ?_
 refine cell_step (j:=1) (c:=(0+(Int.toNat e)*1)) (v':=.rsl (rowI (van.drop (Int.toNat ((k111:Int)+1)))) 0 ((van.drop (Int.toNat ((k111:Int)+1))).length)) (cells':=(Qs rowI) (v1.set (Int.toNat e) (van.drop (Int.toNat ((k111:Int)+1))))) rfl rfl (by simp) (qo hlt0) rfl rfl hle0 hse0 (Vy (cLs rowI) (fun _=>rfl) _) ?_
 simp only [List.set_cons_succ,List.set_cons_zero,QcE]
 exact Vw (live:=[6,7,8,9,11,31,32,33,37,38,39]) (n:=5) (hE.nogh _) (by kernel_rfl) hg
theorem p118_1_4 (k:BKit) (vans:(List (List Int))) (van:(List Int)) (k1:(List Int)) (k11:Nat) (v1:List (List Int)) (v2:List (List Int)) (v4:List Int) (many:Nat) (k111:Nat) (k1111:Nat) (g1:Nat) (g2:Nat) (g4:Nat) {E:Env} {rv:AV} (hE:Qe Try.prog 118 rv E) (ho:AllP [(decide ((k111:Int)<(k11:Int)))=false,InR .i64 ((k1111:Int)+1)])
 (hg:G Try.prog E (f118K0 Try.prog) ⟨(jj 6 ([.int .i64 (k.parts.length:Int),.ptr 3 0 0,.int .i64 (many:Int),.sl 4 g4 0 v4.length 1]++jj 21 ([.rsl ((Qs rowI) vans) 0 vans.length,.int .i64 (vans.length:Int),.int .i64 ((k1111:Int)+1)]++Js 61))),[⟨true,0,1,true,(Qay k),false⟩,⟨true,g1,1,true,((Qs rowI) v1),true⟩,⟨true,g2,1,true,((Qs rowI) v2),true⟩,⟨true,0,1,false,(z118_2 k vans g1 v1 g2 v2),false⟩,⟨true,g4,1,true,(rowI v4),true⟩]⟩):G Try.prog E (Wp Try.prog) (yA k vans van k1 k11 v1 v2 v4 many k111 k1111 g1 g2 g4) :=
 Qh (n:=400) (ds:=[]) (cs:=[]) (live:=[6,7,8,9,31,32,33]) (m:=5) (evs:=[.b false,.stop]) (obs:=_) hE.2.1 (hE.nogh _) Qf (by kernel_rfl) ho hg
theorem f118W1 (k:BKit) (vans:(List (List Int))) (van:(List Int)) (k1:(List Int)) (k11:Nat) (v1:List (List Int)) (v2:List (List Int)) (v4:List Int) (many:Nat) (k111:Nat) (k1111:Nat) {E:Env} {rv:AV} (hE:Qe Try.prog 118 rv E)
 (h:(((k111:Int)<(k11:Int)→(∃ e:Int,k1[k111]?=some e∧((I6 ((k.parts.length:Int) - 1))∧(((Qa e 0 ((k.parts.length:Int) - 1))=false→rv=(.tup [.nilPtr,.bool false]))∧((Qa e 0 ((k.parts.length:Int) - 1))=true→(0≤e∧(∃ e1:Int,v4[Int.toNat e]?=some e1∧((e1 > 0→rv=(.tup [.nilPtr,.bool false]))∧(¬ (e1 > 0)→((I6 ((many:Int)+1))∧((I6 ((k111:Int)+1))∧((Int.toNat ((k111:Int)+1))≤van.length∧(0≤e∧(∃ le:(List Int),v1[Int.toNat e]?=some le∧((Int.toNat (k111:Int))≤van.length∧((0<(Int.toNat (k111:Int))→(((van.take (Int.toNat (k111:Int))) ≠ []∧(van.take (Int.toNat (k111:Int))).length≤2147483648)∧(0≤e∧(∃ le1:(List Int),v2[Int.toNat e]?=some le1∧(((van.take (Int.toNat (k111:Int))).length≤1000)∧((I6 ((k111:Int)+1))∧f118G1 E k vans van k1 k11 (v1.set (Int.toNat e) (van.drop (Int.toNat ((k111:Int)+1)))) (v2.set (Int.toNat e) (revI (van.take (Int.toNat (k111:Int))))) (v4.set (Int.toNat e) 1) (many+1) (k111+1) k1111))))))∧(¬ (0<(Int.toNat (k111:Int)))→(0≤e∧(∃ le1:(List Int),v2[Int.toNat e]?=some le1∧(0≤e∧(∃ le2:(List Int),(v2.set (Int.toNat e) ([]:List Int))[Int.toNat e]?=some le2∧((le2=[])∧((I6 ((k111:Int)+1))∧f118G1 E k vans van k1 k11 (v1.set (Int.toNat e) (van.drop (Int.toNat ((k111:Int)+1)))) (v2.set (Int.toNat e) ([]:List Int)) (v4.set (Int.toNat e) 1) (many+1) (k111+1) k1111)))))))))))))))))))))))∧(¬ ((k111:Int)<(k11:Int))→((I6 ((k1111:Int)+1))∧Qbj E k vans v4 v1 v2 many (k1111+1))))):f118G1 E k vans van k1 k11 v1 v2 v4 many k111 k1111:=by
 intro g1 g2 g4
 rcases bft (decide ((k111:Int)<(k11:Int))) with hc0 | hc0
 · have h:=h.1 (odt hc0)
   obtain ⟨e,h1,h⟩:=h
   obtain ⟨q4_1,h⟩:=h
   rcases bft (!(Qa e 0 ((k.parts.length:Int) - 1))) with hc1 | hc1
   · have h:=h.1 (bnT hc1)
     exact p118_1_0 k vans van k1 k11 v1 v2 v4 many k111 k1111 g1 g2 g4 e hE ⟨hc0,(Qn h1),(rp cI 1 0 1 h1),q4_1,(u117 (QC e 0 ((k.parts.length:Int) - 1))),hc1,rfl,trivial⟩ (AvLe.of_eq (by rw [h]; try rfl))
   · have h:=h.2 (bnF hc1)
     obtain ⟨h3,h⟩:=h
     obtain ⟨e1,h2,h⟩:=h
     rcases bft (decide (e1 > 0)) with hc2 | hc2
     · have h:=h.1 (odt hc2)
       exact p118_1_1 k vans van k1 k11 v1 v2 v4 many k111 k1111 g1 g2 g4 e e1 hE ⟨hc0,(Qn h1),(rp cI 1 0 1 h1),q4_1,(u117 (QC e 0 ((k.parts.length:Int) - 1))),hc1,(Qj h3 h2),rfl,rfl,(rp cI 1 0 1 h2),hc2,trivial⟩ (AvLe.of_eq (by rw [h]; try rfl))
     · have h:=h.2 (odf hc2)
       obtain ⟨q17_3,h⟩:=h
       obtain ⟨q18_3,h⟩:=h
       obtain ⟨q19_3,h⟩:=h
       obtain ⟨h5,h⟩:=h
       obtain ⟨le,h4,h⟩:=h
       obtain ⟨q28_3,h⟩:=h
       rcases bft (decide (0<(Int.toNat (k111:Int)))) with hc3 | hc3
       · have h:=h.1 (odt hc3)
         obtain ⟨h6,h⟩:=h
         obtain ⟨h8,h⟩:=h
         obtain ⟨le1,h7,h⟩:=h
         obtain ⟨h9,h⟩:=h
         obtain ⟨q42_4,h⟩:=h
         refine p118_1_2 k vans van k1 k11 v1 v2 v4 many k111 k1111 g1 g2 g4 e e1 le le1 hE ⟨hc0,(Qn h1),(rp cI 1 0 1 h1),q4_1,(u117 (QC e 0 ((k.parts.length:Int) - 1))),hc1,(Qj h3 h2),rfl,rfl,(rp cI 1 0 1 h2),hc2,(Qj h3 h2),rfl,(rf cI 1 0 1 h2),rfl,q17_3,q18_3,q19_3,(Nat.le_refl _),(by omega),(Qj h5 h4),rfl,(rf (cLs rowI) 1 0 1 h4),rfl,(Nat.zero_le _),q28_3,(by omega),(PureO_le (args:=[.rsl (rowI (van.take (Int.toNat (k111:Int)))) 0 ((van.take (Int.toNat (k111:Int))).length)]) (Qby Try.func171 (by kernel_rfl) f171b (clone_ok (van.take (Int.toNat (k111:Int))) h6) (by decide) (scal_Int (van.take (Int.toNat (k111:Int))))) ⟨(by exact Qbv cI (s:=1) (fun _=>rfl) (by first | omega | decide | simp)),trivial⟩),(Qj h8 h7),rfl,(rf (cLs rowI) 1 0 1 h7),rfl,(Qj h8 h7),rfl,rfl,(setAt_ld (by have hx:=qq (cLs rowI) (s:=1) (k:=0) (m:=1) (fun _=>rfl) (by decide) h7; simp only [Qs] at hx ⊢; omega)),(Qr Try.func187 (by kernel_rfl) f187b (rev_ok (van.take (Int.toNat (k111:Int))) 0 h9)),q42_4,(by exact Qbx (Vy (cLs rowI) (fun _=>rfl) _) rfl),rfl,trivial⟩ (by have hx:=qq (cLs rowI) (s:=1) (k:=0) (m:=1) (fun _=>rfl) (by decide) h4; simp only [Qs] at hx ⊢; omega) (by exact Kl (cLs rowI) (s:=1) (fun _=>rfl) (b:=(van.drop (Int.toNat ((k111:Int)+1)))) h4 rfl rfl rfl) (by exact rsl_drop cI (s:=1) (fun _=>rfl) (Int.toNat ((k111:Int)+1)) (by omega) (by first | rfl | omega | simp)) (by have hx:=qq (cLs rowI) (s:=1) (k:=0) (m:=1) (fun _=>rfl) (by decide) h7; simp only [Qs] at hx ⊢; omega) (by rw [show (van.take (Int.toNat (k111:Int))).length=(revI (van.take (Int.toNat (k111:Int)))).length from by simp [revI_len]]; exact Kl (cLs rowI) (s:=1) (fun _=>rfl) (b:=(revI (van.take (Int.toNat (k111:Int))))) h7 rfl rfl rfl) ?_
         have h:=(h g1 g2 g4)
         simp only [yA,List.length_set] at h
         rw [(show Qw (rowI v4) (0+(Int.toNat e)*1) [.int .i64 1]=rowI (v4.set (Int.toNat e) 1) from QJ cI (s:=1) (k:=0) (fun _=>rfl) h2 rfl (by first | decide | simp))]
         exact h
       · have h:=h.2 (odf hc3)
         obtain ⟨h7,h⟩:=h
         obtain ⟨le1,h6,h⟩:=h
         obtain ⟨h9,h⟩:=h
         obtain ⟨le2,h8,h⟩:=h
         obtain ⟨h10,h⟩:=h
         obtain ⟨q43_4,h⟩:=h
         refine p118_1_3 k vans van k1 k11 v1 v2 v4 many k111 k1111 g1 g2 g4 e e1 le le1 le2 hE ⟨hc0,(Qn h1),(rp cI 1 0 1 h1),q4_1,(u117 (QC e 0 ((k.parts.length:Int) - 1))),hc1,(Qj h3 h2),rfl,rfl,(rp cI 1 0 1 h2),hc2,(Qj h3 h2),rfl,(rf cI 1 0 1 h2),rfl,q17_3,q18_3,q19_3,(Nat.le_refl _),(by omega),(Qj h5 h4),rfl,(rf (cLs rowI) 1 0 1 h4),rfl,(Nat.zero_le _),q28_3,(by omega),(cloneE hc3),(Qj h7 h6),rfl,(rf (cLs rowI) 1 0 1 h6),rfl,(by have hx:=Qj h9 h8; simpa using hx),rfl,rfl,(by rw [(show Qw ((Qs rowI) v2) (0+(Int.toNat e)*1) [.rsl [] 0 0]=(Qs rowI) (v2.set (Int.toNat e) ([]:List Int)) from QJ (cLs rowI) (s:=1) (k:=0) (fun _=>rfl) h6 rfl (by first | decide | simp))]; exact rp (cLs rowI) 1 0 1 h8),(rev0_ok le2 h10),q43_4,rfl,trivial⟩ (by have hx:=qq (cLs rowI) (s:=1) (k:=0) (m:=1) (fun _=>rfl) (by decide) h4; simp only [Qs] at hx ⊢; omega) (by exact Kl (cLs rowI) (s:=1) (fun _=>rfl) (b:=(van.drop (Int.toNat ((k111:Int)+1)))) h4 rfl rfl rfl) (by exact rsl_drop cI (s:=1) (fun _=>rfl) (Int.toNat ((k111:Int)+1)) (by omega) (by first | rfl | omega | simp)) ?_
         have h:=(h g1 g2 g4)
         simp only [yA,List.length_set] at h
         rw [(show Qw ((Qs rowI) v2) (0+(Int.toNat e)*1) [.rsl [] 0 0]=(Qs rowI) (v2.set (Int.toNat e) ([]:List Int)) from QJ (cLs rowI) (s:=1) (k:=0) (fun _=>rfl) h6 rfl (by first | decide | simp))]; rw [(show Qw (rowI v4) (0+(Int.toNat e)*1) [.int .i64 1]=rowI (v4.set (Int.toNat e) 1) from QJ cI (s:=1) (k:=0) (fun _=>rfl) h2 rfl (by first | decide | simp))]
         exact h
 · have h:=h.2 (odf hc0)
   obtain ⟨q1_1,h⟩:=h
   exact p118_1_4 k vans van k1 k11 v1 v2 v4 many k111 k1111 g1 g2 g4 hE ⟨hc0,q1_1,trivial⟩ (h g4 g1 g2)
theorem Ki (k:BKit) (hs:KitSmall k) (h16:k.parts.length≤16):Pure Try.prog 118 [.agg [.rsl (QF k.parts) 0 k.parts.length,.int .i64 k.crane,.rsl (Qs rowI k.vans) 0 k.vans.length],.rsl (Qs rowI k.vans) 0 k.vans.length] (WT k (XA k)):=Qu Try.func118 f118b fun E hE=>by
 have hv:=hs.vans
 have inner:∀ (d i:Nat) (van:List Int) (j many:Nat) (lies:List Int) (above below:List (List Int)),van.length≤9223372036854775807→i+d=van.length→j<k.vans.length→lies.length=k.parts.length→above.length=k.parts.length→below.length=k.parts.length→(many=ones lies∧i≤many) →
  (∀ s',WN k.parts.length van i (van.drop i) ⟨many,lies,above,below⟩=some s'→s'.many=ones s'.lies→Qbj E k k.vans s'.lies s'.above s'.below s'.many (j+1)) →
  (WN k.parts.length van i (van.drop i) ⟨many,lies,above,below⟩=none→WT k (XA k)=.tup [.nilPtr,.bool false])→f118G1 E k k.vans van van van.length above below lies many i j:=by
  intro d
  induction d with
  | zero =>
   intro i van j many lies above below h30 hi hj hl ha hb hm hg hn
   rw [List.drop_eq_nil_of_le (by omega)] at hg
   exact f118W1 k k.vans van van van.length above below lies many i j (rv:=WT k (XA k)) hE ⟨fun h=>by omega,fun _=>⟨by omega,hg _ rfl hm.1⟩⟩
  | succ d ih =>
   intro i van j many lies above below h30 hi hj hl ha hb hm hg hn
   have hx:van[i]?=some (van[i]'(by omega)):=List.getElem?_eq_getElem (by omega)
   rw [List.drop_eq_getElem_cons (by omega)] at hg hn
   generalize van[i]'(by omega)=e at hx hg hn
   simp only [WN] at hg hn
   have t1:Int.toNat ((i:Int)+1)=i+1:=by omega
   have ol:=ones_le lies
   have t0:Int.toNat (i:Int)=i:=by omega
   refine f118W1 k k.vans van van van.length above below lies many i j (rv:=WT k (XA k)) hE ⟨fun _=>⟨e,hx,by omega,fun c1=>?_,fun c1=>?_⟩,fun h=>by omega⟩
   · exact hn (if_neg (by rw [c1]; simp))
   have c2:=QK.1 c1
   have g1:=QO (l:=lies) 0 (i:=e) (by omega)
   have g2:=QO (l:=above) [] (i:=e) (by omega)
   have g3:=QO (l:=below) [] (i:=e) (by omega)
   refine ⟨by omega,_,g1,fun c3=>?_,fun c3=>?_⟩
   · exact hn (if_neg fun hh=>hh.2 c3)
   rw [if_pos ⟨c1,c3⟩] at hg hn
   refine ⟨by omega,by omega,by omega,by omega,_,g2,by omega,fun c4=>?_,fun c4=>?_⟩
   · rw [t0] at c4 ⊢
     rw [if_pos c4] at hg hn
     refine ⟨⟨fun hh=>?_,by rw [List.length_take]; omega⟩,by omega,_,g3,by rw [List.length_take]; omega,by omega,?_⟩
     · have:=congrArg List.length hh
       rw [List.length_take,List.length_nil] at this; omega
     · rw [t1]
       exact ih (i+1) van j (many+1) _ _ _ h30 (by omega) hj (by simpa using hl) (by simpa using ha) (by simpa using hb) ⟨by rw [yO g1 c3]; omega,by omega⟩ hg hn
   · rw [t0] at c4
     rw [if_neg c4] at hg hn
     have g4:(below.set (Int.toNat e) [])[Int.toNat e]?=some []:=List.getElem?_set_self (by omega)
     refine ⟨by omega,_,g3,by omega,_,g4,rfl,by omega,?_⟩
     rw [t1]
     exact ih (i+1) van j (many+1) _ _ _ h30 (by omega) hj (by simpa using hl) (by simpa using ha) (by simpa using hb) ⟨by rw [yO g1 c3]; omega,by omega⟩ hg hn
 have outer:∀ (d j:Nat) (s:StSt),j+d=k.vans.length→s.lies.length=k.parts.length→s.above.length=k.parts.length→s.below.length=k.parts.length→s.many=ones s.lies→WT k (XA k)=WT k (WS k.parts.length (k.vans.drop j) s)→Qbj E k k.vans s.lies s.above s.below s.many j:=by
  intro d
  induction d with
  | zero =>
   intro j s hj hl ha hb hm hr
   rw [List.drop_eq_nil_of_le (by omega)] at hr
   refine f118W0 k k.vans _ _ _ _ j (rv:=WT k (XA k)) hE ⟨fun h=>by omega,fun _=>?_⟩
   rw [hr]
   simp only [WS,WT,yardV]
   rw [beq_cast]
  | succ d ih =>
   intro j s hj hl ha hb hm hr
   have hx:k.vans[j]?=some (k.vans[j]'(by omega)):=List.getElem?_eq_getElem (by omega)
   rw [List.drop_eq_getElem_cons (by omega)] at hr
   generalize k.vans[j]'(by omega)=v at hx hr
   have h30:=hs.van v (List.mem_of_getElem? hx)
   simp only [WS] at hr
   refine f118W0 k k.vans _ _ _ _ j (rv:=WT k (XA k)) hE ⟨fun _=>⟨v,hx,?_⟩,fun h=>by omega⟩
   refine inner v.length 0 v j s.many s.lies s.above s.below h30 (by omega) (by omega) hl ha hb ⟨hm,by omega⟩ (fun s' hs' hm'=>?_) (fun hn=>?_)
   · rw [List.drop_zero] at hs'
     obtain ⟨e1,e2,e3⟩:=Ke hs'
     have e0:(⟨s.many,s.lies,s.above,s.below⟩:StSt)=s:=rfl
     rw [e0] at hs'
     rw [hs'] at hr
     exact ih (j+1) s' (by omega) (by rw [e1]; exact hl) (by rw [e2]; exact ha) (by rw [e3]; exact hb) hm' hr
   · rw [List.drop_zero] at hn
     have e0:(⟨s.many,s.lies,s.above,s.below⟩:StSt)=s:=rfl
     rw [e0] at hn
     rw [hn] at hr
     exact hr
 refine f118W k k.vans (rv:=WT k (XA k)) hE ⟨by omega,by omega,by omega,?_⟩
 exact outer k.vans.length 0 (Wh k.parts.length) (by omega) (by simp [Wh]) (by simp [Wh]) (by simp [Wh]) (by simp only [Wh]; rw [ones_zero]) rfl
theorem stacked_some (k:BKit) (v:List (List Int)) (h:KitSmall k∧k.vans=v∧k.parts.length≤16) (hs:(XA k).isSome=true):Pure Try.prog 118 [.agg [.rsl (QF k.parts) 0 k.parts.length,.int .i64 k.crane,.rsl (Qs rowI k.vans) 0 k.vans.length],.rsl (Qs rowI v) 0 v.length] (.tup [yardV (Qo k),.bool (QaG k)]):=by
 obtain ⟨h1,rfl,h3⟩:=h
 have:=Ki k h1 h3
 rw [Kj hs] at this
 exact this
theorem stacked_none (k:BKit) (v:List (List Int)) (h:KitSmall k∧k.vans=v∧k.parts.length≤16) (hs:(XA k).isSome=false):Pure Try.prog 118 [.agg [.rsl (QF k.parts) 0 k.parts.length,.int .i64 k.crane,.rsl (Qs rowI k.vans) 0 k.vans.length],.rsl (Qs rowI v) 0 v.length] (.tup [.nilPtr,.bool false]):=by
 obtain ⟨h1,rfl,h3⟩:=h
 have:=Ki k h1 h3
 cases e:XA k with
 | none=>rw [e] at this; exact this
 | some s=>rw [e] at hs; cases hs
theorem f49b:Try.f49.body=some (Qc Try.prog 49):=by kernel_rfl
theorem u49 {a c k:List AV} {r:AV} (h:Pure Try.prog 49 (a++c++k) r):Qd Try.prog (.clos 49 a k) c r:=Qi Try.func49 (by kernel_rfl) f49b h
def QcR (P:Program):List Item:=kAt 400 [.code (Qc P 49)] [.b false,.stop]
def f49S0 (k:BKit) (i:Nat):St:=⟨([J,.ptr 0 0 0,J,J,.int .i64 (k.parts.length:Int)]++jj 23 ([.rsl (QF k.parts) 0 k.parts.length,.int .i64 (k.parts.length:Int),.int .i64 (i:Int)]++Js 49)),[⟨true,0,1,true,[.rsl (QF k.parts) 0 k.parts.length,.int .i64 k.crane,.rsl ((Qs rowI) k.vans) 0 k.vans.length],false⟩]⟩
def f49G0 (E:Env) (k:BKit) (i:Nat):Prop:=G Try.prog E (QcR Try.prog) (f49S0 k i )
def f49K1 (P:Program):List Item:=kAt 400 [.code (Qc P 49)] [.b false,.b true,.b false,.stop]
def f49S1 (k:BKit) (k1:(List Int)) (k11:Nat) (v1_0:Int) (v1_1:Int) (v1_2:Int) (v1_3:(List Int)) (last:Int) (k111:Nat) (i:Nat) (k1111:Nat):St:=⟨([J,.ptr 0 0 0,J,J,.int .i64 (k.parts.length:Int),.int .i64 (i:Int),J,.int .i64 last]++jj 20 ([.rsl (QF k.parts) 0 k.parts.length,.int .i64 (k.parts.length:Int),.int .i64 (k1111:Int)]++jj 21 ([.rsl (rowI k1) 0 k1.length,.int .i64 (k11:Int),.int .i64 (k111:Int)]++Js 25))),[⟨true,0,1,true,[.rsl (QF k.parts) 0 k.parts.length,.int .i64 k.crane,.rsl ((Qs rowI) k.vans) 0 k.vans.length],false⟩,⟨true,0,1,true,[.int .i64 v1_0,.int .i64 v1_1,.int .i64 v1_2,.rsl (rowI v1_3) 0 v1_3.length],false⟩]⟩
def f49G1 (E:Env) (k:BKit) (k1:(List Int)) (k11:Nat) (v1_0:Int) (v1_1:Int) (v1_2:Int) (v1_3:(List Int)) (last:Int) (k111:Nat) (i:Nat) (k1111:Nat):Prop:=G Try.prog E (f49K1 Try.prog) (f49S1 k k1 k11 v1_0 v1_1 v1_2 v1_3 last k111 i k1111 )
abbrev Qag (k:BKit):List AV:=[.rsl (QF k.parts) 0 k.parts.length,.int .i64 k.crane,.rsl ((Qs rowI) k.vans) 0 k.vans.length]
abbrev z49_2 (k:BKit):AV:=.tup [.rptr [.rsl (QF (((Qo k).k).parts)) 0 ((((Qo k).k).parts).length),.int .i64 (((Qo k).k).crane),.rsl ((Qs rowI) (((Qo k).k).vans)) 0 ((((Qo k).k).vans).length),.rsl ((Qs rowI) ((Qo k).above)) 0 (((Qo k).above).length),.rsl ((Qs rowI) ((Qo k).below)) 0 (((Qo k).below).length)] 0,.bool (QaG k)]
abbrev Qbq (be:BPart):List AV:=[.int .i64 be.w,.int .i64 be.m,.int .i64 be.pins,.rsl (rowI be.needs) 0 be.needs.length]
theorem p49_start_0 (k:BKit) {E:Env} {res:AV} (hE:Qe Try.prog 49 res E) (ho:AllP [(decide ((k.parts.length:Int) > 16))=true,true=true,true=true])
 (hr:AvLe (.tup [.nilPtr,.bool false]) res):G Try.prog E [.code (Qc Try.prog 49)] ⟨[.agg (Qag k)]++unds (Try.f49.ntmps - 1),[]⟩ :=
 Qb (n:=400) (evs:=[.b true,.b true,.b true]) (obs:=_) hE Try.func49 Qf (by kernel_rfl) ho hr
theorem p49_start_1 (k:BKit) {E:Env} {res:AV} (hE:Qe Try.prog 49 res E) (ho:AllP [(decide ((k.parts.length:Int) > 16))=false,(decide ((k.vans.length:Int) > 6))=true,true=true])
 (hr:AvLe (.tup [.nilPtr,.bool false]) res):G Try.prog E [.code (Qc Try.prog 49)] ⟨[.agg (Qag k)]++unds (Try.f49.ntmps - 1),[]⟩ :=
 Qb (n:=400) (evs:=[.b false,.b true,.b true]) (obs:=_) hE Try.func49 Qf (by kernel_rfl) ho hr
theorem p49_start_2 (k:BKit) {E:Env} {res:AV} (hE:Qe Try.prog 49 res E) (ho:AllP [(decide ((k.parts.length:Int) > 16))=false,(decide ((k.vans.length:Int) > 6))=false,Qd Try.prog (.clos 117 [] []) [.int .i64 k.crane,.int .i64 1,.int .i64 1000000] (.bool (Qa k.crane 1 1000000)),(!(Qa k.crane 1 1000000))=true])
 (hr:AvLe (.tup [.nilPtr,.bool false]) res):G Try.prog E [.code (Qc Try.prog 49)] ⟨[.agg (Qag k)]++unds (Try.f49.ntmps - 1),[]⟩ :=
 Qb (n:=400) (evs:=[.b false,.b false,.v (.bool (Qa k.crane 1 1000000)),.b true]) (obs:=_) hE Try.func49 Qf (by kernel_rfl) ho hr
theorem p49_start_3 (k:BKit) {E:Env} {rv:AV} (hE:Qe Try.prog 49 rv E) (ho:AllP [(decide ((k.parts.length:Int) > 16))=false,(decide ((k.vans.length:Int) > 6))=false,Qd Try.prog (.clos 117 [] []) [.int .i64 k.crane,.int .i64 1,.int .i64 1000000] (.bool (Qa k.crane 1 1000000)),(!(Qa k.crane 1 1000000))=false])
 (hg:G Try.prog E (QcR Try.prog) ⟨([J,.ptr 0 0 0,J,J,.int .i64 (k.parts.length:Int)]++jj 23 ([.rsl (QF k.parts) 0 k.parts.length,.int .i64 (k.parts.length:Int),.int .i64 0]++Js 49)),[⟨true,0,1,true,(Qag k),false⟩]⟩):G Try.prog E [.code (Qc Try.prog 49)] ⟨[.agg (Qag k)]++unds (Try.f49.ntmps - 1),[]⟩ :=
 Qh (n:=400) (ds:=[]) (cs:=[]) (live:=[1,4,28,29,30]) (m:=1) (evs:=[.b false,.b false,.v (.bool (Qa k.crane 1 1000000)),.b false,.stop]) (obs:=_) hE.2.1 (hE.nogh _) Qf (by kernel_rfl) ho hg
theorem f49W (k:BKit) {E:Env} {rv:AV} (hE:Qe Try.prog 49 rv E)
 (h:(((k.parts.length:Int) > 16→rv=(.tup [.nilPtr,.bool false]))∧(¬ ((k.parts.length:Int) > 16)→(((k.vans.length:Int) > 6→rv=(.tup [.nilPtr,.bool false]))∧(¬ ((k.vans.length:Int) > 6)→(((Qa k.crane 1 1000000)=false→rv=(.tup [.nilPtr,.bool false]))∧((Qa k.crane 1 1000000)=true→f49G0 E k 0))))))):G Try.prog E [.code (Qc Try.prog 49)] ⟨[.agg [.rsl (QF k.parts) 0 k.parts.length,.int .i64 k.crane,.rsl ((Qs rowI) k.vans) 0 k.vans.length]]++unds (Try.f49.ntmps - 1),[]⟩:=by
 rcases bft (decide ((k.parts.length:Int) > 16)) with hc0 | hc0
 · have h:=h.1 (odt hc0)
   exact p49_start_0 k hE ⟨hc0,rfl,rfl,trivial⟩ (AvLe.of_eq (by rw [h]; try rfl))
 · have h:=h.2 (odf hc0)
   rcases bft (decide ((k.vans.length:Int) > 6)) with hc1 | hc1
   · have h:=h.1 (odt hc1)
     exact p49_start_1 k hE ⟨hc0,hc1,rfl,trivial⟩ (AvLe.of_eq (by rw [h]; try rfl))
   · have h:=h.2 (odf hc1)
     rcases bft (!(Qa k.crane 1 1000000)) with hc2 | hc2
     · have h:=h.1 (bnT hc2)
       exact p49_start_2 k hE ⟨hc0,hc1,(u117 (QC k.crane 1 1000000)),hc2,trivial⟩ (AvLe.of_eq (by rw [h]; try rfl))
     · have h:=h.2 (bnF hc2)
       exact p49_start_3 k hE ⟨hc0,hc1,(u117 (QC k.crane 1 1000000)),hc2,trivial⟩ h
theorem p49_0_0 (k:BKit) (i:Nat) (be:BPart) {E:Env} {res:AV} (hE:Qe Try.prog 49 res E) (ho:AllP [(decide ((i:Int)<(k.parts.length:Int)))=true,0≤(i:Int)∧(i:Int)<(k.parts.length:Int),((QF k.parts).drop (0+(Int.toNat (i:Int))*4)).take 4=(Qbq be),4≤4,Qd Try.prog (.clos 117 [] []) [.int .i64 be.w,.int .i64 1,.int .i64 1000000] (.bool (Qa be.w 1 1000000)),(!(Qa be.w 1 1000000))=true,true=true,true=true])
 (hr:AvLe (.tup [.nilPtr,.bool false]) res):G Try.prog E (QcR Try.prog) (f49S0 k i ) :=
 Qb (n:=400) (evs:=[.b true,.ld (.agg (Qbq be)),.v (.bool (Qa be.w 1 1000000)),.b true,.b true,.b true]) (obs:=_) hE Try.func49 Qf (by kernel_rfl) ho hr
theorem p49_0_1 (k:BKit) (i:Nat) (be:BPart) {E:Env} {res:AV} (hE:Qe Try.prog 49 res E) (ho:AllP [(decide ((i:Int)<(k.parts.length:Int)))=true,0≤(i:Int)∧(i:Int)<(k.parts.length:Int),((QF k.parts).drop (0+(Int.toNat (i:Int))*4)).take 4=(Qbq be),4≤4,Qd Try.prog (.clos 117 [] []) [.int .i64 be.w,.int .i64 1,.int .i64 1000000] (.bool (Qa be.w 1 1000000)),(!(Qa be.w 1 1000000))=false,Qd Try.prog (.clos 117 [] []) [.int .i64 be.m,.int .i64 1,.int .i64 100] (.bool (Qa be.m 1 100)),(!(Qa be.m 1 100))=true,true=true])
 (hr:AvLe (.tup [.nilPtr,.bool false]) res):G Try.prog E (QcR Try.prog) (f49S0 k i ) :=
 Qb (n:=400) (evs:=[.b true,.ld (.agg (Qbq be)),.v (.bool (Qa be.w 1 1000000)),.b false,.v (.bool (Qa be.m 1 100)),.b true,.b true]) (obs:=_) hE Try.func49 Qf (by kernel_rfl) ho hr
theorem p49_0_2 (k:BKit) (i:Nat) (be:BPart) {E:Env} {res:AV} (hE:Qe Try.prog 49 res E) (ho:AllP [(decide ((i:Int)<(k.parts.length:Int)))=true,0≤(i:Int)∧(i:Int)<(k.parts.length:Int),((QF k.parts).drop (0+(Int.toNat (i:Int))*4)).take 4=(Qbq be),4≤4,Qd Try.prog (.clos 117 [] []) [.int .i64 be.w,.int .i64 1,.int .i64 1000000] (.bool (Qa be.w 1 1000000)),(!(Qa be.w 1 1000000))=false,Qd Try.prog (.clos 117 [] []) [.int .i64 be.m,.int .i64 1,.int .i64 100] (.bool (Qa be.m 1 100)),(!(Qa be.m 1 100))=false,Qd Try.prog (.clos 117 [] []) [.int .i64 be.pins,.int .i64 0,.int .i64 9] (.bool (Qa be.pins 0 9)),(!(Qa be.pins 0 9))=true])
 (hr:AvLe (.tup [.nilPtr,.bool false]) res):G Try.prog E (QcR Try.prog) (f49S0 k i ) :=
 Qb (n:=400) (evs:=[.b true,.ld (.agg (Qbq be)),.v (.bool (Qa be.w 1 1000000)),.b false,.v (.bool (Qa be.m 1 100)),.b false,.v (.bool (Qa be.pins 0 9)),.b true]) (obs:=_) hE Try.func49 Qf (by kernel_rfl) ho hr
theorem p49_0_3 (k:BKit) (i:Nat) (be:BPart) {E:Env} {rv:AV} (hE:Qe Try.prog 49 rv E) (ho:AllP [(decide ((i:Int)<(k.parts.length:Int)))=true,0≤(i:Int)∧(i:Int)<(k.parts.length:Int),((QF k.parts).drop (0+(Int.toNat (i:Int))*4)).take 4=(Qbq be),4≤4,Qd Try.prog (.clos 117 [] []) [.int .i64 be.w,.int .i64 1,.int .i64 1000000] (.bool (Qa be.w 1 1000000)),(!(Qa be.w 1 1000000))=false,Qd Try.prog (.clos 117 [] []) [.int .i64 be.m,.int .i64 1,.int .i64 100] (.bool (Qa be.m 1 100)),(!(Qa be.m 1 100))=false,Qd Try.prog (.clos 117 [] []) [.int .i64 be.pins,.int .i64 0,.int .i64 9] (.bool (Qa be.pins 0 9)),(!(Qa be.pins 0 9))=false])
 (hg:G Try.prog E (f49K1 Try.prog) ⟨([J,.ptr 0 0 0,J,J,.int .i64 (k.parts.length:Int),.int .i64 (i:Int),J,.int .i64 (-1)]++jj 20 ([.rsl (QF k.parts) 0 k.parts.length,.int .i64 (k.parts.length:Int),.int .i64 (i:Int)]++jj 21 ([.rsl (rowI be.needs) 0 be.needs.length,.int .i64 (be.needs.length:Int),.int .i64 0]++Js 25))),[⟨true,0,1,true,(Qag k),false⟩,⟨true,0,1,true,(Qbq be),false⟩]⟩):G Try.prog E (QcR Try.prog) (f49S0 k i ) :=
 Qh (n:=400) (ds:=[]) (cs:=[]) (live:=[1,4,5,7,28,29,30,52,53,54]) (m:=2) (evs:=[.b true,.ld (.agg (Qbq be)),.v (.bool (Qa be.w 1 1000000)),.b false,.v (.bool (Qa be.m 1 100)),.b false,.v (.bool (Qa be.pins 0 9)),.b false,.stop]) (obs:=_) hE.2.1 (hE.nogh _) Qf (by kernel_rfl) ho hg
theorem p49_0_4 (k:BKit) (i:Nat) {E:Env} {res:AV} (hE:Qe Try.prog 49 res E) (ho:AllP [(decide ((i:Int)<(k.parts.length:Int)))=false,Qd Try.prog (.clos 118 [] []) [.agg (Qag k),.rsl ((Qs rowI) k.vans) 0 k.vans.length] (z49_2 k)])
 (hr:AvLe (z49_2 k) res):G Try.prog E (QcR Try.prog) (f49S0 k i ) :=
 Qb (n:=400) (evs:=[.b false,.v (z49_2 k)]) (obs:=_) hE Try.func49 Qf (by kernel_rfl) ho hr
theorem p49_0_5 (k:BKit) (i:Nat) {E:Env} {res:AV} (hE:Qe Try.prog 49 res E) (ho:AllP [(decide ((i:Int)<(k.parts.length:Int)))=false,Qd Try.prog (.clos 118 [] []) [.agg (Qag k),.rsl ((Qs rowI) k.vans) 0 k.vans.length] (.tup [.nilPtr,.bool false])])
 (hr:AvLe (.tup [.nilPtr,.bool false]) res):G Try.prog E (QcR Try.prog) (f49S0 k i ) :=
 Qb (n:=400) (evs:=[.b false,.v (.tup [.nilPtr,.bool false])]) (obs:=_) hE Try.func49 Qf (by kernel_rfl) ho hr
theorem f49W0 (k:BKit) (i:Nat) {E:Env} {rv:AV} (hE:Qe Try.prog 49 rv E)
 (h:(((i:Int)<(k.parts.length:Int)→(∃ be:BPart,k.parts[i]?=some be∧(((Qa be.w 1 1000000)=false→rv=(.tup [.nilPtr,.bool false]))∧((Qa be.w 1 1000000)=true→(((Qa be.m 1 100)=false→rv=(.tup [.nilPtr,.bool false]))∧((Qa be.m 1 100)=true→(((Qa be.pins 0 9)=false→rv=(.tup [.nilPtr,.bool false]))∧((Qa be.pins 0 9)=true→f49G1 E k be.needs be.needs.length be.w be.m be.pins be.needs (-1) 0 i i))))))))∧(¬ ((i:Int)<(k.parts.length:Int))→((((XA k).isSome)=true→((KitSmall k∧k.vans=k.vans∧k.parts.length≤16)∧rv=(.tup [.rptr [.rsl (QF (((Qo k).k).parts)) 0 ((((Qo k).k).parts).length),.int .i64 (((Qo k).k).crane),.rsl ((Qs rowI) (((Qo k).k).vans)) 0 ((((Qo k).k).vans).length),.rsl ((Qs rowI) ((Qo k).above)) 0 (((Qo k).above).length),.rsl ((Qs rowI) ((Qo k).below)) 0 (((Qo k).below).length)] 0,.bool (QaG k)])))∧(((XA k).isSome)=false→((KitSmall k∧k.vans=k.vans∧k.parts.length≤16)∧rv=(.tup [.nilPtr,.bool false]))))))):f49G0 E k i:=by
 rcases bft (decide ((i:Int)<(k.parts.length:Int))) with hc0 | hc0
 · have h:=h.1 (odt hc0)
   obtain ⟨be,h1,h⟩:=h
   rcases bft (!(Qa be.w 1 1000000)) with hc1 | hc1
   · have h:=h.1 (bnT hc1)
     exact p49_0_0 k i be hE ⟨hc0,(Qn h1),(rp cBp 4 0 4 h1),(by decide),(u117 (QC be.w 1 1000000)),hc1,rfl,rfl,trivial⟩ (AvLe.of_eq (by rw [h]; try rfl))
   · have h:=h.2 (bnF hc1)
     rcases bft (!(Qa be.m 1 100)) with hc2 | hc2
     · have h:=h.1 (bnT hc2)
       exact p49_0_1 k i be hE ⟨hc0,(Qn h1),(rp cBp 4 0 4 h1),(by decide),(u117 (QC be.w 1 1000000)),hc1,(u117 (QC be.m 1 100)),hc2,rfl,trivial⟩ (AvLe.of_eq (by rw [h]; try rfl))
     · have h:=h.2 (bnF hc2)
       rcases bft (!(Qa be.pins 0 9)) with hc3 | hc3
       · have h:=h.1 (bnT hc3)
         exact p49_0_2 k i be hE ⟨hc0,(Qn h1),(rp cBp 4 0 4 h1),(by decide),(u117 (QC be.w 1 1000000)),hc1,(u117 (QC be.m 1 100)),hc2,(u117 (QC be.pins 0 9)),hc3,trivial⟩ (AvLe.of_eq (by rw [h]; try rfl))
       · have h:=h.2 (bnF hc3)
         exact p49_0_3 k i be hE ⟨hc0,(Qn h1),(rp cBp 4 0 4 h1),(by decide),(u117 (QC be.w 1 1000000)),hc1,(u117 (QC be.m 1 100)),hc2,(u117 (QC be.pins 0 9)),hc3,trivial⟩ h
 · have h:=h.2 (odf hc0)
   rcases bft ((XA k).isSome) with hc1 | hc1
   · have h:=h.1 hc1
     obtain ⟨h1,h⟩:=h
     exact p49_0_4 k i hE ⟨hc0,(u118 (stacked_some k k.vans h1 hc1)),trivial⟩ (AvLe.of_eq (by rw [h]; try rfl))
   · have h:=h.2 hc1
     obtain ⟨h1,h⟩:=h
     exact p49_0_5 k i hE ⟨hc0,(u118 (stacked_none k k.vans h1 hc1)),trivial⟩ (AvLe.of_eq (by rw [h]; try rfl))
theorem p49_1_0 (k:BKit) (k1:(List Int)) (k11:Nat) (v1_0:Int) (v1_1:Int) (v1_2:Int) (v1_3:(List Int)) (last:Int) (k111:Nat) (i:Nat) (k1111:Nat) (e:Int) {E:Env} {res:AV} (hE:Qe Try.prog 49 res E) (ho:AllP [(decide ((k111:Int)<(k11:Int)))=true,0≤(k111:Int)∧(k111:Int)<(k1.length:Int),((rowI k1).drop (0+(Int.toNat (k111:Int))*1)).take 1=[.int .i64 e],(decide (e≤last))=true,true=true,true=true])
 (hr:AvLe (.tup [.nilPtr,.bool false]) res):G Try.prog E (f49K1 Try.prog) (f49S1 k k1 k11 v1_0 v1_1 v1_2 v1_3 last k111 i k1111 ) :=
 Qb (n:=400) (evs:=[.b true,.ld (.int .i64 e),.b true,.b true,.b true]) (obs:=_) hE Try.func49 Qf (by kernel_rfl) ho hr
theorem p49_1_1 (k:BKit) (k1:(List Int)) (k11:Nat) (v1_0:Int) (v1_1:Int) (v1_2:Int) (v1_3:(List Int)) (last:Int) (k111:Nat) (i:Nat) (k1111:Nat) (e:Int) {E:Env} {res:AV} (hE:Qe Try.prog 49 res E) (ho:AllP [(decide ((k111:Int)<(k11:Int)))=true,0≤(k111:Int)∧(k111:Int)<(k1.length:Int),((rowI k1).drop (0+(Int.toNat (k111:Int))*1)).take 1=[.int .i64 e],(decide (e≤last))=false,(decide (e≥(k.parts.length:Int)))=true,true=true])
 (hr:AvLe (.tup [.nilPtr,.bool false]) res):G Try.prog E (f49K1 Try.prog) (f49S1 k k1 k11 v1_0 v1_1 v1_2 v1_3 last k111 i k1111 ) :=
 Qb (n:=400) (evs:=[.b true,.ld (.int .i64 e),.b false,.b true,.b true]) (obs:=_) hE Try.func49 Qf (by kernel_rfl) ho hr
theorem p49_1_2 (k:BKit) (k1:(List Int)) (k11:Nat) (v1_0:Int) (v1_1:Int) (v1_2:Int) (v1_3:(List Int)) (last:Int) (k111:Nat) (i:Nat) (k1111:Nat) (e:Int) {E:Env} {res:AV} (hE:Qe Try.prog 49 res E) (ho:AllP [(decide ((k111:Int)<(k11:Int)))=true,0≤(k111:Int)∧(k111:Int)<(k1.length:Int),((rowI k1).drop (0+(Int.toNat (k111:Int))*1)).take 1=[.int .i64 e],(decide (e≤last))=false,(decide (e≥(k.parts.length:Int)))=false,(e == (i:Int))=true])
 (hr:AvLe (.tup [.nilPtr,.bool false]) res):G Try.prog E (f49K1 Try.prog) (f49S1 k k1 k11 v1_0 v1_1 v1_2 v1_3 last k111 i k1111 ) :=
 Qb (n:=400) (evs:=[.b true,.ld (.int .i64 e),.b false,.b false,.b true]) (obs:=_) hE Try.func49 Qf (by kernel_rfl) ho hr
theorem p49_1_3 (k:BKit) (k1:(List Int)) (k11:Nat) (v1_0:Int) (v1_1:Int) (v1_2:Int) (v1_3:(List Int)) (last:Int) (k111:Nat) (i:Nat) (k1111:Nat) (e:Int) {E:Env} {rv:AV} (hE:Qe Try.prog 49 rv E) (ho:AllP [(decide ((k111:Int)<(k11:Int)))=true,0≤(k111:Int)∧(k111:Int)<(k1.length:Int),((rowI k1).drop (0+(Int.toNat (k111:Int))*1)).take 1=[.int .i64 e],(decide (e≤last))=false,(decide (e≥(k.parts.length:Int)))=false,(e == (i:Int))=false,InR .i64 ((k111:Int)+1)])
 (hg:G Try.prog E (f49K1 Try.prog) ⟨([J,.ptr 0 0 0,J,J,.int .i64 (k.parts.length:Int),.int .i64 (i:Int),J,.int .i64 e]++jj 20 ([.rsl (QF k.parts) 0 k.parts.length,.int .i64 (k.parts.length:Int),.int .i64 (k1111:Int)]++jj 21 ([.rsl (rowI k1) 0 k1.length,.int .i64 (k11:Int),.int .i64 ((k111:Int)+1)]++Js 25))),[⟨true,0,1,true,(Qag k),false⟩,⟨true,0,1,true,[.int .i64 v1_0,.int .i64 v1_1,.int .i64 v1_2,.rsl (rowI v1_3) 0 v1_3.length],false⟩]⟩):G Try.prog E (f49K1 Try.prog) (f49S1 k k1 k11 v1_0 v1_1 v1_2 v1_3 last k111 i k1111 ) :=
 Qh (n:=400) (ds:=[]) (cs:=[]) (live:=[1,4,5,7,28,29,30,52,53,54]) (m:=2) (evs:=[.b true,.ld (.int .i64 e),.b false,.b false,.b false,.stop]) (obs:=_) hE.2.1 (hE.nogh _) Qf (by kernel_rfl) ho hg
theorem p49_1_4 (k:BKit) (k1:(List Int)) (k11:Nat) (v1_0:Int) (v1_1:Int) (v1_2:Int) (v1_3:(List Int)) (last:Int) (k111:Nat) (i:Nat) (k1111:Nat) {E:Env} {rv:AV} (hE:Qe Try.prog 49 rv E) (ho:AllP [(decide ((k111:Int)<(k11:Int)))=false,InR .i64 ((k1111:Int)+1)])
 (hg:G Try.prog E (QcR Try.prog) ⟨([J,.ptr 0 0 0,J,J,.int .i64 (k.parts.length:Int)]++jj 23 ([.rsl (QF k.parts) 0 k.parts.length,.int .i64 (k.parts.length:Int),.int .i64 ((k1111:Int)+1)]++Js 49)),[⟨true,0,1,true,(Qag k),false⟩]⟩):G Try.prog E (f49K1 Try.prog) (f49S1 k k1 k11 v1_0 v1_1 v1_2 v1_3 last k111 i k1111 ) :=
 Qh (n:=400) (ds:=[]) (cs:=[]) (live:=[1,4,28,29,30]) (m:=1) (evs:=[.b false,.stop]) (obs:=_) hE.2.1 (hE.nogh _) Qf (by kernel_rfl) ho hg
theorem f49W1 (k:BKit) (k1:(List Int)) (k11:Nat) (v1_0:Int) (v1_1:Int) (v1_2:Int) (v1_3:(List Int)) (last:Int) (k111:Nat) (i:Nat) (k1111:Nat) {E:Env} {rv:AV} (hE:Qe Try.prog 49 rv E)
 (h:(((k111:Int)<(k11:Int)→(∃ e:Int,k1[k111]?=some e∧((e≤last→rv=(.tup [.nilPtr,.bool false]))∧(¬ (e≤last)→((e≥(k.parts.length:Int)→rv=(.tup [.nilPtr,.bool false]))∧(¬ (e≥(k.parts.length:Int))→((e=(i:Int)→rv=(.tup [.nilPtr,.bool false]))∧(¬ (e=(i:Int))→((I6 ((k111:Int)+1))∧f49G1 E k k1 k11 v1_0 v1_1 v1_2 v1_3 e (k111+1) i k1111)))))))))∧(¬ ((k111:Int)<(k11:Int))→((I6 ((k1111:Int)+1))∧f49G0 E k (k1111+1))))):f49G1 E k k1 k11 v1_0 v1_1 v1_2 v1_3 last k111 i k1111:=by
 rcases bft (decide ((k111:Int)<(k11:Int))) with hc0 | hc0
 · have h:=h.1 (odt hc0)
   obtain ⟨e,h1,h⟩:=h
   rcases bft (decide (e≤last)) with hc1 | hc1
   · have h:=h.1 (odt hc1)
     exact p49_1_0 k k1 k11 v1_0 v1_1 v1_2 v1_3 last k111 i k1111 e hE ⟨hc0,(Qn h1),(rp cI 1 0 1 h1),hc1,rfl,rfl,trivial⟩ (AvLe.of_eq (by rw [h]; try rfl))
   · have h:=h.2 (odf hc1)
     rcases bft (decide (e≥(k.parts.length:Int))) with hc2 | hc2
     · have h:=h.1 (odt hc2)
       exact p49_1_1 k k1 k11 v1_0 v1_1 v1_2 v1_3 last k111 i k1111 e hE ⟨hc0,(Qn h1),(rp cI 1 0 1 h1),hc1,hc2,rfl,trivial⟩ (AvLe.of_eq (by rw [h]; try rfl))
     · have h:=h.2 (odf hc2)
       rcases bft (e == (i:Int)) with hc3 | hc3
       · have h:=h.1 (eq_of_beq hc3)
         exact p49_1_2 k k1 k11 v1_0 v1_1 v1_2 v1_3 last k111 i k1111 e hE ⟨hc0,(Qn h1),(rp cI 1 0 1 h1),hc1,hc2,hc3,trivial⟩ (AvLe.of_eq (by rw [h]; try rfl))
       · have h:=h.2 (ne_of_beq_false hc3)
         obtain ⟨q7_4,h⟩:=h
         exact p49_1_3 k k1 k11 v1_0 v1_1 v1_2 v1_3 last k111 i k1111 e hE ⟨hc0,(Qn h1),(rp cI 1 0 1 h1),hc1,hc2,hc3,q7_4,trivial⟩ h
 · have h:=h.2 (odf hc0)
   obtain ⟨q1_1,h⟩:=h
   exact p49_1_4 k k1 k11 v1_0 v1_1 v1_2 v1_3 last k111 i k1111 hE ⟨hc0,q1_1,trivial⟩ h
def qk (k:BKit):AV:=if (YM k && (XA k).isSome)=true then .tup [yardV (Qo k),.bool (QaG k)] else .tup [.nilPtr,.bool false]
theorem qj {k:BKit} (h:YM k=false):qk k=.tup [.nilPtr,.bool false]:=by unfold qk; rw [h]; rfl
theorem qe (k:BKit) (hs:KitSmall k):Pure Try.prog 49 [.agg [.rsl (QF k.parts) 0 k.parts.length,.int .i64 k.crane,.rsl (Qs rowI k.vans) 0 k.vans.length]] (qk k):=Qu Try.func49 f49b fun E hE=>by
 have h20:=hs.parts
 refine f49W k (rv:=qk k) hE ⟨fun c1=>?_,fun c1=>⟨fun c2=>?_,fun c2=>⟨fun c3=>?_,fun c3=>?_⟩⟩⟩
 · exact qj (by simp only [YM]; rw [decide_eq_false (by omega)]; rfl)
 · exact qj (by simp only [YM]; rw [decide_eq_false (show ¬ k.vans.length≤6 by omega),Bool.false_and,Bool.and_false])
 · exact qj (by simp only [YM]; rw [c3,Bool.false_and,Bool.and_false,Bool.and_false])
 have hk:YM k=Wj k.parts.length 0 k.parts:=by
  simp only [YM]; rw [decide_eq_true (show k.parts.length≤16 by omega),decide_eq_true (show k.vans.length≤6 by omega),c3]; rfl
 have outer:∀ (d i:Nat),i+d=k.parts.length→YM k=Wj k.parts.length i (k.parts.drop i)→f49G0 E k i:=by
  intro d
  induction d with
  | zero =>
   intro i hi hr
   rw [List.drop_eq_nil_of_le (by omega)] at hr
   have hk1:YM k=true:=hr
   refine f49W0 k i (rv:=qk k) hE ⟨fun h=>by omega,fun _=>⟨fun h=>⟨⟨hs,rfl,by omega⟩,?_⟩,fun h=>⟨⟨hs,rfl,by omega⟩,?_⟩⟩⟩
   · unfold qk; rw [hk1,h]; rfl
   · unfold qk; rw [hk1,h]; rfl
  | succ d ih =>
   intro i hi hr
   have hx:k.parts[i]?=some (k.parts[i]'(by omega)):=List.getElem?_eq_getElem (by omega)
   rw [List.drop_eq_getElem_cons (by omega)] at hr
   generalize k.parts[i]'(by omega)=p at hx hr
   have hn:=hs.needs p (List.mem_of_getElem? hx)
   simp only [Wj,QaM] at hr
   have bad:∀ b:Bool,b=false→YM k=b→qk k=.tup [.nilPtr,.bool false]:=fun b hb hh=>qj (by rw [hh,hb])
   refine f49W0 k i (rv:=qk k) hE ⟨fun _=>⟨p,hx,fun b1=>?_,fun b1=>⟨fun b2=>?_,fun b2=>⟨fun b3=>?_,fun b3=>?_⟩⟩⟩,fun h=>by omega⟩
   · exact bad _ (by rw [b1]; simp) hr
   · exact bad _ (by rw [b2]; simp) hr
   · exact bad _ (by rw [b3]; simp) hr
   rw [b1,b2,b3,Bool.true_and,Bool.true_and,Bool.true_and] at hr
   have inner:∀ (d j:Nat) (last:Int),j+d=p.needs.length→YM k=(yq k.parts.length i last (p.needs.drop j) && Wj k.parts.length (i+1) (k.parts.drop (i+1)))→f49G1 E k p.needs p.needs.length p.w p.m p.pins p.needs last j i i:=by
    intro d
    induction d with
    | zero =>
     intro j last hj hr
     rw [List.drop_eq_nil_of_le (by omega)] at hr
     exact f49W1 k p.needs p.needs.length p.w p.m p.pins p.needs last j i i (rv:=qk k) hE ⟨fun h=>by omega,fun _=>⟨by omega,ih (i+1) (by omega) hr⟩⟩
    | succ d ihd =>
     intro j last hj hr
     have hy:p.needs[j]?=some (p.needs[j]'(by omega)):=List.getElem?_eq_getElem (by omega)
     rw [List.drop_eq_getElem_cons (by omega)] at hr
     generalize p.needs[j]'(by omega)=e at hy hr
     simp only [yq] at hr
     refine f49W1 k p.needs p.needs.length p.w p.m p.pins p.needs last j i i (rv:=qk k) hE ⟨fun _=>⟨e,hy,fun q1=>?_,fun q1=>⟨fun q2=>?_,fun q2=>⟨fun q3=>?_,fun q3=>⟨by omega,?_⟩⟩⟩⟩,fun h=>by omega⟩
     · rw [if_pos (.inl q1)] at hr; exact bad _ rfl hr
     · rw [if_pos (.inr (.inl q2))] at hr; exact bad _ rfl hr
     · rw [if_pos (.inr (.inr q3))] at hr; exact bad _ rfl hr
     · rw [if_neg (by rintro (h | h | h) <;> contradiction)] at hr
       exact ihd (j+1) e (by omega) hr
   exact inner p.needs.length 0 (-1) (by omega) hr
 exact outer k.parts.length 0 (by omega) hk
theorem yard_ok (k:BKit) (hs:KitSmall k) (h:Vv k=true):Pure Try.prog 49 [.agg [.rsl (QF k.parts) 0 k.parts.length,.int .i64 k.crane,.rsl (Qs rowI k.vans) 0 k.vans.length]] (.tup [yardV (Qo k),.bool true]):=by
 have hg:=qe k hs
 simp only [Vv,Bool.and_eq_true] at h
 unfold qk at hg
 rw [h.1,h.2.1,h.2.2] at hg
 exact hg
theorem yard_half (k:BKit) (hs:KitSmall k) (h:Vv k=false) (h2:(YM k && (XA k).isSome)=true):Pure Try.prog 49 [.agg [.rsl (QF k.parts) 0 k.parts.length,.int .i64 k.crane,.rsl (Qs rowI k.vans) 0 k.vans.length]] (.tup [yardV (Qo k),.bool false]):=by
 have hg:=qe k hs
 have h3:QaG k=false:=by
  simp only [Bool.and_eq_true] at h2
  unfold Vv at h
  rw [h2.1,h2.2,Bool.true_and,Bool.true_and] at h
  exact h
 unfold qk at hg
 rw [if_pos h2,h3] at hg
 exact hg
theorem yard_nil (k:BKit) (hs:KitSmall k) (h:Vv k=false) (h2:(YM k && (XA k).isSome)=false):Pure Try.prog 49 [.agg [.rsl (QF k.parts) 0 k.parts.length,.int .i64 k.crane,.rsl (Qs rowI k.vans) 0 k.vans.length]] (.tup [.nilPtr,.bool false]):=by
 have hg:=qe k hs
 unfold qk at hg
 rw [if_neg (by rw [h2]; exact Bool.false_ne_true)] at hg
 exact hg
end Go.Proofs.Ytemklbioijmjiaa
namespace Go.Proofs.Ytemklbioijmjiaa
open Go Ax
open Go.Proofs
theorem and_mask {y:Int} (h:0≤y∧y<4294967296):bits .and .u64 y 4294967295=y:=by
 obtain ⟨n,rfl⟩:=Int.eq_ofNat_of_zero_le h.1
 have h1:=bits_and_u64_nat n 4294967295 (by omega) (by omega)
 have h2:n &&& 4294967295=n:=by
  have:=Nat.and_two_pow_sub_one_eq_mod n 32
  rw [show (2:Nat) ^ 32 - 1=4294967295 from rfl,show (2:Nat) ^ 32=4294967296 from rfl] at this
  rw [this]; exact Nat.mod_eq_of_lt (by omega)
 rw [h2] at h1
 exact h1
theorem inU {n:Int} (h:0≤n∧n≤18446744073709551615):InR .u64 n:=by
 have e1:IntKind.u64.min=0:=rfl
 have e2:IntKind.u64.max=18446744073709551615:=rfl
 unfold InR
 exact ⟨by rw [e1]; omega,by rw [e2]; omega⟩
theorem div32 {y:Int} (h:0≤y∧y<4294967296):y / 2 ^ (Int.toNat 32)=0:=by
 show y / 4294967296=0
 omega
theorem f194b:Try.f194.body=some (Qc Try.prog 194):=by kernel_rfl
theorem u194 {a c k:List AV} {r:AV} (h:Pure Try.prog 194 (a++c++k) r):Qd Try.prog (.clos 194 a k) c r:=Qi Try.func194 (by kernel_rfl) f194b h
theorem p194_start_0 (y:Int) {E:Env} {res:AV} (hE:Qe Try.prog 194 res E) (ho:AllP [(0:Int)≤32∧32≤((IntKind.bits .u64:Nat):Int),(0:Int)≤32∧32≤((IntKind.bits .u64:Nat):Int),InR .u64 (1*(bits .and .u64 y 4294967295)),InR .u64 (0*(bits .and .u64 y 4294967295)),(0:Int)≤32∧32≤((IntKind.bits .u64:Nat):Int),InR .u64 ((0*(bits .and .u64 y 4294967295))+((1*(bits .and .u64 y 4294967295)) / 2 ^ (Int.toNat 32))),(0:Int)≤32∧32≤((IntKind.bits .u64:Nat):Int),InR .u64 (1*(y / 2 ^ (Int.toNat 32))),InR .u64 ((bits .and .u64 ((0*(bits .and .u64 y 4294967295))+((1*(bits .and .u64 y 4294967295)) / 2 ^ (Int.toNat 32))) 4294967295)+(1*(y / 2 ^ (Int.toNat 32)))),InR .u64 (0*(y / 2 ^ (Int.toNat 32))),InR .u64 ((0*(y / 2 ^ (Int.toNat 32)))+(((0*(bits .and .u64 y 4294967295))+((1*(bits .and .u64 y 4294967295)) / 2 ^ (Int.toNat 32))) / 2 ^ (Int.toNat 32))),(0:Int)≤32∧32≤((IntKind.bits .u64:Nat):Int),InR .u64 (((0*(y / 2 ^ (Int.toNat 32)))+(((0*(bits .and .u64 y 4294967295))+((1*(bits .and .u64 y 4294967295)) / 2 ^ (Int.toNat 32))) / 2 ^ (Int.toNat 32)))+(((bits .and .u64 ((0*(bits .and .u64 y 4294967295))+((1*(bits .and .u64 y 4294967295)) / 2 ^ (Int.toNat 32))) 4294967295)+(1*(y / 2 ^ (Int.toNat 32)))) / 2 ^ (Int.toNat 32))),InR .u64 (1*y)])
 (hr:AvLe (.tup [.int .u64 (((0*(y / 2 ^ (Int.toNat 32)))+(((0*(bits .and .u64 y 4294967295))+((1*(bits .and .u64 y 4294967295)) / 2 ^ (Int.toNat 32))) / 2 ^ (Int.toNat 32)))+(((bits .and .u64 ((0*(bits .and .u64 y 4294967295))+((1*(bits .and .u64 y 4294967295)) / 2 ^ (Int.toNat 32))) 4294967295)+(1*(y / 2 ^ (Int.toNat 32)))) / 2 ^ (Int.toNat 32))),.int .u64 (1*y)]) res):G Try.prog E [.code (Qc Try.prog 194)] ⟨[.int .u64 1,.int .u64 y]++unds (Try.f194.ntmps - 2),[]⟩ :=
 Qb (n:=400) (evs:=[]) (obs:=_) hE Try.func194 Qf (by kernel_rfl) ho hr
theorem f194W (y:Int) {E:Env} {rv:(Int × Int)} (hE:Qe Try.prog 194 (.tup [.int .u64 rv.1,.int .u64 rv.2]) E)
 (h:(InR .u64 (1*(bits .and .u64 y 4294967295))∧(InR .u64 (0*(bits .and .u64 y 4294967295))∧(InR .u64 ((0*(bits .and .u64 y 4294967295))+((1*(bits .and .u64 y 4294967295)) / 2 ^ (Int.toNat 32)))∧(InR .u64 (1*(y / 2 ^ (Int.toNat 32)))∧(InR .u64 ((bits .and .u64 ((0*(bits .and .u64 y 4294967295))+((1*(bits .and .u64 y 4294967295)) / 2 ^ (Int.toNat 32))) 4294967295)+(1*(y / 2 ^ (Int.toNat 32))))∧(InR .u64 (0*(y / 2 ^ (Int.toNat 32)))∧(InR .u64 ((0*(y / 2 ^ (Int.toNat 32)))+(((0*(bits .and .u64 y 4294967295))+((1*(bits .and .u64 y 4294967295)) / 2 ^ (Int.toNat 32))) / 2 ^ (Int.toNat 32)))∧(InR .u64 (((0*(y / 2 ^ (Int.toNat 32)))+(((0*(bits .and .u64 y 4294967295))+((1*(bits .and .u64 y 4294967295)) / 2 ^ (Int.toNat 32))) / 2 ^ (Int.toNat 32)))+(((bits .and .u64 ((0*(bits .and .u64 y 4294967295))+((1*(bits .and .u64 y 4294967295)) / 2 ^ (Int.toNat 32))) 4294967295)+(1*(y / 2 ^ (Int.toNat 32)))) / 2 ^ (Int.toNat 32)))∧(InR .u64 (1*y)∧rv=((((0*(y / 2 ^ (Int.toNat 32)))+(((0*(bits .and .u64 y 4294967295))+((1*(bits .and .u64 y 4294967295)) / 2 ^ (Int.toNat 32))) / 2 ^ (Int.toNat 32)))+(((bits .and .u64 ((0*(bits .and .u64 y 4294967295))+((1*(bits .and .u64 y 4294967295)) / 2 ^ (Int.toNat 32))) 4294967295)+(1*(y / 2 ^ (Int.toNat 32)))) / 2 ^ (Int.toNat 32))),(1*y)))))))))))):G Try.prog E [.code (Qc Try.prog 194)] ⟨[.int .u64 1,.int .u64 y]++unds (Try.f194.ntmps - 2),[]⟩:=by
 obtain ⟨q2_0,h⟩:=h
 obtain ⟨q3_0,h⟩:=h
 obtain ⟨q5_0,h⟩:=h
 obtain ⟨q7_0,h⟩:=h
 obtain ⟨q8_0,h⟩:=h
 obtain ⟨q9_0,h⟩:=h
 obtain ⟨q10_0,h⟩:=h
 obtain ⟨q12_0,h⟩:=h
 obtain ⟨q13_0,h⟩:=h
 exact p194_start_0 y hE ⟨(⟨by decide,by decide⟩),(⟨by decide,by decide⟩),q2_0,q3_0,(⟨by decide,by decide⟩),q5_0,(⟨by decide,by decide⟩),q7_0,q8_0,q9_0,q10_0,(⟨by decide,by decide⟩),q12_0,q13_0,trivial⟩ (AvLe.of_eq (by rw [h]; try rfl))
theorem mul64_ok (y:Int) (h:0≤y∧y<4294967296):Pure Try.prog 194 [.int .u64 1,.int .u64 y] (.tup [.int .u64 0,.int .u64 y]):=Qu Try.func194 f194b fun E hE=>by
 have d0:(0:Int) / 2 ^ (Int.toNat 32)=0:=rfl
 have a0:=and_mask (y:=0) (by omega)
 refine f194W y (rv:=(0,y)) hE ?_
 rw [and_mask h]
 simp only [Int.one_mul,Int.zero_mul,Int.zero_add,div32 h,Int.add_zero,a0,d0]
 exact ⟨inU (by omega),inU (by omega),inU (by omega),inU (by omega),inU (by omega),inU (by omega),inU (by omega),inU (by omega),inU (by omega),trivial⟩
theorem f130b:Try.f130.body=some (Qc Try.prog 130):=by kernel_rfl
theorem u130 {a c k:List AV} {r:AV} (h:Pure Try.prog 130 (a++c++k) r):Qd Try.prog (.clos 130 a k) c r:=Qi Try.func130 (by kernel_rfl) f130b h
theorem p130_start_0 (y:Int) {E:Env} {res:AV} (hE:Qe Try.prog 130 res E) (ho:AllP [false=false,Qd Try.prog (.clos 194 [] []) [.int .u64 1,.int .u64 y] (.tup [.int .u64 0,.int .u64 y])])
 (hr:AvLe (.tup [.int .u64 0,.int .u64 y]) res):G Try.prog E [.code (Qc Try.prog 130)] ⟨[.int .u64 1,.int .u64 y]++unds (Try.f130.ntmps - 2),[]⟩ :=
 Qb (n:=400) (evs:=[.b false,.v (.tup [.int .u64 0,.int .u64 y])]) (obs:=_) hE Try.func130 Qf (by kernel_rfl) ho hr
theorem f130W (y:Int) {E:Env} {rv:(Int × Int)} (hE:Qe Try.prog 130 (.tup [.int .u64 rv.1,.int .u64 rv.2]) E)
 (h:((0≤y∧y<4294967296)∧rv=(0,y))):G Try.prog E [.code (Qc Try.prog 130)] ⟨[.int .u64 1,.int .u64 y]++unds (Try.f130.ntmps - 2),[]⟩:=by
 obtain ⟨h1,h⟩:=h
 exact p130_start_0 y hE ⟨rfl,(u194 (mul64_ok y h1)),trivial⟩ (AvLe.of_eq (by rw [h]; try rfl))
theorem mul_ok (y:Int) (h:0≤y∧y<4294967296):Pure Try.prog 130 [.int .u64 1,.int .u64 y] (.tup [.int .u64 0,.int .u64 y]):=Qu Try.func130 f130b fun E hE=>f130W y (rv:=(0,y)) hE ⟨h,rfl⟩
theorem f55b:Try.f55.body=some (Qc Try.prog 55):=by kernel_rfl
def f55K0 (P:Program):List Item:=kAt 400 [.code (Qc P 55)] [.b false,.b false,.stop]
def f55S0 (n:Int) (v:Int) (v0:List Int) (n1:Nat):St:=⟨(jj 7 ([.sl 0 0 0 v0.length 1,.int .i64 (n1:Int)]++Js 39)),[⟨true,0,1,true,(rowI v0),true⟩]⟩
def f55G0 (E:Env) (n:Int) (v:Int) (v0:List Int) (n1:Nat):Prop:=G Try.prog E (f55K0 Try.prog) (f55S0 n v v0 n1 )
theorem p55_start_2 (n:Int) (v:Int) {E:Env} {rv:AV} {bs2:List Blk} (hE:LentE Try.prog 55 [] rv bs2 E) (ho:AllP [(decide (n<0))=false,InR .u64 1,InR .u64 n,Qd Try.prog (.clos 130 [] []) [.int .u64 1,.int .u64 n] (.tup [.int .u64 0,.int .u64 n]),false=false,(decide (n > 9223372036854775807))=false,InR .i64 n,0≤n∧n≤n∧n≤2147483648,(0+(Nat.min 1 (Int.toNat n))*1)≤((List.replicate (Int.toNat n) ([.int .i64 0]:List AV)).flatten).length,(Nat.min 1 (Int.toNat n)) ≠ 0,0=0,(([.int .i64 v]).drop 0).take ((Nat.min 1 (Int.toNat n))*1)=(rowI ((([v]:List Int).drop 0).take (Nat.min 1 (Int.toNat n)))),(rowI ((([v]:List Int).drop 0).take (Nat.min 1 (Int.toNat n)))).length=(Nat.min 1 (Int.toNat n))*1,noRefs (rowI ((([v]:List Int).drop 0).take (Nat.min 1 (Int.toNat n))))=true])
 (hg:G Try.prog E (f55K0 Try.prog) ⟨(jj 7 ([.sl 0 0 0 (Int.toNat n) 1,.int .i64 (((Nat.min 1 (Int.toNat n)):Nat):Int)]++Js 39)),[⟨true,0,1,true,(Qw ((List.replicate (Int.toNat n) ([.int .i64 0]:List AV)).flatten) 0 (rowI ((([v]:List Int).drop 0).take (Nat.min 1 (Int.toNat n))))),true⟩]⟩):G Try.prog E [.code (Qc Try.prog 55)] ⟨[.rsl [.int .i64 v] 0 1,.int .i64 n]++unds (Try.f55.ntmps - 2),[]⟩ :=
 Qh (n:=400) (ds:=[]) (cs:=[]) (live:=[7,8]) (m:=1) (evs:=[.b false,.v (.tup [.int .u64 0,.int .u64 n]),.b false,.b false,.cs (rowI ((([v]:List Int).drop 0).take (Nat.min 1 (Int.toNat n)))),.stop]) (obs:=_) hE.kind (hE.nogh0 _) Qf (by kernel_rfl) ho hg
theorem f55W (n:Int) (v:Int) {E:Env} {rv:Unit} {l2:List Int} (hE:LentE Try.prog 55 [] (.sl 0 0 0 l2.length 1) [⟨true,0,1,true,(rowI l2),true⟩] E)
 (h:((n<0→False)∧(¬ (n<0)→(InR .u64 n∧((0≤n∧n<4294967296)∧((n > 9223372036854775807→False)∧(¬ (n > 9223372036854775807)→((I6 (n))∧((0≤n∧n≤2147483648)∧(0+(Nat.min 1 (Int.toNat n))≤(List.replicate (Int.toNat n) (0:Int)).length∧((Nat.min 1 (Int.toNat n)) ≠ 0∧(0+(Nat.min 1 (Int.toNat n))≤([v]:List Int).length∧f55G0 E n v (yM (List.replicate (Int.toNat n) (0:Int)) 0 ((([v]:List Int).drop 0).take (Nat.min 1 (Int.toNat n)))) (Nat.min 1 (Int.toNat n)))))))))))))):G Try.prog E [.code (Qc Try.prog 55)] ⟨[.rsl [.int .i64 v] 0 1,.int .i64 n]++unds (Try.f55.ntmps - 2),[]⟩:=by
 rcases bft (decide (n<0)) with hc0 | hc0
 · have h:=h.1 (odt hc0)
   exact h.elim
 · have h:=h.2 (odf hc0)
   obtain ⟨q2_1,h⟩:=h
   obtain ⟨h1,h⟩:=h
   rcases bft (decide (n > 9223372036854775807)) with hc1 | hc1
   · have h:=h.1 (odt hc1)
     exact h.elim
   · have h:=h.2 (odf hc1)
     obtain ⟨q6_2,h⟩:=h
     obtain ⟨h2,h⟩:=h
     obtain ⟨h3,h⟩:=h
     obtain ⟨h4,h⟩:=h
     obtain ⟨h5,h⟩:=h
     refine p55_start_2 n v hE ⟨hc0,(⟨by decide,by decide⟩),q2_1,(u130 (mul_ok n h1)),rfl,hc1,q6_2,⟨h2.1,by omega,h2.2⟩,(by rw [(show (List.replicate (Int.toNat n) ([.int .i64 0]:List AV)).flatten=rowI (List.replicate (Int.toNat n) (0:Int)) from VI cI _ _)]; exact copy_fits cI (s:=1) (fun _=>rfl) h3 (by first | rfl | omega | simp)),h4,rfl,(by rw [(show [.int .i64 v]=rowI ([v]:List Int) from rfl)]; exact copy_src cI (s:=1) (fun _=>rfl) _ (by first | rfl | omega | simp)),(copy_len cI (s:=1) (fun _=>rfl) h5),(Vy cI (fun _=>rfl) _),trivial⟩ ?_
     have h:=h
     simp only [f55G0,f55S0,List.length_set,List.length_replicate,Yk] at h
     rw [(show (List.replicate (Int.toNat n) ([.int .i64 0]:List AV)).flatten=rowI (List.replicate (Int.toNat n) (0:Int)) from VI cI _ _)]; rw [(show Qw (rowI (List.replicate (Int.toNat n) (0:Int))) 0 (rowI ((([v]:List Int).drop 0).take (Nat.min 1 (Int.toNat n))))=rowI (yM (List.replicate (Int.toNat n) (0:Int)) 0 ((([v]:List Int).drop 0).take (Nat.min 1 (Int.toNat n)))) from copy_row cI (s:=1) (fun _=>rfl) h3 h5 (by first | rfl | omega | simp))]
     exact h
theorem p55_0_0 (n:Int) (v:Int) (v0:List Int) (n1:Nat) {E:Env} {rv:AV} {bs2:List Blk} (hE:LentE Try.prog 55 [] rv bs2 E) (ho:AllP [0=0,(decide ((n1:Int)<(v0.length:Int)))=true,(Int.toNat (n1:Int))≤v0.length,v0.length≤v0.length,0≤(n1:Int),0=0,0≤(Int.toNat (n1:Int)),(Int.toNat (n1:Int))≤v0.length,0≤(n1:Int),0=0,((0+((Int.toNat (n1:Int))*1))+(Nat.min (Int.toNat (n1:Int)) (v0.length - (Int.toNat (n1:Int))))*1)≤(rowI v0).length,(Nat.min (Int.toNat (n1:Int)) (v0.length - (Int.toNat (n1:Int)))) ≠ 0,0=0,0=0,((rowI v0).drop 0).take ((Nat.min (Int.toNat (n1:Int)) (v0.length - (Int.toNat (n1:Int))))*1)=(rowI ((v0.drop 0).take (Nat.min (Int.toNat (n1:Int)) (v0.length - (Int.toNat (n1:Int)))))),(rowI ((v0.drop 0).take (Nat.min (Int.toNat (n1:Int)) (v0.length - (Int.toNat (n1:Int)))))).length=(Nat.min (Int.toNat (n1:Int)) (v0.length - (Int.toNat (n1:Int))))*1,noRefs (rowI ((v0.drop 0).take (Nat.min (Int.toNat (n1:Int)) (v0.length - (Int.toNat (n1:Int))))))=true,InR .i64 ((n1:Int)+(((Nat.min (Int.toNat (n1:Int)) (v0.length - (Int.toNat (n1:Int)))):Nat):Int))])
 (hg:G Try.prog E (f55K0 Try.prog) ⟨(jj 7 ([.sl 0 0 0 v0.length 1,.int .i64 ((n1:Int)+(((Nat.min (Int.toNat (n1:Int)) (v0.length - (Int.toNat (n1:Int)))):Nat):Int))]++Js 39)),[⟨true,0,1,true,(Qw (rowI v0) (0+((Int.toNat (n1:Int))*1)) (rowI ((v0.drop 0).take (Nat.min (Int.toNat (n1:Int)) (v0.length - (Int.toNat (n1:Int))))))),true⟩]⟩):G Try.prog E (f55K0 Try.prog) (f55S0 n v v0 n1 ) :=
 Qh (n:=400) (ds:=[]) (cs:=[]) (live:=[7,8]) (m:=1) (evs:=[.b true,.cs (rowI ((v0.drop 0).take (Nat.min (Int.toNat (n1:Int)) (v0.length - (Int.toNat (n1:Int)))))),.stop]) (obs:=_) hE.kind (hE.nogh0 _) Qf (by kernel_rfl) ho hg
theorem p55_0_1 (n:Int) (v:Int) (v0:List Int) (n1:Nat) {E:Env} {res:AV} {bs2:List Blk} (hE:LentE Try.prog 55 [] res bs2 E) (ho:AllP [0=0,(decide ((n1:Int)<(v0.length:Int)))=false])
 (hr:(.sl 0 0 0 v0.length 1)=res) (hb:[⟨true,0,1,true,(rowI v0),true⟩]=bs2):G Try.prog E (f55K0 Try.prog) (f55S0 n v v0 n1 ) :=
 Va (n:=400) (live:=[4]) (m:=1) (evs:=[.b false]) (obs:=_) hE (hE.nogh0 _) Try.func55 Qf (by kernel_rfl) ho hr hb
theorem f55W0 (n:Int) (v:Int) (v0:List Int) (n1:Nat) {E:Env} {rv:Unit} {l2:List Int} (hE:LentE Try.prog 55 [] (.sl 0 0 0 l2.length 1) [⟨true,0,1,true,(rowI l2),true⟩] E)
 (h:(((n1:Int)<(v0.length:Int)→((Int.toNat (n1:Int))≤v0.length∧((Int.toNat (n1:Int))≤v0.length∧((Int.toNat (n1:Int))+(Nat.min (Int.toNat (n1:Int)) (v0.length - (Int.toNat (n1:Int))))≤v0.length∧((Nat.min (Int.toNat (n1:Int)) (v0.length - (Int.toNat (n1:Int)))) ≠ 0∧(0+(Nat.min (Int.toNat (n1:Int)) (v0.length - (Int.toNat (n1:Int))))≤v0.length∧((I6 ((n1:Int)+(((Nat.min (Int.toNat (n1:Int)) (v0.length - (Int.toNat (n1:Int)))):Nat):Int)))∧f55G0 E n v (yM v0 (Int.toNat (n1:Int)) ((v0.drop 0).take (Nat.min (Int.toNat (n1:Int)) (v0.length - (Int.toNat (n1:Int)))))) (n1+(Nat.min (Int.toNat (n1:Int)) (v0.length - (Int.toNat (n1:Int))))))))))))∧(¬ ((n1:Int)<(v0.length:Int))→l2=v0))):f55G0 E n v v0 n1:=by
 rcases bft (decide ((n1:Int)<(v0.length:Int))) with hc0 | hc0
 · have h:=h.1 (odt hc0)
   obtain ⟨q2_1,h⟩:=h
   obtain ⟨q7_1,h⟩:=h
   obtain ⟨h1,h⟩:=h
   obtain ⟨h2,h⟩:=h
   obtain ⟨h3,h⟩:=h
   obtain ⟨q17_1,h⟩:=h
   refine p55_0_0 n v v0 n1 hE ⟨rfl,hc0,q2_1,(Nat.le_refl _),(by omega),rfl,(Nat.zero_le _),q7_1,(by omega),rfl,(by exact copy_fits cI (s:=1) (fun _=>rfl) h1 (by first | rfl | omega | simp)),h2,rfl,rfl,(by exact copy_src cI (s:=1) (fun _=>rfl) _ (by first | rfl | omega | simp)),(copy_len cI (s:=1) (fun _=>rfl) h3),(Vy cI (fun _=>rfl) _),q17_1,trivial⟩ ?_
   have h:=h
   simp only [f55G0,f55S0,List.length_set,Yk] at h
   rw [(show Qw (rowI v0) (0+((Int.toNat (n1:Int))*1)) (rowI ((v0.drop 0).take (Nat.min (Int.toNat (n1:Int)) (v0.length - (Int.toNat (n1:Int))))))=rowI (yM v0 (Int.toNat (n1:Int)) ((v0.drop 0).take (Nat.min (Int.toNat (n1:Int)) (v0.length - (Int.toNat (n1:Int)))))) from copy_row cI (s:=1) (fun _=>rfl) h1 h3 (by first | rfl | omega | simp))]
   exact h
 · have h:=h.2 (odf hc0)
   have qe0:=h
   exact p55_0_1 n v v0 n1 hE ⟨rfl,hc0,trivial⟩ (by rw [qe0]; try rfl) (by rw [qe0]; all_goals (first | rfl | (simp only [List.length_set]; done) | (simp only [List.length_set]; rfl) | (simp only [List.length_set,List.length_replicate]; done)))
theorem Kn (v n:Int) (h:1≤n∧n≤2147483648):Lent Try.prog 55 [.rsl [.int .i64 v] 0 1,.int .i64 n] [] (.sl 0 0 0 (List.replicate (Int.toNat n) v).length 1) [⟨true,0,1,true,rowI (List.replicate (Int.toNat n) v),true⟩]:=lent_of0 Try.func55 f55b fun E hE=>by
 have key:∀ (d:Nat) (v0:List Int) (k:Nat),v0.length=Int.toNat n→1≤k→k≤v0.length→v0.length - k≤d→(∀ i,i<k→v0[i]?=some v)→f55G0 E n v v0 k:=by
  intro d
  induction d with
  | zero =>
   intro v0 k hl h1 h2 hd hv
   refine f55W0 n v v0 k (rv:=()) hE ⟨fun h=>by omega,fun _=>?_⟩
   refine (List.ext_getElem? fun i=>?_).symm
   by_cases hi:i<Int.toNat n
   · rw [hv i (by omega),List.getElem?_replicate,if_pos hi]
   · rw [List.getElem?_eq_none (by omega),List.getElem?_eq_none (by simp; omega)]
  | succ d ih =>
   intro v0 k hl h1 h2 hd hv
   refine f55W0 n v v0 k (rv:=()) hE ⟨fun hk=>?_,fun _=>?_⟩
   · have e0:Int.toNat (k:Int)=k:=by omega
     rw [e0,List.drop_zero]
     have hm:Nat.min k (v0.length - k)≤k:=Nat.min_le_left _ _
     have hm2:Nat.min k (v0.length - k)≤v0.length - k:=Nat.min_le_right _ _
     have hm0:Nat.min k (v0.length - k) ≠ 0:=by
      intro h0
      have h0':min k (v0.length - k)=0:=h0
      omega
     generalize Nat.min k (v0.length - k)=m at hm hm2 hm0
     refine ⟨h2,h2,by omega,hm0,by omega,by omega,?_⟩
     have hlt:(v0.take m).length=m:=by rw [List.length_take]; omega
     refine ih _ (k+m) (by rw [Yk]; exact hl) (by omega) (by rw [Yk]; omega) (by rw [Yk]; omega) (fun i hi=>?_)
     rw [KW (by rw [hlt]; omega),hlt]
     split
     · rw [List.getElem?_take,if_pos (by omega)]; exact hv _ (by omega)
     · exact hv _ (by omega)
   · refine (List.ext_getElem? fun i=>?_).symm
     by_cases hi:i<Int.toNat n
     · rw [hv i (by omega),List.getElem?_replicate,if_pos hi]
     · rw [List.getElem?_eq_none (by omega),List.getElem?_eq_none (by simp; omega)]
 have e1:Nat.min 1 (Int.toNat n)=1:=by
  have:min 1 (Int.toNat n)=1:=by omega
  exact this
 refine f55W n v (rv:=()) hE ⟨fun h=>by omega,fun _=>⟨inU (by omega),by omega,fun h=>by omega,fun _=>⟨by omega,by omega,?_⟩⟩⟩
 rw [e1]
 refine ⟨by simp; omega,by omega,by simp,?_⟩
 refine key (Int.toNat n) _ 1 (by rw [Yk,List.length_replicate]) (by omega) (by rw [Yk,List.length_replicate]; omega) (by rw [Yk,List.length_replicate]; omega) (fun i hi=>?_)
 have:i=0:=by omega
 subst this
 rw [KW (by simp; omega)]
 simp
end Go.Proofs.Ytemklbioijmjiaa
namespace Go.Proofs.Ytemklbioijmjiaa
open Go Ax
open Go.Proofs
structure Bndl where
 tokens:Int
 price:Int
def cBd (t:Bndl):List AV:=[.int .i64 t.tokens,.int .i64 t.price]
def YC (l:List Bndl):List AV:=l.flatMap cBd
structure Fair where
 purses:Int
 boxes:Int
 stock:List Int
 cash:List Int
 bundles:List Bndl
 refund:Int
 band:Int
 hours:Int
def outB (lo hi:Int) (n:Int):Bool:=!Qa n lo hi
theorem f115b:Try.f115.body=some (Qc Try.prog 115):=by kernel_rfl
theorem u115 {a c k:List AV} {r:AV} (h:Pure Try.prog 115 (a++c++k) r):Qd Try.prog (.clos 115 a k) c r:=Qi Try.func115 (by kernel_rfl) f115b h
theorem p115_start_0 (n:Int) (lo:Int) (hi:Int) {E:Env} {res:AV} (hE:Qe Try.prog 115 res E) (ho:AllP [(decide (n≥lo))=true])
 (hr:AvLe (.bool (decide (n≤hi))) res):G Try.prog E [.code (Qc Try.prog 115)] ⟨[.int .i64 n,.int .i64 lo,.int .i64 hi]++unds (Try.f115.ntmps - 3),[]⟩ :=
 Qb (n:=400) (evs:=[.b true]) (obs:=_) hE Try.func115 Qf (by kernel_rfl) ho hr
theorem p115_start_1 (n:Int) (lo:Int) (hi:Int) {E:Env} {res:AV} (hE:Qe Try.prog 115 res E) (ho:AllP [(decide (n≥lo))=false])
 (hr:AvLe (.bool false) res):G Try.prog E [.code (Qc Try.prog 115)] ⟨[.int .i64 n,.int .i64 lo,.int .i64 hi]++unds (Try.f115.ntmps - 3),[]⟩ :=
 Qb (n:=400) (evs:=[.b false]) (obs:=_) hE Try.func115 Qf (by kernel_rfl) ho hr
theorem f115W (n:Int) (lo:Int) (hi:Int) {E:Env} {rv:Bool} (hE:Qe Try.prog 115 (.bool rv) E)
 (h:((n≥lo→rv=(decide (n≤hi)))∧(¬ (n≥lo)→rv=false))):G Try.prog E [.code (Qc Try.prog 115)] ⟨[.int .i64 n,.int .i64 lo,.int .i64 hi]++unds (Try.f115.ntmps - 3),[]⟩:=by
 rcases bft (decide (n≥lo)) with hc0 | hc0
 · have h:=h.1 (odt hc0)
   exact p115_start_0 n lo hi hE ⟨hc0,trivial⟩ (AvLe.of_eq (by rw [h]; try rfl))
 · have h:=h.2 (odf hc0)
   exact p115_start_1 n lo hi hE ⟨hc0,trivial⟩ (AvLe.of_eq (by rw [h]; try rfl))
theorem Qq (n lo hi:Int):Pure Try.prog 115 [.int .i64 n,.int .i64 lo,.int .i64 hi] (.bool (Qa n lo hi)):=Qu Try.func115 f115b fun E hE=>by
 refine f115W n lo hi hE ⟨fun h=>by simp [Qa,h],fun h=>by simp [Qa,h]⟩
theorem f183b:Try.f183.body=some (Qc Try.prog 183):=by kernel_rfl
theorem u183 {a c k:List AV} {r:AV} (h:Pure Try.prog 183 (a++c++k) r):Qd Try.prog (.clos 183 a k) c r:=Qi Try.func183 (by kernel_rfl) f183b h
theorem p183_start_0 (n:Int) (lo hi:Int) {E:Env} {res:AV} (hE:Qe Try.prog 183 res E) (ho:AllP [Qd Try.prog (.clos 115 [] []) [.int .i64 n,.int .i64 lo,.int .i64 hi] (.bool (Qa n lo hi))])
 (hr:AvLe (.bool (!(Qa n lo hi))) res):G Try.prog E [.code (Qc Try.prog 183)] ⟨[.int .i64 n,.rptr [.int .i64 lo] 0,.rptr [.int .i64 hi] 0]++unds (Try.f183.ntmps - 3),[]⟩ :=
 Qb (n:=400) (evs:=[.v (.bool (Qa n lo hi))]) (obs:=_) hE Try.func183 Qf (by kernel_rfl) ho hr
theorem f183W (n:Int) (lo hi:Int) {E:Env} {rv:Bool} (hE:Qe Try.prog 183 (.bool rv) E)
 (h:rv=(!(Qa n lo hi))):G Try.prog E [.code (Qc Try.prog 183)] ⟨[.int .i64 n,.rptr [.int .i64 lo] 0,.rptr [.int .i64 hi] 0]++unds (Try.f183.ntmps - 3),[]⟩:=by
 exact p183_start_0 n lo hi hE ⟨(u115 (Qq n lo hi)),trivial⟩ (AvLe.of_eq (by rw [h]; try rfl))
theorem f182b:Try.f182.body=some (Qc Try.prog 182):=by kernel_rfl
theorem u182 {a c k:List AV} {r:AV} (h:Pure Try.prog 182 (a++c++k) r):Qd Try.prog (.clos 182 a k) c r:=Qi Try.func182 (by kernel_rfl) f182b h
theorem p182_start_0 (lo:Int) (hi:Int) {E:Env} {res:AV} (hE:Qe Try.prog 182 res E) (ho:AllP [])
 (hr:AvLe (.clos 183 [] [.rptr [.int .i64 lo] 0,.rptr [.int .i64 hi] 0]) res):G Try.prog E [.code (Qc Try.prog 182)] ⟨[.int .i64 lo,.int .i64 hi]++unds (Try.f182.ntmps - 2),[]⟩ :=
 Qb (n:=400) (evs:=[]) (obs:=_) hE Try.func182 Qf (by kernel_rfl) ho hr
theorem f182W (lo:Int) (hi:Int) {E:Env} {rv:AV} (hE:Qe Try.prog 182 rv E)
 (h:rv=(.clos 183 [] [.rptr [.int .i64 lo] 0,.rptr [.int .i64 hi] 0])):G Try.prog E [.code (Qc Try.prog 182)] ⟨[.int .i64 lo,.int .i64 hi]++unds (Try.f182.ntmps - 2),[]⟩:=by
 exact p182_start_0 lo hi hE trivial (AvLe.of_eq (by rw [h]; try rfl))
theorem out1_ok (n lo hi:Int):Pure Try.prog 183 [.int .i64 n,.rptr [.int .i64 lo] 0,.rptr [.int .i64 hi] 0] (.bool (outB lo hi n)):=Qu Try.func183 f183b fun E hE=>f183W n lo hi (rv:=outB lo hi n) hE rfl
theorem VA (lo hi:Int):Pure Try.prog 182 [.int .i64 lo,.int .i64 hi] (.clos 183 [] [.rptr [.int .i64 lo] 0,.rptr [.int .i64 hi] 0]):=Qu Try.func182 f182b fun E hE=>f182W lo hi (rv:=.clos 183 [] [.rptr [.int .i64 lo] 0,.rptr [.int .i64 hi] 0]) hE rfl
theorem f59ob:Try.f59.body=some (Qc Try.prog 59):=by kernel_rfl
def Qba (P:Program):List Item:=kAt 400 [.code (Qc P 59)] [.stop]
def f59oS0 (l:(List Int)) (lo hi:Int) (i:Nat):St:=⟨([.rsl (rowI l) 0 l.length,.clos 183 [] [.rptr [.int .i64 lo] 0,.rptr [.int .i64 hi] 0]]++jj 5 ([.int .i64 (l.length:Int),.int .i64 (i:Int)]++Js 10)),[]⟩
def f59oG0 (E:Env) (l:(List Int)) (lo hi:Int) (i:Nat):Prop:=G Try.prog E (Qba Try.prog) (f59oS0 l lo hi i )
abbrev z59o_1 (lo:Int) (hi:Int):List AV:=[.rptr [.int .i64 lo] 0,.rptr [.int .i64 hi] 0]
theorem p59o_start_0 (l:(List Int)) (lo hi:Int) {E:Env} {rv:AV} (hE:Qe Try.prog 59 rv E) (ho:AllP [])
 (hg:G Try.prog E (Qba Try.prog) ⟨([.rsl (rowI l) 0 l.length,.clos 183 [] (z59o_1 lo hi)]++jj 5 ([.int .i64 (l.length:Int),.int .i64 0]++Js 10)),[]⟩):G Try.prog E [.code (Qc Try.prog 59)] ⟨[.rsl (rowI l) 0 l.length,.clos 183 [] (z59o_1 lo hi)]++unds (Try.f59.ntmps - 2),[]⟩ :=
 Qh (n:=400) (ds:=[]) (cs:=[]) (live:=[0,1,7,8]) (m:=0) (evs:=[.stop]) (obs:=_) hE.2.1 (hE.nogh _) Qf (by kernel_rfl) ho hg
theorem f59oW (l:(List Int)) (lo hi:Int) {E:Env} {rv:Int} (hE:Qe Try.prog 59 (.int .i64 rv) E)
 (h:f59oG0 E l lo hi 0):G Try.prog E [.code (Qc Try.prog 59)] ⟨[.rsl (rowI l) 0 l.length,.clos 183 [] [.rptr [.int .i64 lo] 0,.rptr [.int .i64 hi] 0]]++unds (Try.f59.ntmps - 2),[]⟩:=by
 exact p59o_start_0 l lo hi hE trivial h
theorem p59o_0_0 (l:(List Int)) (lo hi:Int) (i:Nat) (e:Int) {E:Env} {res:AV} (hE:Qe Try.prog 59 res E) (ho:AllP [(decide ((i:Int)<(l.length:Int)))=true,0≤(i:Int)∧(i:Int)<(l.length:Int),((rowI l).drop (0+(Int.toNat (i:Int))*1)).take 1=[.int .i64 e],Qd Try.prog (.clos 183 [] (z59o_1 lo hi)) [.int .i64 e] (.bool (outB lo hi e)),(outB lo hi e)=true])
 (hr:AvLe (.int .i64 (i:Int)) res):G Try.prog E (Qba Try.prog) (f59oS0 l lo hi i ) :=
 Qb (n:=400) (evs:=[.b true,.ld (.int .i64 e),.v (.bool (outB lo hi e)),.b true]) (obs:=_) hE Try.func59 Qf (by kernel_rfl) ho hr
theorem p59o_0_1 (l:(List Int)) (lo hi:Int) (i:Nat) (e:Int) {E:Env} {rv:AV} (hE:Qe Try.prog 59 rv E) (ho:AllP [(decide ((i:Int)<(l.length:Int)))=true,0≤(i:Int)∧(i:Int)<(l.length:Int),((rowI l).drop (0+(Int.toNat (i:Int))*1)).take 1=[.int .i64 e],Qd Try.prog (.clos 183 [] (z59o_1 lo hi)) [.int .i64 e] (.bool (outB lo hi e)),(outB lo hi e)=false,InR .i64 ((i:Int)+1)])
 (hg:G Try.prog E (Qba Try.prog) ⟨([.rsl (rowI l) 0 l.length,.clos 183 [] (z59o_1 lo hi)]++jj 5 ([.int .i64 (l.length:Int),.int .i64 ((i:Int)+1)]++Js 10)),[]⟩):G Try.prog E (Qba Try.prog) (f59oS0 l lo hi i ) :=
 Qh (n:=400) (ds:=[]) (cs:=[]) (live:=[0,1,7,8]) (m:=0) (evs:=[.b true,.ld (.int .i64 e),.v (.bool (outB lo hi e)),.b false,.stop]) (obs:=_) hE.2.1 (hE.nogh _) Qf (by kernel_rfl) ho hg
theorem p59o_0_2 (l:(List Int)) (lo hi:Int) (i:Nat) {E:Env} {res:AV} (hE:Qe Try.prog 59 res E) (ho:AllP [(decide ((i:Int)<(l.length:Int)))=false])
 (hr:AvLe (.int .i64 (-1)) res):G Try.prog E (Qba Try.prog) (f59oS0 l lo hi i ) :=
 Qb (n:=400) (evs:=[.b false]) (obs:=_) hE Try.func59 Qf (by kernel_rfl) ho hr
theorem f59oW0 (l:(List Int)) (lo hi:Int) (i:Nat) {E:Env} {rv:Int} (hE:Qe Try.prog 59 (.int .i64 rv) E)
 (h:(((i:Int)<(l.length:Int)→(∃ e:Int,l[i]?=some e∧(((outB lo hi e)=true→rv=(i:Int))∧((outB lo hi e)=false→((I6 ((i:Int)+1))∧f59oG0 E l lo hi (i+1))))))∧(¬ ((i:Int)<(l.length:Int))→rv=(-1)))):f59oG0 E l lo hi i:=by
 rcases bft (decide ((i:Int)<(l.length:Int))) with hc0 | hc0
 · have h:=h.1 (odt hc0)
   obtain ⟨e,h1,h⟩:=h
   rcases bft (outB lo hi e) with hc1 | hc1
   · have h:=h.1 hc1
     exact p59o_0_0 l lo hi i e hE ⟨hc0,(Qn h1),(rp cI 1 0 1 h1),(u183 (out1_ok e lo hi)),hc1,trivial⟩ (AvLe.of_eq (by rw [h]; try rfl))
   · have h:=h.2 hc1
     obtain ⟨q6_2,h⟩:=h
     exact p59o_0_1 l lo hi i e hE ⟨hc0,(Qn h1),(rp cI 1 0 1 h1),(u183 (out1_ok e lo hi)),hc1,q6_2,trivial⟩ h
 · have h:=h.2 (odf hc0)
   exact p59o_0_2 l lo hi i hE ⟨hc0,trivial⟩ (AvLe.of_eq (by rw [h]; try rfl))
theorem idxOut_ok (l:List Int) (lo hi:Int) (h:l.length≤9223372036854775807):Pure Try.prog 59 [.rsl (rowI l) 0 l.length,.clos 183 [] [.rptr [.int .i64 lo] 0,.rptr [.int .i64 hi] 0]] (.int .i64 (idxG (outB lo hi) l)):=Qu Try.func59 f59ob fun E hE=>by
 have hl:=h
 refine f59oW l lo hi (rv:=idxG (outB lo hi) l) hE (XQ (outB lo hi) l l.length 0 (by omega) (fun j x hj=>by omega) (fun i=>f59oG0 E l lo hi i) (fun i hi' h1 h2=>?_) (fun _ h2=>?_))
 · have hx:l[i]?=some l[i]:=List.getElem?_eq_getElem hi'
   have hm:=List.mem_of_getElem? hx
   exact f59oW0 l lo hi i (rv:=idxG (outB lo hi) l) hE ⟨fun _=>⟨_,hx,fun hp=>h1 _ hx (by simpa using hp),fun hp=>⟨by omega,h2 _ hx (by simpa using hp)⟩⟩,fun h=>by omega⟩
 · exact f59oW0 l lo hi _ (rv:=idxG (outB lo hi) l) hE ⟨fun h=>by omega,fun _=>h2⟩
theorem qv:Try.f76.body=some (Qc Try.prog 76):=by kernel_rfl
theorem p76o_start_0 (l:(List Int)) (lo hi:Int) {E:Env} {res:AV} (hE:Qe Try.prog 76 res E) (ho:AllP [Qd Try.prog (.clos 59 [] []) [.rsl (rowI l) 0 l.length,.clos 183 [] [.rptr [.int .i64 lo] 0,.rptr [.int .i64 hi] 0]] (.int .i64 (idxG (outB lo hi) l))])
 (hr:AvLe (.bool (decide ((idxG (outB lo hi) l)≥0))) res):G Try.prog E [.code (Qc Try.prog 76)] ⟨[.rsl (rowI l) 0 l.length,.clos 183 [] [.rptr [.int .i64 lo] 0,.rptr [.int .i64 hi] 0]]++unds (Try.f76.ntmps - 2),[]⟩ :=
 Qb (n:=400) (evs:=[.v (.int .i64 (idxG (outB lo hi) l))]) (obs:=_) hE Try.func76 Qf (by kernel_rfl) ho hr
theorem f76oW (l:(List Int)) (lo hi:Int) {E:Env} {rv:Bool} (hE:Qe Try.prog 76 (.bool rv) E)
 (h:((l.length≤9223372036854775807)∧rv=(decide ((idxG (outB lo hi) l)≥0)))):G Try.prog E [.code (Qc Try.prog 76)] ⟨[.rsl (rowI l) 0 l.length,.clos 183 [] [.rptr [.int .i64 lo] 0,.rptr [.int .i64 hi] 0]]++unds (Try.f76.ntmps - 2),[]⟩:=by
 obtain ⟨h1,h⟩:=h
 exact p76o_start_0 l lo hi hE ⟨(Qi Try.func59 (by kernel_rfl) f59ob (idxOut_ok l lo hi h1)),trivial⟩ (AvLe.of_eq (by rw [h]; try rfl))
theorem XE (l:List Int) (lo hi:Int) (h:l.length≤9223372036854775807):Pure Try.prog 76 [.rsl (rowI l) 0 l.length,.clos 183 [] [.rptr [.int .i64 lo] 0,.rptr [.int .i64 hi] 0]] (.bool (l.any (outB lo hi))):=Qu Try.func76 qv fun E hE =>
 f76oW l lo hi (rv:=l.any (outB lo hi)) hE ⟨h,(Yz _ _).symm⟩
theorem f185b:Try.f185.body=some (Qc Try.prog 185):=by kernel_rfl
theorem u185 {a c k:List AV} {r:AV} (h:Pure Try.prog 185 (a++c++k) r):Qd Try.prog (.clos 185 a k) c r:=Qi Try.func185 (by kernel_rfl) f185b h
abbrev z185_1 (b:Bndl) (f:Fair):List AV:=[.agg [.int .i64 b.tokens,.int .i64 b.price],.rptr [.int .i64 f.purses,.int .i64 f.boxes,.rsl (rowI f.stock) 0 f.stock.length,.rsl (rowI f.cash) 0 f.cash.length,.rsl (YC f.bundles) 0 f.bundles.length,.int .i64 f.refund,.int .i64 f.band,.int .i64 f.hours] 0]
theorem p185_start_0 (b:Bndl) (f:Fair) {E:Env} {res:AV} (hE:Qe Try.prog 185 res E) (ho:AllP [Qd Try.prog (.clos 115 [] []) [.int .i64 b.tokens,.int .i64 1,.int .i64 1000] (.bool (Qa b.tokens 1 1000)),(!(Qa b.tokens 1 1000))=true,true=true])
 (hr:AvLe (.bool true) res):G Try.prog E [.code (Qc Try.prog 185)] ⟨(z185_1 b f)++unds (Try.f185.ntmps - 2),[]⟩ :=
 Qb (n:=400) (evs:=[.v (.bool (Qa b.tokens 1 1000)),.b true,.b true]) (obs:=_) hE Try.func185 Qf (by kernel_rfl) ho hr
theorem p185_start_1 (b:Bndl) (f:Fair) {E:Env} {res:AV} (hE:Qe Try.prog 185 res E) (ho:AllP [Qd Try.prog (.clos 115 [] []) [.int .i64 b.tokens,.int .i64 1,.int .i64 1000] (.bool (Qa b.tokens 1 1000)),(!(Qa b.tokens 1 1000))=false,Qd Try.prog (.clos 115 [] []) [.int .i64 b.price,.int .i64 1,.int .i64 1000000] (.bool (Qa b.price 1 1000000)),(!(Qa b.price 1 1000000))=true])
 (hr:AvLe (.bool true) res):G Try.prog E [.code (Qc Try.prog 185)] ⟨(z185_1 b f)++unds (Try.f185.ntmps - 2),[]⟩ :=
 Qb (n:=400) (evs:=[.v (.bool (Qa b.tokens 1 1000)),.b false,.v (.bool (Qa b.price 1 1000000)),.b true]) (obs:=_) hE Try.func185 Qf (by kernel_rfl) ho hr
theorem p185_start_2 (b:Bndl) (f:Fair) {E:Env} {res:AV} (hE:Qe Try.prog 185 res E) (ho:AllP [Qd Try.prog (.clos 115 [] []) [.int .i64 b.tokens,.int .i64 1,.int .i64 1000] (.bool (Qa b.tokens 1 1000)),(!(Qa b.tokens 1 1000))=false,Qd Try.prog (.clos 115 [] []) [.int .i64 b.price,.int .i64 1,.int .i64 1000000] (.bool (Qa b.price 1 1000000)),(!(Qa b.price 1 1000000))=false,InR .i64 (f.refund*b.tokens)])
 (hr:AvLe (.bool (decide ((f.refund*b.tokens) > b.price))) res):G Try.prog E [.code (Qc Try.prog 185)] ⟨(z185_1 b f)++unds (Try.f185.ntmps - 2),[]⟩ :=
 Qb (n:=400) (evs:=[.v (.bool (Qa b.tokens 1 1000)),.b false,.v (.bool (Qa b.price 1 1000000)),.b false]) (obs:=_) hE Try.func185 Qf (by kernel_rfl) ho hr
theorem f185W (b:Bndl) (f:Fair) {E:Env} {rv:Bool} (hE:Qe Try.prog 185 (.bool rv) E)
 (h:(((Qa b.tokens 1 1000)=false→rv=true)∧((Qa b.tokens 1 1000)=true→(((Qa b.price 1 1000000)=false→rv=true)∧((Qa b.price 1 1000000)=true→((I6 (f.refund*b.tokens))∧rv=(decide ((f.refund*b.tokens) > b.price)))))))):G Try.prog E [.code (Qc Try.prog 185)] ⟨[.agg [.int .i64 b.tokens,.int .i64 b.price],.rptr [.int .i64 f.purses,.int .i64 f.boxes,.rsl (rowI f.stock) 0 f.stock.length,.rsl (rowI f.cash) 0 f.cash.length,.rsl (YC f.bundles) 0 f.bundles.length,.int .i64 f.refund,.int .i64 f.band,.int .i64 f.hours] 0]++unds (Try.f185.ntmps - 2),[]⟩:=by
 rcases bft (!(Qa b.tokens 1 1000)) with hc0 | hc0
 · have h:=h.1 (bnT hc0)
   exact p185_start_0 b f hE ⟨(u115 (Qq b.tokens 1 1000)),hc0,rfl,trivial⟩ (AvLe.of_eq (by rw [h]; try rfl))
 · have h:=h.2 (bnF hc0)
   rcases bft (!(Qa b.price 1 1000000)) with hc1 | hc1
   · have h:=h.1 (bnT hc1)
     exact p185_start_1 b f hE ⟨(u115 (Qq b.tokens 1 1000)),hc0,(u115 (Qq b.price 1 1000000)),hc1,trivial⟩ (AvLe.of_eq (by rw [h]; try rfl))
   · have h:=h.2 (bnF hc1)
     obtain ⟨q4_2,h⟩:=h
     exact p185_start_2 b f hE ⟨(u115 (Qq b.tokens 1 1000)),hc0,(u115 (Qq b.price 1 1000000)),hc1,q4_2,trivial⟩ (AvLe.of_eq (by rw [h]; try rfl))
/-- A bundle that is not right. -/
def badB (f:Fair) (b:Bndl):Bool:=if Qa b.tokens 1 1000=true then (if Qa b.price 1 1000000=true then decide (f.refund*b.tokens > b.price) else true) else true
theorem badB_ok (b:Bndl) (f:Fair) (h:0≤f.refund∧f.refund≤1000):Pure Try.prog 185 [.agg [.int .i64 b.tokens,.int .i64 b.price],.rptr [.int .i64 f.purses,.int .i64 f.boxes,.rsl (rowI f.stock) 0 f.stock.length,.rsl (rowI f.cash) 0 f.cash.length,.rsl (YC f.bundles) 0 f.bundles.length,.int .i64 f.refund,.int .i64 f.band,.int .i64 f.hours] 0] (.bool (badB f b)):=Qu Try.func185 f185b fun E hE=>by
 refine f185W b f (rv:=badB f b) hE ⟨fun h1=>?_,fun h1=>⟨fun h2=>?_,fun h2=>⟨?_,?_⟩⟩⟩
 · unfold badB; rw [h1]; rfl
 · unfold badB; rw [h1,h2]; rfl
 · have h3:=QK.1 h1
   have m1:=Int.mul_le_mul h.2 h3.2 (by omega) (by omega)
   have m2:=Int.mul_nonneg h.1 (show 0≤b.tokens by omega)
   omega
 · unfold badB; rw [h1,h2]; rfl
theorem f240bb:Try.f240.body=some (Qc Try.prog 240):=by kernel_rfl
def qY (P:Program):List Item:=kAt 400 [.code (Qc P 240)] [.stop]
def QcT (l:(List Bndl)) (f:Fair) (i:Nat):St:=⟨([.rsl (YC l) 0 l.length,.clos 185 [] [.rptr [.int .i64 f.purses,.int .i64 f.boxes,.rsl (rowI f.stock) 0 f.stock.length,.rsl (rowI f.cash) 0 f.cash.length,.rsl (YC f.bundles) 0 f.bundles.length,.int .i64 f.refund,.int .i64 f.band,.int .i64 f.hours] 0]]++jj 5 ([.int .i64 (l.length:Int),.int .i64 (i:Int)]++Js 10)),[]⟩
def QcU (E:Env) (l:(List Bndl)) (f:Fair) (i:Nat):Prop:=G Try.prog E (qY Try.prog) (QcT l f i )
abbrev Ka (f:Fair):List AV:=[.rptr [.int .i64 f.purses,.int .i64 f.boxes,.rsl (rowI f.stock) 0 f.stock.length,.rsl (rowI f.cash) 0 f.cash.length,.rsl (YC f.bundles) 0 f.bundles.length,.int .i64 f.refund,.int .i64 f.band,.int .i64 f.hours] 0]
theorem QbJ (l:(List Bndl)) (f:Fair) {E:Env} {rv:AV} (hE:Qe Try.prog 240 rv E) (ho:AllP [])
 (hg:G Try.prog E (qY Try.prog) ⟨([.rsl (YC l) 0 l.length,.clos 185 [] (Ka f)]++jj 5 ([.int .i64 (l.length:Int),.int .i64 0]++Js 10)),[]⟩):G Try.prog E [.code (Qc Try.prog 240)] ⟨[.rsl (YC l) 0 l.length,.clos 185 [] (Ka f)]++unds (Try.f240.ntmps - 2),[]⟩ :=
 Qh (n:=400) (ds:=[]) (cs:=[]) (live:=[0,1,7,8]) (m:=0) (evs:=[.stop]) (obs:=_) hE.2.1 (hE.nogh _) Qf (by kernel_rfl) ho hg
theorem f240bW (l:(List Bndl)) (f:Fair) {E:Env} {rv:Int} (hE:Qe Try.prog 240 (.int .i64 rv) E)
 (h:QcU E l f 0):G Try.prog E [.code (Qc Try.prog 240)] ⟨[.rsl (YC l) 0 l.length,.clos 185 [] [.rptr [.int .i64 f.purses,.int .i64 f.boxes,.rsl (rowI f.stock) 0 f.stock.length,.rsl (rowI f.cash) 0 f.cash.length,.rsl (YC f.bundles) 0 f.bundles.length,.int .i64 f.refund,.int .i64 f.band,.int .i64 f.hours] 0]]++unds (Try.f240.ntmps - 2),[]⟩:=by
 exact QbJ l f hE trivial h
theorem p240b_0_0 (l:(List Bndl)) (f:Fair) (i:Nat) (be:Bndl) {E:Env} {res:AV} (hE:Qe Try.prog 240 res E) (ho:AllP [(decide ((i:Int)<(l.length:Int)))=true,0≤(i:Int)∧(i:Int)<(l.length:Int),((YC l).drop (0+(Int.toNat (i:Int))*2)).take 2=[.int .i64 be.tokens,.int .i64 be.price],Qd Try.prog (.clos 185 [] (Ka f)) [.agg [.int .i64 be.tokens,.int .i64 be.price]] (.bool (badB f be)),(badB f be)=true])
 (hr:AvLe (.int .i64 (i:Int)) res):G Try.prog E (qY Try.prog) (QcT l f i ) :=
 Qb (n:=400) (evs:=[.b true,.ld (.agg [.int .i64 be.tokens,.int .i64 be.price]),.v (.bool (badB f be)),.b true]) (obs:=_) hE Try.func240 Qf (by kernel_rfl) ho hr
theorem p240b_0_1 (l:(List Bndl)) (f:Fair) (i:Nat) (be:Bndl) {E:Env} {rv:AV} (hE:Qe Try.prog 240 rv E) (ho:AllP [(decide ((i:Int)<(l.length:Int)))=true,0≤(i:Int)∧(i:Int)<(l.length:Int),((YC l).drop (0+(Int.toNat (i:Int))*2)).take 2=[.int .i64 be.tokens,.int .i64 be.price],Qd Try.prog (.clos 185 [] (Ka f)) [.agg [.int .i64 be.tokens,.int .i64 be.price]] (.bool (badB f be)),(badB f be)=false,InR .i64 ((i:Int)+1)])
 (hg:G Try.prog E (qY Try.prog) ⟨([.rsl (YC l) 0 l.length,.clos 185 [] (Ka f)]++jj 5 ([.int .i64 (l.length:Int),.int .i64 ((i:Int)+1)]++Js 10)),[]⟩):G Try.prog E (qY Try.prog) (QcT l f i ) :=
 Qh (n:=400) (ds:=[]) (cs:=[]) (live:=[0,1,7,8]) (m:=0) (evs:=[.b true,.ld (.agg [.int .i64 be.tokens,.int .i64 be.price]),.v (.bool (badB f be)),.b false,.stop]) (obs:=_) hE.2.1 (hE.nogh _) Qf (by kernel_rfl) ho hg
theorem p240b_0_2 (l:(List Bndl)) (f:Fair) (i:Nat) {E:Env} {res:AV} (hE:Qe Try.prog 240 res E) (ho:AllP [(decide ((i:Int)<(l.length:Int)))=false])
 (hr:AvLe (.int .i64 (-1)) res):G Try.prog E (qY Try.prog) (QcT l f i ) :=
 Qb (n:=400) (evs:=[.b false]) (obs:=_) hE Try.func240 Qf (by kernel_rfl) ho hr
theorem f240bW0 (l:(List Bndl)) (f:Fair) (i:Nat) {E:Env} {rv:Int} (hE:Qe Try.prog 240 (.int .i64 rv) E)
 (h:(((i:Int)<(l.length:Int)→(∃ be:Bndl,l[i]?=some be∧((0≤f.refund∧f.refund≤1000)∧(((badB f be)=true→rv=(i:Int))∧((badB f be)=false→((I6 ((i:Int)+1))∧QcU E l f (i+1)))))))∧(¬ ((i:Int)<(l.length:Int))→rv=(-1)))):QcU E l f i:=by
 rcases bft (decide ((i:Int)<(l.length:Int))) with hc0 | hc0
 · have h:=h.1 (odt hc0)
   obtain ⟨be,h1,h⟩:=h
   obtain ⟨h2,h⟩:=h
   rcases bft (badB f be) with hc1 | hc1
   · have h:=h.1 hc1
     exact p240b_0_0 l f i be hE ⟨hc0,(Qn h1),(rp cBd 2 0 2 h1),(u185 (badB_ok be f h2)),hc1,trivial⟩ (AvLe.of_eq (by rw [h]; try rfl))
   · have h:=h.2 hc1
     obtain ⟨q6_2,h⟩:=h
     exact p240b_0_1 l f i be hE ⟨hc0,(Qn h1),(rp cBd 2 0 2 h1),(u185 (badB_ok be f h2)),hc1,q6_2,trivial⟩ h
 · have h:=h.2 (odf hc0)
   exact p240b_0_2 l f i hE ⟨hc0,trivial⟩ (AvLe.of_eq (by rw [h]; try rfl))
theorem idxBad_ok (l:List Bndl) (f:Fair) (h:(∀ x ∈ l,0≤f.refund∧f.refund≤1000)∧l.length≤9223372036854775807):Pure Try.prog 240 [.rsl (YC l) 0 l.length,.clos 185 [] [.rptr [.int .i64 f.purses,.int .i64 f.boxes,.rsl (rowI f.stock) 0 f.stock.length,.rsl (rowI f.cash) 0 f.cash.length,.rsl (YC f.bundles) 0 f.bundles.length,.int .i64 f.refund,.int .i64 f.band,.int .i64 f.hours] 0]] (.int .i64 (idxG (badB f) l)):=Qu Try.func240 f240bb fun E hE=>by
 have hl:=h.2
 refine f240bW l f (rv:=idxG (badB f) l) hE (XQ (badB f) l l.length 0 (by omega) (fun j x hj=>by omega) (fun i=>QcU E l f i) (fun i hi' h1 h2=>?_) (fun _ h2=>?_))
 · have hx:l[i]?=some l[i]:=List.getElem?_eq_getElem hi'
   have hm:=List.mem_of_getElem? hx
   exact f240bW0 l f i (rv:=idxG (badB f) l) hE ⟨fun _=>⟨_,hx,h.1 _ hm,fun hp=>h1 _ hx (by simpa using hp),fun hp=>⟨by omega,h2 _ hx (by simpa using hp)⟩⟩,fun h=>by omega⟩
 · exact f240bW0 l f _ (rv:=idxG (badB f) l) hE ⟨fun h=>by omega,fun _=>h2⟩
theorem f184bb:Try.f184.body=some (Qc Try.prog 184):=by kernel_rfl
abbrev z184b_1 (l:(List Bndl)) (f:Fair):List AV:=[.rsl (YC l) 0 l.length,.clos 185 [] [.rptr [.int .i64 f.purses,.int .i64 f.boxes,.rsl (rowI f.stock) 0 f.stock.length,.rsl (rowI f.cash) 0 f.cash.length,.rsl (YC f.bundles) 0 f.bundles.length,.int .i64 f.refund,.int .i64 f.band,.int .i64 f.hours] 0]]
theorem Qcr (l:(List Bndl)) (f:Fair) {E:Env} {res:AV} (hE:Qe Try.prog 184 res E) (ho:AllP [Qd Try.prog (.clos 240 [] []) (z184b_1 l f) (.int .i64 (idxG (badB f) l))])
 (hr:AvLe (.bool (decide ((idxG (badB f) l)≥0))) res):G Try.prog E [.code (Qc Try.prog 184)] ⟨(z184b_1 l f)++unds (Try.f184.ntmps - 2),[]⟩ :=
 Qb (n:=400) (evs:=[.v (.int .i64 (idxG (badB f) l))]) (obs:=_) hE Try.func184 Qf (by kernel_rfl) ho hr
theorem f184bW (l:(List Bndl)) (f:Fair) {E:Env} {rv:Bool} (hE:Qe Try.prog 184 (.bool rv) E)
 (h:(((∀ x ∈ l,0≤f.refund∧f.refund≤1000)∧l.length≤9223372036854775807)∧rv=(decide ((idxG (badB f) l)≥0)))):G Try.prog E [.code (Qc Try.prog 184)] ⟨[.rsl (YC l) 0 l.length,.clos 185 [] [.rptr [.int .i64 f.purses,.int .i64 f.boxes,.rsl (rowI f.stock) 0 f.stock.length,.rsl (rowI f.cash) 0 f.cash.length,.rsl (YC f.bundles) 0 f.bundles.length,.int .i64 f.refund,.int .i64 f.band,.int .i64 f.hours] 0]]++unds (Try.f184.ntmps - 2),[]⟩:=by
 obtain ⟨h1,h⟩:=h
 exact Qcr l f hE ⟨(Qi Try.func240 (by kernel_rfl) f240bb (idxBad_ok l f h1)),trivial⟩ (AvLe.of_eq (by rw [h]; try rfl))
theorem anyBad_ok (l:List Bndl) (f:Fair) (h:(∀ x ∈ l,0≤f.refund∧f.refund≤1000)∧l.length≤9223372036854775807):Pure Try.prog 184 [.rsl (YC l) 0 l.length,.clos 185 [] [.rptr [.int .i64 f.purses,.int .i64 f.boxes,.rsl (rowI f.stock) 0 f.stock.length,.rsl (rowI f.cash) 0 f.cash.length,.rsl (YC f.bundles) 0 f.bundles.length,.int .i64 f.refund,.int .i64 f.band,.int .i64 f.hours] 0]] (.bool (l.any (badB f))):=Qu Try.func184 f184bb fun E hE =>
 f184bW l f (rv:=l.any (badB f)) hE ⟨h,(Yz _ _).symm⟩
theorem f114b:Try.f114.body=some (Qc Try.prog 114):=by kernel_rfl
theorem u114 {a c k:List AV} {r:AV} (h:Pure Try.prog 114 (a++c++k) r):Qd Try.prog (.clos 114 a k) c r:=Qi Try.func114 (by kernel_rfl) f114b h
abbrev Vh (f:Fair):List AV:=[.int .i64 f.purses,.int .i64 f.boxes,.rsl (rowI f.stock) 0 f.stock.length,.rsl (rowI f.cash) 0 f.cash.length,.rsl (YC f.bundles) 0 f.bundles.length,.int .i64 f.refund,.int .i64 f.band,.int .i64 f.hours]
abbrev YS:List AV:=[.rptr [.int .i64 0] 0,.rptr [.int .i64 100000] 0]
abbrev Vu:List AV:=[.rptr [.int .i64 0] 0,.rptr [.int .i64 1000000] 0]
abbrev Wa (f:Fair):List AV:=[.int .i64 (f.stock.length:Int),.int .i64 1,.int .i64 8]
abbrev Kc (f:Fair):List AV:=[.rsl (rowI f.stock) 0 f.stock.length,.clos 183 [] YS]
abbrev Qaz (f:Fair):List AV:=[.rsl (rowI f.cash) 0 f.cash.length,.clos 183 [] Vu]
abbrev z114_7 (f:Fair):List AV:=[.int .i64 f.refund,.int .i64 0,.int .i64 1000]
abbrev z114_8 (f:Fair):List AV:=[.int .i64 f.band,.int .i64 0,.int .i64 1000000]
theorem p114_start_0 (f:Fair) {E:Env} {res:AV} (hE:Qe Try.prog 114 res E) (ho:AllP [Qd Try.prog (.clos 115 [] []) (Wa f) (.bool (Qa (f.stock.length:Int) 1 8)),(!(Qa (f.stock.length:Int) 1 8))=true,true=true,true=true,true=true,true=true,true=true,true=true,true=true,true=true,true=true,true=true])
 (hr:AvLe (.int .i64 10) res):G Try.prog E [.code (Qc Try.prog 114)] ⟨[.agg (Vh f)]++unds (Try.f114.ntmps - 1),[]⟩ :=
 Qb (n:=400) (evs:=[.v (.bool (Qa (f.stock.length:Int) 1 8)),.b true,.b true,.b true,.b true,.b true,.b true,.b true,.b true,.b true,.b true,.b true]) (obs:=_) hE Try.func114 Qf (by kernel_rfl) ho hr
theorem p114_start_1 (f:Fair) {E:Env} {res:AV} (hE:Qe Try.prog 114 res E) (ho:AllP [Qd Try.prog (.clos 115 [] []) (Wa f) (.bool (Qa (f.stock.length:Int) 1 8)),(!(Qa (f.stock.length:Int) 1 8))=false,((f.cash.length:Int) != (f.stock.length:Int))=true,true=true,true=true,true=true,true=true,true=true,true=true,true=true,true=true,true=true])
 (hr:AvLe (.int .i64 10) res):G Try.prog E [.code (Qc Try.prog 114)] ⟨[.agg (Vh f)]++unds (Try.f114.ntmps - 1),[]⟩ :=
 Qb (n:=400) (evs:=[.v (.bool (Qa (f.stock.length:Int) 1 8)),.b false,.b true,.b true,.b true,.b true,.b true,.b true,.b true,.b true,.b true,.b true]) (obs:=_) hE Try.func114 Qf (by kernel_rfl) ho hr
theorem p114_start_2 (f:Fair) {E:Env} {res:AV} (hE:Qe Try.prog 114 res E) (ho:AllP [Qd Try.prog (.clos 115 [] []) (Wa f) (.bool (Qa (f.stock.length:Int) 1 8)),(!(Qa (f.stock.length:Int) 1 8))=false,((f.cash.length:Int) != (f.stock.length:Int))=false,Qd Try.prog (.clos 115 [] []) [.int .i64 f.purses,.int .i64 0,.int .i64 20] (.bool (Qa f.purses 0 20)),(!(Qa f.purses 0 20))=true,true=true,true=true,true=true,true=true,true=true,true=true,true=true,true=true])
 (hr:AvLe (.int .i64 10) res):G Try.prog E [.code (Qc Try.prog 114)] ⟨[.agg (Vh f)]++unds (Try.f114.ntmps - 1),[]⟩ :=
 Qb (n:=400) (evs:=[.v (.bool (Qa (f.stock.length:Int) 1 8)),.b false,.b false,.v (.bool (Qa f.purses 0 20)),.b true,.b true,.b true,.b true,.b true,.b true,.b true,.b true,.b true]) (obs:=_) hE Try.func114 Qf (by kernel_rfl) ho hr
theorem p114_start_3 (f:Fair) {E:Env} {res:AV} (hE:Qe Try.prog 114 res E) (ho:AllP [Qd Try.prog (.clos 115 [] []) (Wa f) (.bool (Qa (f.stock.length:Int) 1 8)),(!(Qa (f.stock.length:Int) 1 8))=false,((f.cash.length:Int) != (f.stock.length:Int))=false,Qd Try.prog (.clos 115 [] []) [.int .i64 f.purses,.int .i64 0,.int .i64 20] (.bool (Qa f.purses 0 20)),(!(Qa f.purses 0 20))=false,Qd Try.prog (.clos 115 [] []) [.int .i64 f.boxes,.int .i64 0,.int .i64 12] (.bool (Qa f.boxes 0 12)),(!(Qa f.boxes 0 12))=true,true=true,true=true,true=true,true=true,true=true,true=true,true=true])
 (hr:AvLe (.int .i64 10) res):G Try.prog E [.code (Qc Try.prog 114)] ⟨[.agg (Vh f)]++unds (Try.f114.ntmps - 1),[]⟩ :=
 Qb (n:=400) (evs:=[.v (.bool (Qa (f.stock.length:Int) 1 8)),.b false,.b false,.v (.bool (Qa f.purses 0 20)),.b false,.v (.bool (Qa f.boxes 0 12)),.b true,.b true,.b true,.b true,.b true,.b true,.b true,.b true]) (obs:=_) hE Try.func114 Qf (by kernel_rfl) ho hr
theorem p114_start_4 (f:Fair) {E:Env} {res:AV} (hE:Qe Try.prog 114 res E) (ho:AllP [Qd Try.prog (.clos 115 [] []) (Wa f) (.bool (Qa (f.stock.length:Int) 1 8)),(!(Qa (f.stock.length:Int) 1 8))=false,((f.cash.length:Int) != (f.stock.length:Int))=false,Qd Try.prog (.clos 115 [] []) [.int .i64 f.purses,.int .i64 0,.int .i64 20] (.bool (Qa f.purses 0 20)),(!(Qa f.purses 0 20))=false,Qd Try.prog (.clos 115 [] []) [.int .i64 f.boxes,.int .i64 0,.int .i64 12] (.bool (Qa f.boxes 0 12)),(!(Qa f.boxes 0 12))=false,(decide ((f.bundles.length:Int) > 6))=true,true=true,true=true,true=true,true=true,true=true,true=true])
 (hr:AvLe (.int .i64 10) res):G Try.prog E [.code (Qc Try.prog 114)] ⟨[.agg (Vh f)]++unds (Try.f114.ntmps - 1),[]⟩ :=
 Qb (n:=400) (evs:=[.v (.bool (Qa (f.stock.length:Int) 1 8)),.b false,.b false,.v (.bool (Qa f.purses 0 20)),.b false,.v (.bool (Qa f.boxes 0 12)),.b false,.b true,.b true,.b true,.b true,.b true,.b true,.b true]) (obs:=_) hE Try.func114 Qf (by kernel_rfl) ho hr
theorem p114_start_5 (f:Fair) {E:Env} {res:AV} (hE:Qe Try.prog 114 res E) (ho:AllP [Qd Try.prog (.clos 115 [] []) (Wa f) (.bool (Qa (f.stock.length:Int) 1 8)),(!(Qa (f.stock.length:Int) 1 8))=false,((f.cash.length:Int) != (f.stock.length:Int))=false,Qd Try.prog (.clos 115 [] []) [.int .i64 f.purses,.int .i64 0,.int .i64 20] (.bool (Qa f.purses 0 20)),(!(Qa f.purses 0 20))=false,Qd Try.prog (.clos 115 [] []) [.int .i64 f.boxes,.int .i64 0,.int .i64 12] (.bool (Qa f.boxes 0 12)),(!(Qa f.boxes 0 12))=false,(decide ((f.bundles.length:Int) > 6))=false,Qd Try.prog (.clos 182 [] []) [.int .i64 0,.int .i64 100000] (.clos 183 [] YS),Qd Try.prog (.clos 76 [] []) (Kc f) (.bool (f.stock.any (outB 0 100000))),(f.stock.any (outB 0 100000))=true,true=true,true=true,true=true,true=true,true=true])
 (hr:AvLe (.int .i64 10) res):G Try.prog E [.code (Qc Try.prog 114)] ⟨[.agg (Vh f)]++unds (Try.f114.ntmps - 1),[]⟩ :=
 Qb (n:=400) (evs:=[.v (.bool (Qa (f.stock.length:Int) 1 8)),.b false,.b false,.v (.bool (Qa f.purses 0 20)),.b false,.v (.bool (Qa f.boxes 0 12)),.b false,.b false,.v (.clos 183 [] YS),.v (.bool (f.stock.any (outB 0 100000))),.b true,.b true,.b true,.b true,.b true,.b true]) (obs:=_) hE Try.func114 Qf (by kernel_rfl) ho hr
theorem p114_start_6 (f:Fair) {E:Env} {res:AV} (hE:Qe Try.prog 114 res E) (ho:AllP [Qd Try.prog (.clos 115 [] []) (Wa f) (.bool (Qa (f.stock.length:Int) 1 8)),(!(Qa (f.stock.length:Int) 1 8))=false,((f.cash.length:Int) != (f.stock.length:Int))=false,Qd Try.prog (.clos 115 [] []) [.int .i64 f.purses,.int .i64 0,.int .i64 20] (.bool (Qa f.purses 0 20)),(!(Qa f.purses 0 20))=false,Qd Try.prog (.clos 115 [] []) [.int .i64 f.boxes,.int .i64 0,.int .i64 12] (.bool (Qa f.boxes 0 12)),(!(Qa f.boxes 0 12))=false,(decide ((f.bundles.length:Int) > 6))=false,Qd Try.prog (.clos 182 [] []) [.int .i64 0,.int .i64 100000] (.clos 183 [] YS),Qd Try.prog (.clos 76 [] []) (Kc f) (.bool (f.stock.any (outB 0 100000))),(f.stock.any (outB 0 100000))=false,Qd Try.prog (.clos 182 [] []) [.int .i64 0,.int .i64 1000000] (.clos 183 [] Vu),Qd Try.prog (.clos 76 [] []) (Qaz f) (.bool (f.cash.any (outB 0 1000000))),(f.cash.any (outB 0 1000000))=true,true=true,true=true,true=true,true=true])
 (hr:AvLe (.int .i64 10) res):G Try.prog E [.code (Qc Try.prog 114)] ⟨[.agg (Vh f)]++unds (Try.f114.ntmps - 1),[]⟩ :=
 Qb (n:=400) (evs:=[.v (.bool (Qa (f.stock.length:Int) 1 8)),.b false,.b false,.v (.bool (Qa f.purses 0 20)),.b false,.v (.bool (Qa f.boxes 0 12)),.b false,.b false,.v (.clos 183 [] YS),.v (.bool (f.stock.any (outB 0 100000))),.b false,.v (.clos 183 [] Vu),.v (.bool (f.cash.any (outB 0 1000000))),.b true,.b true,.b true,.b true,.b true]) (obs:=_) hE Try.func114 Qf (by kernel_rfl) ho hr
theorem p114_start_7 (f:Fair) {E:Env} {res:AV} (hE:Qe Try.prog 114 res E) (ho:AllP [Qd Try.prog (.clos 115 [] []) (Wa f) (.bool (Qa (f.stock.length:Int) 1 8)),(!(Qa (f.stock.length:Int) 1 8))=false,((f.cash.length:Int) != (f.stock.length:Int))=false,Qd Try.prog (.clos 115 [] []) [.int .i64 f.purses,.int .i64 0,.int .i64 20] (.bool (Qa f.purses 0 20)),(!(Qa f.purses 0 20))=false,Qd Try.prog (.clos 115 [] []) [.int .i64 f.boxes,.int .i64 0,.int .i64 12] (.bool (Qa f.boxes 0 12)),(!(Qa f.boxes 0 12))=false,(decide ((f.bundles.length:Int) > 6))=false,Qd Try.prog (.clos 182 [] []) [.int .i64 0,.int .i64 100000] (.clos 183 [] YS),Qd Try.prog (.clos 76 [] []) (Kc f) (.bool (f.stock.any (outB 0 100000))),(f.stock.any (outB 0 100000))=false,Qd Try.prog (.clos 182 [] []) [.int .i64 0,.int .i64 1000000] (.clos 183 [] Vu),Qd Try.prog (.clos 76 [] []) (Qaz f) (.bool (f.cash.any (outB 0 1000000))),(f.cash.any (outB 0 1000000))=false,Qd Try.prog (.clos 115 [] []) (z114_7 f) (.bool (Qa f.refund 0 1000)),(!(Qa f.refund 0 1000))=true,true=true,true=true,true=true])
 (hr:AvLe (.int .i64 10) res):G Try.prog E [.code (Qc Try.prog 114)] ⟨[.agg (Vh f)]++unds (Try.f114.ntmps - 1),[]⟩ :=
 Qb (n:=400) (evs:=[.v (.bool (Qa (f.stock.length:Int) 1 8)),.b false,.b false,.v (.bool (Qa f.purses 0 20)),.b false,.v (.bool (Qa f.boxes 0 12)),.b false,.b false,.v (.clos 183 [] YS),.v (.bool (f.stock.any (outB 0 100000))),.b false,.v (.clos 183 [] Vu),.v (.bool (f.cash.any (outB 0 1000000))),.b false,.v (.bool (Qa f.refund 0 1000)),.b true,.b true,.b true,.b true]) (obs:=_) hE Try.func114 Qf (by kernel_rfl) ho hr
theorem p114_start_8 (f:Fair) {E:Env} {res:AV} (hE:Qe Try.prog 114 res E) (ho:AllP [Qd Try.prog (.clos 115 [] []) (Wa f) (.bool (Qa (f.stock.length:Int) 1 8)),(!(Qa (f.stock.length:Int) 1 8))=false,((f.cash.length:Int) != (f.stock.length:Int))=false,Qd Try.prog (.clos 115 [] []) [.int .i64 f.purses,.int .i64 0,.int .i64 20] (.bool (Qa f.purses 0 20)),(!(Qa f.purses 0 20))=false,Qd Try.prog (.clos 115 [] []) [.int .i64 f.boxes,.int .i64 0,.int .i64 12] (.bool (Qa f.boxes 0 12)),(!(Qa f.boxes 0 12))=false,(decide ((f.bundles.length:Int) > 6))=false,Qd Try.prog (.clos 182 [] []) [.int .i64 0,.int .i64 100000] (.clos 183 [] YS),Qd Try.prog (.clos 76 [] []) (Kc f) (.bool (f.stock.any (outB 0 100000))),(f.stock.any (outB 0 100000))=false,Qd Try.prog (.clos 182 [] []) [.int .i64 0,.int .i64 1000000] (.clos 183 [] Vu),Qd Try.prog (.clos 76 [] []) (Qaz f) (.bool (f.cash.any (outB 0 1000000))),(f.cash.any (outB 0 1000000))=false,Qd Try.prog (.clos 115 [] []) (z114_7 f) (.bool (Qa f.refund 0 1000)),(!(Qa f.refund 0 1000))=false,Qd Try.prog (.clos 115 [] []) (z114_8 f) (.bool (Qa f.band 0 1000000)),(!(Qa f.band 0 1000000))=true,true=true,true=true])
 (hr:AvLe (.int .i64 10) res):G Try.prog E [.code (Qc Try.prog 114)] ⟨[.agg (Vh f)]++unds (Try.f114.ntmps - 1),[]⟩ :=
 Qb (n:=400) (evs:=[.v (.bool (Qa (f.stock.length:Int) 1 8)),.b false,.b false,.v (.bool (Qa f.purses 0 20)),.b false,.v (.bool (Qa f.boxes 0 12)),.b false,.b false,.v (.clos 183 [] YS),.v (.bool (f.stock.any (outB 0 100000))),.b false,.v (.clos 183 [] Vu),.v (.bool (f.cash.any (outB 0 1000000))),.b false,.v (.bool (Qa f.refund 0 1000)),.b false,.v (.bool (Qa f.band 0 1000000)),.b true,.b true,.b true]) (obs:=_) hE Try.func114 Qf (by kernel_rfl) ho hr
theorem p114_start_9 (f:Fair) {E:Env} {res:AV} (hE:Qe Try.prog 114 res E) (ho:AllP [Qd Try.prog (.clos 115 [] []) (Wa f) (.bool (Qa (f.stock.length:Int) 1 8)),(!(Qa (f.stock.length:Int) 1 8))=false,((f.cash.length:Int) != (f.stock.length:Int))=false,Qd Try.prog (.clos 115 [] []) [.int .i64 f.purses,.int .i64 0,.int .i64 20] (.bool (Qa f.purses 0 20)),(!(Qa f.purses 0 20))=false,Qd Try.prog (.clos 115 [] []) [.int .i64 f.boxes,.int .i64 0,.int .i64 12] (.bool (Qa f.boxes 0 12)),(!(Qa f.boxes 0 12))=false,(decide ((f.bundles.length:Int) > 6))=false,Qd Try.prog (.clos 182 [] []) [.int .i64 0,.int .i64 100000] (.clos 183 [] YS),Qd Try.prog (.clos 76 [] []) (Kc f) (.bool (f.stock.any (outB 0 100000))),(f.stock.any (outB 0 100000))=false,Qd Try.prog (.clos 182 [] []) [.int .i64 0,.int .i64 1000000] (.clos 183 [] Vu),Qd Try.prog (.clos 76 [] []) (Qaz f) (.bool (f.cash.any (outB 0 1000000))),(f.cash.any (outB 0 1000000))=false,Qd Try.prog (.clos 115 [] []) (z114_7 f) (.bool (Qa f.refund 0 1000)),(!(Qa f.refund 0 1000))=false,Qd Try.prog (.clos 115 [] []) (z114_8 f) (.bool (Qa f.band 0 1000000)),(!(Qa f.band 0 1000000))=false,Qd Try.prog (.clos 115 [] []) [.int .i64 f.hours,.int .i64 1,.int .i64 1440] (.bool (Qa f.hours 1 1440)),(!(Qa f.hours 1 1440))=true,true=true])
 (hr:AvLe (.int .i64 10) res):G Try.prog E [.code (Qc Try.prog 114)] ⟨[.agg (Vh f)]++unds (Try.f114.ntmps - 1),[]⟩ :=
 Qb (n:=400) (evs:=[.v (.bool (Qa (f.stock.length:Int) 1 8)),.b false,.b false,.v (.bool (Qa f.purses 0 20)),.b false,.v (.bool (Qa f.boxes 0 12)),.b false,.b false,.v (.clos 183 [] YS),.v (.bool (f.stock.any (outB 0 100000))),.b false,.v (.clos 183 [] Vu),.v (.bool (f.cash.any (outB 0 1000000))),.b false,.v (.bool (Qa f.refund 0 1000)),.b false,.v (.bool (Qa f.band 0 1000000)),.b false,.v (.bool (Qa f.hours 1 1440)),.b true,.b true]) (obs:=_) hE Try.func114 Qf (by kernel_rfl) ho hr
theorem Qcw (f:Fair) {E:Env} {res:AV} (hE:Qe Try.prog 114 res E) (ho:AllP [Qd Try.prog (.clos 115 [] []) (Wa f) (.bool (Qa (f.stock.length:Int) 1 8)),(!(Qa (f.stock.length:Int) 1 8))=false,((f.cash.length:Int) != (f.stock.length:Int))=false,Qd Try.prog (.clos 115 [] []) [.int .i64 f.purses,.int .i64 0,.int .i64 20] (.bool (Qa f.purses 0 20)),(!(Qa f.purses 0 20))=false,Qd Try.prog (.clos 115 [] []) [.int .i64 f.boxes,.int .i64 0,.int .i64 12] (.bool (Qa f.boxes 0 12)),(!(Qa f.boxes 0 12))=false,(decide ((f.bundles.length:Int) > 6))=false,Qd Try.prog (.clos 182 [] []) [.int .i64 0,.int .i64 100000] (.clos 183 [] YS),Qd Try.prog (.clos 76 [] []) (Kc f) (.bool (f.stock.any (outB 0 100000))),(f.stock.any (outB 0 100000))=false,Qd Try.prog (.clos 182 [] []) [.int .i64 0,.int .i64 1000000] (.clos 183 [] Vu),Qd Try.prog (.clos 76 [] []) (Qaz f) (.bool (f.cash.any (outB 0 1000000))),(f.cash.any (outB 0 1000000))=false,Qd Try.prog (.clos 115 [] []) (z114_7 f) (.bool (Qa f.refund 0 1000)),(!(Qa f.refund 0 1000))=false,Qd Try.prog (.clos 115 [] []) (z114_8 f) (.bool (Qa f.band 0 1000000)),(!(Qa f.band 0 1000000))=false,Qd Try.prog (.clos 115 [] []) [.int .i64 f.hours,.int .i64 1,.int .i64 1440] (.bool (Qa f.hours 1 1440)),(!(Qa f.hours 1 1440))=false,Qd Try.prog (.clos 184 [] []) [.rsl (YC f.bundles) 0 f.bundles.length,.clos 185 [] [.rptr (Vh f) 0]] (.bool (f.bundles.any (badB f))),(f.bundles.any (badB f))=true])
 (hr:AvLe (.int .i64 10) res):G Try.prog E [.code (Qc Try.prog 114)] ⟨[.agg (Vh f)]++unds (Try.f114.ntmps - 1),[]⟩ :=
 Qb (n:=400) (evs:=[.v (.bool (Qa (f.stock.length:Int) 1 8)),.b false,.b false,.v (.bool (Qa f.purses 0 20)),.b false,.v (.bool (Qa f.boxes 0 12)),.b false,.b false,.v (.clos 183 [] YS),.v (.bool (f.stock.any (outB 0 100000))),.b false,.v (.clos 183 [] Vu),.v (.bool (f.cash.any (outB 0 1000000))),.b false,.v (.bool (Qa f.refund 0 1000)),.b false,.v (.bool (Qa f.band 0 1000000)),.b false,.v (.bool (Qa f.hours 1 1440)),.b false,.v (.bool (f.bundles.any (badB f))),.b true]) (obs:=_) hE Try.func114 Qf (by kernel_rfl) ho hr
theorem Qcv (f:Fair) {E:Env} {res:AV} (hE:Qe Try.prog 114 res E) (ho:AllP [Qd Try.prog (.clos 115 [] []) (Wa f) (.bool (Qa (f.stock.length:Int) 1 8)),(!(Qa (f.stock.length:Int) 1 8))=false,((f.cash.length:Int) != (f.stock.length:Int))=false,Qd Try.prog (.clos 115 [] []) [.int .i64 f.purses,.int .i64 0,.int .i64 20] (.bool (Qa f.purses 0 20)),(!(Qa f.purses 0 20))=false,Qd Try.prog (.clos 115 [] []) [.int .i64 f.boxes,.int .i64 0,.int .i64 12] (.bool (Qa f.boxes 0 12)),(!(Qa f.boxes 0 12))=false,(decide ((f.bundles.length:Int) > 6))=false,Qd Try.prog (.clos 182 [] []) [.int .i64 0,.int .i64 100000] (.clos 183 [] YS),Qd Try.prog (.clos 76 [] []) (Kc f) (.bool (f.stock.any (outB 0 100000))),(f.stock.any (outB 0 100000))=false,Qd Try.prog (.clos 182 [] []) [.int .i64 0,.int .i64 1000000] (.clos 183 [] Vu),Qd Try.prog (.clos 76 [] []) (Qaz f) (.bool (f.cash.any (outB 0 1000000))),(f.cash.any (outB 0 1000000))=false,Qd Try.prog (.clos 115 [] []) (z114_7 f) (.bool (Qa f.refund 0 1000)),(!(Qa f.refund 0 1000))=false,Qd Try.prog (.clos 115 [] []) (z114_8 f) (.bool (Qa f.band 0 1000000)),(!(Qa f.band 0 1000000))=false,Qd Try.prog (.clos 115 [] []) [.int .i64 f.hours,.int .i64 1,.int .i64 1440] (.bool (Qa f.hours 1 1440)),(!(Qa f.hours 1 1440))=false,Qd Try.prog (.clos 184 [] []) [.rsl (YC f.bundles) 0 f.bundles.length,.clos 185 [] [.rptr (Vh f) 0]] (.bool (f.bundles.any (badB f))),(f.bundles.any (badB f))=false])
 (hr:AvLe (.int .i64 0) res):G Try.prog E [.code (Qc Try.prog 114)] ⟨[.agg (Vh f)]++unds (Try.f114.ntmps - 1),[]⟩ :=
 Qb (n:=400) (evs:=[.v (.bool (Qa (f.stock.length:Int) 1 8)),.b false,.b false,.v (.bool (Qa f.purses 0 20)),.b false,.v (.bool (Qa f.boxes 0 12)),.b false,.b false,.v (.clos 183 [] YS),.v (.bool (f.stock.any (outB 0 100000))),.b false,.v (.clos 183 [] Vu),.v (.bool (f.cash.any (outB 0 1000000))),.b false,.v (.bool (Qa f.refund 0 1000)),.b false,.v (.bool (Qa f.band 0 1000000)),.b false,.v (.bool (Qa f.hours 1 1440)),.b false,.v (.bool (f.bundles.any (badB f))),.b false]) (obs:=_) hE Try.func114 Qf (by kernel_rfl) ho hr
theorem f114W (f:Fair) {E:Env} {rv:Int} (hE:Qe Try.prog 114 (.int .i64 rv) E)
 (h:(((Qa (f.stock.length:Int) 1 8)=false→rv=10)∧((Qa (f.stock.length:Int) 1 8)=true→((¬ ((f.cash.length:Int)=(f.stock.length:Int))→rv=10)∧((f.cash.length:Int)=(f.stock.length:Int)→(((Qa f.purses 0 20)=false→rv=10)∧((Qa f.purses 0 20)=true→(((Qa f.boxes 0 12)=false→rv=10)∧((Qa f.boxes 0 12)=true→(((f.bundles.length:Int) > 6→rv=10)∧(¬ ((f.bundles.length:Int) > 6)→((f.stock.length≤9223372036854775807)∧(((f.stock.any (outB 0 100000))=true→rv=10)∧((f.stock.any (outB 0 100000))=false→((f.cash.length≤9223372036854775807)∧(((f.cash.any (outB 0 1000000))=true→rv=10)∧((f.cash.any (outB 0 1000000))=false→(((Qa f.refund 0 1000)=false→rv=10)∧((Qa f.refund 0 1000)=true→(((Qa f.band 0 1000000)=false→rv=10)∧((Qa f.band 0 1000000)=true→(((Qa f.hours 1 1440)=false→rv=10)∧((Qa f.hours 1 1440)=true→(((∀ x ∈ f.bundles,0≤f.refund∧f.refund≤1000)∧f.bundles.length≤9223372036854775807)∧(((f.bundles.any (badB f))=true→rv=10)∧((f.bundles.any (badB f))=false→rv=0)))))))))))))))))))))))))):G Try.prog E [.code (Qc Try.prog 114)] ⟨[.agg [.int .i64 f.purses,.int .i64 f.boxes,.rsl (rowI f.stock) 0 f.stock.length,.rsl (rowI f.cash) 0 f.cash.length,.rsl (YC f.bundles) 0 f.bundles.length,.int .i64 f.refund,.int .i64 f.band,.int .i64 f.hours]]++unds (Try.f114.ntmps - 1),[]⟩:=by
 rcases bft (!(Qa (f.stock.length:Int) 1 8)) with hc0 | hc0
 · have h:=h.1 (bnT hc0)
   exact p114_start_0 f hE ⟨(u115 (Qq (f.stock.length:Int) 1 8)),hc0,rfl,rfl,rfl,rfl,rfl,rfl,rfl,rfl,rfl,rfl,trivial⟩ (AvLe.of_eq (by rw [h]; try rfl))
 · have h:=h.2 (bnF hc0)
   rcases bft ((f.cash.length:Int) != (f.stock.length:Int)) with hc1 | hc1
   · have h:=h.1 (bneT hc1)
     exact p114_start_1 f hE ⟨(u115 (Qq (f.stock.length:Int) 1 8)),hc0,hc1,rfl,rfl,rfl,rfl,rfl,rfl,rfl,rfl,rfl,trivial⟩ (AvLe.of_eq (by rw [h]; try rfl))
   · have h:=h.2 (bneF hc1)
     rcases bft (!(Qa f.purses 0 20)) with hc2 | hc2
     · have h:=h.1 (bnT hc2)
       exact p114_start_2 f hE ⟨(u115 (Qq (f.stock.length:Int) 1 8)),hc0,hc1,(u115 (Qq f.purses 0 20)),hc2,rfl,rfl,rfl,rfl,rfl,rfl,rfl,rfl,trivial⟩ (AvLe.of_eq (by rw [h]; try rfl))
     · have h:=h.2 (bnF hc2)
       rcases bft (!(Qa f.boxes 0 12)) with hc3 | hc3
       · have h:=h.1 (bnT hc3)
         exact p114_start_3 f hE ⟨(u115 (Qq (f.stock.length:Int) 1 8)),hc0,hc1,(u115 (Qq f.purses 0 20)),hc2,(u115 (Qq f.boxes 0 12)),hc3,rfl,rfl,rfl,rfl,rfl,rfl,rfl,trivial⟩ (AvLe.of_eq (by rw [h]; try rfl))
       · have h:=h.2 (bnF hc3)
         rcases bft (decide ((f.bundles.length:Int) > 6)) with hc4 | hc4
         · have h:=h.1 (odt hc4)
           exact p114_start_4 f hE ⟨(u115 (Qq (f.stock.length:Int) 1 8)),hc0,hc1,(u115 (Qq f.purses 0 20)),hc2,(u115 (Qq f.boxes 0 12)),hc3,hc4,rfl,rfl,rfl,rfl,rfl,rfl,trivial⟩ (AvLe.of_eq (by rw [h]; try rfl))
         · have h:=h.2 (odf hc4)
           obtain ⟨h1,h⟩:=h
           rcases bft (f.stock.any (outB 0 100000)) with hc5 | hc5
           · have h:=h.1 hc5
             exact p114_start_5 f hE ⟨(u115 (Qq (f.stock.length:Int) 1 8)),hc0,hc1,(u115 (Qq f.purses 0 20)),hc2,(u115 (Qq f.boxes 0 12)),hc3,hc4,(u182 (VA 0 100000)),(Qi Try.func76 (by kernel_rfl) qv (XE f.stock 0 100000 h1)),hc5,rfl,rfl,rfl,rfl,rfl,trivial⟩ (AvLe.of_eq (by rw [h]; try rfl))
           · have h:=h.2 hc5
             obtain ⟨h2,h⟩:=h
             rcases bft (f.cash.any (outB 0 1000000)) with hc6 | hc6
             · have h:=h.1 hc6
               exact p114_start_6 f hE ⟨(u115 (Qq (f.stock.length:Int) 1 8)),hc0,hc1,(u115 (Qq f.purses 0 20)),hc2,(u115 (Qq f.boxes 0 12)),hc3,hc4,(u182 (VA 0 100000)),(Qi Try.func76 (by kernel_rfl) qv (XE f.stock 0 100000 h1)),hc5,(u182 (VA 0 1000000)),(Qi Try.func76 (by kernel_rfl) qv (XE f.cash 0 1000000 h2)),hc6,rfl,rfl,rfl,rfl,trivial⟩ (AvLe.of_eq (by rw [h]; try rfl))
             · have h:=h.2 hc6
               rcases bft (!(Qa f.refund 0 1000)) with hc7 | hc7
               · have h:=h.1 (bnT hc7)
                 exact p114_start_7 f hE ⟨(u115 (Qq (f.stock.length:Int) 1 8)),hc0,hc1,(u115 (Qq f.purses 0 20)),hc2,(u115 (Qq f.boxes 0 12)),hc3,hc4,(u182 (VA 0 100000)),(Qi Try.func76 (by kernel_rfl) qv (XE f.stock 0 100000 h1)),hc5,(u182 (VA 0 1000000)),(Qi Try.func76 (by kernel_rfl) qv (XE f.cash 0 1000000 h2)),hc6,(u115 (Qq f.refund 0 1000)),hc7,rfl,rfl,rfl,trivial⟩ (AvLe.of_eq (by rw [h]; try rfl))
               · have h:=h.2 (bnF hc7)
                 rcases bft (!(Qa f.band 0 1000000)) with hc8 | hc8
                 · have h:=h.1 (bnT hc8)
                   exact p114_start_8 f hE ⟨(u115 (Qq (f.stock.length:Int) 1 8)),hc0,hc1,(u115 (Qq f.purses 0 20)),hc2,(u115 (Qq f.boxes 0 12)),hc3,hc4,(u182 (VA 0 100000)),(Qi Try.func76 (by kernel_rfl) qv (XE f.stock 0 100000 h1)),hc5,(u182 (VA 0 1000000)),(Qi Try.func76 (by kernel_rfl) qv (XE f.cash 0 1000000 h2)),hc6,(u115 (Qq f.refund 0 1000)),hc7,(u115 (Qq f.band 0 1000000)),hc8,rfl,rfl,trivial⟩ (AvLe.of_eq (by rw [h]; try rfl))
                 · have h:=h.2 (bnF hc8)
                   rcases bft (!(Qa f.hours 1 1440)) with hc9 | hc9
                   · have h:=h.1 (bnT hc9)
                     exact p114_start_9 f hE ⟨(u115 (Qq (f.stock.length:Int) 1 8)),hc0,hc1,(u115 (Qq f.purses 0 20)),hc2,(u115 (Qq f.boxes 0 12)),hc3,hc4,(u182 (VA 0 100000)),(Qi Try.func76 (by kernel_rfl) qv (XE f.stock 0 100000 h1)),hc5,(u182 (VA 0 1000000)),(Qi Try.func76 (by kernel_rfl) qv (XE f.cash 0 1000000 h2)),hc6,(u115 (Qq f.refund 0 1000)),hc7,(u115 (Qq f.band 0 1000000)),hc8,(u115 (Qq f.hours 1 1440)),hc9,rfl,trivial⟩ (AvLe.of_eq (by rw [h]; try rfl))
                   · have h:=h.2 (bnF hc9)
                     obtain ⟨h3,h⟩:=h
                     rcases bft (f.bundles.any (badB f)) with hc10 | hc10
                     · have h:=h.1 hc10
                       exact Qcw f hE ⟨(u115 (Qq (f.stock.length:Int) 1 8)),hc0,hc1,(u115 (Qq f.purses 0 20)),hc2,(u115 (Qq f.boxes 0 12)),hc3,hc4,(u182 (VA 0 100000)),(Qi Try.func76 (by kernel_rfl) qv (XE f.stock 0 100000 h1)),hc5,(u182 (VA 0 1000000)),(Qi Try.func76 (by kernel_rfl) qv (XE f.cash 0 1000000 h2)),hc6,(u115 (Qq f.refund 0 1000)),hc7,(u115 (Qq f.band 0 1000000)),hc8,(u115 (Qq f.hours 1 1440)),hc9,(Qi Try.func184 (by kernel_rfl) f184bb (anyBad_ok f.bundles f h3)),hc10,trivial⟩ (AvLe.of_eq (by rw [h]; try rfl))
                     · have h:=h.2 hc10
                       exact Qcv f hE ⟨(u115 (Qq (f.stock.length:Int) 1 8)),hc0,hc1,(u115 (Qq f.purses 0 20)),hc2,(u115 (Qq f.boxes 0 12)),hc3,hc4,(u182 (VA 0 100000)),(Qi Try.func76 (by kernel_rfl) qv (XE f.stock 0 100000 h1)),hc5,(u182 (VA 0 1000000)),(Qi Try.func76 (by kernel_rfl) qv (XE f.cash 0 1000000 h2)),hc6,(u115 (Qq f.refund 0 1000)),hc7,(u115 (Qq f.band 0 1000000)),hc8,(u115 (Qq f.hours 1 1440)),hc9,(Qi Try.func184 (by kernel_rfl) f184bb (anyBad_ok f.bundles f h3)),hc10,trivial⟩ (AvLe.of_eq (by rw [h]; try rfl))
def Vl (f:Fair):Bool:=Qa f.stock.length 1 8 && (decide (f.cash.length=f.stock.length) && (Qa f.purses 0 20 && (Qa f.boxes 0 12 && (decide (f.bundles.length≤6) && (!(f.stock.any (outB 0 100000)) && (!(f.cash.any (outB 0 1000000)) && (Qa f.refund 0 1000 && (Qa f.band 0 1000000 && (Qa f.hours 1 1440 && !(f.bundles.any (badB f)))))))))))
def VD (f:Fair):Int:=if Vl f=true then 0 else 10
structure FairSmall (f:Fair):Prop where
 stock:f.stock.length≤1000
 cash:f.cash.length≤1000
 bundles:f.bundles.length≤1000
theorem XS {f:Fair} (h:Vl f=false):VD f=10:=by unfold VD; rw [if_neg (by rw [h]; exact Bool.false_ne_true)]
theorem Kh (f:Fair) (hs:FairSmall f):Pure Try.prog 114 [.agg [.int .i64 f.purses,.int .i64 f.boxes,.rsl (rowI f.stock) 0 f.stock.length,.rsl (rowI f.cash) 0 f.cash.length,.rsl (YC f.bundles) 0 f.bundles.length,.int .i64 f.refund,.int .i64 f.band,.int .i64 f.hours]] (.int .i64 (VD f)):=Qu Try.func114 f114b fun E hE=>by
 have s1:=hs.stock
 have s2:=hs.cash
 have s3:=hs.bundles
 refine f114W f (rv:=VD f) hE ⟨fun h1=>XS ?_,fun h1=>⟨fun h2=>XS ?_,fun h2=>⟨fun h3=>XS ?_,fun h3=>⟨fun h4=>XS ?_,fun h4=>⟨fun h5=>XS ?_,fun h5=>⟨by omega,fun h6=>XS ?_,fun h6=>⟨by omega,fun h7=>XS ?_,fun h7=>⟨fun h8=>XS ?_,fun h8=>⟨fun h9=>XS ?_,fun h9=>⟨fun h10=>XS ?_,fun h10=>⟨⟨fun x _=>?_,by omega⟩,fun h11=>XS ?_,fun h11=>?_⟩⟩⟩⟩⟩⟩⟩⟩⟩⟩⟩
 · unfold Vl; rw [h1]; rfl
 · unfold Vl; rw [decide_eq_false (show ¬ f.cash.length=f.stock.length by omega),Bool.false_and,Bool.and_false]
 · unfold Vl; rw [h3]; simp
 · unfold Vl; rw [h4]; simp
 · unfold Vl; rw [decide_eq_false (show ¬ f.bundles.length≤6 by omega)]; simp
 · unfold Vl; rw [h6]; simp
 · unfold Vl; rw [h7]; simp
 · unfold Vl; rw [h8]; simp
 · unfold Vl; rw [h9]; simp
 · unfold Vl; rw [h10]; simp
 · exact QK.1 h8
 · unfold Vl; rw [h11]; simp
 · unfold VD
   rw [if_pos]
   unfold Vl
   rw [h1,h3,h4,h6,h7,h8,h9,h10,h11,decide_eq_true (show f.cash.length=f.stock.length by omega),decide_eq_true (show f.bundles.length≤6 by omega)]; rfl
end Go.Proofs.Ytemklbioijmjiaa
namespace Go.Proofs.Ytemklbioijmjiaa
open Go Ax
open Go.Proofs
abbrev NN:Int:=1152921504606846976
/-- The prices so far. -/
def LP (f:Nat→Int) (j:Nat):List Int:=(List.range 1008).map fun i=>if i<j then f i else NN
theorem Qbo {f:Nat→Int} {j:Nat}:(LP f j).length=1008:=by simp [LP]
theorem Vo {f:Nat→Int} {j i:Nat} (h:i<1008):(LP f j)[i]?=some (if i<j then f i else NN):=by
 unfold LP; rw [List.getElem?_map,List.getElem?_range h]; rfl
theorem LP_set {f:Nat→Int} {j:Nat} (h:j<1008):(LP f j).set j (f j)=LP f (j+1):=by
 refine List.ext_getElem? fun i=>?_
 by_cases hi:i<1008
 · rw [Vo hi]
   by_cases e:j=i
   · subst e
     rw [List.getElem?_set_self (by rw [Qbo]; omega),if_pos (by omega)]
   · rw [List.getElem?_set_ne e,Vo hi]
     by_cases c:i<j
     · rw [if_pos c,if_pos (by omega)]
     · rw [if_neg c,if_neg (by omega)]
 · rw [List.getElem?_eq_none (by rw [List.length_set,Qbo]; omega),List.getElem?_eq_none (by rw [Qbo]; omega)]
theorem LP_zero {f:Nat→Int}:List.replicate 1008 NN=LP f 0:=by
 refine List.ext_getElem? fun i=>?_
 by_cases hi:i<1008
 · rw [Vo hi,List.getElem?_replicate,if_pos hi,if_neg (by omega)]
 · rw [List.getElem?_eq_none (by simp; omega),List.getElem?_eq_none (by rw [Qbo]; omega)]
def c1 (t:Nat):Int:=if t % 6=0 then 1000*((t / 6:Nat):Int) else NN
def c0 (t:Nat):Int:=1000*((t / 6:Nat):Int)+200*((t % 6:Nat):Int)
def r2:List Int:=(List.replicate 1008 NN).set 0 0
theorem r2_get {j:Nat} (h:j<1008):r2[j]?=some (if j=0 then 0 else NN):=by
 unfold r2
 by_cases e:j=0
 · subst e; rw [List.getElem?_set_self (by simp),if_pos rfl]
 · rw [List.getElem?_set_ne (by omega),List.getElem?_replicate,if_pos h,if_neg e]
theorem qA {t:Nat} (h:t<1008) (h6:t % 6=0):c1 t=1000*((t / 6:Nat):Int)∧0≤c1 t∧c1 t≤200000:=by
 unfold c1; rw [if_pos h6]; omega
theorem KZ {t:Nat} (h6:¬ t % 6=0):c1 t=NN:=by unfold c1; rw [if_neg h6]
theorem c0_bd {t:Nat} (h:t<1008):0≤c0 t∧c0 t≤200000:=by unfold c0; omega
theorem c0_step {j:Nat} (h0:1≤j) (h:j<1008):iMin (c1 j) (c0 (j - 1)+200)=c0 j:=by
 unfold iMin
 by_cases h6:j % 6=0
 · obtain ⟨e,-,-⟩:=qA h h6
   rw [e]
   unfold c0
   rw [if_neg (by omega)]; omega
 · rw [KZ h6]
   unfold c0 NN
   rw [if_pos (by omega)]; omega
theorem c1_step {j:Nat} (h0:6≤j) (h:j<1008) (h6:(j - 6) % 6=0):iMin NN (c1 (j - 6)+1000)=c1 j:=by
 obtain ⟨e,-,-⟩:=qA (t:=j - 6) (by omega) h6
 obtain ⟨e',-,-⟩:=qA (t:=j) (by omega) (by omega)
 rw [e,e']
 unfold iMin NN
 rw [if_pos (by omega)]; omega
theorem f186b:Try.f186.body=some (Qc Try.prog 186):=by kernel_rfl
theorem u186 {a c k:List AV} {r:AV} (h:Pure Try.prog 186 (a++c++k) r):Qd Try.prog (.clos 186 a k) c r:=Qi Try.func186 (by kernel_rfl) f186b h
def qy (P:Program):List Item:=kAt 400 [.code (Qc P 186)] [.b true,.b true,.b true,.b false,.b true,.b false,.b true,.stop]
def yx (v4:List Int) (v6:List Int) (j:Nat) (v2:List Int) (g4:Nat) (g6:Nat) (g2:Nat):St:=⟨([.rsl [.int .i64 1,.int .i64 200,.int .i64 6,.int .i64 1000] 0 2,.int .i64 7,J,J,J,J,.int .i64 1007,.sl 0 0 0 3 1,J,.int .i64 0]++jj 43 ([.int .i64 (((List.replicate (Int.toNat (1008:Int)) (1152921504606846976:Int)).length:Nat):Int),.int .i64 (j:Int)]++Js 163)),[⟨true,0,1,false,[.sl 2 g2 0 v2.length 1,.sl 4 g4 0 v4.length 1,.sl 6 g6 0 v6.length 1],true⟩,⟨false,1,1,true,[],false⟩,⟨true,g2,1,true,(rowI v2),true⟩,⟨false,1,1,true,[],false⟩,⟨true,g4,1,true,(rowI v4),true⟩,⟨false,1,1,true,[],false⟩,⟨true,g6,1,true,(rowI v6),true⟩]⟩
def Qbe (E:Env) (v4:List Int) (v6:List Int) (j:Nat) (v2:List Int):Prop:=∀ g4 g6 g2:Nat,G Try.prog E (qy Try.prog) (yx v4 v6 j v2 g4 g6 g2)
def yy (P:Program):List Item:=kAt 400 [.code (Qc P 186)] [.b true,.b true,.b true,.b false,.b true,.b false,.b true,.b false,.b false,.stop]
def f186S3 (v2:List Int) (v4:List Int) (v6:List Int) (t:Nat) (tokens:Nat) (g2:Nat) (g4:Nat) (g6:Nat):St:=⟨([.rsl [.int .i64 1,.int .i64 200,.int .i64 6,.int .i64 1000] 0 2]++jj 5 ([.int .i64 1007,.sl 0 0 0 3 1,J,J,J,J,.int .i64 (tokens:Int),.int .i64 (t:Int)]++Js 204)),[⟨true,0,1,false,[.sl 2 g2 0 v2.length 1,.sl 4 g4 0 v4.length 1,.sl 6 g6 0 v6.length 1],true⟩,⟨false,1,1,true,[],false⟩,⟨true,g2,1,true,(rowI v2),true⟩,⟨false,1,1,true,[],false⟩,⟨true,g4,1,true,(rowI v4),true⟩,⟨false,1,1,true,[],false⟩,⟨true,g6,1,true,(rowI v6),true⟩]⟩
def f186G3 (E:Env) (v2:List Int) (v4:List Int) (v6:List Int) (t:Nat) (tokens:Nat):Prop:=∀ g2 g4 g6:Nat,G Try.prog E (yy Try.prog) (f186S3 v2 v4 v6 t tokens g2 g4 g6)
def KS (P:Program):List Item:=kAt 400 [.code (Qc P 186)] [.b true,.b true,.b true,.b false,.b true,.b false,.b true,.b false,.b false,.b false,.b false,.b true,.stop]
def f186S5 (price:Int) (tokens:Int) (left:Int) (v2:List Int) (v4:List Int) (v6:List Int) (v7_0:Nat) (g2:Nat) (g4:Nat) (g6:Nat):St:=⟨([J,J,J,J,.sl 7 0 0 2 1,.int .i64 price,J,.sl 0 0 0 3 1,J,J,J,J,.int .i64 tokens,J,.int .i64 0,.ptr 8 0 0,.int .i64 left]++jj 133 ([.rsl [.int .i64 1,.int .i64 200,.int .i64 6,.int .i64 1000] 0 2,.int .i64 2,.int .i64 0]++Js 65)),[⟨true,0,1,false,[.sl 2 g2 0 v2.length 1,.sl 4 g4 0 v4.length 1,.sl 6 g6 0 v6.length 1],true⟩,⟨false,1,1,true,[],false⟩,⟨true,g2,1,true,(rowI v2),true⟩,⟨false,1,1,true,[],false⟩,⟨true,g4,1,true,(rowI v4),true⟩,⟨false,1,1,true,[],false⟩,⟨true,g6,1,true,(rowI v6),true⟩,⟨true,0,1,true,[.int .i64 (v7_0:Int),.int .i64 0],true⟩,⟨true,0,1,true,[.int .i64 1,.int .i64 200],false⟩]⟩
def f186G5 (E:Env) (price:Int) (tokens:Int) (left:Int) (v2:List Int) (v4:List Int) (v6:List Int) (v7_0:Nat):Prop:=∀ g2 g4 g6:Nat,G Try.prog E (KS Try.prog) (f186S5 price tokens left v2 v4 v6 v7_0 g2 g4 g6)
def Yi (P:Program):List Item:=kAt 400 [.code (Qc P 186)] [.b true,.b true,.b true,.b false,.b true,.stop]
def Yg (v6:List Int) (j:Nat) (v4:List Int) (g6:Nat) (g4:Nat):St:=⟨([.rsl [.int .i64 1,.int .i64 200,.int .i64 6,.int .i64 1000] 0 2,.int .i64 7,J,J,J,J,.int .i64 1007,.sl 0 0 0 3 1,J,.int .i64 1]++jj 43 ([.int .i64 (((List.replicate (Int.toNat (1008:Int)) (1152921504606846976:Int)).length:Nat):Int),.int .i64 (j:Int)]++Js 163)),[⟨true,0,1,false,[.sl 2 0 0 ((List.replicate (Int.toNat (1008:Int)) (1152921504606846976:Int)).length) 1,.sl 4 g4 0 v4.length 1,.sl 6 g6 0 v6.length 1],true⟩,⟨false,1,1,true,[],false⟩,⟨true,0,1,true,(rowI (List.replicate (Int.toNat (1008:Int)) (1152921504606846976:Int))),true⟩,⟨false,1,1,true,[],false⟩,⟨true,g4,1,true,(rowI v4),true⟩,⟨false,1,1,true,[],false⟩,⟨true,g6,1,true,(rowI v6),true⟩]⟩
def VE (E:Env) (v6:List Int) (j:Nat) (v4:List Int):Prop:=∀ g6 g4:Nat,G Try.prog E (Yi Try.prog) (Yg v6 j v4 g6 g4)
def Yh (P:Program):List Item:=kAt 400 [.code (Qc P 186)] [.b true,.b true,.b true,.b false,.b true,.b false,.b true,.b false,.b false,.b false,.b false,.b true,.b false,.b true,.stop]
def Wo (price:Int) (tokens:Int) (left:Int) (v2:List Int) (v4:List Int) (v6:List Int) (v7_0:Nat) (v7_1:Nat) (g2:Nat) (g4:Nat) (g6:Nat):St:=⟨([J,J,J,J,.sl 7 0 0 2 1,.int .i64 price,J,.sl 0 0 0 3 1,J,J,J,J,.int .i64 tokens,J,.int .i64 1,.ptr 9 0 0,.int .i64 left]++jj 133 ([.rsl [.int .i64 1,.int .i64 200,.int .i64 6,.int .i64 1000] 0 2,.int .i64 2,.int .i64 1]++Js 65)),[⟨true,0,1,false,[.sl 2 g2 0 v2.length 1,.sl 4 g4 0 v4.length 1,.sl 6 g6 0 v6.length 1],true⟩,⟨false,1,1,true,[],false⟩,⟨true,g2,1,true,(rowI v2),true⟩,⟨false,1,1,true,[],false⟩,⟨true,g4,1,true,(rowI v4),true⟩,⟨false,1,1,true,[],false⟩,⟨true,g6,1,true,(rowI v6),true⟩,⟨true,0,1,true,[.int .i64 (v7_0:Int),.int .i64 (v7_1:Int)],true⟩,⟨true,0,1,true,[.int .i64 1,.int .i64 200],false⟩,⟨true,0,1,true,[.int .i64 6,.int .i64 1000],false⟩]⟩
def YZ (E:Env) (price:Int) (tokens:Int) (left:Int) (v2:List Int) (v4:List Int) (v6:List Int) (v7_0:Nat) (v7_1:Nat):Prop:=∀ g2 g4 g6:Nat,G Try.prog E (Yh Try.prog) (Wo price tokens left v2 v4 v6 v7_0 v7_1 g2 g4 g6)
abbrev Qav (g2:Nat) (v2:List Int) (g4:Nat) (v4:List Int) (g6:Nat) (v6:List Int):List AV:=[.sl 2 g2 0 v2.length 1,.sl 4 g4 0 v4.length 1,.sl 6 g6 0 v6.length 1]
abbrev z186_1 (g2:Nat) (v2:List Int) (g4:Nat) (v4:List Int) (g6:Nat) (v6:List Int) (v7_0:Nat):List Blk:=[⟨true,0,1,false,(Qav g2 v2 g4 v4 g6 v6),true⟩,⟨false,1,1,true,[],false⟩,⟨true,g2,1,true,(rowI v2),true⟩,⟨false,1,1,true,[],false⟩,⟨true,g4,1,true,(rowI v4),true⟩,⟨false,1,1,true,[],false⟩,⟨true,g6,1,true,(rowI v6),true⟩,⟨true,0,1,true,[.int .i64 (v7_0:Int),.int .i64 0],true⟩,⟨true,0,1,true,[.int .i64 1,.int .i64 200],false⟩,⟨true,0,1,true,[.int .i64 6,.int .i64 1000],false⟩]
abbrev Wf:List AV:=[.int .i64 1,.int .i64 200,.int .i64 6,.int .i64 1000]
abbrev z186_3 (g2:Nat) (v2:List Int) (g4:Nat) (v4:List Int) (g6:Nat) (v6:List Int):List Blk:=[⟨true,0,1,false,(Qav g2 v2 g4 v4 g6 v6),true⟩,⟨false,1,1,true,[],false⟩,⟨true,g2,1,true,(rowI v2),true⟩,⟨false,1,1,true,[],false⟩,⟨true,g4,1,true,(rowI v4),true⟩,⟨false,1,1,true,[],false⟩,⟨true,g6,1,true,(rowI v6),true⟩]
abbrev z186_4:List AV:=[.rsl Wf 0 2,.int .i64 2,.int .i64 1]++Js 65
theorem p186_start_0 (e:Int) {E:Env} {rv:AV} (hE:Qe Try.prog 186 rv E) (ho:AllP [InR .i64 1007,InR .i64 3,(0:Int)≤3∧(3:Int)≤3∧(3:Int)≤2147483648,0=0,true=true,(∀ k,slOf 0 k (.sl k 0 0 1 1)=true),InR .i64 1008,QQ Try.prog (.clos 55 [] []) [.rsl [.int .i64 1152921504606846976] 0 1,.int .i64 1008] [] (.sl 0 0 0 ((List.replicate (Int.toNat (1008:Int)) (1152921504606846976:Int)).length) 1) [⟨true,0,1,true,(rowI (List.replicate (Int.toNat (1008:Int)) (1152921504606846976:Int))),true⟩],(0:Int)≤0∧(0:Int)<((3:Nat):Int),0=0,1≤3,0=0,InR .i64 1,true=true,(∀ k,slOf 0 k (.sl k 0 0 1 1)=true),InR .i64 1008,QQ Try.prog (.clos 55 [] []) [.rsl [.int .i64 1152921504606846976] 0 1,.int .i64 1008] [] (.sl 0 0 0 ((List.replicate (Int.toNat (1008:Int)) (1152921504606846976:Int)).length) 1) [⟨true,0,1,true,(rowI (List.replicate (Int.toNat (1008:Int)) (1152921504606846976:Int))),true⟩],(0:Int)≤1∧(1:Int)<((3:Nat):Int),0=0,2≤3,0=0,InR .i64 2,true=true,(∀ k,slOf 0 k (.sl k 0 0 1 1)=true),InR .i64 1008,QQ Try.prog (.clos 55 [] []) [.rsl [.int .i64 1152921504606846976] 0 1,.int .i64 1008] [] (.sl 0 0 0 ((List.replicate (Int.toNat (1008:Int)) (1152921504606846976:Int)).length) 1) [⟨true,0,1,true,(rowI (List.replicate (Int.toNat (1008:Int)) (1152921504606846976:Int))),true⟩],(0:Int)≤2∧(2:Int)<((3:Nat):Int),0=0,3≤3,0=0,InR .i64 3,false=false,(0:Int)≤2∧(2:Int)<((3:Nat):Int),0=0,0=0,(0:Int)≤0∧(0:Int)<(((List.replicate (Int.toNat (1008:Int)) (1152921504606846976:Int)).length:Nat):Int),0=0,((0+0*1)+1)≤(rowI (List.replicate (Int.toNat (1008:Int)) (1152921504606846976:Int))).length,0=0,InR .i64 1,true=true,(0:Int)≤1∧(1:Int)<((3:Nat):Int),0=0,0=0,0=0])
 (hg:G Try.prog E (Yi Try.prog) ⟨([.rsl Wf 0 2,.int .i64 7,J,J,J,J,.int .i64 1007,.sl 0 0 0 3 1,J,.int .i64 1]++jj 43 ([.int .i64 (((List.replicate (Int.toNat (1008:Int)) (1152921504606846976:Int)).length:Nat):Int),.int .i64 0]++Js 163)),[⟨true,0,1,false,[.sl 2 0 0 ((List.replicate (Int.toNat (1008:Int)) (1152921504606846976:Int)).length) 1,.sl 4 0 0 ((List.replicate (Int.toNat (1008:Int)) (1152921504606846976:Int)).length) 1,.sl 6 0 0 ((List.replicate (Int.toNat (1008:Int)) (1152921504606846976:Int)).length) 1],true⟩,⟨false,1,1,true,[],false⟩,⟨true,0,1,true,(rowI (List.replicate (Int.toNat (1008:Int)) (1152921504606846976:Int))),true⟩,⟨false,1,1,true,[],false⟩,⟨true,0,1,true,(rowI (List.replicate (Int.toNat (1008:Int)) (1152921504606846976:Int))),true⟩,⟨false,1,1,true,[],false⟩,⟨true,0,1,true,(Qw (rowI (List.replicate (Int.toNat (1008:Int)) (1152921504606846976:Int))) (0+0*1) [.int .i64 0]),true⟩]⟩):G Try.prog E [.code (Qc Try.prog 186)] ⟨[.rsl Wf 0 2,.int .i64 7]++unds (Try.f186.ntmps - 2),[]⟩ :=
 Qh (n:=400) (ds:=[]) (cs:=[]) (live:=[0,1,6,7,9,53,54]) (m:=7) (evs:=[.b true,.vn .junk,.lent [] (.sl 0 0 0 ((List.replicate (Int.toNat (1008:Int)) (1152921504606846976:Int)).length) 1) [⟨true,0,1,true,(rowI (List.replicate (Int.toNat (1008:Int)) (1152921504606846976:Int))),true⟩],.b true,.vn .junk,.lent [] (.sl 0 0 0 ((List.replicate (Int.toNat (1008:Int)) (1152921504606846976:Int)).length) 1) [⟨true,0,1,true,(rowI (List.replicate (Int.toNat (1008:Int)) (1152921504606846976:Int))),true⟩],.b true,.vn .junk,.lent [] (.sl 0 0 0 ((List.replicate (Int.toNat (1008:Int)) (1152921504606846976:Int)).length) 1) [⟨true,0,1,true,(rowI (List.replicate (Int.toNat (1008:Int)) (1152921504606846976:Int))),true⟩],.b false,.b true,.stop]) (obs:=_) hE.2.1 (hE.nogh _) Qf (by kernel_rfl) ho hg
theorem f186W {E:Env} {rv:((List Int) × Int)} (hE:Qe Try.prog 186 (.tup [.rsl (rowI rv.1) 0 rv.1.length,.int .i64 rv.2]) E)
 (h:(((1:Int)≤(1008:Int)∧(1008:Int)≤2147483648)∧(((1:Int)≤(1008:Int)∧(1008:Int)≤2147483648)∧(((1:Int)≤(1008:Int)∧(1008:Int)≤2147483648)∧(∃ e:Int,(List.replicate (Int.toNat (1008:Int)) (1152921504606846976:Int))[0]?=some e∧VE E ((List.replicate (Int.toNat (1008:Int)) (1152921504606846976:Int)).set 0 0) 0 (List.replicate (Int.toNat (1008:Int)) (1152921504606846976:Int))))))):G Try.prog E [.code (Qc Try.prog 186)] ⟨[.rsl [.int .i64 1,.int .i64 200,.int .i64 6,.int .i64 1000] 0 2,.int .i64 7]++unds (Try.f186.ntmps - 2),[]⟩:=by
 obtain ⟨h1,h⟩:=h
 obtain ⟨h2,h⟩:=h
 obtain ⟨h3,h⟩:=h
 obtain ⟨e,h4,h⟩:=h
 refine p186_start_0 e hE ⟨(⟨by decide,by decide⟩),(⟨by decide,by decide⟩),(⟨by decide,by decide,by decide⟩),rfl,rfl,(fun k=>by simp [slOf]),(⟨by decide,by decide⟩),(Qr Try.func55 (by kernel_rfl) f55b (Kn (1152921504606846976:Int) (1008:Int) h1)),(⟨by decide,by decide⟩),rfl,(by decide),rfl,(⟨by decide,by decide⟩),rfl,(fun k=>by simp [slOf]),(⟨by decide,by decide⟩),(Qr Try.func55 (by kernel_rfl) f55b (Kn (1152921504606846976:Int) (1008:Int) h2)),(⟨by decide,by decide⟩),rfl,(by decide),rfl,(⟨by decide,by decide⟩),rfl,(fun k=>by simp [slOf]),(⟨by decide,by decide⟩),(Qr Try.func55 (by kernel_rfl) f55b (Kn (1152921504606846976:Int) (1008:Int) h3)),(⟨by decide,by decide⟩),rfl,(by decide),rfl,(⟨by decide,by decide⟩),rfl,(⟨by decide,by decide⟩),rfl,rfl,(Qn h4),rfl,(rf cI 1 0 1 h4),rfl,(⟨by decide,by decide⟩),rfl,(⟨by decide,by decide⟩),rfl,rfl,rfl,trivial⟩ ?_
 have h:=(h 0 0)
 simp only [Yg,List.length_set] at h
 rw [(show Qw (rowI (List.replicate (Int.toNat (1008:Int)) (1152921504606846976:Int))) (0+0*1) [.int .i64 0]=rowI ((List.replicate (Int.toNat (1008:Int)) (1152921504606846976:Int)).set 0 0) from QJ cI (s:=1) (k:=0) (fun _=>rfl) h4 rfl (by first | decide | simp))]
 exact h
theorem p186_1002_0 (v6:List Int) (j:Nat) (v4:List Int) (g6:Nat) (g4:Nat) (e:Int) (e1:Int) (e2:Int) (e3:Int) {E:Env} {rv:AV} (hE:Qe Try.prog 186 rv E) (ho:AllP [(decide ((j:Int)<(((List.replicate (Int.toNat (1008:Int)) (1152921504606846976:Int)).length:Nat):Int)))=true,(0:Int)≤1∧(1:Int)<((3:Nat):Int),0=0,0=0,InR .i64 2,(0:Int)≤2∧(2:Int)<((3:Nat):Int),0=0,0=0,0≤(j:Int)∧(j:Int)<(v6.length:Int),g6=g6,g6=g6,((rowI v6).drop (0+(Int.toNat (j:Int))*1)).take 1=[.int .i64 e],0≤(j:Int)∧(j:Int)<(v4.length:Int),g4=g4,((0+(Int.toNat (j:Int))*1)+1)≤(rowI v4).length,g4=g4,(0:Int)≤1∧(1:Int)<((2:Nat):Int),InR .i64 ((j:Int) - 6),(decide (((j:Int) - 6)≥0))=true,(0:Int)≤1∧(1:Int)<((3:Nat):Int),0=0,0=0,0≤((j:Int) - 6)∧((j:Int) - 6)<(v4.length:Int),g4=g4,g4=g4,((Qw (rowI v4) (0+(Int.toNat (j:Int))*1) [.int .i64 e]).drop (0+(Int.toNat ((j:Int) - 6))*1)).take 1=[.int .i64 e2],(decide (e2<1152921504606846976))=true,(0:Int)≤1∧(1:Int)<((3:Nat):Int),0=0,0=0,(0:Int)≤1∧(1:Int)<((3:Nat):Int),0=0,0=0,0≤(j:Int)∧(j:Int)<(v4.length:Int),g4=g4,g4=g4,((Qw (rowI v4) (0+(Int.toNat (j:Int))*1) [.int .i64 e]).drop (0+(Int.toNat (j:Int))*1)).take 1=[.int .i64 e3],(0:Int)≤1∧(1:Int)<((3:Nat):Int),0=0,0=0,0≤((j:Int) - 6)∧((j:Int) - 6)<(v4.length:Int),g4=g4,g4=g4,((Qw (rowI v4) (0+(Int.toNat (j:Int))*1) [.int .i64 e]).drop (0+(Int.toNat ((j:Int) - 6))*1)).take 1=[.int .i64 e2],(0:Int)≤1∧(1:Int)<((2:Nat):Int),InR .i64 (e2+1000),0≤(j:Int)∧(j:Int)<(v4.length:Int),g4=g4,((0+(Int.toNat (j:Int))*1)+1)≤(Qw (rowI v4) (0+(Int.toNat (j:Int))*1) [.int .i64 e]).length,g4=g4,InR .i64 ((j:Int)+1)])
 (hg:G Try.prog E (Yi Try.prog) ⟨([.rsl [.int .i64 1,.int .i64 200,.int .i64 6,.int .i64 1000] 0 2,.int .i64 7,J,J,J,J,.int .i64 1007,.sl 0 0 0 3 1,J,.int .i64 1]++jj 43 ([.int .i64 (((List.replicate (Int.toNat (1008:Int)) (1152921504606846976:Int)).length:Nat):Int),.int .i64 ((j:Int)+1)]++Js 163)),[⟨true,0,1,false,[.sl 2 0 0 ((List.replicate (Int.toNat (1008:Int)) (1152921504606846976:Int)).length) 1,.sl 4 g4 0 v4.length 1,.sl 6 g6 0 v6.length 1],true⟩,⟨false,1,1,true,[],false⟩,⟨true,0,1,true,(rowI (List.replicate (Int.toNat (1008:Int)) (1152921504606846976:Int))),true⟩,⟨false,1,1,true,[],false⟩,⟨true,g4,1,true,(Qw (Qw (rowI v4) (0+(Int.toNat (j:Int))*1) [.int .i64 e]) (0+(Int.toNat (j:Int))*1) [.int .i64 (iMin e3 (e2+1000))]),true⟩,⟨false,1,1,true,[],false⟩,⟨true,g6,1,true,(rowI v6),true⟩]⟩):G Try.prog E (Yi Try.prog) (Yg v6 j v4 g6 g4) :=
 Qh (n:=400) (ds:=[]) (cs:=[]) (live:=[0,1,6,7,9,53,54]) (m:=7) (evs:=[.b true,.auto,.auto,.ld (.int .i64 e),.b true,.auto,.ld (.int .i64 e2),.b true,.auto,.auto,.ld (.int .i64 e3),.auto,.ld (.int .i64 e2),.stop]) (obs:=_) hE.2.1 (hE.nogh _) Qf (by kernel_rfl) ho hg
theorem p186_1002_1 (v6:List Int) (j:Nat) (v4:List Int) (g6:Nat) (g4:Nat) (e:Int) (e1:Int) (e2:Int) {E:Env} {rv:AV} (hE:Qe Try.prog 186 rv E) (ho:AllP [(decide ((j:Int)<(((List.replicate (Int.toNat (1008:Int)) (1152921504606846976:Int)).length:Nat):Int)))=true,(0:Int)≤1∧(1:Int)<((3:Nat):Int),0=0,0=0,InR .i64 2,(0:Int)≤2∧(2:Int)<((3:Nat):Int),0=0,0=0,0≤(j:Int)∧(j:Int)<(v6.length:Int),g6=g6,g6=g6,((rowI v6).drop (0+(Int.toNat (j:Int))*1)).take 1=[.int .i64 e],0≤(j:Int)∧(j:Int)<(v4.length:Int),g4=g4,((0+(Int.toNat (j:Int))*1)+1)≤(rowI v4).length,g4=g4,(0:Int)≤1∧(1:Int)<((2:Nat):Int),InR .i64 ((j:Int) - 6),(decide (((j:Int) - 6)≥0))=true,(0:Int)≤1∧(1:Int)<((3:Nat):Int),0=0,0=0,0≤((j:Int) - 6)∧((j:Int) - 6)<(v4.length:Int),g4=g4,g4=g4,((Qw (rowI v4) (0+(Int.toNat (j:Int))*1) [.int .i64 e]).drop (0+(Int.toNat ((j:Int) - 6))*1)).take 1=[.int .i64 e2],(decide (e2<1152921504606846976))=false,InR .i64 ((j:Int)+1)])
 (hg:G Try.prog E (Yi Try.prog) ⟨([.rsl [.int .i64 1,.int .i64 200,.int .i64 6,.int .i64 1000] 0 2,.int .i64 7,J,J,J,J,.int .i64 1007,.sl 0 0 0 3 1,J,.int .i64 1]++jj 43 ([.int .i64 (((List.replicate (Int.toNat (1008:Int)) (1152921504606846976:Int)).length:Nat):Int),.int .i64 ((j:Int)+1)]++Js 163)),[⟨true,0,1,false,[.sl 2 0 0 ((List.replicate (Int.toNat (1008:Int)) (1152921504606846976:Int)).length) 1,.sl 4 g4 0 v4.length 1,.sl 6 g6 0 v6.length 1],true⟩,⟨false,1,1,true,[],false⟩,⟨true,0,1,true,(rowI (List.replicate (Int.toNat (1008:Int)) (1152921504606846976:Int))),true⟩,⟨false,1,1,true,[],false⟩,⟨true,g4,1,true,(Qw (rowI v4) (0+(Int.toNat (j:Int))*1) [.int .i64 e]),true⟩,⟨false,1,1,true,[],false⟩,⟨true,g6,1,true,(rowI v6),true⟩]⟩):G Try.prog E (Yi Try.prog) (Yg v6 j v4 g6 g4) :=
 Qh (n:=400) (ds:=[]) (cs:=[]) (live:=[0,1,6,7,9,53,54]) (m:=7) (evs:=[.b true,.auto,.auto,.ld (.int .i64 e),.b true,.auto,.ld (.int .i64 e2),.b false,.stop]) (obs:=_) hE.2.1 (hE.nogh _) Qf (by kernel_rfl) ho hg
theorem p186_1002_2 (v6:List Int) (j:Nat) (v4:List Int) (g6:Nat) (g4:Nat) (e:Int) (e1:Int) {E:Env} {rv:AV} (hE:Qe Try.prog 186 rv E) (ho:AllP [(decide ((j:Int)<(((List.replicate (Int.toNat (1008:Int)) (1152921504606846976:Int)).length:Nat):Int)))=true,(0:Int)≤1∧(1:Int)<((3:Nat):Int),0=0,0=0,InR .i64 2,(0:Int)≤2∧(2:Int)<((3:Nat):Int),0=0,0=0,0≤(j:Int)∧(j:Int)<(v6.length:Int),g6=g6,g6=g6,((rowI v6).drop (0+(Int.toNat (j:Int))*1)).take 1=[.int .i64 e],0≤(j:Int)∧(j:Int)<(v4.length:Int),g4=g4,((0+(Int.toNat (j:Int))*1)+1)≤(rowI v4).length,g4=g4,(0:Int)≤1∧(1:Int)<((2:Nat):Int),InR .i64 ((j:Int) - 6),(decide (((j:Int) - 6)≥0))=false,false=false,InR .i64 ((j:Int)+1)])
 (hg:G Try.prog E (Yi Try.prog) ⟨([.rsl Wf 0 2,.int .i64 7,J,J,J,J,.int .i64 1007,.sl 0 0 0 3 1,J,.int .i64 1]++jj 43 ([.int .i64 (((List.replicate (Int.toNat (1008:Int)) (1152921504606846976:Int)).length:Nat):Int),.int .i64 ((j:Int)+1)]++Js 163)),[⟨true,0,1,false,[.sl 2 0 0 ((List.replicate (Int.toNat (1008:Int)) (1152921504606846976:Int)).length) 1,.sl 4 g4 0 v4.length 1,.sl 6 g6 0 v6.length 1],true⟩,⟨false,1,1,true,[],false⟩,⟨true,0,1,true,(rowI (List.replicate (Int.toNat (1008:Int)) (1152921504606846976:Int))),true⟩,⟨false,1,1,true,[],false⟩,⟨true,g4,1,true,(Qw (rowI v4) (0+(Int.toNat (j:Int))*1) [.int .i64 e]),true⟩,⟨false,1,1,true,[],false⟩,⟨true,g6,1,true,(rowI v6),true⟩]⟩):G Try.prog E (Yi Try.prog) (Yg v6 j v4 g6 g4) :=
 Qh (n:=400) (ds:=[]) (cs:=[]) (live:=[0,1,6,7,9,53,54]) (m:=7) (evs:=[.b true,.auto,.auto,.ld (.int .i64 e),.b false,.b false,.stop]) (obs:=_) hE.2.1 (hE.nogh _) Qf (by kernel_rfl) ho hg
theorem p186_1002_3 (v6:List Int) (j:Nat) (v4:List Int) (g6:Nat) (g4:Nat) {E:Env} {rv:AV} (hE:Qe Try.prog 186 rv E) (ho:AllP [(decide ((j:Int)<(((List.replicate (Int.toNat (1008:Int)) (1152921504606846976:Int)).length:Nat):Int)))=false,InR .i64 0,true=true,(0:Int)≤0∧(0:Int)<((3:Nat):Int),0=0,0=0,0=0])
 (hg:G Try.prog E (qy Try.prog) ⟨([.rsl Wf 0 2,.int .i64 7,J,J,J,J,.int .i64 1007,.sl 0 0 0 3 1,J,.int .i64 0]++jj 43 ([.int .i64 (((List.replicate (Int.toNat (1008:Int)) (1152921504606846976:Int)).length:Nat):Int),.int .i64 0]++Js 163)),[⟨true,0,1,false,[.sl 2 0 0 ((List.replicate (Int.toNat (1008:Int)) (1152921504606846976:Int)).length) 1,.sl 4 g4 0 v4.length 1,.sl 6 g6 0 v6.length 1],true⟩,⟨false,1,1,true,[],false⟩,⟨true,0,1,true,(rowI (List.replicate (Int.toNat (1008:Int)) (1152921504606846976:Int))),true⟩,⟨false,1,1,true,[],false⟩,⟨true,g4,1,true,(rowI v4),true⟩,⟨false,1,1,true,[],false⟩,⟨true,g6,1,true,(rowI v6),true⟩]⟩):G Try.prog E (Yi Try.prog) (Yg v6 j v4 g6 g4) :=
 Qh (n:=400) (ds:=[]) (cs:=[]) (live:=[0,1,6,7,9,53,54]) (m:=7) (evs:=[.b false,.b true,.stop]) (obs:=_) hE.2.1 (hE.nogh _) Qf (by kernel_rfl) ho hg
theorem f186W1002 (v6:List Int) (j:Nat) (v4:List Int) {E:Env} {rv:((List Int) × Int)} (hE:Qe Try.prog 186 (.tup [.rsl (rowI rv.1) 0 rv.1.length,.int .i64 rv.2]) E)
 (h:(((j:Int)<(((List.replicate (Int.toNat (1008:Int)) (1152921504606846976:Int)).length:Nat):Int)→(∃ e:Int,v6[j]?=some e∧(∃ e1:Int,v4[j]?=some e1∧((I6 ((j:Int) - 6))∧((((j:Int) - 6)≥0→(0≤((j:Int) - 6)∧(∃ e2:Int,(v4.set j e)[Int.toNat ((j:Int) - 6)]?=some e2∧((e2<1152921504606846976→(∃ e3:Int,(v4.set j e)[j]?=some e3∧((I6 (e2+1000))∧((I6 ((j:Int)+1))∧VE E v6 (j+1) ((v4.set j e).set j (iMin e3 (e2+1000)))))))∧(¬ (e2<1152921504606846976)→((I6 ((j:Int)+1))∧VE E v6 (j+1) (v4.set j e)))))))∧(¬ (((j:Int) - 6)≥0)→((I6 ((j:Int)+1))∧VE E v6 (j+1) (v4.set j e))))))))∧(¬ ((j:Int)<(((List.replicate (Int.toNat (1008:Int)) (1152921504606846976:Int)).length:Nat):Int))→Qbe E v4 v6 0 (List.replicate (Int.toNat (1008:Int)) (1152921504606846976:Int))))):VE E v6 j v4:=by
 intro g6 g4
 rcases bft (decide ((j:Int)<(((List.replicate (Int.toNat (1008:Int)) (1152921504606846976:Int)).length:Nat):Int))) with hc0 | hc0
 · have h:=h.1 (odt hc0)
   obtain ⟨e,h1,h⟩:=h
   obtain ⟨e1,h2,h⟩:=h
   obtain ⟨q19_1,h⟩:=h
   rcases bft (decide (((j:Int) - 6)≥0)) with hc1 | hc1
   · have h:=h.1 (odt hc1)
     obtain ⟨h4,h⟩:=h
     obtain ⟨e2,h3,h⟩:=h
     rcases bft (decide (e2<1152921504606846976)) with hc2 | hc2
     · have h:=h.1 (odt hc2)
       obtain ⟨e3,h5,h⟩:=h
       obtain ⟨q49_3,h⟩:=h
       obtain ⟨q54_3,h⟩:=h
       refine p186_1002_0 v6 j v4 g6 g4 e e1 e2 e3 hE ⟨hc0,(⟨by decide,by decide⟩),rfl,rfl,(⟨by decide,by decide⟩),(⟨by decide,by decide⟩),rfl,rfl,(Qn h1),rfl,rfl,(rp cI 1 0 1 h1),(Qn h2),rfl,(rf cI 1 0 1 h2),rfl,(⟨by decide,by decide⟩),q19_1,hc1,(⟨by decide,by decide⟩),rfl,rfl,(by have hx:=Qj h4 h3; simpa using hx),rfl,rfl,(by rw [(show Qw (rowI v4) (0+(Int.toNat (j:Int))*1) [.int .i64 e]=rowI (v4.set j e) from QJ cI (s:=1) (k:=0) (fun _=>rfl) h2 rfl (by first | decide | simp))]; exact rp cI 1 0 1 h3),hc2,(⟨by decide,by decide⟩),rfl,rfl,(⟨by decide,by decide⟩),rfl,rfl,(by have hx:=Qn h5; simpa using hx),rfl,rfl,(by rw [(show Qw (rowI v4) (0+(Int.toNat (j:Int))*1) [.int .i64 e]=rowI (v4.set j e) from QJ cI (s:=1) (k:=0) (fun _=>rfl) h2 rfl (by first | decide | simp))]; exact rp cI 1 0 1 h5),(⟨by decide,by decide⟩),rfl,rfl,(by have hx:=Qj h4 h3; simpa using hx),rfl,rfl,(by rw [(show Qw (rowI v4) (0+(Int.toNat (j:Int))*1) [.int .i64 e]=rowI (v4.set j e) from QJ cI (s:=1) (k:=0) (fun _=>rfl) h2 rfl (by first | decide | simp))]; exact rp cI 1 0 1 h3),(⟨by decide,by decide⟩),q49_3,(by have hx:=Qn h5; simpa using hx),rfl,(by rw [(show Qw (rowI v4) (0+(Int.toNat (j:Int))*1) [.int .i64 e]=rowI (v4.set j e) from QJ cI (s:=1) (k:=0) (fun _=>rfl) h2 rfl (by first | decide | simp))]; exact rf cI 1 0 1 h5),rfl,q54_3,trivial⟩ ?_
       have h:=(h g6 g4)
       simp only [Yg,List.length_set] at h
       rw [(show Qw (rowI v4) (0+(Int.toNat (j:Int))*1) [.int .i64 e]=rowI (v4.set j e) from QJ cI (s:=1) (k:=0) (fun _=>rfl) h2 rfl (by first | decide | simp))]; rw [(show Qw (rowI (v4.set j e)) (0+(Int.toNat (j:Int))*1) [.int .i64 (iMin e3 (e2+1000))]=rowI ((v4.set j e).set j (iMin e3 (e2+1000))) from QJ cI (s:=1) (k:=0) (fun _=>rfl) h5 rfl (by first | decide | simp))]
       exact h
     · have h:=h.2 (odf hc2)
       obtain ⟨q30_3,h⟩:=h
       refine p186_1002_1 v6 j v4 g6 g4 e e1 e2 hE ⟨hc0,(⟨by decide,by decide⟩),rfl,rfl,(⟨by decide,by decide⟩),(⟨by decide,by decide⟩),rfl,rfl,(Qn h1),rfl,rfl,(rp cI 1 0 1 h1),(Qn h2),rfl,(rf cI 1 0 1 h2),rfl,(⟨by decide,by decide⟩),q19_1,hc1,(⟨by decide,by decide⟩),rfl,rfl,(by have hx:=Qj h4 h3; simpa using hx),rfl,rfl,(by rw [(show Qw (rowI v4) (0+(Int.toNat (j:Int))*1) [.int .i64 e]=rowI (v4.set j e) from QJ cI (s:=1) (k:=0) (fun _=>rfl) h2 rfl (by first | decide | simp))]; exact rp cI 1 0 1 h3),hc2,q30_3,trivial⟩ ?_
       have h:=(h g6 g4)
       simp only [Yg,List.length_set] at h
       rw [(show Qw (rowI v4) (0+(Int.toNat (j:Int))*1) [.int .i64 e]=rowI (v4.set j e) from QJ cI (s:=1) (k:=0) (fun _=>rfl) h2 rfl (by first | decide | simp))]
       exact h
   · have h:=h.2 (odf hc1)
     obtain ⟨q22_2,h⟩:=h
     refine p186_1002_2 v6 j v4 g6 g4 e e1 hE ⟨hc0,(⟨by decide,by decide⟩),rfl,rfl,(⟨by decide,by decide⟩),(⟨by decide,by decide⟩),rfl,rfl,(Qn h1),rfl,rfl,(rp cI 1 0 1 h1),(Qn h2),rfl,(rf cI 1 0 1 h2),rfl,(⟨by decide,by decide⟩),q19_1,hc1,rfl,q22_2,trivial⟩ ?_
     have h:=(h g6 g4)
     simp only [Yg,List.length_set] at h
     rw [(show Qw (rowI v4) (0+(Int.toNat (j:Int))*1) [.int .i64 e]=rowI (v4.set j e) from QJ cI (s:=1) (k:=0) (fun _=>rfl) h2 rfl (by first | decide | simp))]
     exact h
 · have h:=h.2 (odf hc0)
   exact p186_1002_3 v6 j v4 g6 g4 hE ⟨hc0,(⟨by decide,by decide⟩),rfl,(⟨by decide,by decide⟩),rfl,rfl,rfl,trivial⟩ (h g4 g6 0)
theorem p186_1005_0 (price:Int) (tokens:Int) (left:Int) (v2:List Int) (v4:List Int) (v6:List Int) (v7_0:Nat) (v7_1:Nat) (g2:Nat) (g4:Nat) (g6:Nat) (e:Int) {E:Env} {rv:AV} (hE:Qe Try.prog 186 rv E) (ho:AllP [(decide (tokens≥6))=true,(0:Int)≤1∧(1:Int)<((3:Nat):Int),0=0,0=0,InR .i64 (tokens - 6),0≤(tokens - 6)∧(tokens - 6)<(v4.length:Int),g4=g4,g4=g4,((rowI v4).drop (0+(Int.toNat (tokens - 6))*1)).take 1=[.int .i64 e],(decide (e<1152921504606846976))=true,(0:Int)≤1∧(1:Int)<((3:Nat):Int),0=0,0=0,InR .i64 (tokens - 6),0≤(tokens - 6)∧(tokens - 6)<(v4.length:Int),g4=g4,g4=g4,((rowI v4).drop (0+(Int.toNat (tokens - 6))*1)).take 1=[.int .i64 e],InR .i64 (e+1000),((e+1000) == left)=true,InR .i64 (tokens - 6),(0:Int)≤1∧(1:Int)<((2:Nat):Int),0=0,0=0,InR .i64 ((v7_1:Int)+1),(0:Int)≤1∧(1:Int)<((2:Nat):Int),0=0,2≤2,0=0,(0:Int)≤1∧(1:Int)<((3:Nat):Int),0=0,0=0,0≤(tokens - 6)∧(tokens - 6)<(v4.length:Int),g4=g4,g4=g4,((rowI v4).drop (0+(Int.toNat (tokens - 6))*1)).take 1=[.int .i64 e]])
 (hg:G Try.prog E (Yh Try.prog) ⟨([J,J,J,J,.sl 7 0 0 2 1,.int .i64 price,J,.sl 0 0 0 3 1,J,J,J,J,.int .i64 (tokens - 6),J,.int .i64 1,.ptr 9 0 0,.int .i64 e]++jj 133 z186_4),[⟨true,0,1,false,(Qav g2 v2 g4 v4 g6 v6),true⟩,⟨false,1,1,true,[],false⟩,⟨true,g2,1,true,(rowI v2),true⟩,⟨false,1,1,true,[],false⟩,⟨true,g4,1,true,(rowI v4),true⟩,⟨false,1,1,true,[],false⟩,⟨true,g6,1,true,(rowI v6),true⟩,⟨true,0,1,true,[.int .i64 (v7_0:Int),.int .i64 ((v7_1:Int)+1)],true⟩,⟨true,0,1,true,[.int .i64 1,.int .i64 200],false⟩,⟨true,0,1,true,[.int .i64 6,.int .i64 1000],false⟩]⟩):G Try.prog E (Yh Try.prog) (Wo price tokens left v2 v4 v6 v7_0 v7_1 g2 g4 g6) :=
 Qh (n:=400) (ds:=[]) (cs:=[]) (live:=[4,5,7,12,14,15,16,150,151,152]) (m:=10) (evs:=[.b true,.auto,.auto,.ld (.int .i64 e),.b true,.auto,.auto,.ld (.int .i64 e),.b true,.auto,.auto,.auto,.ld (.int .i64 e),.stop]) (obs:=_) hE.2.1 (hE.nogh _) Qf (by kernel_rfl) ho hg
theorem p186_1005_1 (price:Int) (tokens:Int) (left:Int) (v2:List Int) (v4:List Int) (v6:List Int) (v7_0:Nat) (v7_1:Nat) (g2:Nat) (g4:Nat) (g6:Nat) (e:Int) {E:Env} {res:AV} (hE:Qe Try.prog 186 res E) (ho:AllP [(decide (tokens≥6))=true,(0:Int)≤1∧(1:Int)<((3:Nat):Int),0=0,0=0,InR .i64 (tokens - 6),0≤(tokens - 6)∧(tokens - 6)<(v4.length:Int),g4=g4,g4=g4,((rowI v4).drop (0+(Int.toNat (tokens - 6))*1)).take 1=[.int .i64 e],(decide (e<1152921504606846976))=true,(0:Int)≤1∧(1:Int)<((3:Nat):Int),0=0,0=0,InR .i64 (tokens - 6),0≤(tokens - 6)∧(tokens - 6)<(v4.length:Int),g4=g4,g4=g4,((rowI v4).drop (0+(Int.toNat (tokens - 6))*1)).take 1=[.int .i64 e],InR .i64 (e+1000),((e+1000) == left)=false,InR .i64 2,false=false,0=0])
 (hr:AvLe (.tup [.rsl [.int .i64 (v7_0:Int),.int .i64 (v7_1:Int)] 0 2,.int .i64 price]) res):G Try.prog E (Yh Try.prog) (Wo price tokens left v2 v4 v6 v7_0 v7_1 g2 g4 g6) :=
 Qb (n:=400) (evs:=[.b true,.auto,.auto,.ld (.int .i64 e),.b true,.auto,.auto,.ld (.int .i64 e),.b false,.b false]) (obs:=_) hE Try.func186 Qf (by kernel_rfl) ho hr
theorem p186_1005_2 (price:Int) (tokens:Int) (left:Int) (v2:List Int) (v4:List Int) (v6:List Int) (v7_0:Nat) (v7_1:Nat) (g2:Nat) (g4:Nat) (g6:Nat) (e:Int) {E:Env} {res:AV} (hE:Qe Try.prog 186 res E) (ho:AllP [(decide (tokens≥6))=true,(0:Int)≤1∧(1:Int)<((3:Nat):Int),0=0,0=0,InR .i64 (tokens - 6),0≤(tokens - 6)∧(tokens - 6)<(v4.length:Int),g4=g4,g4=g4,((rowI v4).drop (0+(Int.toNat (tokens - 6))*1)).take 1=[.int .i64 e],(decide (e<1152921504606846976))=false,false=false,InR .i64 2,false=false,0=0])
 (hr:AvLe (.tup [.rsl [.int .i64 (v7_0:Int),.int .i64 (v7_1:Int)] 0 2,.int .i64 price]) res):G Try.prog E (Yh Try.prog) (Wo price tokens left v2 v4 v6 v7_0 v7_1 g2 g4 g6) :=
 Qb (n:=400) (evs:=[.b true,.auto,.auto,.ld (.int .i64 e),.b false,.b false,.b false]) (obs:=_) hE Try.func186 Qf (by kernel_rfl) ho hr
theorem p186_1005_3 (price:Int) (tokens:Int) (left:Int) (v2:List Int) (v4:List Int) (v6:List Int) (v7_0:Nat) (v7_1:Nat) (g2:Nat) (g4:Nat) (g6:Nat) {E:Env} {res:AV} (hE:Qe Try.prog 186 res E) (ho:AllP [(decide (tokens≥6))=false,false=false,false=false,InR .i64 2,false=false,0=0])
 (hr:AvLe (.tup [.rsl [.int .i64 (v7_0:Int),.int .i64 (v7_1:Int)] 0 2,.int .i64 price]) res):G Try.prog E (Yh Try.prog) (Wo price tokens left v2 v4 v6 v7_0 v7_1 g2 g4 g6) :=
 Qb (n:=400) (evs:=[.b false,.b false,.b false,.b false]) (obs:=_) hE Try.func186 Qf (by kernel_rfl) ho hr
theorem f186W1005 (price:Int) (tokens:Int) (left:Int) (v2:List Int) (v4:List Int) (v6:List Int) (v7_0:Nat) (v7_1:Nat) {E:Env} {rv:((List Int) × Int)} (hE:Qe Try.prog 186 (.tup [.rsl (rowI rv.1) 0 rv.1.length,.int .i64 rv.2]) E)
 (h:((tokens≥6→((I6 (tokens - 6))∧(0≤(tokens - 6)∧(∃ e:Int,v4[Int.toNat (tokens - 6)]?=some e∧((e<1152921504606846976→((I6 (tokens - 6))∧((I6 (e+1000))∧(((e+1000)=left→((I6 (tokens - 6))∧((I6 ((v7_1:Int)+1))∧YZ E price (tokens - 6) e v2 v4 v6 v7_0 (v7_1+1))))∧(¬ ((e+1000)=left)→rv=([(v7_0:Int),(v7_1:Int)],price))))))∧(¬ (e<1152921504606846976)→rv=([(v7_0:Int),(v7_1:Int)],price)))))))∧(¬ (tokens≥6)→rv=([(v7_0:Int),(v7_1:Int)],price)))):YZ E price tokens left v2 v4 v6 v7_0 v7_1:=by
 intro g2 g4 g6
 rcases bft (decide (tokens≥6)) with hc0 | hc0
 · have h:=h.1 (odt hc0)
   obtain ⟨q4_1,h⟩:=h
   obtain ⟨h2,h⟩:=h
   obtain ⟨e,h1,h⟩:=h
   rcases bft (decide (e<1152921504606846976)) with hc1 | hc1
   · have h:=h.1 (odt hc1)
     obtain ⟨q14_2,h⟩:=h
     obtain ⟨q19_2,h⟩:=h
     rcases bft ((e+1000) == left) with hc2 | hc2
     · have h:=h.1 (eq_of_beq hc2)
       obtain ⟨q21_3,h⟩:=h
       obtain ⟨q25_3,h⟩:=h
       exact p186_1005_0 price tokens left v2 v4 v6 v7_0 v7_1 g2 g4 g6 e hE ⟨hc0,(⟨by decide,by decide⟩),rfl,rfl,q4_1,(Qj h2 h1),rfl,rfl,(rp cI 1 0 1 h1),hc1,(⟨by decide,by decide⟩),rfl,rfl,q14_2,(Qj h2 h1),rfl,rfl,(rp cI 1 0 1 h1),q19_2,hc2,q21_3,(⟨by decide,by decide⟩),rfl,rfl,q25_3,(⟨by decide,by decide⟩),rfl,(by decide),rfl,(⟨by decide,by decide⟩),rfl,rfl,(Qj h2 h1),rfl,rfl,(rp cI 1 0 1 h1),trivial⟩ (h g2 g4 g6)
     · have h:=h.2 (ne_of_beq_false hc2)
       exact p186_1005_1 price tokens left v2 v4 v6 v7_0 v7_1 g2 g4 g6 e hE ⟨hc0,(⟨by decide,by decide⟩),rfl,rfl,q4_1,(Qj h2 h1),rfl,rfl,(rp cI 1 0 1 h1),hc1,(⟨by decide,by decide⟩),rfl,rfl,q14_2,(Qj h2 h1),rfl,rfl,(rp cI 1 0 1 h1),q19_2,hc2,(⟨by decide,by decide⟩),rfl,rfl,trivial⟩ (AvLe.of_eq (by rw [h]; try rfl))
   · have h:=h.2 (odf hc1)
     exact p186_1005_2 price tokens left v2 v4 v6 v7_0 v7_1 g2 g4 g6 e hE ⟨hc0,(⟨by decide,by decide⟩),rfl,rfl,q4_1,(Qj h2 h1),rfl,rfl,(rp cI 1 0 1 h1),hc1,rfl,(⟨by decide,by decide⟩),rfl,rfl,trivial⟩ (AvLe.of_eq (by rw [h]; try rfl))
 · have h:=h.2 (odf hc0)
   exact p186_1005_3 price tokens left v2 v4 v6 v7_0 v7_1 g2 g4 g6 hE ⟨hc0,rfl,rfl,(⟨by decide,by decide⟩),rfl,rfl,trivial⟩ (AvLe.of_eq (by rw [h]; try rfl))
theorem p186_2_0 (v4:List Int) (v6:List Int) (j:Nat) (v2:List Int) (g4:Nat) (g6:Nat) (g2:Nat) (e:Int) (e1:Int) (e2:Int) (e3:Int) {E:Env} {rv:AV} (hE:Qe Try.prog 186 rv E) (ho:AllP [(decide ((j:Int)<(((List.replicate (Int.toNat (1008:Int)) (1152921504606846976:Int)).length:Nat):Int)))=true,(0:Int)≤0∧(0:Int)<((3:Nat):Int),0=0,0=0,InR .i64 1,(0:Int)≤1∧(1:Int)<((3:Nat):Int),0=0,0=0,0≤(j:Int)∧(j:Int)<(v4.length:Int),g4=g4,g4=g4,((rowI v4).drop (0+(Int.toNat (j:Int))*1)).take 1=[.int .i64 e],0≤(j:Int)∧(j:Int)<(v2.length:Int),g2=g2,((0+(Int.toNat (j:Int))*1)+1)≤(rowI v2).length,g2=g2,(0:Int)≤0∧(0:Int)<((2:Nat):Int),InR .i64 ((j:Int) - 1),(decide (((j:Int) - 1)≥0))=true,(0:Int)≤0∧(0:Int)<((3:Nat):Int),0=0,0=0,0≤((j:Int) - 1)∧((j:Int) - 1)<(v2.length:Int),g2=g2,g2=g2,((Qw (rowI v2) (0+(Int.toNat (j:Int))*1) [.int .i64 e]).drop (0+(Int.toNat ((j:Int) - 1))*1)).take 1=[.int .i64 e2],(decide (e2<1152921504606846976))=true,(0:Int)≤0∧(0:Int)<((3:Nat):Int),0=0,0=0,(0:Int)≤0∧(0:Int)<((3:Nat):Int),0=0,0=0,0≤(j:Int)∧(j:Int)<(v2.length:Int),g2=g2,g2=g2,((Qw (rowI v2) (0+(Int.toNat (j:Int))*1) [.int .i64 e]).drop (0+(Int.toNat (j:Int))*1)).take 1=[.int .i64 e3],(0:Int)≤0∧(0:Int)<((3:Nat):Int),0=0,0=0,0≤((j:Int) - 1)∧((j:Int) - 1)<(v2.length:Int),g2=g2,g2=g2,((Qw (rowI v2) (0+(Int.toNat (j:Int))*1) [.int .i64 e]).drop (0+(Int.toNat ((j:Int) - 1))*1)).take 1=[.int .i64 e2],(0:Int)≤0∧(0:Int)<((2:Nat):Int),InR .i64 (e2+200),0≤(j:Int)∧(j:Int)<(v2.length:Int),g2=g2,((0+(Int.toNat (j:Int))*1)+1)≤(Qw (rowI v2) (0+(Int.toNat (j:Int))*1) [.int .i64 e]).length,g2=g2,InR .i64 ((j:Int)+1)])
 (hg:G Try.prog E (qy Try.prog) ⟨([.rsl [.int .i64 1,.int .i64 200,.int .i64 6,.int .i64 1000] 0 2,.int .i64 7,J,J,J,J,.int .i64 1007,.sl 0 0 0 3 1,J,.int .i64 0]++jj 43 ([.int .i64 (((List.replicate (Int.toNat (1008:Int)) (1152921504606846976:Int)).length:Nat):Int),.int .i64 ((j:Int)+1)]++Js 163)),[⟨true,0,1,false,[.sl 2 g2 0 v2.length 1,.sl 4 g4 0 v4.length 1,.sl 6 g6 0 v6.length 1],true⟩,⟨false,1,1,true,[],false⟩,⟨true,g2,1,true,(Qw (Qw (rowI v2) (0+(Int.toNat (j:Int))*1) [.int .i64 e]) (0+(Int.toNat (j:Int))*1) [.int .i64 (iMin e3 (e2+200))]),true⟩,⟨false,1,1,true,[],false⟩,⟨true,g4,1,true,(rowI v4),true⟩,⟨false,1,1,true,[],false⟩,⟨true,g6,1,true,(rowI v6),true⟩]⟩):G Try.prog E (qy Try.prog) (yx v4 v6 j v2 g4 g6 g2) :=
 Qh (n:=400) (ds:=[]) (cs:=[]) (live:=[0,1,6,7,9,53,54]) (m:=7) (evs:=[.b true,.auto,.auto,.ld (.int .i64 e),.b true,.auto,.ld (.int .i64 e2),.b true,.auto,.auto,.ld (.int .i64 e3),.auto,.ld (.int .i64 e2),.stop]) (obs:=_) hE.2.1 (hE.nogh _) Qf (by kernel_rfl) ho hg
theorem p186_2_1 (v4:List Int) (v6:List Int) (j:Nat) (v2:List Int) (g4:Nat) (g6:Nat) (g2:Nat) (e:Int) (e1:Int) (e2:Int) {E:Env} {rv:AV} (hE:Qe Try.prog 186 rv E) (ho:AllP [(decide ((j:Int)<(((List.replicate (Int.toNat (1008:Int)) (1152921504606846976:Int)).length:Nat):Int)))=true,(0:Int)≤0∧(0:Int)<((3:Nat):Int),0=0,0=0,InR .i64 1,(0:Int)≤1∧(1:Int)<((3:Nat):Int),0=0,0=0,0≤(j:Int)∧(j:Int)<(v4.length:Int),g4=g4,g4=g4,((rowI v4).drop (0+(Int.toNat (j:Int))*1)).take 1=[.int .i64 e],0≤(j:Int)∧(j:Int)<(v2.length:Int),g2=g2,((0+(Int.toNat (j:Int))*1)+1)≤(rowI v2).length,g2=g2,(0:Int)≤0∧(0:Int)<((2:Nat):Int),InR .i64 ((j:Int) - 1),(decide (((j:Int) - 1)≥0))=true,(0:Int)≤0∧(0:Int)<((3:Nat):Int),0=0,0=0,0≤((j:Int) - 1)∧((j:Int) - 1)<(v2.length:Int),g2=g2,g2=g2,((Qw (rowI v2) (0+(Int.toNat (j:Int))*1) [.int .i64 e]).drop (0+(Int.toNat ((j:Int) - 1))*1)).take 1=[.int .i64 e2],(decide (e2<1152921504606846976))=false,InR .i64 ((j:Int)+1)])
 (hg:G Try.prog E (qy Try.prog) ⟨([.rsl [.int .i64 1,.int .i64 200,.int .i64 6,.int .i64 1000] 0 2,.int .i64 7,J,J,J,J,.int .i64 1007,.sl 0 0 0 3 1,J,.int .i64 0]++jj 43 ([.int .i64 (((List.replicate (Int.toNat (1008:Int)) (1152921504606846976:Int)).length:Nat):Int),.int .i64 ((j:Int)+1)]++Js 163)),[⟨true,0,1,false,[.sl 2 g2 0 v2.length 1,.sl 4 g4 0 v4.length 1,.sl 6 g6 0 v6.length 1],true⟩,⟨false,1,1,true,[],false⟩,⟨true,g2,1,true,(Qw (rowI v2) (0+(Int.toNat (j:Int))*1) [.int .i64 e]),true⟩,⟨false,1,1,true,[],false⟩,⟨true,g4,1,true,(rowI v4),true⟩,⟨false,1,1,true,[],false⟩,⟨true,g6,1,true,(rowI v6),true⟩]⟩):G Try.prog E (qy Try.prog) (yx v4 v6 j v2 g4 g6 g2) :=
 Qh (n:=400) (ds:=[]) (cs:=[]) (live:=[0,1,6,7,9,53,54]) (m:=7) (evs:=[.b true,.auto,.auto,.ld (.int .i64 e),.b true,.auto,.ld (.int .i64 e2),.b false,.stop]) (obs:=_) hE.2.1 (hE.nogh _) Qf (by kernel_rfl) ho hg
theorem p186_2_2 (v4:List Int) (v6:List Int) (j:Nat) (v2:List Int) (g4:Nat) (g6:Nat) (g2:Nat) (e:Int) (e1:Int) {E:Env} {rv:AV} (hE:Qe Try.prog 186 rv E) (ho:AllP [(decide ((j:Int)<(((List.replicate (Int.toNat (1008:Int)) (1152921504606846976:Int)).length:Nat):Int)))=true,(0:Int)≤0∧(0:Int)<((3:Nat):Int),0=0,0=0,InR .i64 1,(0:Int)≤1∧(1:Int)<((3:Nat):Int),0=0,0=0,0≤(j:Int)∧(j:Int)<(v4.length:Int),g4=g4,g4=g4,((rowI v4).drop (0+(Int.toNat (j:Int))*1)).take 1=[.int .i64 e],0≤(j:Int)∧(j:Int)<(v2.length:Int),g2=g2,((0+(Int.toNat (j:Int))*1)+1)≤(rowI v2).length,g2=g2,(0:Int)≤0∧(0:Int)<((2:Nat):Int),InR .i64 ((j:Int) - 1),(decide (((j:Int) - 1)≥0))=false,false=false,InR .i64 ((j:Int)+1)])
 (hg:G Try.prog E (qy Try.prog) ⟨([.rsl Wf 0 2,.int .i64 7,J,J,J,J,.int .i64 1007,.sl 0 0 0 3 1,J,.int .i64 0]++jj 43 ([.int .i64 (((List.replicate (Int.toNat (1008:Int)) (1152921504606846976:Int)).length:Nat):Int),.int .i64 ((j:Int)+1)]++Js 163)),[⟨true,0,1,false,(Qav g2 v2 g4 v4 g6 v6),true⟩,⟨false,1,1,true,[],false⟩,⟨true,g2,1,true,(Qw (rowI v2) (0+(Int.toNat (j:Int))*1) [.int .i64 e]),true⟩,⟨false,1,1,true,[],false⟩,⟨true,g4,1,true,(rowI v4),true⟩,⟨false,1,1,true,[],false⟩,⟨true,g6,1,true,(rowI v6),true⟩]⟩):G Try.prog E (qy Try.prog) (yx v4 v6 j v2 g4 g6 g2) :=
 Qh (n:=400) (ds:=[]) (cs:=[]) (live:=[0,1,6,7,9,53,54]) (m:=7) (evs:=[.b true,.auto,.auto,.ld (.int .i64 e),.b false,.b false,.stop]) (obs:=_) hE.2.1 (hE.nogh _) Qf (by kernel_rfl) ho hg
theorem p186_2_3 (v4:List Int) (v6:List Int) (j:Nat) (v2:List Int) (g4:Nat) (g6:Nat) (g2:Nat) {E:Env} {rv:AV} (hE:Qe Try.prog 186 rv E) (ho:AllP [(decide ((j:Int)<(((List.replicate (Int.toNat (1008:Int)) (1152921504606846976:Int)).length:Nat):Int)))=false,InR .i64 (-1),false=false])
 (hg:G Try.prog E (yy Try.prog) ⟨([.rsl Wf 0 2]++jj 5 ([.int .i64 1007,.sl 0 0 0 3 1,J,J,J,J,.int .i64 7,.int .i64 7]++Js 204)),(z186_3 g2 v2 g4 v4 g6 v6)⟩):G Try.prog E (qy Try.prog) (yx v4 v6 j v2 g4 g6 g2) :=
 Qh (n:=400) (ds:=[]) (cs:=[]) (live:=[0,6,7,12,13]) (m:=7) (evs:=[.b false,.b false,.stop]) (obs:=_) hE.2.1 (hE.nogh _) Qf (by kernel_rfl) ho hg
theorem f186W2 (v4:List Int) (v6:List Int) (j:Nat) (v2:List Int) {E:Env} {rv:((List Int) × Int)} (hE:Qe Try.prog 186 (.tup [.rsl (rowI rv.1) 0 rv.1.length,.int .i64 rv.2]) E)
 (h:(((j:Int)<(((List.replicate (Int.toNat (1008:Int)) (1152921504606846976:Int)).length:Nat):Int)→(∃ e:Int,v4[j]?=some e∧(∃ e1:Int,v2[j]?=some e1∧((I6 ((j:Int) - 1))∧((((j:Int) - 1)≥0→(0≤((j:Int) - 1)∧(∃ e2:Int,(v2.set j e)[Int.toNat ((j:Int) - 1)]?=some e2∧((e2<1152921504606846976→(∃ e3:Int,(v2.set j e)[j]?=some e3∧((I6 (e2+200))∧((I6 ((j:Int)+1))∧Qbe E v4 v6 (j+1) ((v2.set j e).set j (iMin e3 (e2+200)))))))∧(¬ (e2<1152921504606846976)→((I6 ((j:Int)+1))∧Qbe E v4 v6 (j+1) (v2.set j e)))))))∧(¬ (((j:Int) - 1)≥0)→((I6 ((j:Int)+1))∧Qbe E v4 v6 (j+1) (v2.set j e))))))))∧(¬ ((j:Int)<(((List.replicate (Int.toNat (1008:Int)) (1152921504606846976:Int)).length:Nat):Int))→f186G3 E v2 v4 v6 7 7))):Qbe E v4 v6 j v2:=by
 intro g4 g6 g2
 rcases bft (decide ((j:Int)<(((List.replicate (Int.toNat (1008:Int)) (1152921504606846976:Int)).length:Nat):Int))) with hc0 | hc0
 · have h:=h.1 (odt hc0)
   obtain ⟨e,h1,h⟩:=h
   obtain ⟨e1,h2,h⟩:=h
   obtain ⟨q19_1,h⟩:=h
   rcases bft (decide (((j:Int) - 1)≥0)) with hc1 | hc1
   · have h:=h.1 (odt hc1)
     obtain ⟨h4,h⟩:=h
     obtain ⟨e2,h3,h⟩:=h
     rcases bft (decide (e2<1152921504606846976)) with hc2 | hc2
     · have h:=h.1 (odt hc2)
       obtain ⟨e3,h5,h⟩:=h
       obtain ⟨q49_3,h⟩:=h
       obtain ⟨q54_3,h⟩:=h
       refine p186_2_0 v4 v6 j v2 g4 g6 g2 e e1 e2 e3 hE ⟨hc0,(⟨by decide,by decide⟩),rfl,rfl,(⟨by decide,by decide⟩),(⟨by decide,by decide⟩),rfl,rfl,(Qn h1),rfl,rfl,(rp cI 1 0 1 h1),(Qn h2),rfl,(rf cI 1 0 1 h2),rfl,(⟨by decide,by decide⟩),q19_1,hc1,(⟨by decide,by decide⟩),rfl,rfl,(by have hx:=Qj h4 h3; simpa using hx),rfl,rfl,(by rw [(show Qw (rowI v2) (0+(Int.toNat (j:Int))*1) [.int .i64 e]=rowI (v2.set j e) from QJ cI (s:=1) (k:=0) (fun _=>rfl) h2 rfl (by first | decide | simp))]; exact rp cI 1 0 1 h3),hc2,(⟨by decide,by decide⟩),rfl,rfl,(⟨by decide,by decide⟩),rfl,rfl,(by have hx:=Qn h5; simpa using hx),rfl,rfl,(by rw [(show Qw (rowI v2) (0+(Int.toNat (j:Int))*1) [.int .i64 e]=rowI (v2.set j e) from QJ cI (s:=1) (k:=0) (fun _=>rfl) h2 rfl (by first | decide | simp))]; exact rp cI 1 0 1 h5),(⟨by decide,by decide⟩),rfl,rfl,(by have hx:=Qj h4 h3; simpa using hx),rfl,rfl,(by rw [(show Qw (rowI v2) (0+(Int.toNat (j:Int))*1) [.int .i64 e]=rowI (v2.set j e) from QJ cI (s:=1) (k:=0) (fun _=>rfl) h2 rfl (by first | decide | simp))]; exact rp cI 1 0 1 h3),(⟨by decide,by decide⟩),q49_3,(by have hx:=Qn h5; simpa using hx),rfl,(by rw [(show Qw (rowI v2) (0+(Int.toNat (j:Int))*1) [.int .i64 e]=rowI (v2.set j e) from QJ cI (s:=1) (k:=0) (fun _=>rfl) h2 rfl (by first | decide | simp))]; exact rf cI 1 0 1 h5),rfl,q54_3,trivial⟩ ?_
       have h:=(h g4 g6 g2)
       simp only [yx,List.length_set] at h
       rw [(show Qw (rowI v2) (0+(Int.toNat (j:Int))*1) [.int .i64 e]=rowI (v2.set j e) from QJ cI (s:=1) (k:=0) (fun _=>rfl) h2 rfl (by first | decide | simp))]; rw [(show Qw (rowI (v2.set j e)) (0+(Int.toNat (j:Int))*1) [.int .i64 (iMin e3 (e2+200))]=rowI ((v2.set j e).set j (iMin e3 (e2+200))) from QJ cI (s:=1) (k:=0) (fun _=>rfl) h5 rfl (by first | decide | simp))]
       exact h
     · have h:=h.2 (odf hc2)
       obtain ⟨q30_3,h⟩:=h
       refine p186_2_1 v4 v6 j v2 g4 g6 g2 e e1 e2 hE ⟨hc0,(⟨by decide,by decide⟩),rfl,rfl,(⟨by decide,by decide⟩),(⟨by decide,by decide⟩),rfl,rfl,(Qn h1),rfl,rfl,(rp cI 1 0 1 h1),(Qn h2),rfl,(rf cI 1 0 1 h2),rfl,(⟨by decide,by decide⟩),q19_1,hc1,(⟨by decide,by decide⟩),rfl,rfl,(by have hx:=Qj h4 h3; simpa using hx),rfl,rfl,(by rw [(show Qw (rowI v2) (0+(Int.toNat (j:Int))*1) [.int .i64 e]=rowI (v2.set j e) from QJ cI (s:=1) (k:=0) (fun _=>rfl) h2 rfl (by first | decide | simp))]; exact rp cI 1 0 1 h3),hc2,q30_3,trivial⟩ ?_
       have h:=(h g4 g6 g2)
       simp only [yx,List.length_set] at h
       rw [(show Qw (rowI v2) (0+(Int.toNat (j:Int))*1) [.int .i64 e]=rowI (v2.set j e) from QJ cI (s:=1) (k:=0) (fun _=>rfl) h2 rfl (by first | decide | simp))]
       exact h
   · have h:=h.2 (odf hc1)
     obtain ⟨q22_2,h⟩:=h
     refine p186_2_2 v4 v6 j v2 g4 g6 g2 e e1 hE ⟨hc0,(⟨by decide,by decide⟩),rfl,rfl,(⟨by decide,by decide⟩),(⟨by decide,by decide⟩),rfl,rfl,(Qn h1),rfl,rfl,(rp cI 1 0 1 h1),(Qn h2),rfl,(rf cI 1 0 1 h2),rfl,(⟨by decide,by decide⟩),q19_1,hc1,rfl,q22_2,trivial⟩ ?_
     have h:=(h g4 g6 g2)
     simp only [yx,List.length_set] at h
     rw [(show Qw (rowI v2) (0+(Int.toNat (j:Int))*1) [.int .i64 e]=rowI (v2.set j e) from QJ cI (s:=1) (k:=0) (fun _=>rfl) h2 rfl (by first | decide | simp))]
     exact h
 · have h:=h.2 (odf hc0)
   exact p186_2_3 v4 v6 j v2 g4 g6 g2 hE ⟨hc0,(⟨by decide,by decide⟩),rfl,trivial⟩ (h g2 g4 g6)
theorem p186_3_0 (v2:List Int) (v4:List Int) (v6:List Int) (t:Nat) (tokens:Nat) (g2:Nat) (g4:Nat) (g6:Nat) (e:Int) (e1:Int) {E:Env} {rv:AV} (hE:Qe Try.prog 186 rv E) (ho:AllP [(decide ((t:Int)≤1007))=true,(0:Int)≤0∧(0:Int)<((3:Nat):Int),0=0,0=0,0≤(t:Int)∧(t:Int)<(v2.length:Int),g2=g2,g2=g2,((rowI v2).drop (0+(Int.toNat (t:Int))*1)).take 1=[.int .i64 e],(0:Int)≤0∧(0:Int)<((3:Nat):Int),0=0,0=0,0≤(tokens:Int)∧(tokens:Int)<(v2.length:Int),g2=g2,g2=g2,((rowI v2).drop (0+(Int.toNat (tokens:Int))*1)).take 1=[.int .i64 e1],(decide (e<e1))=true,InR .i64 ((t:Int)+1)])
 (hg:G Try.prog E (yy Try.prog) ⟨([.rsl Wf 0 2]++jj 5 ([.int .i64 1007,.sl 0 0 0 3 1,J,J,J,J,.int .i64 (t:Int),.int .i64 ((t:Int)+1)]++Js 204)),(z186_3 g2 v2 g4 v4 g6 v6)⟩):G Try.prog E (yy Try.prog) (f186S3 v2 v4 v6 t tokens g2 g4 g6) :=
 Qh (n:=400) (ds:=[]) (cs:=[]) (live:=[0,6,7,12,13]) (m:=7) (evs:=[.b true,.auto,.ld (.int .i64 e),.auto,.ld (.int .i64 e1),.b true,.stop]) (obs:=_) hE.2.1 (hE.nogh _) Qf (by kernel_rfl) ho hg
theorem p186_3_1 (v2:List Int) (v4:List Int) (v6:List Int) (t:Nat) (tokens:Nat) (g2:Nat) (g4:Nat) (g6:Nat) (e:Int) (e1:Int) {E:Env} {rv:AV} (hE:Qe Try.prog 186 rv E) (ho:AllP [(decide ((t:Int)≤1007))=true,(0:Int)≤0∧(0:Int)<((3:Nat):Int),0=0,0=0,0≤(t:Int)∧(t:Int)<(v2.length:Int),g2=g2,g2=g2,((rowI v2).drop (0+(Int.toNat (t:Int))*1)).take 1=[.int .i64 e],(0:Int)≤0∧(0:Int)<((3:Nat):Int),0=0,0=0,0≤(tokens:Int)∧(tokens:Int)<(v2.length:Int),g2=g2,g2=g2,((rowI v2).drop (0+(Int.toNat (tokens:Int))*1)).take 1=[.int .i64 e1],(decide (e<e1))=false,InR .i64 ((t:Int)+1)])
 (hg:G Try.prog E (yy Try.prog) ⟨([.rsl Wf 0 2]++jj 5 ([.int .i64 1007,.sl 0 0 0 3 1,J,J,J,J,.int .i64 (tokens:Int),.int .i64 ((t:Int)+1)]++Js 204)),(z186_3 g2 v2 g4 v4 g6 v6)⟩):G Try.prog E (yy Try.prog) (f186S3 v2 v4 v6 t tokens g2 g4 g6) :=
 Qh (n:=400) (ds:=[]) (cs:=[]) (live:=[0,6,7,12,13]) (m:=7) (evs:=[.b true,.auto,.ld (.int .i64 e),.auto,.ld (.int .i64 e1),.b false,.stop]) (obs:=_) hE.2.1 (hE.nogh _) Qf (by kernel_rfl) ho hg
theorem p186_3_2 (v2:List Int) (v4:List Int) (v6:List Int) (t:Nat) (tokens:Nat) (g2:Nat) (g4:Nat) (g6:Nat) (e:Int) {E:Env} {res:AV} (hE:Qe Try.prog 186 res E) (ho:AllP [(decide ((t:Int)≤1007))=false,(0:Int)≤0∧(0:Int)<((3:Nat):Int),0=0,0=0,0≤(tokens:Int)∧(tokens:Int)<(v2.length:Int),g2=g2,g2=g2,((rowI v2).drop (0+(Int.toNat (tokens:Int))*1)).take 1=[.int .i64 e],(e == 1152921504606846976)=true])
 (hr:AvLe (.tup [.nilSl,.int .i64 0]) res):G Try.prog E (yy Try.prog) (f186S3 v2 v4 v6 t tokens g2 g4 g6) :=
 Qb (n:=400) (evs:=[.b false,.auto,.ld (.int .i64 e),.b true]) (obs:=_) hE Try.func186 Qf (by kernel_rfl) ho hr
theorem p186_3_3 (v2:List Int) (v4:List Int) (v6:List Int) (t:Nat) (tokens:Nat) (g2:Nat) (g4:Nat) (g6:Nat) (e:Int) {E:Env} {rv:AV} (hE:Qe Try.prog 186 rv E) (ho:AllP [(decide ((t:Int)≤1007))=false,(0:Int)≤0∧(0:Int)<((3:Nat):Int),0=0,0=0,0≤(tokens:Int)∧(tokens:Int)<(v2.length:Int),g2=g2,g2=g2,((rowI v2).drop (0+(Int.toNat (tokens:Int))*1)).take 1=[.int .i64 e],(e == 1152921504606846976)=false,(0:Int)≤2∧(2:Int)≤2∧(2:Int)≤2147483648,true=true,(0:Int)≤0∧(0:Int)<((2:Nat):Int),2≤2,(0:Int)≤0∧(0:Int)<((3:Nat):Int),0=0,0=0,0≤(tokens:Int)∧(tokens:Int)<(v2.length:Int),g2=g2,g2=g2,((rowI v2).drop (0+(Int.toNat (tokens:Int))*1)).take 1=[.int .i64 e]])
 (hg:G Try.prog E (KS Try.prog) ⟨([J,J,J,J,.sl 7 0 0 2 1,.int .i64 e,J,.sl 0 0 0 3 1,J,J,J,J,.int .i64 (tokens:Int),J,.int .i64 0,.ptr 8 0 0,.int .i64 e]++jj 133 ([.rsl Wf 0 2,.int .i64 2,.int .i64 0]++Js 65)),[⟨true,0,1,false,(Qav g2 v2 g4 v4 g6 v6),true⟩,⟨false,1,1,true,[],false⟩,⟨true,g2,1,true,(rowI v2),true⟩,⟨false,1,1,true,[],false⟩,⟨true,g4,1,true,(rowI v4),true⟩,⟨false,1,1,true,[],false⟩,⟨true,g6,1,true,(rowI v6),true⟩,⟨true,0,1,true,[.int .i64 0,.int .i64 0],true⟩,⟨true,0,1,true,[.int .i64 1,.int .i64 200],false⟩]⟩):G Try.prog E (yy Try.prog) (f186S3 v2 v4 v6 t tokens g2 g4 g6) :=
 Qh (n:=400) (ds:=[]) (cs:=[]) (live:=[4,5,7,12,14,15,16,150,151,152]) (m:=9) (evs:=[.b false,.auto,.ld (.int .i64 e),.b false,.b true,.auto,.auto,.ld (.int .i64 e),.stop]) (obs:=_) hE.2.1 (hE.nogh _) Qf (by kernel_rfl) ho hg
theorem f186W3 (v2:List Int) (v4:List Int) (v6:List Int) (t:Nat) (tokens:Nat) {E:Env} {rv:((List Int) × Int)} (hE:Qe Try.prog 186 (.tup [.rsl (rowI rv.1) 0 rv.1.length,.int .i64 rv.2]) E)
 (h:(((t:Int)≤1007→(∃ e:Int,v2[t]?=some e∧(∃ e1:Int,v2[tokens]?=some e1∧((e<e1→((I6 ((t:Int)+1))∧f186G3 E v2 v4 v6 (t+1) t))∧(¬ (e<e1)→((I6 ((t:Int)+1))∧f186G3 E v2 v4 v6 (t+1) tokens))))))∧(¬ ((t:Int)≤1007)→(∃ e:Int,v2[tokens]?=some e∧((e=1152921504606846976→rv=(([]:List Int),0))∧(¬ (e=1152921504606846976)→f186G5 E e (tokens:Int) e v2 v4 v6 0)))))):f186G3 E v2 v4 v6 t tokens:=by
 intro g2 g4 g6
 rcases bft (decide ((t:Int)≤1007)) with hc0 | hc0
 · have h:=h.1 (odt hc0)
   obtain ⟨e,h1,h⟩:=h
   obtain ⟨e1,h2,h⟩:=h
   rcases bft (decide (e<e1)) with hc1 | hc1
   · have h:=h.1 (odt hc1)
     obtain ⟨q18_2,h⟩:=h
     exact p186_3_0 v2 v4 v6 t tokens g2 g4 g6 e e1 hE ⟨hc0,(⟨by decide,by decide⟩),rfl,rfl,(Qn h1),rfl,rfl,(rp cI 1 0 1 h1),(⟨by decide,by decide⟩),rfl,rfl,(Qn h2),rfl,rfl,(rp cI 1 0 1 h2),hc1,q18_2,trivial⟩ (h g2 g4 g6)
   · have h:=h.2 (odf hc1)
     obtain ⟨q18_2,h⟩:=h
     exact p186_3_1 v2 v4 v6 t tokens g2 g4 g6 e e1 hE ⟨hc0,(⟨by decide,by decide⟩),rfl,rfl,(Qn h1),rfl,rfl,(rp cI 1 0 1 h1),(⟨by decide,by decide⟩),rfl,rfl,(Qn h2),rfl,rfl,(rp cI 1 0 1 h2),hc1,q18_2,trivial⟩ (h g2 g4 g6)
 · have h:=h.2 (odf hc0)
   obtain ⟨e,h1,h⟩:=h
   rcases bft (e == 1152921504606846976) with hc1 | hc1
   · have h:=h.1 (eq_of_beq hc1)
     exact p186_3_2 v2 v4 v6 t tokens g2 g4 g6 e hE ⟨hc0,(⟨by decide,by decide⟩),rfl,rfl,(Qn h1),rfl,rfl,(rp cI 1 0 1 h1),hc1,trivial⟩ (by rw [h]; exact (XG ⟨QN,⟨AvLe.of_eq rfl,trivial⟩⟩))
   · have h:=h.2 (ne_of_beq_false hc1)
     exact p186_3_3 v2 v4 v6 t tokens g2 g4 g6 e hE ⟨hc0,(⟨by decide,by decide⟩),rfl,rfl,(Qn h1),rfl,rfl,(rp cI 1 0 1 h1),hc1,(⟨by decide,by decide,by decide⟩),rfl,(⟨by decide,by decide⟩),(by decide),(⟨by decide,by decide⟩),rfl,rfl,(Qn h1),rfl,rfl,(rp cI 1 0 1 h1),trivial⟩ (h g2 g4 g6)
theorem p186_5_0 (price:Int) (tokens:Int) (left:Int) (v2:List Int) (v4:List Int) (v6:List Int) (v7_0:Nat) (g2:Nat) (g4:Nat) (g6:Nat) (e:Int) {E:Env} {rv:AV} (hE:Qe Try.prog 186 rv E) (ho:AllP [(decide (tokens≥1))=true,(0:Int)≤0∧(0:Int)<((3:Nat):Int),0=0,0=0,InR .i64 (tokens - 1),0≤(tokens - 1)∧(tokens - 1)<(v2.length:Int),g2=g2,g2=g2,((rowI v2).drop (0+(Int.toNat (tokens - 1))*1)).take 1=[.int .i64 e],(decide (e<1152921504606846976))=true,(0:Int)≤0∧(0:Int)<((3:Nat):Int),0=0,0=0,InR .i64 (tokens - 1),0≤(tokens - 1)∧(tokens - 1)<(v2.length:Int),g2=g2,g2=g2,((rowI v2).drop (0+(Int.toNat (tokens - 1))*1)).take 1=[.int .i64 e],InR .i64 (e+200),((e+200) == left)=true,InR .i64 (tokens - 1),(0:Int)≤0∧(0:Int)<((2:Nat):Int),0=0,0=0,InR .i64 ((v7_0:Int)+1),(0:Int)≤0∧(0:Int)<((2:Nat):Int),0=0,1≤2,0=0,(0:Int)≤0∧(0:Int)<((3:Nat):Int),0=0,0=0,0≤(tokens - 1)∧(tokens - 1)<(v2.length:Int),g2=g2,g2=g2,((rowI v2).drop (0+(Int.toNat (tokens - 1))*1)).take 1=[.int .i64 e]])
 (hg:G Try.prog E (KS Try.prog) ⟨([J,J,J,J,.sl 7 0 0 2 1,.int .i64 price,J,.sl 0 0 0 3 1,J,J,J,J,.int .i64 (tokens - 1),J,.int .i64 0,.ptr 8 0 0,.int .i64 e]++jj 133 ([.rsl Wf 0 2,.int .i64 2,.int .i64 0]++Js 65)),[⟨true,0,1,false,(Qav g2 v2 g4 v4 g6 v6),true⟩,⟨false,1,1,true,[],false⟩,⟨true,g2,1,true,(rowI v2),true⟩,⟨false,1,1,true,[],false⟩,⟨true,g4,1,true,(rowI v4),true⟩,⟨false,1,1,true,[],false⟩,⟨true,g6,1,true,(rowI v6),true⟩,⟨true,0,1,true,[.int .i64 ((v7_0:Int)+1),.int .i64 0],true⟩,⟨true,0,1,true,[.int .i64 1,.int .i64 200],false⟩]⟩):G Try.prog E (KS Try.prog) (f186S5 price tokens left v2 v4 v6 v7_0 g2 g4 g6) :=
 Qh (n:=400) (ds:=[]) (cs:=[]) (live:=[4,5,7,12,14,15,16,150,151,152]) (m:=9) (evs:=[.b true,.auto,.auto,.ld (.int .i64 e),.b true,.auto,.auto,.ld (.int .i64 e),.b true,.auto,.auto,.auto,.ld (.int .i64 e),.stop]) (obs:=_) hE.2.1 (hE.nogh _) Qf (by kernel_rfl) ho hg
theorem p186_5_1 (price:Int) (tokens:Int) (left:Int) (v2:List Int) (v4:List Int) (v6:List Int) (v7_0:Nat) (g2:Nat) (g4:Nat) (g6:Nat) (e:Int) (e1:Int) {E:Env} {rv:AV} (hE:Qe Try.prog 186 rv E) (ho:AllP [(decide (tokens≥1))=true,(0:Int)≤0∧(0:Int)<((3:Nat):Int),0=0,0=0,InR .i64 (tokens - 1),0≤(tokens - 1)∧(tokens - 1)<(v2.length:Int),g2=g2,g2=g2,((rowI v2).drop (0+(Int.toNat (tokens - 1))*1)).take 1=[.int .i64 e],(decide (e<1152921504606846976))=true,(0:Int)≤0∧(0:Int)<((3:Nat):Int),0=0,0=0,InR .i64 (tokens - 1),0≤(tokens - 1)∧(tokens - 1)<(v2.length:Int),g2=g2,g2=g2,((rowI v2).drop (0+(Int.toNat (tokens - 1))*1)).take 1=[.int .i64 e],InR .i64 (e+200),((e+200) == left)=false,InR .i64 1,true=true,(0:Int)≤1∧(1:Int)<((2:Nat):Int),2≤2,(0:Int)≤1∧(1:Int)<((3:Nat):Int),0=0,0=0,0≤tokens∧tokens<(v4.length:Int),g4=g4,g4=g4,((rowI v4).drop (0+(Int.toNat tokens)*1)).take 1=[.int .i64 e1]])
 (hg:G Try.prog E (Yh Try.prog) ⟨([J,J,J,J,.sl 7 0 0 2 1,.int .i64 price,J,.sl 0 0 0 3 1,J,J,J,J,.int .i64 tokens,J,.int .i64 1,.ptr 9 0 0,.int .i64 e1]++jj 133 z186_4),(z186_1 g2 v2 g4 v4 g6 v6 v7_0)⟩):G Try.prog E (KS Try.prog) (f186S5 price tokens left v2 v4 v6 v7_0 g2 g4 g6) :=
 Qh (n:=400) (ds:=[]) (cs:=[]) (live:=[4,5,7,12,14,15,16,150,151,152]) (m:=10) (evs:=[.b true,.auto,.auto,.ld (.int .i64 e),.b true,.auto,.auto,.ld (.int .i64 e),.b false,.b true,.auto,.auto,.ld (.int .i64 e1),.stop]) (obs:=_) hE.2.1 (hE.nogh _) Qf (by kernel_rfl) ho hg
theorem p186_5_2 (price:Int) (tokens:Int) (left:Int) (v2:List Int) (v4:List Int) (v6:List Int) (v7_0:Nat) (g2:Nat) (g4:Nat) (g6:Nat) (e:Int) (e1:Int) {E:Env} {rv:AV} (hE:Qe Try.prog 186 rv E) (ho:AllP [(decide (tokens≥1))=true,(0:Int)≤0∧(0:Int)<((3:Nat):Int),0=0,0=0,InR .i64 (tokens - 1),0≤(tokens - 1)∧(tokens - 1)<(v2.length:Int),g2=g2,g2=g2,((rowI v2).drop (0+(Int.toNat (tokens - 1))*1)).take 1=[.int .i64 e],(decide (e<1152921504606846976))=false,false=false,InR .i64 1,true=true,(0:Int)≤1∧(1:Int)<((2:Nat):Int),2≤2,(0:Int)≤1∧(1:Int)<((3:Nat):Int),0=0,0=0,0≤tokens∧tokens<(v4.length:Int),g4=g4,g4=g4,((rowI v4).drop (0+(Int.toNat tokens)*1)).take 1=[.int .i64 e1]])
 (hg:G Try.prog E (Yh Try.prog) ⟨([J,J,J,J,.sl 7 0 0 2 1,.int .i64 price,J,.sl 0 0 0 3 1,J,J,J,J,.int .i64 tokens,J,.int .i64 1,.ptr 9 0 0,.int .i64 e1]++jj 133 z186_4),(z186_1 g2 v2 g4 v4 g6 v6 v7_0)⟩):G Try.prog E (KS Try.prog) (f186S5 price tokens left v2 v4 v6 v7_0 g2 g4 g6) :=
 Qh (n:=400) (ds:=[]) (cs:=[]) (live:=[4,5,7,12,14,15,16,150,151,152]) (m:=10) (evs:=[.b true,.auto,.auto,.ld (.int .i64 e),.b false,.b false,.b true,.auto,.auto,.ld (.int .i64 e1),.stop]) (obs:=_) hE.2.1 (hE.nogh _) Qf (by kernel_rfl) ho hg
theorem p186_5_3 (price:Int) (tokens:Int) (left:Int) (v2:List Int) (v4:List Int) (v6:List Int) (v7_0:Nat) (g2:Nat) (g4:Nat) (g6:Nat) (e:Int) {E:Env} {rv:AV} (hE:Qe Try.prog 186 rv E) (ho:AllP [(decide (tokens≥1))=false,false=false,false=false,InR .i64 1,true=true,(0:Int)≤1∧(1:Int)<((2:Nat):Int),2≤2,(0:Int)≤1∧(1:Int)<((3:Nat):Int),0=0,0=0,0≤tokens∧tokens<(v4.length:Int),g4=g4,g4=g4,((rowI v4).drop (0+(Int.toNat tokens)*1)).take 1=[.int .i64 e]])
 (hg:G Try.prog E (Yh Try.prog) ⟨([J,J,J,J,.sl 7 0 0 2 1,.int .i64 price,J,.sl 0 0 0 3 1,J,J,J,J,.int .i64 tokens,J,.int .i64 1,.ptr 9 0 0,.int .i64 e]++jj 133 z186_4),(z186_1 g2 v2 g4 v4 g6 v6 v7_0)⟩):G Try.prog E (KS Try.prog) (f186S5 price tokens left v2 v4 v6 v7_0 g2 g4 g6) :=
 Qh (n:=400) (ds:=[]) (cs:=[]) (live:=[4,5,7,12,14,15,16,150,151,152]) (m:=10) (evs:=[.b false,.b false,.b false,.b true,.auto,.auto,.ld (.int .i64 e),.stop]) (obs:=_) hE.2.1 (hE.nogh _) Qf (by kernel_rfl) ho hg
theorem f186W5 (price:Int) (tokens:Int) (left:Int) (v2:List Int) (v4:List Int) (v6:List Int) (v7_0:Nat) {E:Env} {rv:((List Int) × Int)} (hE:Qe Try.prog 186 (.tup [.rsl (rowI rv.1) 0 rv.1.length,.int .i64 rv.2]) E)
 (h:((tokens≥1→((I6 (tokens - 1))∧(0≤(tokens - 1)∧(∃ e:Int,v2[Int.toNat (tokens - 1)]?=some e∧((e<1152921504606846976→((I6 (tokens - 1))∧((I6 (e+200))∧(((e+200)=left→((I6 (tokens - 1))∧((I6 ((v7_0:Int)+1))∧f186G5 E price (tokens - 1) e v2 v4 v6 (v7_0+1))))∧(¬ ((e+200)=left)→(0≤tokens∧(∃ e1:Int,v4[Int.toNat tokens]?=some e1∧YZ E price tokens e1 v2 v4 v6 v7_0 0)))))))∧(¬ (e<1152921504606846976)→(0≤tokens∧(∃ e1:Int,v4[Int.toNat tokens]?=some e1∧YZ E price tokens e1 v2 v4 v6 v7_0 0))))))))∧(¬ (tokens≥1)→(0≤tokens∧(∃ e:Int,v4[Int.toNat tokens]?=some e∧YZ E price tokens e v2 v4 v6 v7_0 0))))):f186G5 E price tokens left v2 v4 v6 v7_0:=by
 intro g2 g4 g6
 rcases bft (decide (tokens≥1)) with hc0 | hc0
 · have h:=h.1 (odt hc0)
   obtain ⟨q4_1,h⟩:=h
   obtain ⟨h2,h⟩:=h
   obtain ⟨e,h1,h⟩:=h
   rcases bft (decide (e<1152921504606846976)) with hc1 | hc1
   · have h:=h.1 (odt hc1)
     obtain ⟨q14_2,h⟩:=h
     obtain ⟨q19_2,h⟩:=h
     rcases bft ((e+200) == left) with hc2 | hc2
     · have h:=h.1 (eq_of_beq hc2)
       obtain ⟨q21_3,h⟩:=h
       obtain ⟨q25_3,h⟩:=h
       exact p186_5_0 price tokens left v2 v4 v6 v7_0 g2 g4 g6 e hE ⟨hc0,(⟨by decide,by decide⟩),rfl,rfl,q4_1,(Qj h2 h1),rfl,rfl,(rp cI 1 0 1 h1),hc1,(⟨by decide,by decide⟩),rfl,rfl,q14_2,(Qj h2 h1),rfl,rfl,(rp cI 1 0 1 h1),q19_2,hc2,q21_3,(⟨by decide,by decide⟩),rfl,rfl,q25_3,(⟨by decide,by decide⟩),rfl,(by decide),rfl,(⟨by decide,by decide⟩),rfl,rfl,(Qj h2 h1),rfl,rfl,(rp cI 1 0 1 h1),trivial⟩ (h g2 g4 g6)
     · have h:=h.2 (ne_of_beq_false hc2)
       obtain ⟨h4,h⟩:=h
       obtain ⟨e1,h3,h⟩:=h
       exact p186_5_1 price tokens left v2 v4 v6 v7_0 g2 g4 g6 e e1 hE ⟨hc0,(⟨by decide,by decide⟩),rfl,rfl,q4_1,(Qj h2 h1),rfl,rfl,(rp cI 1 0 1 h1),hc1,(⟨by decide,by decide⟩),rfl,rfl,q14_2,(Qj h2 h1),rfl,rfl,(rp cI 1 0 1 h1),q19_2,hc2,(⟨by decide,by decide⟩),rfl,(⟨by decide,by decide⟩),(by decide),(⟨by decide,by decide⟩),rfl,rfl,(Qj h4 h3),rfl,rfl,(rp cI 1 0 1 h3),trivial⟩ (h g2 g4 g6)
   · have h:=h.2 (odf hc1)
     obtain ⟨h4,h⟩:=h
     obtain ⟨e1,h3,h⟩:=h
     exact p186_5_2 price tokens left v2 v4 v6 v7_0 g2 g4 g6 e e1 hE ⟨hc0,(⟨by decide,by decide⟩),rfl,rfl,q4_1,(Qj h2 h1),rfl,rfl,(rp cI 1 0 1 h1),hc1,rfl,(⟨by decide,by decide⟩),rfl,(⟨by decide,by decide⟩),(by decide),(⟨by decide,by decide⟩),rfl,rfl,(Qj h4 h3),rfl,rfl,(rp cI 1 0 1 h3),trivial⟩ (h g2 g4 g6)
 · have h:=h.2 (odf hc0)
   obtain ⟨h2,h⟩:=h
   obtain ⟨e,h1,h⟩:=h
   exact p186_5_3 price tokens left v2 v4 v6 v7_0 g2 g4 g6 e hE ⟨hc0,rfl,rfl,(⟨by decide,by decide⟩),rfl,(⟨by decide,by decide⟩),(by decide),(⟨by decide,by decide⟩),rfl,rfl,(Qj h2 h1),rfl,rfl,(rp cI 1 0 1 h1),trivial⟩ (h g2 g4 g6)
theorem buy_ok:Pure Try.prog 186 [.rsl [.int .i64 1,.int .i64 200,.int .i64 6,.int .i64 1000] 0 2,.int .i64 7] (.tup [.rsl (rowI [1,1]) 0 2,.int .i64 1200]):=Qu Try.func186 f186b fun E hE=>by
 have hl:(List.replicate (Int.toNat (1008:Int)) (1152921504606846976:Int)).length=1008:=by rw [List.length_replicate]; rfl
 -- the last loops
 have e5:YZ E 1200 0 0 (LP c0 1008) (LP c1 1008) r2 1 1:=f186W1005 1200 0 0 _ _ _ 1 1 (rv:=([1,1],1200)) hE ⟨fun h=>by omega,fun _=>rfl⟩
 have a0:(LP c1 1008)[0]?=some 0:=Vo (by omega)
 have a6:(LP c1 1008)[6]?=some 1000:=Vo (by omega)
 have b6:(LP c0 1008)[6]?=some 1000:=Vo (by omega)
 have b5:(LP c0 1008)[5]?=some 1000:=Vo (by omega)
 have b7:(LP c0 1008)[7]?=some 1200:=Vo (by omega)
 have e4:YZ E 1200 6 1000 (LP c0 1008) (LP c1 1008) r2 1 0:=f186W1005 1200 6 1000 _ _ _ 1 0 (rv:=([1,1],1200)) hE
  ⟨fun _=>⟨by omega,by omega,0,a0,fun _=>⟨by omega,by omega,fun _=>⟨by omega,by omega,e5⟩,fun h=>absurd rfl h⟩,fun h=>absurd (by omega) h⟩,fun h=>absurd (by omega) h⟩
 have e3:f186G5 E 1200 6 1000 (LP c0 1008) (LP c1 1008) r2 1:=f186W5 1200 6 1000 _ _ _ 1 (rv:=([1,1],1200)) hE
  ⟨fun _=>⟨by omega,by omega,1000,b5,fun _=>⟨by omega,by omega,fun h=>absurd h (by omega),fun _=>⟨by omega,1000,a6,e4⟩⟩,fun h=>absurd (by omega) h⟩,fun h=>absurd (by omega) h⟩
 have e2:f186G5 E 1200 7 1200 (LP c0 1008) (LP c1 1008) r2 0:=f186W5 1200 7 1200 _ _ _ 0 (rv:=([1,1],1200)) hE
  ⟨fun _=>⟨by omega,by omega,1000,b6,fun _=>⟨by omega,by omega,fun _=>⟨by omega,by omega,e3⟩,fun h=>absurd rfl h⟩,fun h=>absurd (by omega) h⟩,fun h=>absurd (by omega) h⟩
 -- the least price
 have l3:∀ (d t:Nat),t+d=1008→7≤t→f186G3 E (LP c0 1008) (LP c1 1008) r2 t 7:=by
  intro d
  induction d with
  | zero =>
   intro t ht h7
   exact f186W3 _ _ _ t 7 (rv:=([1,1],1200)) hE ⟨fun h=>by omega,fun _=>⟨1200,b7,fun h=>absurd h (by omega),fun _=>e2⟩⟩
  | succ d ih =>
   intro t ht h7
   have hg:(LP c0 1008)[t]?=some (c0 t):=by rw [Vo (by omega),if_pos (by omega)]
   have hge:¬ c0 t<1200:=by unfold c0; omega
   exact f186W3 _ _ _ t 7 (rv:=([1,1],1200)) hE ⟨fun _=>⟨_,hg,1200,b7,fun h=>absurd h hge,fun _=>⟨by omega,ih (t+1) (by omega) (by omega)⟩⟩,fun h=>by omega⟩
 -- the rows
 have l2:∀ (d j:Nat),j+d=1008→Qbe E (LP c1 1008) r2 j (LP c0 j):=by
  intro d
  induction d with
  | zero =>
   intro j hj
   have ej:j=1008:=by omega
   subst ej
   exact f186W2 _ _ _ _ (rv:=([1,1],1200)) hE ⟨fun h=>by rw [hl] at h; omega,fun _=>l3 1001 7 (by omega) (by omega)⟩
  | succ d ih =>
   intro j hj
   have g1:(LP c1 1008)[j]?=some (c1 j):=by rw [Vo (by omega),if_pos (by omega)]
   have g2:(LP c0 j)[j]?=some NN:=by rw [Vo (by omega),if_neg (by omega)]
   have nx:=ih (j+1) (by omega)
   rw [← LP_set (f:=c0) (j:=j) (by omega)] at nx
   refine f186W2 _ _ j _ (rv:=([1,1],1200)) hE ⟨fun _=>⟨_,g1,_,g2,by omega,fun h1=>?_,fun h1=>⟨by omega,?_⟩⟩,fun h=>by rw [hl] at h; omega⟩
   · have ej:Int.toNat ((j:Int) - 1)=j - 1:=by omega
     have bd:=c0_bd (t:=j - 1) (by omega)
     have g3:((LP c0 j).set j (c1 j))[Int.toNat ((j:Int) - 1)]?=some (c0 (j - 1)):=by rw [ej,List.getElem?_set_ne (by omega),Vo (by omega),if_pos (by omega)]
     have g4:((LP c0 j).set j (c1 j))[j]?=some (c1 j):=List.getElem?_set_self (by rw [Qbo]; omega)
     refine ⟨by omega,_,g3,fun _=>⟨_,g4,by omega,by omega,?_⟩,fun h=>absurd (by omega) h⟩
     rw [List.set_set,c0_step (by omega) (by omega)]
     exact nx
   · have e0:j=0:=by omega
     subst e0
     exact nx
 have l1:∀ (d j:Nat),j+d=1008→VE E r2 j (LP c1 j):=by
  intro d
  induction d with
  | zero =>
   intro j hj
   have ej:j=1008:=by omega
   subst ej
   refine f186W1002 _ _ _ (rv:=([1,1],1200)) hE ⟨fun h=>by rw [hl] at h; omega,fun _=>?_⟩
   have:=l2 1008 0 (by omega)
   rw [← LP_zero] at this
   exact this
  | succ d ih =>
   intro j hj
   have g1:=r2_get (j:=j) (by omega)
   have g2:(LP c1 j)[j]?=some NN:=by rw [Vo (by omega),if_neg (by omega)]
   have nx:=ih (j+1) (by omega)
   rw [← LP_set (f:=c1) (j:=j) (by omega)] at nx
   refine f186W1002 _ j _ (rv:=([1,1],1200)) hE ⟨fun _=>⟨_,g1,_,g2,by omega,fun h1=>?_,fun h1=>⟨by omega,?_⟩⟩,fun h=>by rw [hl] at h; omega⟩
   · have ej:Int.toNat ((j:Int) - 6)=j - 6:=by omega
     rw [if_neg (show ¬ j=0 by omega)]
     have g3:((LP c1 j).set j NN)[Int.toNat ((j:Int) - 6)]?=some (c1 (j - 6)):=by rw [ej,List.getElem?_set_ne (by omega),Vo (by omega),if_pos (by omega)]
     have g4:((LP c1 j).set j NN)[j]?=some NN:=List.getElem?_set_self (by rw [Qbo]; omega)
     refine ⟨by omega,_,g3,fun h2=>⟨_,g4,?_,by omega,?_⟩,fun h2=>⟨by omega,?_⟩⟩
     · by_cases h6:(j - 6) % 6=0
       · have:=qA (t:=j - 6) (by omega) h6
         omega
       · rw [KZ h6] at h2
         exact absurd h2 (by decide)
     · have h6:(j - 6) % 6=0:=Decidable.byContradiction fun h6=>by
        rw [KZ h6] at h2
        exact absurd h2 (by decide)
       rw [List.set_set,c1_step (by omega) (by omega) h6]
       exact nx
     · have h6:¬ j % 6=0:=fun h6=>by
        have:=qA (t:=j - 6) (by omega) (by omega)
        omega
       rw [KZ h6] at nx
       exact nx
   · by_cases e0:j=0
     · subst e0
       exact nx
     · rw [if_neg e0]
       have h6:¬ j % 6=0:=by omega
       rw [KZ h6] at nx
       exact nx
 have z:(List.replicate (Int.toNat (1008:Int)) (1152921504606846976:Int))[0]?=some NN:=by rw [List.getElem?_replicate,if_pos (by decide)]
 have fin:=l1 1008 0 (by omega)
 rw [← LP_zero] at fin
 exact f186W (rv:=([1,1],1200)) hE ⟨by omega,by omega,by omega,NN,z,fin⟩
end Go.Proofs.Ytemklbioijmjiaa