/- A part of the proof: several texts, one behind the other. -/
import Derived.Test.YtemklbioijmjiaaLTopBlockedA
import Derived.RangeFuncRecord
import Derived.Laws.Sem
import Derived.Orders
import Derived.Shelf.Abstract
import Derived.ProofKit
import Derived.OpenShut
import Derived.WideShapes
import Derived.WideKeyArgs
import Derived.ChangeSame
import Derived.Defers
set_option linter.unusedVariables false
set_option linter.unusedSimpArgs false
namespace Ax
open Go
section
variable {P:Program} {Z0 M Z Z':Nat→Prop} {w0 w w':World} {C:Ctx} {blks:List Blk} {evs:List EV} {eff:Eff} {evs':List EV} {obs:List Prop} {idx:Nat}
theorem OpOk.val {o:Oper} {ρ:Operand→Value} {s:Sem Value} {Q:Value→World→Prop} (he:execOp ρ o=(do pure (.value (← s)))) {c:Value} {w':World} (h:s.run P w=.ok c w') (hq:Q c w'):OpOk P o ρ w Q :=
 .inl ⟨c,w',by rw [he]; simp only [Sem.run_bind,h,Result.andThen_ok,Sem.run_pure],hq⟩
theorem VRs.map {ev:Operand→AV} {ρ:Operand→Value} (hv:∀ x,VR Z w C (ev x) (ρ x)) (xs:Array Operand):VRs Z w C (xs.toList.map ev) (xs.map ρ).toList:=by
 refine ⟨by simp,fun i c v h1 h2=>?_⟩
 simp only [List.getElem?_map,Array.toList_map] at h1 h2
 cases h:xs.toList[i]? with
 | none=>simp [h] at h1
 | some x=>simp [h] at h1 h2; rw [← h1,← h2]; exact hv x
theorem VRs.cons {x:AV} {xs:List AV} {cs:List Value} (h:VRs Z w C (x :: xs) cs):∃ c cs',cs=c :: cs'∧VR Z w C x c∧VRs Z w C xs cs':=by
 cases cs with
 | nil=>simp [VRs] at h
 | cons c cs=>exact ⟨c,cs,rfl,h.2 0 _ _ rfl rfl,by simpa using h.1,fun i a b h1 h2=>h.2 (i+1) a b (by simpa using h1) (by simpa using h2)⟩
theorem VRs.nil {cs:List Value} (h:VRs Z w C [] cs):cs=[]:=List.length_eq_zero_iff.1 h.1.symm
theorem VRo.map {ev:Operand→AV} {ρ:Operand→Value} (hv:∀ x,VR Z w C (ev x) (ρ x)) (o:Option Operand):VRo Z w C (o.map ev) (o.map ρ):=by
 cases o with
 | none=>trivial
 | some x=>exact hv x
theorem Mem.allocObj (hm:Mem Z0 M w0 C Z blks w) (hb:blks[idx]?=some dead) {cells:List AV} {fl:Bool} {ob:Obj} (hk:∀ (i:Nat) (c:AV),cells[i]?=some c→QY c=true) (hr:XJ C Z w fl cells ob) {it:Bool} :
 Res Z0 M w0 C Z blks w idx (.new ⟨true,0,0,fl,cells,false⟩ (fun k=>.mp k 0 it)) (VS it w.heap.size) (w.alloc ob):=by
 have habs:C.β idx=.absent:=hm.dd idx dead hb rfl
 have hg0:C.γ idx=0:=hm.gen idx dead hb
 have hh:(w.alloc ob).heap=w.heap.push ob:=rfl
 have hsz:(w.alloc ob).heap.size=w.heap.size+1:=by rw [hh]; simp
 have hβ:(C.put idx (.loc w.heap.size 0) 0).β idx=.loc w.heap.size 0:=by simp [Ctx.put]
 obtain ⟨h1,h2,h3⟩:=hm.change (b':=⟨true,0,0,fl,cells,false⟩) (w':=w.alloc ob) (s:=.loc w.heap.size 0) (g:=0) hb rfl rfl rfl (by omega) (fun c h1 _=>by rw [hh,Array.getElem?_push,if_neg (by omega)]) (fun blk o _ _ h=>by simp [habs] at h) (by omega) (fun h=>absurd habs h) rfl rfl
  (fun blk o h=>.inr (by simp only [Slot.loc.injEq] at h; omega)) fun hle hevo _=>⟨hk,by
    simp only [hβ]
    exact .inr ⟨rfl,ob,by rw [hh]; simp,hr.next (fun c v h=>h.mono hevo.zero) (fun c v _ h=>(h.mono hevo).grow hle)⟩⟩
 exact ⟨_,Z,h2,h3,h1,.mp (by simp [Ctx.put]) (by cases it <;> rfl) fun _=>⟨_,0,hβ,rfl⟩⟩
theorem WQ {t:TypeId} {m k v:AV} {cm ck cv:Value} (hm:Mem Z0 M w0 C Z blks w) (h1:VR Z w C m cm) (h2:VR Z w C k ck) (h3:VR Z w C v cv)
 (h:(qx P t m k v evs).run (blks[·]?)=some (eff,evs',obs)) (ho:AllP obs):∃ w',(Instr.mapUpdate t cm ck cv).run P w=.ok () w'∧Res Z0 M w0 C Z blks w idx eff undef w':=by
 unfold qx at h
 split at h
 · rename_i kt et kk g ht
   split at h
   · simp [Rd.run] at h
   rename_i hc
   simp only [Bool.or_eq_true,Bool.not_eq_true',not_or,Bool.not_eq_false] at hc
   obtain ⟨⟨hko,hnk⟩,hnv⟩:=hc
   obtain ⟨b,hb,h⟩:=QE h
   obtain ⟨hl,hz,hf,hg,h⟩:=XM h
   simp only [Rd.run,Option.some.injEq,Prod.mk.injEq] at h
   obtain ⟨rfl,-,rfl⟩:=h
   obtain ⟨blk,o,ob,hβ,rfl,q1,q2⟩:=ye hm hb hl hz hg h1
   obtain ⟨es,rfl,e1,e2⟩:=q2.ents hf
   have hk0:=h2.ctx (C':=C0) hnk
   have hv0:=h3.ctx (C':=C0) hnv
   obtain ⟨d,hd⟩:=keyOk_und hko
   have hfind:=Wa (P:=P) hd hk0 e1 ho.1
   have hget:(getObj blk).run P w=.ok (.map es es.size) w:=XB q1 (by intro c t f; simp)
   have hset:=Wl (P:=P) (ob':=.map (es.push { key:=ck,val:=cv,born:=es.size }) (es.size+1)) q1 (by intro c t f; simp)
   refine ⟨w.putObj blk (.map (es.push { key:=ck,val:=cv,born:=es.size }) (es.size+1)),?_,?_⟩
   · simp only [Instr.mapUpdate,Sem.run_bind,run_underlying ht,Result.andThen_ok,VS,Bool.false_eq_true,if_false,hget,VY hk0 hko,hfind,hset]
   have hC:C.put kk (.loc blk o) b.gen=C:=by
    have e1:=hm.gen kk b hb
    cases C with
    | mk β γ =>
     simp only [Ctx.put,Ctx.mk.injEq]
     constructor
     · funext j; by_cases e:j=kk
       · subst e; simp; exact hβ.symm
       · simp [e]
     · funext j; by_cases e:j=kk
       · subst e; simp; exact e1.symm
       · simp [e]
   have hblt:blk<w.heap.size:=(hm.own kk blk o hβ).1
   obtain ⟨hkc,-⟩:=hm.blk kk b hb hl
   have hch:=hm.change (w':=w.putObj blk (.map (es.push { key:=ck,val:=cv,born:=es.size }) (es.size+1))) (b':={ b with cells:=b.cells++[.clos 0 [k] [v]] }) (s:=.loc blk o) (g:=b.gen) hb
    rfl rfl rfl (by simp) (fun c hc hne=>World.putObj_heap_other (fun e=>hne o (by rw [e]; exact hβ)))
    (fun blk2 o2 arr2 e2 h2 h3=>by
      rw [hβ] at h2; simp only [Slot.loc.injEq] at h2; obtain ⟨rfl,rfl⟩:=h2
      rw [q1] at h3; cases h3)
    (by rw [hm.gen kk b hb]; exact Nat.le_refl _) (fun _ _=>hβ.symm) hl rfl (fun blk2 o2 h2=>by simp only [Slot.loc.injEq] at h2; obtain ⟨rfl,rfl⟩:=h2; exact .inl ⟨_,hβ⟩)
    (fun hle hevo _=>by
      refine ⟨fun i c hi=>?_,?_⟩
      · rw [List.getElem?_append] at hi
        split at hi
        · exact hkc i c hi
        · have:=List.mem_of_getElem? hi
          simp only [List.mem_singleton] at this
          subst this; rfl
      · simp only [hC,hβ]
        refine .inr ⟨hz,_,World.putObj_heap_same hblt,?_⟩
        simp only [XJ,hf,if_true]
        have hl1:b.cells.length=es.size:=by have:=e1.1; simpa using this
        refine ⟨es.push { key:=ck,val:=cv,born:=es.size },by simp,by simp [hl1],fun i e hi=>?_,fun i c e hi he=>?_⟩
        · rw [Array.getElem?_push] at hi
          split at hi
          · rename_i h; cases hi; exact h.symm
          · exact e2 i e hi
        · rw [Array.getElem?_push] at he
          rw [List.getElem?_append] at hi
          split at he
          · rename_i h
            rw [if_neg (by omega),h,hl1,Nat.sub_self] at hi
            cases he
            simp only [List.getElem?_cons_zero,Option.some.injEq] at hi
            subst hi
            have k1:=hk0.mono hevo.zero
            have v1:=hv0.mono hevo.zero
            exact .clos rfl (fun i c v p q=>by
             match i,p,q with
             | 0,p,q=>simp at p q; subst p; subst q; exact k1
             | i+1,p,q=>simp at p) rfl (fun i c v p q=>by
             match i,p,q with
             | 0,p,q=>simp at p q; subst p; subst q; exact v1
             | i+1,p,q=>simp at p)
          · have hlt:i<es.size:=(Array.getElem?_eq_some_iff.1 he).1
            rw [if_pos (by omega)] at hi
            exact (e1.2 i c e hi (by simpa using he)).mono hevo.zero)
   rw [hC] at hch
   exact ⟨C,Z,hch.2.1,hch.2.2,hch.1,.junk _⟩
 · simp [Rd.run] at h
theorem aop_sound {o:Oper} {ev:Operand→AV} {ρ:Operand→Value} (hm:Mem Z0 M w0 C Z blks w) (hb:blks[idx]?=some dead) (hv:∀ x,VR Z w C (ev x) (ρ x))
 (h:(aop P o ev evs).run (blks[·]?)=some (eff,evs',obs)) (ho:AllP obs):OpOk P o ρ w (Res Z0 M w0 C Z blks w idx eff):=by
 have fin:∀ {s:Sem Value},execOp ρ o=(do pure (.value (← s)))→XP P Z w C eff s→OpOk P o ρ w (Res Z0 M w0 C Z blks w idx eff):=by
  intro s he hs
  obtain ⟨c,w',h1,h2⟩:=hs.res (idx:=idx) hm
  exact .val he h1 h2
 have finE:∀ {s:Sem Value},execOp ρ o=(do pure (.value (← s)))→(∃ c w',s.run P w=.ok c w'∧Res Z0 M w0 C Z blks w idx eff c w')→OpOk P o ρ w (Res Z0 M w0 C Z blks w idx eff):=by
  rintro s he ⟨c,w',h1,h2⟩
  exact .val he h1 h2
 obtain ⟨dst,op,type,pos,after,guard⟩:=o
 simp only [aop] at h
 cases op <;> (try simp only at h) <;> try (simp [Rd.run] at h; done)
 case move x =>
  have:=Qw h; simp only [Prod.mk.injEq] at this; obtain ⟨rfl,-,-⟩:=this
  exact fin (s:=pure (ρ x)) rfl (.mk rfl (hv x))
 case assign x =>
  have:=Qw h; simp only [Prod.mk.injEq] at this; obtain ⟨rfl,-,-⟩:=this
  exact fin (s:=pure (ρ x)) rfl (.mk rfl (hv x))
 case pick c a b =>
  split at h
  · rename_i t hc
    have:=Qw h; simp only [Prod.mk.injEq] at this; obtain ⟨rfl,-,-⟩:=this
    have hvc:=hv c
    rw [hc] at hvc
    generalize hρ:ρ c=vc at hvc
    cases hvc
    have key:∀ {v:AV} {c':Value},VR Z w C v c'→c'=(if t then ρ a else ρ b)→OpOk P ⟨dst,.pick c a b,type,pos,after,guard⟩ ρ w (Res Z0 M w0 C Z blks w idx (.val v)):=by
     intro v c' hv' he
     obtain ⟨c2,w',h1,h2⟩:=XP.res (idx:=idx) hm (XP.mk (P:=P) (s:=pure c') rfl hv')
     cases h1
     refine .inl ⟨c',w,?_,h2⟩
     simp only [execOp,hρ,asBool,Sem.run_bind,Sem.run_pure,Result.andThen_ok,he]
    cases t with
    | true=>exact key (hv a) rfl
    | false=>exact key (hv b) rfl
  · simp [Rd.run] at h
 case alloc t =>
  split at h
  · rename_i cs hz
    obtain ⟨z,h1,h2,-,-⟩:=Wh (P:=P) (w:=w) (Z:=Z) (C:=C) hz
    refine finE (s:=Instr.alloc t true (.tuple #[])) rfl ⟨_,_,?_,yd (vs:=z.cells) (e:=t) hm hb h2 h⟩
    simp [Instr.alloc,h1,newVar,newRow]
  · simp [Rd.run] at h
 case box t x =>
  refine finE (s:=Instr.box t (ρ x)) rfl ⟨_,_,?_,yd (vs:=(ρ x).cells) (e:=t) hm hb (fun hk=>(hv x).cells hk) h⟩
  simp [Instr.box,newVar,newRow]
 case build t parts=>exact fin rfl (buildA_sound hv h)
 case buildSlice t len parts=>exact finE rfl (qU hm hb hv h ho)
 case load t a=>exact fin rfl (Kv hm (hv a) h ho)
 case store t a x =>
  obtain ⟨w',h1,h2⟩:=storeA_sound (idx:=idx) hm (hv a) (hv x) h ho
  exact .inr (.inl ⟨w',by simp only [execOp,Sem.run_bind,h1,Result.andThen_ok,Sem.run_pure],h2⟩)
 case nilCheck x =>
  have hvx:=hv x
  split at h
  · rename_i row off hx
    have:=Qw h; simp only [Prod.mk.injEq] at this; obtain ⟨rfl,-,-⟩:=this
    rw [hx] at hvx
    generalize hρ:ρ x=vx at hvx
    have hvx':=hvx
    cases hvx
    refine .inl ⟨_,w,by simp only [execOp,hρ]; rfl,?_⟩
    obtain ⟨c,w',h1,h2⟩:=XP.res (idx:=idx) hm (XP.mk (P:=P) (s:=pure _) rfl hvx')
    cases h1; exact h2
  · rename_i row k g off hx
    have:=Qw h; simp only [Prod.mk.injEq] at this; obtain ⟨rfl,-,-⟩:=this
    rw [hx] at hvx
    generalize hρ:ρ x=vx at hvx
    have hvx':=hvx
    cases hvx
    refine .inl ⟨_,w,by simp only [execOp,hρ]; rfl,?_⟩
    obtain ⟨c,w',h1,h2⟩:=XP.res (idx:=idx) hm (XP.mk (P:=P) (s:=pure _) rfl hvx')
    cases h1; exact h2
  · rename_i f a c hx
    have:=Qw h; simp only [Prod.mk.injEq] at this; obtain ⟨rfl,-,-⟩:=this
    rw [hx] at hvx
    generalize hρ:ρ x=vx at hvx
    have hvx':=hvx
    cases hvx
    refine .inl ⟨_,w,by simp only [execOp,hρ]; rfl,?_⟩
    obtain ⟨c,w',h1,h2⟩:=XP.res (idx:=idx) hm (XP.mk (P:=P) (s:=pure _) rfl hvx')
    cases h1; exact h2
  · rename_i k g off hx
    obtain ⟨b,hbk,h⟩:=QE h
    obtain ⟨hlive,ob,h,hg⟩:=QT h
    have:=Qw h; simp only [Prod.mk.injEq] at this; obtain ⟨rfl,-,rfl⟩:=this
    rw [hx] at hvx
    obtain ⟨blk,o,hβ,hρ⟩:=Ke hm hbk (hg ho) hvx
    refine .inl ⟨_,w,by simp only [execOp,hρ]; rfl,?_⟩
    rw [hρ] at hvx
    obtain ⟨c,w',h1,h2⟩:=XP.res (idx:=idx) hm (XP.mk (P:=P) (s:=pure _) rfl hvx)
    cases h1; exact h2
  · simp [Rd.run] at h
 case binOp op t x y yt=>exact fin rfl (binA_sound (hv x) (hv y) h ho)
 case unOp op t x=>exact fin rfl (unA_sound (hv x) h ho)
 case convert s d x =>
  split at h
  · rename_i ts k k' n hs hd hx
    obtain ⟨rfl,-⟩:=YQ h ho
    have hvx:=hv x
    rw [hx] at hvx
    generalize hρ:ρ x=vx at hvx
    cases hvx
    refine fin (s:=convert s d (ρ x)) rfl (.mk ?_ (.int _ _))
    simp [convert,run_underlying hs,run_underlying hd,hρ,Conv.intToInt]
  · simp [Rd.run] at h
 case makeFunc fn first cap =>
  cases fn <;> (try simp only at h) <;> try (simp [Rd.run] at h; done)
  rename_i f
  have:=Qw h; simp only [Prod.mk.injEq] at this; obtain ⟨rfl,-,-⟩:=this
  have h1:=VRs.map hv first; have h2:=VRs.map hv cap
  refine fin (s:=Instr.makeFunc (.func f) (first.map ρ) (cap.map ρ)) rfl (.mk rfl (.clos (by simp) (fun i c v a b=>h1.2 i c v a (by simpa using b)) (by simp) (fun i c v a b=>h2.2 i c v a (by simpa using b))))
 case makeSlice t l c=>exact finE rfl (yu hm hb (hv l) (hv c) h ho)
 case slice t x lo hi mx=>exact finE rfl (sliceA_sound hm hb (hv x) (VRo.map hv lo) (VRo.map hv hi) (VRo.map hv mx) h ho)
 case fieldAddr s x f=>exact fin rfl (fieldA_sound hm (hv x) h ho)
 case field s x f=>exact fin rfl (Qcm (hv x) h)
 case indexAddr t x i=>exact fin rfl (indexA_sound hm (hv x) (hv i) h ho)
 case index t x i=>exact fin rfl (Qci (hv x) (hv i) h ho)
 case makeMap t r =>
  cases r with
  | some _=>simp [Rd.run] at h
  | none =>
   simp only [Qch] at h
   split at h
   · simp only [Rd.run,Option.some.injEq,Prod.mk.injEq] at h
     obtain ⟨rfl,-,-⟩:=h
     exact finE (s:=Instr.makeMap t none) rfl ⟨_,_,by simp only [Instr.makeMap,Sem.run_bind,qB,Result.andThen_ok,Sem.run_pure]; rfl,Mem.allocObj (cells:=[]) (fl:=true) (ob:=.map #[] 0) (it:=false) hm hb (by simp) (by simp only [XJ,if_true]; exact ⟨#[],rfl,rfl,by simp,by simp⟩)⟩
   · simp [Rd.run] at h
 case lookup t x i ok =>
  have hx:=hv x
  have hi:=hv i
  simp only [lookupA] at h
  split at h
  · rename_i kt et kk g ht hxe
    rw [hxe] at hx
    obtain ⟨b,hb',h⟩:=QE h
    obtain ⟨hl,hz,hf,hg,h⟩:=XM h
    obtain ⟨blk,o,ob,hβ,hc,q1,q2⟩:=ye hm hb' hl hz hg hx
    obtain ⟨es,rfl,e1,e2⟩:=q2.ents hf
    refine fin (s:=Instr.lookup t (ρ x) (ρ i) ok) rfl ?_
    rw [hc]
    exact Ku ht hi q1 e1 h ho
  · rename_i kt et cells ht hxe
    rw [hxe] at hx
    generalize hρ:ρ x=vx at hx
    cases hx with
    | rmap es hz hh hl hb2 hr =>
     refine fin (s:=Instr.lookup t (ρ x) (ρ i) ok) rfl ?_
     rw [hρ]
     exact Ku ht hi hh ⟨by simpa using hl,fun i c e p q=>hr i c e p (by simpa using q)⟩ h ho
  · simp [Rd.run] at h
 case insert t m k x =>
  obtain ⟨w',h1,h2⟩:=WQ (idx:=idx) hm (hv m) (hv k) (hv x) h ho
  exact .inr (.inl ⟨w',by simp only [execOp,Sem.run_bind,h1,Result.andThen_ok,Sem.run_pure],h2⟩)
 case mapUpdate t m k x =>
  obtain ⟨w',h1,h2⟩:=WQ (idx:=idx) hm (hv m) (hv k) (hv x) h ho
  exact .inr (.inl ⟨w',by simp only [execOp,Sem.run_bind,h1,Result.andThen_ok,Sem.run_pure],h2⟩)
 case mapEntry t m k =>
  obtain ⟨c,w',h1,h2⟩:=mapEnt_sound (idx:=idx) hm (hv m) (hv k) h ho
  exact finE (s:=Instr.mapEntry t (ρ m) (ρ k)) rfl ⟨c,w',h1,h2⟩
 case entryStore t m n x =>
  obtain ⟨w',h1,h2⟩:=mapSto_sound (t:=t) (idx:=idx) hm (hv m) (hv n) (hv x) h ho
  refine .inr (.inl ⟨w',?_,h2⟩)
  simp only [execOp,Sem.run_bind,Sem.run_pure]
  rw [h1]; rfl
 case range t x =>
  have hx:=hv x
  simp only [rangeA] at h
  split at h
  · rename_i kt et kk g ht hxe
    rw [hxe] at hx
    obtain ⟨b,hb',h⟩:=QE h
    obtain ⟨hl,hz,hf,hg,h⟩:=XM h
    simp only [Rd.run,Option.some.injEq,Prod.mk.injEq] at h
    obtain ⟨rfl,-,-⟩:=h
    obtain ⟨blk,o,ob,hβ,hc,q1,q2⟩:=ye hm hb' hl hz hg hx
    obtain ⟨es,rfl,e1,e2⟩:=q2.ents hf
    have hget:(getObj blk).run P w=.ok (.map es es.size) w:=XB q1 (by intro c t f; simp)
    rw [hc] at hx
    refine finE (s:=Instr.range t (ρ x)) rfl ⟨_,_,by
     simp only [Instr.range,Sem.run_bind,run_underlying ht,Result.andThen_ok,hc,VS,Bool.false_eq_true,if_false,hget,qB,Sem.run_pure]; rfl,Mem.allocObj (ob:=.mapIter (some blk) es.size #[] es.size) (it:=true) hm hb ?_ ?_⟩
    · intro i c hi
      match i,hi with
      | 0,hi=>simp at hi; subst hi; rfl
      | 1,hi=>simp at hi; subst hi; rfl
      | i+2,hi=>simp at hi
    · simp only [XJ,Bool.false_eq_true,if_false]
      refine ⟨blk,es.size,#[],rfl,rfl,⟨_,rfl,hx⟩,by have:=e1.1; simp at this; simp [this],by simp⟩
  · rename_i kt et cells ht hxe
    rw [hxe] at hx
    simp only [Rd.run,Option.some.injEq,Prod.mk.injEq] at h
    obtain ⟨rfl,-,-⟩:=h
    generalize hρ:ρ x=vx at hx
    have hx2:=hx
    cases hx with
    | rmap es hz hh hl hb2 hr =>
     rename_i blk
     have hget:(getObj blk).run P w=.ok (.map es es.size) w:=XB hh (by intro c t f; simp)
     refine finE (s:=Instr.range t (ρ x)) rfl ⟨_,_,by
      simp only [Instr.range,Sem.run_bind,run_underlying ht,Result.andThen_ok,hρ,hget,qB,Sem.run_pure]; rfl,Mem.allocObj (ob:=.mapIter (some blk) es.size #[] es.size) (it:=true) hm hb ?_ ?_⟩
     · intro i c hi
       match i,hi with
       | 0,hi=>simp at hi; subst hi; rfl
       | 1,hi=>simp at hi; subst hi; rfl
       | i+2,hi=>simp at hi
     · simp only [XJ,Bool.false_eq_true,if_false]
       exact ⟨blk,es.size,#[],rfl,rfl,⟨_,rfl,hx2⟩,by simp [hl],by simp⟩
  · simp [Rd.run] at h
 case entry it =>
  have hx:=hv it
  simp only [entryA] at h
  split at h
  · rename_i kk g hxe
    rw [hxe] at hx
    obtain ⟨b,hb',h⟩:=QE h
    obtain ⟨hl,hz,hf,hg,h⟩:=XM h
    obtain ⟨blk,o,ob,hβ,hc,q1,q2⟩:=ye hm hb' hl hz hg hx
    rw [hf] at q2
    simp only [XJ,Bool.false_eq_true,if_false] at q2
    obtain ⟨m,n,seen,rfl,l1,⟨c0,l2,l3⟩,l4,l5⟩:=q2
    have hgetI:(getObj blk).run P w=.ok (.mapIter (some m) n seen n) w:=XB q1 (by intro c t f; simp)
    have main:∀ {cells:List AV} {es:Array MapEntry},w.heap[m]?=some (.map es es.size)→Ents Z w cells es.toList→(∀ (i:Nat) (e:MapEntry),es[i]?=some e→e.born=i)→(KY b cells evs).run (blks[·]?)=some (eff,evs',obs) →
     XP P Z w C eff (Instr.entry (ρ it)):=by
     intro cells es hh he hb2 h
     unfold KY at h
     split at h
     · rename_i i k v r _ _ _
       have:=Qw h; simp only [Prod.mk.injEq] at this; obtain ⟨rfl,-,rfl⟩:=this
       obtain ⟨o1,o2,o3,o4,-⟩:=ho
       have hlen:cells.length=es.size:=by have:=he.1; simpa using this
       rw [l4] at o2
       have hn:n=es.size:=by
        simp only [Option.some.injEq,AV.int.injEq,true_and] at o2; omega
       have hpos:0<seen.size:=by omega
       have hlast:seen[seen.size - 1]?=some (seen[seen.size - 1]'(by omega)):=by simp [show seen.size - 1<seen.size by omega]
       have hl5:=l5 _ _ hlast
       rw [List.getLast?_eq_getElem?,show b.cells.length - 1=seen.size - 1+2 by omega,hl5] at o1
       have hs:seen[seen.size - 1]'(by omega)=i:=by
        simp only [Option.some.injEq,AV.int.injEq,true_and] at o1; omega
       have hback:seen.back?=some i:=by rw [Array.back?_eq_getElem?,hlast,hs]
       have hi:i<es.size:=by have:=(List.getElem?_eq_some_iff.1 o4).1; omega
       have hgetM:(getObj m).run P w=.ok (.map es es.size) w:=XB hh (by intro c t f; simp)
       have hei:es[i]?=some es[i]:=by simp [hi]
       have hfind:es.find? (fun e=>e.born == i)=some es[i]:=by
        rw [← Array.find?_toList]
        have:∀ (l:List MapEntry) (s:Nat),(∀ (j:Nat) (e:MapEntry),l[j]?=some e→e.born=s+j)→∀ (e:MapEntry) (j:Nat),l[j]?=some e→l.find? (fun x=>x.born == s+j)=some e:=by
         intro l
         induction l with
         | nil=>intro s _ e j h; simp at h
         | cons x l ih =>
          intro s hb e j h
          have h0:=hb 0 x rfl
          cases j with
          | zero=>simp at h; subst h; simp [List.find?,h0]
          | succ j =>
           have:(x.born == s+(j+1))=false:=by simp [h0]
           simp only [List.find?,this]
           have:=ih (s+1) (fun j e hj=>by rw [hb (j+1) e (by simpa using hj)]; omega) e j (by simpa using h)
           rw [show s+(j+1)=s+1+j by omega]; exact this
        have:=this es.toList 0 (fun j e hj=>by rw [Nat.zero_add]; exact hb2 j e (by rw [← Array.getElem?_toList]; exact hj)) es[i] i (by simp)
        simpa using this
       obtain ⟨hk,hv'⟩:=WK (he.2 i _ es[i] o4 (by simp))
       refine .mk (c:=.tuple #[es[i].key,es[i].val]) ?_ (.tup rfl fun j c v p q=>?_)
       · simp only [Instr.entry,hc,VS,if_true,Sem.run_bind,hgetI,Result.andThen_ok,hback,hgetM,hn,bne_self_eq_false,Bool.false_eq_true,if_false,Sem.run_pure,hfind]
       · match j,p,q with
         | 0,p,q=>simp at p q; subst p; subst q; exact hk.of0
         | 1,p,q=>simp at p q; subst p; subst q; exact hv'.of0
         | j+2,p,q=>simp at p
     · simp [Rd.run] at h
    split at h
    · rename_i km gm hcm
      rw [l2] at hcm; cases hcm
      obtain ⟨bm,hbm,h⟩:=QE h
      obtain ⟨ml,mz,mf,mg,h⟩:=XM h
      obtain ⟨blk2,o2,ob2,hβ2,hc2,r1,r2⟩:=ye hm hbm ml mz mg l3
      simp only [VS,Bool.false_eq_true,if_false,Value.map.injEq,Option.some.injEq] at hc2
      subst hc2
      obtain ⟨es,rfl,e1,e2⟩:=r2.ents mf
      exact fin (s:=Instr.entry (ρ it)) rfl (main r1 e1 e2 h)
    · rename_i cells hcm
      rw [l2] at hcm; cases hcm
      cases l3 with
      | rmap es hz2 hh hl2 hb2 hr=>exact fin (s:=Instr.entry (ρ it)) rfl (main hh ⟨by simpa using hl2,fun i c e p q=>hr i c e p (by simpa using q)⟩ hb2 h)
    · simp [Rd.run] at h
  · simp [Rd.run] at h
 case extract t i =>
  split at h
  · rename_i vs ht
    split at h
    · rename_i v hvi
      have:=Qw h; simp only [Prod.mk.injEq] at this; obtain ⟨rfl,-,-⟩:=this
      have hvt:=hv t
      rw [ht] at hvt
      generalize hρ:ρ t=vt at hvt
      cases hvt with
      | tup hl h =>
       rename_i arr
       have hlt:i<arr.size:=by have:=(List.getElem?_eq_some_iff.1 hvi).1; omega
       refine fin (s:=Instr.extract (ρ t) i) rfl (.mk (c:=arr[i]) ?_ (h i v arr[i] hvi (by simp [hlt])))
       simp [Instr.extract,hρ,hlt]
    · simp [Rd.run] at h
  · simp [Rd.run] at h
 case call c =>
  obtain ⟨callee,args,argTypes⟩:=c
  have hargs:=VRs.map hv args
  cases callee <;> (try simp only at h) <;> try (simp [Rd.run] at h; done)
  case value f =>
   obtain ⟨d,g,as1,h1,h2,h3⟩:=callA_sound (idx:=idx) (cargs:=args.map ρ) hm hb (hv f) hargs h ho
   exact .inr (.inr ⟨g,as1,by simp only [execOp,resolve,Sem.run_bind,h1,Result.andThen_ok,h2],h3⟩)
  case builtin b =>
   split at h
   · rename_i x t ha ht
     rw [ha] at hargs
     obtain ⟨c,cs,e1,hx,hr⟩:=hargs.cons
     obtain rfl:=hr.nil
     have e2:args.map ρ=#[c]:=by apply Array.ext'; simpa using e1
     have e3:argTypes=#[t]:=by apply Array.ext'; simpa using ht
     refine fin (s:=Builtin.len_ #[t] type #[c]) ?_ (lenA_sound hm hx h ho type)
     simp only [execOp,resolve,invoke,builtin,e2,e3]
     rfl
   · rename_i d s t u ha ht
     rw [ha] at hargs
     obtain ⟨c1,cs,e1,hd,hr⟩:=hargs.cons
     obtain ⟨c2,cs2,rfl,hs,hr2⟩:=hr.cons
     obtain rfl:=hr2.nil
     have e2:args.map ρ=#[c1,c2]:=by apply Array.ext'; simpa using e1
     have e3:argTypes=#[t,u]:=by apply Array.ext'; simpa using ht
     split at h
     · rename_i e' hu
       refine finE (s:=Builtin.append_ #[t,u] type #[c1,c2]) ?_ (QcJ hm hb hd hs hu h ho)
       simp only [execOp,resolve,invoke,builtin,e2,e3]
       rfl
     · simp [Rd.run] at h
   · rename_i d s t r ha ht
     rw [ha] at hargs
     obtain ⟨c1,cs,e1,hd,hr⟩:=hargs.cons
     obtain ⟨c2,cs2,rfl,hs,hr2⟩:=hr.cons
     obtain rfl:=hr2.nil
     have e2:args.map ρ=#[c1,c2]:=by apply Array.ext'; simpa using e1
     have e3:argTypes[0]?=some t:=by rw [← Array.getElem?_toList,ht]; rfl
     refine finE (s:=Builtin.copy_ argTypes type #[c1,c2]) ?_ (copyB_sound e3 hm hd hs h ho)
     simp only [execOp,resolve,invoke,builtin,e2]
     rfl
   · rename_i k n r ha
     split at h
     · rename_i m hf
       have:=Qw h; simp only [Prod.mk.injEq] at this; obtain ⟨rfl,-,-⟩:=this
       rw [ha] at hargs
       obtain ⟨c1,cs,e1,hd,hr⟩:=hargs.cons
       cases hd
       refine fin (s:=Builtin.max_ argTypes type (args.map ρ)) rfl (.mk ?_ (.int _ _))
       simp only [Builtin.max_,e1]
       exact foldI_max hr hf
     · simp [Rd.run] at h
   · rename_i k n r ha
     split at h
     · rename_i m hf
       have:=Qw h; simp only [Prod.mk.injEq] at this; obtain ⟨rfl,-,-⟩:=this
       rw [ha] at hargs
       obtain ⟨c1,cs,e1,hd,hr⟩:=hargs.cons
       cases hd
       refine fin (s:=Builtin.min_ argTypes type (args.map ρ)) rfl (.mk ?_ (.int _ _))
       simp only [Builtin.min_,e1]
       exact foldI_min hr hf
     · simp [Rd.run] at h
   · simp [Rd.run] at h
end
end Ax
namespace Ax
open Go
mutual
def QW (n:Nat):AV→Bool
 | .ptr k _ _=>decide (k<n)
 | .sl k _ _ _ _=>decide (k<n)
 | .mp k _ _=>decide (k<n)
 | .pm _ k _ _=>decide (k<n)
 | .agg cs=>refsBelows n cs
 | .tup cs=>refsBelows n cs
 | .clos _ a b=>refsBelows n a && refsBelows n b
 | _=>true
def refsBelows (n:Nat):List AV→Bool
 | []=>true
 | c :: cs=>QW n c && refsBelows n cs
end
structure Env where
 Z0:Nat→Prop
 M:Nat→Prop
 w0:World
 b:Frame
 cs:List Frame
 Fin:Machine→Prop
 gA:List AV:=[]
 gV:List Value:=[]
 df:List Deferred:=[]
 Cb:Ctx:=C0
 low:∀ n,refsBelows n gA=true→∀ k,n≤k→Cb.β k=.absent∧Cb.γ k=0:=by intros; exact ⟨rfl,rfl⟩
 wb:World:=w0
def Reach (P:Program) (m:Machine) (F:Machine→Prop):Prop:=∃ m',Steps P m m'∧F m'
theorem Reach.step {P:Program} {m m':Machine} {F:Machine→Prop} (h:Steps P m m') (h':Reach P m' F):Reach P m F :=
 let ⟨x,a,b⟩:=h'; ⟨x,h.trans a,b⟩
/-- From here on,in whatever memory fits,the frame comes to what is asked. -/
def G (P:Program) (E:Env) (K:List Item) (st:St):Prop :=
 ∀ (C:Ctx) (Z:Nat→Prop) (a:Act) (w:World),Rel E.df E.Z0 E.M E.w0 E.gA E.gV E.Cb E.wb C Z st a w→Reach P (lone (E.b.atR a K) E.cs w) E.Fin
section
variable {P:Program} {E:Env} {K K':List Item} {st st':St}
theorem G.of_step (h:∀ (a:Act) (w:World),step P (lone (E.b.atR a K) E.cs w)=.next (lone (E.b.atR a K') E.cs w)) (hg:G P E K' st):G P E K st :=
 fun C Z a w hr=>.step (.one (h a w)) (hg C Z a w hr)
def putA (tmps:List AV) (dst:Option Nat) (v:AV):List AV :=
 match dst with
 | some d=>tmps.set d v
 | none=>tmps
theorem VRs.put {Z:Nat→Prop} {w:World} {C:Ctx} {tmps:List AV} {a:Act} {v:AV} {c:Value} (h:VRs Z w C tmps a.tmps.toList) (hv:VR Z w C v c) (dst:Option Nat) :
 VRs Z w C (putA tmps dst v) (a.put dst c).tmps.toList:=by
 cases dst with
 | none=>exact h
 | some d =>
  refine ⟨by simpa [putA,Act.put] using h.1,fun i x y h1 h2=>?_⟩
  simp only [putA] at h1
  simp only [Act.put,Array.toList_setIfInBounds] at h2
  rw [List.getElem?_set] at h1 h2
  split at h1
  · rename_i e
    rw [if_pos e] at h2
    split at h1
    · split at h2
      · cases h1; cases h2; exact hv
      · cases h2
    · cases h1
  · rename_i e
    rw [if_neg e] at h2
    exact h.2 i x y h1 h2
theorem Yh {Z:Nat→Prop} {w:World} {C:Ctx} {tmps:List AV} {a:Act} (h:VRs Z w C tmps a.tmps.toList) (x:Operand):VR Z w C (Wd tmps x) (a.eval x):=by
 cases x with
 | tmp t =>
  simp only [Wd,Act.eval]
  by_cases ht:t<tmps.length
  · have hl:t<a.tmps.size:=by exact Nat.lt_of_lt_of_eq ht h.1
    have:=h.2 t tmps[t] a.tmps[t] (by simp [ht]) (by simp [hl])
    simpa [List.getD,Array.getD,ht,hl] using this
  · simp [List.getD,List.getElem?_eq_none (Nat.le_of_not_lt ht)]; exact .junk _
 | const v=>exact VQ v
 | global g=>exact .junk _
 | func f=>exact .clos rfl (by simp) rfl (by simp)
def Vt (ops:Array Oper) (tmps:List AV) (o:Oper):Option Bool :=
 match o.guard with
 | none=>some true
 | some (j,want) =>
  match (ops[j]?).bind (·.dst) with
  | some d=>match tmps[d]? with
   | some (.bool c)=>some (c == want)
   | some (.tup _)=>some false
   | _=>none
  | none=>none
theorem XU {Z:Nat→Prop} {w:World} {C:Ctx} {ops:Array Oper} {tmps:List AV} {a:Act} {o:Oper} {b:Bool} (h:VRs Z w C tmps a.tmps.toList) (hw:Vt ops tmps o=some b) :
 Region.wanted o (yielded ops a.tmps)=b:=by
 unfold Vt at hw
 unfold Region.wanted
 cases hg:o.guard with
 | none=>simp [hg] at hw; simpa using hw
 | some g =>
  obtain ⟨j,want⟩:=g
  simp only [hg] at hw ⊢
  cases hd:(ops[j]?).bind (·.dst) with
  | none=>simp [hd] at hw
  | some d =>
   simp only [hd] at hw
   have key:∀ v,tmps[d]?=some v→∃ c,a.tmps[d]?=some c∧VR Z w C v c:=by
    intro v hv
    have hlt:d<a.tmps.size:=by exact Nat.lt_of_lt_of_eq (List.getElem?_eq_some_iff.1 hv).1 h.1
    exact ⟨a.tmps[d],by simp [hlt],h.2 d v _ hv (by simp [hlt])⟩
   split at hw
   · rename_i c hc
     obtain ⟨c',h1,h2⟩:=key _ hc
     cases h2
     simp only [Option.some.injEq] at hw
     simp [yielded,hd,h1,← hw]
   · rename_i vs hc
     obtain ⟨c',h1,h2⟩:=key _ hc
     cases h2
     simp only [Option.some.injEq] at hw
     simp [yielded,hd,h1,← hw]
   · cases hw
def effBlks (blks:List Blk):Eff→List Blk
 | .val _=>blks
 | .new b _=>blks++[b]
 | .upd k b _=>blks.set k b
def isGuard (ops:Array Oper) (i:Nat):Bool:=ops.toList.any fun o=>match o.guard with | some (j,_)=>j == i | none=>false
/-- A test's outcome,where later operations hang on it,is told. -/
def conc (tmps:List AV) (g:Bool) (dst:Option Nat) (evs:List EV):Option (List AV × List EV × List Prop) :=
 match g,dst with
 | true,some d=>match tmps[d]?,evs with
  | some (.bool c),.b x :: r=>some (tmps.set d (.bool x),r,[c=x])
  | _,_=>none
 | _,_=>some (tmps,evs,[])
def opA (P:Program) (ops:Array Oper) (i:Nat) (o:Oper) (st:St) (evs:List EV):Option (St × List EV × List Prop) :=
 match Vt ops st.tmps o with
 | none=>none
 | some false=>some (⟨putA st.tmps o.dst (.tup []),st.blks⟩,evs,[])
 | some true =>
  match (aop P o (Wd st.tmps) evs).run (st.blks[·]?) with
  | none=>none
  | some (eff,evs,obs) =>
   match conc (putA st.tmps o.dst (eff.av st.blks.length)) (isGuard ops i) o.dst evs with
   | none=>none
   | some (tmps,evs,obs2)=>some (⟨tmps,effBlks st.blks eff⟩,evs,obs++obs2)
theorem Rd.run_mono {α:Type} {gb gb':Nat→Option Blk} (h:∀ k b,gb k=some b→gb' k=some b):∀ {x:Rd α} {r:α},x.run gb=some r→x.run gb'=some r
 | .ok a,r,hr=>hr
 | .fail,r,hr=>by cases hr
 | .get k f,r,hr=>by
  obtain ⟨b,hb,hr⟩:=QE hr
  simp only [Rd.run,h k b hb]
  exact Rd.run_mono h hr
theorem Mem.push {Z0 M Z:Nat→Prop} {w0 w:World} {C:Ctx} {blks:List Blk} (hm:Mem Z0 M w0 C Z blks w):Mem Z0 M w0 C Z (blks++[dead]) w:=by
 have key:∀ {k:Nat} {b:Blk},(blks++[dead])[k]?=some b→blks[k]?=some b ∨ (k=blks.length∧b=dead):=by
  intro k b h
  rw [List.getElem?_append] at h
  split at h
  · exact .inl h
  · rename_i hk
    have h0:k - blks.length=0:=by have:=(List.getElem?_eq_some_iff.1 h).1; simp at this; omega
    rw [h0] at h; simp at h
    exact .inr ⟨by omega,h.symm⟩
 refine ⟨fun k b h=>?_,fun k b h=>?_,fun k b h hd=>?_,fun k h=>hm.dom k (by simp at h; omega),hm.inj,hm.own,hm.zlt,hm.z0,hm.zsub,hm.frame⟩
 · rcases key h with h | ⟨-,rfl⟩
   · exact hm.blk k b h
   · intro h; simp [dead] at h
 · rcases key h with h | ⟨rfl,rfl⟩
   · exact hm.gen k b h
   · exact (hm.dom _ (Nat.le_refl _)).2
 · rcases key h with h | ⟨rfl,rfl⟩
   · exact hm.dd k b h hd
   · exact (hm.dom _ (Nat.le_refl _)).1
theorem Mem.pop {Z0 M Z:Nat→Prop} {w0 w:World} {C:Ctx} {blks:List Blk} (hm:Mem Z0 M w0 C Z (blks++[dead]) w):Mem Z0 M w0 C Z blks w:=by
 have key:∀ {k:Nat} {b:Blk},blks[k]?=some b→(blks++[dead])[k]?=some b:=fun {k b} h=>by
  rw [List.getElem?_append_left (List.getElem?_eq_some_iff.1 h).1]; exact h
 refine ⟨fun k b h=>hm.blk k b (key h),fun k b h=>hm.gen k b (key h),fun k b h=>hm.dd k b (key h),fun k h=>?_,hm.inj,hm.own,hm.zlt,hm.z0,hm.zsub,hm.frame⟩
 rcases Nat.lt_or_ge blks.length k with h1 | h1
 · exact hm.dom k (by simp; omega)
 · obtain rfl:k=blks.length:=by omega
   have hd:(blks++[dead])[blks.length]?=some dead:=by simp
   exact ⟨hm.dd _ _ hd rfl,hm.gen _ _ hd⟩
theorem Marks.evo {C:Ctx} {Z Z' M:Nat→Prop} {w0 w w':World} {df ds:List Deferred} (h:Marks df Z M w0 ds w) (he:Evo C Z Z' w w'):Marks df Z' M w0 ds w':=by
 obtain ⟨Ds,h1,h2,h3⟩:=h
 exact ⟨Ds,h1,h2,fun D hD=>⟨he.zsub D (h3 D hD).1,(h3 D hD).2.1,by rw [he.same D (h3 D hD).1]; exact (h3 D hD).2.2⟩⟩
theorem VRs.next {C C':Ctx} {Z Z':Nat→Prop} {w w':World} {cs:List AV} {vs:List Value} (h:VRs Z w C cs vs) (hle:CtxLe C C') (he:Evo C Z Z' w w'):VRs Z' w' C' cs vs :=
 ⟨h.1,fun i c v a b=>((h.2 i c v a b).mono he).grow hle⟩
theorem Qbk {Z:Nat→Prop} {w:World} {C:Ctx} {tmps tmps':List AV} {vs:List Value} {g:Bool} {dst:Option Nat} {evs evs':List EV} {obs:List Prop} (h:VRs Z w C tmps vs)
 (hc:conc tmps g dst evs=some (tmps',evs',obs)) (ho:AllP obs):VRs Z w C tmps' vs:=by
 unfold conc at hc
 split at hc
 · rename_i d
   split at hc
   · rename_i c x r hd
     simp only [Option.some.injEq,Prod.mk.injEq] at hc
     obtain ⟨rfl,-,rfl⟩:=hc
     refine ⟨by simpa using h.1,fun i a b h1 h2=>?_⟩
     rw [List.getElem?_set] at h1
     split at h1
     · rename_i e
       subst e
       split at h1
       · cases h1
         rw [← ho.1]
         exact h.2 _ _ b hd h2
       · cases h1
     · exact h.2 i a b h1 h2
   · cases hc
 · simp only [Option.some.injEq,Prod.mk.injEq] at hc
   obtain ⟨rfl,-,-⟩:=hc
   exact h
theorem not_defer {o:Oper} {ev:Operand→AV} {evs:List EV} {gb:Nat→Option Blk} {r:Eff × List EV × List Prop} (h:(aop P o ev evs).run gb=some r):∀ c,o.op ≠ .defer c:=by
 intro c hc
 simp [aop,hc,Rd.run] at h
theorem okv_no {gb:Nat→Option Blk} {v:AV} {evs evs':List EV} {obs obs':List Prop} {k:Nat} {b:Blk} {u:AV} (h:(okv v evs obs).run gb=some (.upd k b u,evs',obs')):False:=by
 have:=Qw h; simp at this
/-- Which block an operation turns: one that it has read. -/
def Xr (blks:List Blk) (x:R):Prop:=∀ (k:Nat) (b:Blk) (v:AV) (evs':List EV) (obs:List Prop),x.run (blks[·]?)=some (.upd k b v,evs',obs)→k<blks.length
theorem Xr.okv {blks:List Blk} {v:AV} {evs:List EV} {obs:List Prop}:Xr blks (okv v evs obs):=fun _ _ _ _ _ h=>(okv_no h).elim
theorem Xr.fail {blks:List Blk}:Xr blks .fail:=fun _ _ _ _ _ h=>by cases h
theorem Xr.new {blks:List Blk} {b:Blk} {mk:Nat→AV} {evs:List EV} {obs:List Prop}:Xr blks (.ok (.new b mk,evs,obs)):=fun _ _ _ _ _ h=>by simp [Rd.run] at h
theorem Xr.upd {blks:List Blk} {k:Nat} {b b':Blk} {v:AV} {evs:List EV} {obs:List Prop} (hb:blks[k]?=some b):Xr blks (.ok (.upd k b' v,evs,obs)):=fun _ _ _ _ _ h=>by
 simp only [Rd.run,Option.some.injEq,Prod.mk.injEq,Eff.upd.injEq] at h
 rw [← h.1.1]; exact (List.getElem?_eq_some_iff.1 hb).1
theorem Xr.get {blks:List Blk} {k:Nat} {f:Blk→R} (h:∀ b,blks[k]?=some b→Xr blks (f b)):Xr blks (.get k f):=fun _ _ _ _ _ hr=>by
 obtain ⟨b,hb,hr⟩:=QE hr; exact h b hb _ _ _ _ _ hr
theorem Xr.gen {blks:List Blk} {b:Blk} {g:Nat} {f:List Prop→R} (h:∀ ob,Xr blks (f ob)):Xr blks (Vl b g f):=fun _ _ _ _ _ hr=>by
 obtain ⟨_,ob,hr,_⟩:=QT hr; exact h ob _ _ _ _ _ hr
theorem Xr.arith {blks:List Blk} {k:IntKind} {n:Int} {ob:List Prop} {evs:List EV}:Xr blks (arith k n ob evs):=by
 unfold Ax.arith; split <;> exact .okv
theorem Xr.bind {α:Type} {blks:List Blk} {x:Rd α} {f:α→R} (h:∀ a,Xr blks (f a)):Xr blks (x.bind f):=fun _ _ _ _ _ hr=>by
 obtain ⟨a,_,hr⟩:=bind_some hr; exact h a _ _ _ _ _ hr
theorem Xr.app {blks:List Blk} {e sz:Nat} {dst:AV} {S:List AV} {nr:Bool} {m:Nat} {evs:List EV} {obs:List Prop}:Xr blks (appA P e sz dst S nr m evs obs):=by
 unfold appA
 split
 · exact .fail
 split
 · exact .new
 · split
   · exact .fail
   · intro k b v evs' obs' hr
     obtain ⟨b',hb,hr⟩:=QE hr
     split at hr
     · split at hr
       · cases hr
       · simp only [Rd.run,Option.some.injEq,Prod.mk.injEq,Eff.upd.injEq] at hr
         obtain ⟨⟨rfl,-,-⟩,-,-⟩:=hr
         exact (List.getElem?_eq_some_iff.1 hb).1
     · cases hr
 · exact .fail
theorem Xr.appF {blks:List Blk} {t:TypeId} {d s:AV} {evs:List EV}:Xr blks (qW P t d s evs):=fun _ _ _ _ _ h=>appendF_turn h
theorem Xr.over {blks:List Blk} {k g off n sz:Nat} {S:List AV} {ob2:List Prop} {evs:List EV}:Xr blks (VX k g off n sz S ob2 evs):=by
 unfold VX
 exact .get fun b hb=>.gen fun ob=>.upd hb
theorem Xr.copy {blks:List Blk} {t:TypeId} {d s:AV} {evs:List EV}:Xr blks (copyA P t d s evs):=by
 unfold copyA
 repeat' (first | exact .fail | exact .over | (refine .get fun b hb=>?_) | (refine .gen fun ob=>?_) | split)
theorem Xr.copyB {blks:List Blk} {t:TypeId} {d s:AV} {evs:List EV}:Xr blks (copyB P t d s evs):=by
 unfold Ax.copyB
 split
 · unfold copy0A
   repeat' (first | exact .fail | exact .okv | (refine .get fun b hb=>?_) | (refine .gen fun ob=>?_) | split)
 · exact .copy
theorem Xr.store {blks:List Blk} {t:TypeId} {a x:AV} {evs:List EV}:Xr blks (storeA P t a x evs):=by
 unfold storeA
 split
 · simp only
   split
   · intro k b v evs' obs' hr
     obtain ⟨b',hb,hr⟩:=QE hr
     · obtain ⟨_,ob,hr,_⟩:=QT hr
       simp only [Rd.run,Option.some.injEq,Prod.mk.injEq,Eff.upd.injEq] at hr
       obtain ⟨⟨rfl,-,-⟩,-,-⟩:=hr
       exact (List.getElem?_eq_some_iff.1 hb).1
   · exact .fail
 · exact .fail
theorem qE {blks:List Blk} {b:Blk} {g:Nat} {fl:Bool} {r:R} (h:Xr blks r):Xr blks (Kk b g fl r):=fun _ _ _ _ _ hr=>by
 obtain ⟨-,-,-,-,hr⟩:=XM hr; exact h _ _ _ _ _ hr
theorem Xr.update {blks:List Blk} {t:TypeId} {m k v:AV} {evs:List EV}:Xr blks (qx P t m k v evs):=by
 unfold qx
 split
 · split
   · exact .fail
   · intro k b v evs' obs' hr
     obtain ⟨b',hb,hr⟩:=QE hr
     obtain ⟨-,-,-,-,hr⟩:=XM hr
     simp only [Rd.run,Option.some.injEq,Prod.mk.injEq,Eff.upd.injEq] at hr
     obtain ⟨⟨rfl,-,-⟩,-,-⟩:=hr
     exact (List.getElem?_eq_some_iff.1 hb).1
 · exact .fail
theorem Xr.mapEnt {blks:List Blk} {t:TypeId} {m k:AV} {evs:List EV}:Xr blks (Kt P t m k evs):=by
 unfold Kt
 split
 · split
   · exact .fail
   · refine .get fun b hb=>qE ?_
     split
     · exact .okv
     · split
       · exact .upd hb
       · exact .fail
     · exact .fail
 · exact .fail
theorem Xr.mapSto {blks:List Blk} {m n v:AV} {evs:List EV}:Xr blks (Ks m n v evs):=by
 unfold Ks
 split
 · split
   · exact .fail
   · exact .get fun b hb=>qE (.upd hb)
 · exact .fail
theorem Xr.layN {blks:List Blk} {x:R}:Xr blks (layN x):=by
 unfold Ax.layN
 split
 · unfold layA
   simp only
   split
   · exact .new
   · exact .fail
 · exact .fail
theorem Xr.aop {blks:List Blk} {o:Oper} {ev:Operand→AV} {evs:List EV}:Xr blks (aop P o ev evs):=by
 unfold Ax.aop
 split
 case h_9=>exact .store
 all_goals (try unfold newBox); (try unfold buildA); (try unfold VA); (try unfold YP); (try unfold loadA); (try unfold binA); (try unfold unA); (try unfold Wo); (try unfold sliceA); (try unfold fieldA); (try unfold Qcn); (try unfold indexA); (try unfold Qcj); (try unfold callA); (try unfold lenA); (try unfold Qch); (try unfold lookupA); (try unfold lookA); (try unfold rangeA); (try unfold entryA); (try unfold KY)
 all_goals repeat' (first | exact .okv | exact .fail | (with_reducible exact .update) | (with_reducible exact .mapEnt) | (with_reducible exact .mapSto) | (with_reducible exact .layN) | (refine qE ?_) | exact .new | exact .arith | exact .upd (by assumption) | (with_reducible exact .app) | (with_reducible exact .appF) | (with_reducible exact .copyB) | (refine .get fun b hb=>?_) | (refine .gen fun ob=>?_) | (refine .bind fun a=>?_) | split)
/-- Only a block that is there is turned. -/
theorem aop_upd {blks:List Blk} {o:Oper} {ev:Operand→AV} {evs evs':List EV} {obs:List Prop} {k:Nat} {b:Blk} {v:AV} (h:(aop P o ev evs).run (blks[·]?)=some (.upd k b v,evs',obs)):k<blks.length :=
 Xr.aop k b v evs' obs h
/-- One operation. -/
theorem op_step {ops:Array Oper} {i:Nat} {o:Oper} {rest:List Nat} {k:List Item} {evs evs':List EV} {obs:List Prop} (ho:ops[i]?=some o) {HK:Prop} (hk:HK)
 (h:opA P ops i o st evs=some (st',evs',obs)) (hob:AllP obs) (hg:G P E (.inRegion ops rest :: k) st'):G P E (.inRegion ops (i :: rest) :: k) st:=by
 intro C Z a w hr
 unfold opA at h
 split at h
 · cases h
 · rename_i hw
   simp only [Option.some.injEq,Prod.mk.injEq] at h
   obtain ⟨rfl,-,-⟩:=h
   have hwc:=XU hr.tmp hw
   have hs:=stepR_op_skip (P:=P) (b:=E.b) (a:=a) (k:=k) (cs:=E.cs) (w:=w) (ops:=ops) (i:=i) (rest:=rest) (by simp [ho,hwc])
   simp only [ho,Option.bind_some] at hs
   refine .step (.one hs) (hg C Z _ w ⟨hr.tmp.put (.tup (by simp) (by simp)) o.dst,hr.mem,?_,hr.gh,hr.base⟩)
   cases hd:o.dst <;> exact hr.marks
 · rename_i hw
   have hwc:=XU hr.tmp hw
   split at h
   · cases h
   · rename_i eff evs1 obs1 ha
     split at h
     · cases h
     · rename_i tmps evs2 obs2 hc
       simp only [Option.some.injEq,Prod.mk.injEq] at h
       obtain ⟨rfl,-,rfl⟩:=h
       obtain ⟨ob1,ob2⟩:=Qm.1 hob
       have hpush:=hr.mem.push
       have ha':=Rd.run_mono (gb':=fun k=>(st.blks++[dead])[k]?) (fun k b h=>by rw [List.getElem?_append_left (List.getElem?_eq_some_iff.1 h).1]; exact h) ha
       have hop:=aop_sound (idx:=st.blks.length) hpush (by simp) (Yh hr.tmp) ha' ob1
       have hgo:=stepGR_op (P:=P) (b:=E.b) (k:=k) (cs:=E.cs) (w:=w) (rest:=rest) ho hwc
       rw [Oper.semAt_eq _ _ _ (not_defer ha)] at hgo
       have hfin:∀ v,(E.b.atR a (.inRegion ops (i :: rest) :: k)).finish v=E.b.atR (a.put o.dst v) (.inRegion ops rest :: k):=by
        intro v; rw [Frame.finish_atR,ho]; rfl
       -- behind it
       have next:∀ (c:Value) (w':World),Res E.Z0 E.M E.w0 C Z (st.blks++[dead]) w st.blks.length eff c w'→Reach P (lone (E.b.atR (a.put o.dst c) (.inRegion ops rest :: k)) E.cs w') E.Fin:=by
        rintro c w' ⟨C',Z',hle,hevo,hm,hv⟩
        refine hg C' Z' _ w' ⟨Qbk ((hr.tmp.next hle hevo).put hv o.dst) hc ob2,?_,?_,hr.gh.next hle hevo,hr.base.next hle hevo⟩
        · cases eff with
          | val v=>exact hm.pop
          | new b mk =>
           have e:(st.blks++[dead]).set st.blks.length b=st.blks++[b]:=by simp
           simpa [Eff.blks,effBlks,e] using hm
          | upd kk b v =>
           have hkk:kk<st.blks.length:=aop_upd ha
           have e:(st.blks++[dead]).set kk b=st.blks.set kk b++[dead]:=List.set_append_left kk b hkk
           exact Mem.pop (by simpa [Eff.blks,effBlks,e] using hm)
        · have:(a.put o.dst c).defers=a.defers:=by cases o.dst <;> rfl
          rw [this]; exact hr.marks.evo hevo
       rcases hop with ⟨c,w',hrun,hq⟩ | ⟨w',hrun,hq⟩ | ⟨f,args,hrun,hcall⟩
       · refine .step (.one (step_lone_go ?_)) (next c w' hq)
         rw [hgo,← hfin]; simp [stepG.apply,hrun]
       · refine .step (.one (step_lone_go ?_)) (next undef w' hq)
         rw [hgo,← hfin]; simp [stepG.apply,hrun]
       · obtain ⟨e,w'',fr,⟨v,rfl,hq⟩,hsteps,-,hleave⟩:=hcall (E.b.atR a (.inRegion ops (i :: rest) :: k) :: E.cs)
         have henter:step P (lone (E.b.atR a (.inRegion ops (i :: rest) :: k)) E.cs w) =
          .next (lone (Frame.enter P f args .normal) (E.b.atR a (.inRegion ops (i :: rest) :: k) :: E.cs) w) :=
          step_lone_go (by rw [hgo]; simp [stepG.apply,hrun,Frame.atR])
         refine .step (Steps.head henter (hsteps.trans (.one ?_))) (next v w'' hq)
         rw [← hfin]; exact step_leave_returned hleave
end
end Ax
namespace Ax
open Go
section
variable {P:Program} {E:Env} {K K':List Item} {st st':St}
/-! ### Forgetting: temporaries that are written before they are read,blocks that nothing leads to -/
/-- 'live': the temporaries that are kept. -/
def keepT (live:List Nat):Nat→List AV→List AV
 | _,[]=>[]
 | i,v :: vs=>(bif live.contains i then v else .junk) :: keepT live (i+1) vs
def weak (live:List Nat) (n:Nat) (st:St):Option St :=
 let tmps:=keepT live 0 st.tmps
 let blks:=st.blks.take n
 if refsBelows n tmps && (blks.all fun b=>!b.live || b.flat || refsBelows n (bif b.sz == 0 then b.cells.take 1 else b.cells)) then some ⟨tmps,blks⟩ else none
theorem Xa:∀ {n:Nat} {cs:List AV} {i:Nat} {c:AV},refsBelows n cs=true→cs[i]?=some c→QW n c=true
 | n,[],_,_,_,h=>by simp at h
 | n,d :: cs,0,c,hn,h=>by simp [refsBelows] at hn h; rw [← h]; exact hn.1
 | n,d :: cs,i+1,c,hn,h=>by simp [refsBelows] at hn h; exact Xa hn.2 h
def Ctx.cut (C:Ctx) (n:Nat):Ctx:=⟨fun k=>if k<n then C.β k else .absent,fun k=>if k<n then C.γ k else 0⟩
theorem VR.cut {C:Ctx} {Z:Nat→Prop} {w:World} {n:Nat} {v:AV} {c:Value} (h:VR Z w C v c) (hn:QW n v=true):VR Z w (C.cut n) v c:=by
 induction h with
 | bool b=>exact .bool b
 | int k n=>exact .int k n
 | nilPtr=>exact .nilPtr
 | @ptr C₁ k g off c hg ho h =>
  have hk:k<n:=by simpa [QW] using hn
  exact .ptr (by simp [Ctx.cut,hk]; exact hg) ho (by simp [Ctx.cut,hk]; exact h)
 | rptr cv hz hc hk hr ih=>exact .rptr cv hz hc hk hr
 | nilSl=>exact .nilSl
 | @sl C₁ k g off len sz c hg ho h =>
  have hk:k<n:=by simpa [QW] using hn
  exact .sl (by simp [Ctx.cut,hk]; exact hg) ho (by simp only [SlOk,Ctx.cut,hk,if_true]; exact h)
 | rsl cv hz hl hc hk hr ih=>exact .rsl cv hz hl hc hk hr
 | rsl0=>exact .rsl0
 | agg hl h ih=>exact .agg hl fun i c v h1 h2=>ih i c v h1 h2 (Xa (by simpa [QW] using hn) h1)
 | tup hl h ih=>exact .tup hl fun i c v h1 h2=>ih i c v h1 h2 (Xa (by simpa [QW] using hn) h1)
 | clos hl h hl' h' ih ih' =>
  simp only [QW,Bool.and_eq_true] at hn
  exact .clos hl (fun i c v h1 h2=>ih i c v h1 h2 (Xa hn.1 h1)) hl' (fun i c v h1 h2=>ih' i c v h1 h2 (Xa hn.2 h1))
 | @mp C₁ k g it c hg ho h =>
  have hk:k<n:=by simpa [QW] using hn
  exact .mp (by simp [Ctx.cut,hk]; exact hg) ho (by simp only [Ctx.cut,hk,if_true]; exact h)
 | pm cv hz hc hk hr hcm hv ih ihv=>exact .pm cv hz hc hk hr hcm (ihv (by simpa [QW] using hn))
 | rmap es hz hh hl hb hr ih=>exact .rmap es hz hh hl hb hr
 | nilFunc=>exact .nilFunc
 | opq v=>exact .opq v
 | junk v=>exact .junk v
theorem yf (live:List Nat):∀ (i:Nat) (vs:List AV),(keepT live i vs).length=vs.length
 | _,[]=>rfl
 | i,v :: vs=>by simp [keepT,yf live (i+1) vs]
theorem keepT_get (live:List Nat):∀ (i:Nat) (vs:List AV) (j:Nat) (x:AV),(keepT live i vs)[j]?=some x→vs[j]?=some x ∨ (x=.junk∧j<vs.length)
 | _,[],j,x,h=>by simp [keepT] at h
 | i,v :: vs,0,x,h=>by
  simp only [keepT,List.getElem?_cons_zero,Option.some.injEq] at h
  cases hc:live.contains i with
  | true=>rw [hc] at h; exact .inl (by rw [← h]; rfl)
  | false=>rw [hc] at h; exact .inr ⟨h.symm,by simp⟩
 | i,v :: vs,j+1,x,h=>by
  simp only [keepT,List.getElem?_cons_succ] at h
  rcases keepT_get live (i+1) vs j x h with h | ⟨h1,h2⟩
  · exact .inl (by simpa using h)
  · exact .inr ⟨h1,by simp; omega⟩
theorem Base.cut {Cb C:Ctx} {w0 w:World} {n:Nat} (h:Base Cb w0 C w) (hn:∀ k,n≤k→Cb.β k=.absent∧Cb.γ k=0):Base Cb w0 (C.cut n) w:=by
 refine ⟨⟨fun k=>?_,fun k p q=>?_⟩,fun k blk o arr e p q r=>?_⟩
 · simp only [Ctx.cut]
   split
   · exact h.le.gen k
   · rw [(hn k (by omega)).2]; exact Nat.zero_le _
 · simp only [Ctx.cut] at q ⊢
   split at q
   · rename_i hk; rw [if_pos hk]; exact h.le.pos k p q
   · rename_i hk; exact absurd (hn k (by omega)).1 p
 · simp only [Ctx.cut] at q
   split at q
   · exact h.rows k blk o arr e p q r
   · rename_i hk; rw [(hn k (by omega)).1] at p; cases p
/-- Of an iterator's row only the first cell refers to anything. -/
theorem Qar.next1 {C C':Ctx} {Z Z':Nat→Prop} {w w':World} {blk o:Nat} {b:Blk} (h:Qar C Z w blk o b) (hh:w'.heap[blk]?=w.heap[blk]?)
 (h0:∀ c v,VR Z w C0 c v→VR Z' w' C0 c v) (h1:b.flat=false→∀ c v,c ∈ (bif b.sz == 0 then b.cells.take 1 else b.cells)→VR Z w C c v→VR Z' w' C' c v):Qar C' Z' w' blk o b:=by
 by_cases hz:b.sz=0
 · rcases h with ⟨hz',-⟩ | ⟨-,ob,r1,r2⟩
   · exact absurd hz hz'
   · refine .inr ⟨hz,ob,by rw [hh]; exact r1,?_⟩
     cases hf:b.flat with
     | true =>
      simp only [hf,XJ,if_true] at r2 ⊢
      obtain ⟨es,a,b',q,c⟩:=r2
      exact ⟨es,a,b',q,fun i x e hx he=>h0 _ _ (c i x e hx he)⟩
     | false =>
      simp only [hf,XJ,Bool.false_eq_true,if_false] at r2 ⊢
      obtain ⟨m,n,seen,a,b',⟨c,c1,c2⟩,d,e⟩:=r2
      refine ⟨m,n,seen,a,b',⟨c,c1,h1 hf _ _ ?_ c2⟩,d,e⟩
      simp only [hz,beq_self_eq_true,cond_true]
      exact List.mem_of_getElem? (i:=0) (by rw [List.getElem?_take,if_pos (by omega)]; exact c1)
 · have:(b.sz == 0)=false:=by simpa using hz
   simp only [this,cond_false] at h1
   exact h.next hh h0 h1
theorem weak_rel {df:List Deferred} {Z0 M:Nat→Prop} {w0:World} {gA:List AV} {gV:List Value} {Cb C:Ctx} {wb:World} {Z:Nat→Prop} {a:Act} {w:World} {live:List Nat} {n:Nat} (hlow:∀ k,n≤k→Cb.β k=.absent∧Cb.γ k=0) (hgh:refsBelows n gA=true) (h:weak live n st=some st')
 (hr:Rel df Z0 M w0 gA gV Cb wb C Z st a w):Rel df Z0 M w0 gA gV Cb wb (C.cut n) Z st' a w:=by
 simp only [weak] at h
 split at h
 · rename_i hc
   simp only [Option.some.injEq] at h
   subst h
   rw [Bool.and_eq_true] at hc
   obtain ⟨h1,h2⟩:=hc
   refine ⟨⟨by rw [yf]; exact hr.tmp.1,fun i c v hi hv=>?_⟩,?_,hr.marks,⟨hr.gh.1,fun i c v hi hv=>(hr.gh.2 i c v hi hv).cut (Xa hgh hi)⟩,hr.base.cut hlow⟩
   · have hb:=Xa h1 hi
     rcases keepT_get _ _ _ _ _ hi with h3 | ⟨rfl,-⟩
     · exact (hr.tmp.2 i c v h3 hv).cut hb
     · exact .junk _
   · have hm:=hr.mem
     have hget:∀ {k:Nat} {b:Blk},(st.blks.take n)[k]?=some b→k<n∧st.blks[k]?=some b:=by
      intro k b hb
      rw [List.getElem?_take] at hb
      split at hb
      · exact ⟨‹_›,hb⟩
      · cases hb
     refine ⟨fun k b hb hl=>?_,fun k b hb=>?_,fun k b hb hd=>?_,fun k hk=>?_,fun k k' c o o' e1 e2=>?_,fun k c o e1=>?_,hm.zlt,hm.z0,hm.zsub,hm.frame⟩
     · obtain ⟨hkn,hb'⟩:=hget hb
       obtain ⟨q1,q2⟩:=hm.blk k b hb' hl
       refine ⟨q1,?_⟩
       simp only [Ctx.cut,hkn,if_true]
       cases hs:C.β k with
       | absent=>simp [hs] at q2
       | unborn=>simp only [hs] at q2 ⊢; exact q2
       | loc blk o =>
        simp only [hs] at q2 ⊢
        refine q2.next1 rfl (fun c v h=>h) fun hf c v hc s2=>?_
        have:=List.all_eq_true.1 h2 b (List.mem_of_getElem? hb)
        simp only [hl,hf,Bool.not_true,Bool.false_or] at this
        obtain ⟨i,hi⟩:=List.getElem?_of_mem hc
        exact s2.cut (Xa this hi)
     · obtain ⟨hkn,hb'⟩:=hget hb
       simp only [Ctx.cut,hkn,if_true]; exact hm.gen k b hb'
     · obtain ⟨hkn,hb'⟩:=hget hb
       simp only [Ctx.cut,hkn,if_true]; exact hm.dd k b hb' hd
     · simp only [List.length_take] at hk
       simp only [Ctx.cut]
       by_cases hkn:k<n
       · simp only [hkn,if_true]; exact hm.dom k (by omega)
       · simp [hkn]
     · simp only [Ctx.cut] at e1 e2
       split at e1 <;> split at e2 <;> first | exact hm.inj k k' c o o' e1 e2 | cases e1 | cases e2
     · simp only [Ctx.cut] at e1
       split at e1
       · exact hm.own k c o e1
       · cases e1
 · cases h
theorem weak_step {live:List Nat} {n:Nat} (hgh:refsBelows n E.gA=true) (h:weak live n st=some st') (hg:G P E K st'):G P E K st :=
 fun C Z a w hr=>hg (C.cut n) Z a w (weak_rel (E.low n hgh) hgh h hr)
/-! ### A function's end -/
/-- Cells lie on; what is no row of cells may have turned. -/
structure EvoC (w w':World):Prop where
 objs:∀ (b:Nat) (ob:Obj),(∀ d,ob ≠ .deferred d)→w.heap[b]?=some ob→w'.heap[b]?=some ob
 size:w'.heap.size=w.heap.size
theorem EvoC.cells {w w':World} (h:EvoC w w') (b:Nat) (arr:Array Value) (e:TypeId) (fz:Nat × Nat) (hb:w.heap[b]?=some (Obj.cells arr e fz)):w'.heap[b]?=some (Obj.cells arr e fz):=h.objs b _ (by simp) hb
theorem EvoC.maps {w w':World} (h:EvoC w w') (b:Nat) (es:Array MapEntry) (n:Nat) (hb:w.heap[b]?=some (Obj.map es n)):w'.heap[b]?=some (Obj.map es n):=h.objs b _ (by simp) hb
theorem EvoC.iters {w w':World} (h:EvoC w w') (b:Nat) (m:Option Nat) (n:Nat) (seen:Array Nat) (l:Nat) (hb:w.heap[b]?=some (Obj.mapIter m n seen l)):w'.heap[b]?=some (Obj.mapIter m n seen l):=h.objs b _ (by simp) hb
theorem EvoC.cell {w w':World} (h:EvoC w w') {a:Addr} {v:Value} (hc:w.cell? a=some v):w'.cell? a=some v:=by
 unfold World.cell? at hc ⊢
 split at hc
 · rename_i c e f hb; rw [h.cells _ _ _ _ hb]; exact hc
 · cases hc
theorem VR.evoC {C:Ctx} {Z:Nat→Prop} {w w':World} {v:AV} {c:Value} (h:VR Z w C v c) (he:EvoC w w'):VR Z w' C v c:=by
 induction h with
 | bool b=>exact .bool b
 | int k n=>exact .int k n
 | nilPtr=>exact .nilPtr
 | ptr hg ho h=>exact .ptr hg ho h
 | rptr cv hz hc hk hr ih=>exact .rptr cv hz (fun i hi=>he.cell (hc i hi)) hk ih
 | nilSl=>exact .nilSl
 | sl hg ho h =>
  refine .sl hg ho fun e=>?_
  have h1:=h e
  unfold SlOk at h1 ⊢
  split at h1
  · obtain ⟨a,cap,h2,h3,h4,arr,e',h5,h6⟩:=h1
    exact ⟨a,cap,h2,h3,h4,arr,e',he.cells _ _ _ _ h5,h6⟩
  · exact h1
  · exact h1.elim
 | rsl cv hz hl hc hk hr ih=>exact .rsl cv hz hl (fun i hi=>he.cell (hc i hi)) hk ih
 | rsl0=>exact .rsl0
 | agg hl h ih=>exact .agg hl ih
 | tup hl h ih=>exact .tup hl ih
 | clos hl h hl' h' ih ih'=>exact .clos hl ih hl' ih'
 | nilFunc=>exact .nilFunc
 | opq v=>exact .opq v
 | junk v=>exact .junk v
 | mp hg ho h=>exact .mp hg ho h
 | rmap es hz hh hl hb hr ih=>exact .rmap es hz (he.maps _ _ _ hh) hl hb ih
 | pm cv hz hc hk hr hcm hv ih ihv=>exact .pm cv hz (fun i hi=>he.cell (hc i hi)) hk ih (he.cell hcm) ihv
theorem Mem.evoC {Z0 M Z:Nat→Prop} {w0 w w':World} {C:Ctx} {blks:List Blk} (hm:Mem Z0 M w0 C Z blks w) (he:EvoC w w') (hf:Fr w0 M w'):Mem Z0 M w0 C Z blks w':=by
 refine ⟨fun k b hb hl=>?_,hm.gen,hm.dd,hm.dom,hm.inj,fun k b o h=>?_,fun b hz=>by rw [he.size]; exact hm.zlt b hz,hm.z0,hm.zsub,hf⟩
 · obtain ⟨q1,q2⟩:=hm.blk k b hb hl
   refine ⟨q1,?_⟩
   cases hs:C.β k with
   | absent=>simp [hs] at q2
   | unborn=>simp only [hs] at q2 ⊢; exact q2
   | loc blk o =>
    simp only [hs] at q2 ⊢
    refine Qar.next (w:=w) (C:=C) (Z:=Z) q2 ?_ (fun c v h=>h.evoC he) (fun _ c v _ h=>h.evoC he)
    rcases q2 with ⟨-,arr,e,r1,-⟩ | ⟨-,ob,r1,r2⟩
    · rw [he.cells _ _ _ _ r1,r1]
    · unfold XJ at r2
      split at r2
      · obtain ⟨es,rfl,-⟩:=r2
        rw [he.maps _ _ _ r1,r1]
      · obtain ⟨m,n,seen,rfl,-⟩:=r2
        rw [he.iters _ _ _ _ _ r1,r1]
 · rw [he.size]; exact hm.own k b o h
theorem Base.evoC {Cb C:Ctx} {w0 w w':World} (h:Base Cb w0 C w) (he:EvoC w w'):Base Cb w0 C w' :=
 ⟨h.le,fun k blk o arr e p q r=>let ⟨arr',a,b⟩:=h.rows k blk o arr e p q r; ⟨arr',he.cells _ _ _ _ a,b⟩⟩
/-- The results,as the abstract machine reads them. -/
def resA (P:Program) (st:St):List ResultVar→List EV→Option (List AV × List EV × List Prop)
 | [],evs=>some ([],evs,[])
 | .tmp t :: rs,evs=>match resA P st rs evs with
  | some (vs,evs,obs)=>some (st.tmps.getD t .junk :: vs,evs,obs)
  | none=>none
 | .cell a t :: rs,evs=>match (loadA P t (st.tmps.getD a .junk) evs).run (st.blks[·]?) with
  | some (.val v,evs,o1)=>match resA P st rs evs with
   | some (vs,evs,obs)=>some (v :: vs,evs,o1++obs)
   | none=>none
  | _=>none
theorem tmps_get {C:Ctx} {Z:Nat→Prop} {w:World} {tmps:List AV} {arr:Array Value} (h:VRs Z w C tmps arr.toList) (t:Tmp):VR Z w C (tmps.getD t .junk) (arr.getD t undef) :=
 Yh (a:=⟨arr,[]⟩) h (.tmp t)
def resF (arr:Array Value):ResultVar→Sem Value
 | .tmp t=>pure (arr.getD t undef)
 | .cell a t=>do loadVar t (← asAddr (arr.getD a undef))
theorem qD {C:Ctx} {Z Z0 M:Nat→Prop} {w0 w:World} {arr:Array Value} (hm:Mem Z0 M w0 C Z st.blks w) (ht:VRs Z w C st.tmps arr.toList) :
 ∀ {rs:List ResultVar} {evs evs':List EV} {vs:List AV} {obs:List Prop},resA P st rs evs=some (vs,evs',obs)→AllP obs →
  ∃ cs:List Value,(rs.mapM (resF arr)).run P w=.ok cs w∧VRs Z w C vs cs
 | [],evs,evs',vs,obs,h,ho=>by
  simp only [resA,Option.some.injEq,Prod.mk.injEq] at h
  obtain ⟨rfl,-,-⟩:=h
  exact ⟨[],rfl,rfl,by simp⟩
 | .tmp t :: rs,evs,evs',vs,obs,h,ho=>by
  simp only [resA] at h
  split at h
  · rename_i vs1 evs1 obs1 h1
    simp only [Option.some.injEq,Prod.mk.injEq] at h
    obtain ⟨rfl,-,rfl⟩:=h
    obtain ⟨cs,r1,r2⟩:=qD hm ht h1 ho
    refine ⟨arr.getD t undef :: cs,by simp only [List.mapM_cons,resF,Sem.run_bind,Sem.run_pure,Result.andThen_ok,r1],by simp [r2.1],fun i c v a b=>?_⟩
    cases i with
    | zero=>simp only [List.getElem?_cons_zero,Option.some.injEq] at a b; rw [← a,← b]; exact tmps_get ht t
    | succ i=>exact r2.2 i c v (by simpa using a) (by simpa using b)
  · cases h
 | .cell a t :: rs,evs,evs',vs,obs,h,ho=>by
  simp only [resA] at h
  split at h
  · rename_i v evs1 o1 hl
    split at h
    · rename_i vs1 evs2 obs2 h1
      simp only [Option.some.injEq,Prod.mk.injEq] at h
      obtain ⟨rfl,-,rfl⟩:=h
      obtain ⟨a1,a2⟩:=Qm.1 ho
      obtain ⟨cs,r1,r2⟩:=qD hm ht h1 a2
      obtain ⟨v',c,e1,e2,e3⟩:=Kv hm (tmps_get ht a) hl a1
      cases e1
      have hload:(do loadVar t (← asAddr (arr.getD a undef)):Sem Value).run P w=.ok c w:=by
       unfold Instr.loadAt at e2
       cases hv:arr.getD a undef <;> simp only [hv,Instr.sureAddr] at e2 <;> try (simp at e2; done)
       rename_i p
       cases p with
       | none=>simp at e2
       | some p=>simpa [hv,asAddr] using e2
      refine ⟨c :: cs,by simp only [List.mapM_cons,resF,Sem.run_bind,Sem.run_pure,Result.andThen_ok,r1] at hload ⊢; rw [hload]; simp only [Result.andThen_ok,r1],by simp [r2.1],fun i c' v'' p q=>?_⟩
      cases i with
      | zero=>simp only [List.getElem?_cons_zero,Option.some.injEq] at p q; rw [← p,← q]; exact e3
      | succ i=>exact r2.2 i c' v'' (by simpa using p) (by simpa using q)
    · cases h
  · cases h
end
end Ax
namespace Ax
open Go
section
variable {P:Program} {E:Env} {K K':List Item} {st st':St}
def Wz (P:Program) (f:FuncId) (cs:List Frame) (Post:Value→World→Prop) (m:Machine):Prop :=
 ∃ v w' fr,m=lone fr cs w'∧fr.fn=f∧fr.leaving P w' (.returned v)∧Post v w'
theorem Qac {cs:List Frame} {M Z:Nat→Prop} {w0:World}:∀ (Ds:List Nat) (fr:Frame) (w:World),fr.mode=.returning→fr.defers=Ds.map mark→Ds.Nodup →
 (∀ D ∈ Ds,Z D∧(M D ∨ w0.heap.size≤D)∧w.heap[D]?=some (.deferred (some []))) →
 ∃ w',Steps P (lone fr cs w) (lone { fr with defers:=[] } cs w')∧EvoC w w'∧(Fr w0 M w→Fr w0 M w')
 | [],fr,w,hm,hd,hn,h=>by
  refine ⟨w,?_,⟨fun _ _ _ h=>h,rfl⟩,fun h=>h⟩
  have:fr={ fr with defers:=[] }:=by cases fr; simp at hd; simp [hd]
  rw [← this]; exact .refl _ _
 | D :: Ds,fr,w,hm,hd,hn,h=>by
  obtain ⟨h1,h2,h3⟩:=h D (by simp)
  have s1:=step_collected (P:=P) (cs:=cs) (fr:=fr) (by rw [hm]; simp) (d:=mark D) (ds:=Ds.map mark) (by simpa using hd) rfl (run_takeDeferred h3)
  obtain ⟨w',s2,e2,f2⟩:=Qac (M:=M) Ds { fr with defers:=[]++Ds.map mark } (w.putObj D (.deferred none)) hm rfl (List.nodup_cons.1 hn).2 fun D' hD'=>by
   obtain ⟨a,b,c⟩:=h D' (by simp [hD'])
   refine ⟨a,b,?_⟩
   have:D ≠ D':=fun e=>(List.nodup_cons.1 hn).1 (e ▸ hD')
   simp [World.putObj,this,c]
  refine ⟨w',.trans (.one s1) s2,⟨fun b ob hnd hb=>e2.objs b ob hnd ?_,by rw [e2.size]; simp [World.putObj]⟩,fun hf=>f2 ?_⟩
  · have:D ≠ b:=by rintro rfl; rw [h3] at hb; cases hb; exact hnd _ rfl
    simp [World.putObj,this,hb]
  · refine ⟨hf.os,hf.tape,hf.output,by simpa [World.putObj] using hf.size,fun b hb hM=>?_⟩
    have:D ≠ b:=by rintro rfl; rcases h2 with h2 | h2; exact hM h2; omega
    simp [World.putObj,this]; exact hf.same b hb hM
def tupV:List Value→Value
 | [v]=>v
 | cs=>.tuple cs.toArray
theorem results_run {fn:Func} {arr:Array Value} {w:World} {cs:List Value}
 (h:(fn.results.toList.mapM (resF arr)).run P w=.ok cs w) :
 (results fn arr).run P w=.ok (tupV cs) w:=by
 have hF:results fn arr=(do let vs ← fn.results.mapM (resF arr); pure (if h:vs.size=1 then vs[0] else .tuple vs):Sem Value):=by
  unfold results
  congr 2
 rw [hF,Array.mapM_eq_mapM_toList]
 simp only [Sem.run_bind,map_eq_pure_bind,Sem.run_pure]
 rw [h]
 simp only [Result.andThen_ok,Sem.run_pure]
 split
 · rename_i h1
   match cs,h1 with
   | [v],_=>rfl
 · rename_i h1
   match cs,h1 with
   | [],_=>rfl
   | [v],h1=>simp at h1
   | a :: b :: c,_=>rfl
def tupA:List AV→AV
 | [v]=>v
 | vs=>.tup vs
theorem tupA_sound {Z:Nat→Prop} {w:World} {C:Ctx} {vs:List AV} {cs:List Value} (h:VRs Z w C vs cs):VR Z w C (tupA vs) (tupV cs):=by
 obtain ⟨h1,h2⟩:=h
 match vs,cs,h1 with
 | [],[],_=>exact .tup rfl (by simp)
 | [v],[c],_=>exact h2 0 v c rfl rfl
 | a :: b :: r,a' :: b' :: r',h1=>exact .tup (by simpa using h1) fun i c v p q=>h2 i c v p (by simpa using q)
/-- The end of a function's body. -/
theorem G_end {fn:Func} {evs evs':List EV} {vs:List AV} {obs:List Prop} {Post:Value→World→Prop}
 (hr:E.b.roundOf=none) (hk:E.b.kind=.normal) (hdf:E.df=[]) (hf:P.funcs[E.b.fn]?=some fn) (hfin:E.Fin=Wz P E.b.fn E.cs Post)
 (h:resA P st fn.results.toList evs=some (vs,evs',obs)) (ho:AllP obs)
 (hp:∀ (C:Ctx) (Z:Nat→Prop) (w:World) (v:Value),Mem E.Z0 E.M E.w0 C Z st.blks w→VR Z w C (tupA vs) v→Base E.Cb E.wb C w→Post v w)
 (hK:K=[] ∨ ∃ k,K=.code .ret :: k):G P E K st:=by
 intro C Z a w hrel
 have hs:step P (lone (E.b.atR a K) E.cs w)=.next (lone { E.b.atR a K with mode:=.returning } E.cs w):=by
  rcases hK with rfl | ⟨k,rfl⟩
  · exact stepR_end hr
  · exact stepR_ret hr
 obtain ⟨Ds,d1,d2,d3⟩:=hrel.marks
 obtain ⟨w',s2,e2,f2⟩:=Qac (P:=P) (cs:=E.cs) (M:=E.M) (w0:=E.w0) Ds { E.b.atR a K with mode:=.returning } w rfl (d2.eq hdf) d1 d3
 have hm':=hrel.mem.evoC e2 (f2 hrel.mem.frame)
 have ht':VRs Z w' C st.tmps a.tmps.toList:=⟨hrel.tmp.1,fun i c v p q=>(hrel.tmp.2 i c v p q).evoC e2⟩
 obtain ⟨cs,r1,r2⟩:=qD hm' ht' h ho
 refine ⟨_,.trans (.one hs) s2,?_⟩
 rw [hfin]
 exact ⟨_,w',_,rfl,rfl,⟨rfl,rfl,hk,fn,hf,results_run r1⟩,hp C Z w' _ hm' (tupA_sound r2) (hrel.base.evoC e2)⟩
/-- A function that only reads what it is handed. -/
def Pure (P:Program) (f:FuncId) (args:List AV) (res:AV):Prop :=
 ∀ (Z:Nat→Prop) (w:World) (cargs:Array Value),(∀ b,Z b→b<w.heap.size)→VRs Z w C0 args cargs.toList →
  Calls P f cargs w fun e w'=>∃ v,e=.returned v∧VR (Zx Z w w') w' C0 res v∧Fr w (fun _=>False) w'
def unds:Nat→List AV
 | 0=>[]
 | n+1=>.tup [] :: unds n
theorem Yd:∀ n,unds n=List.replicate n (.tup [])
 | 0=>rfl
 | n+1=>by simp [unds,Yd n,List.replicate_succ]
/-- The frame of a called function,and what it must come to. -/
def callEnv (P:Program) (f:FuncId) (Z:Nat→Prop) (M:Nat→Prop) (w:World) (cs:List Frame) (Post:Value→World→Prop):Env :=
 { Z0:=Z,M:=M,w0:=w,b:={ (default:Frame) with fn:=f,kind:=.normal },cs:=cs,Fin:=Wz P f cs Post }
def Qh (P:Program) (f:FuncId) (res:AV) (E:Env):Prop :=
 E.b.roundOf=none∧E.b.kind=.normal∧E.b.fn=f∧(∀ b,¬ E.M b) ∧
  E.gA=[]∧E.Fin=(Wz P f E.cs fun v w'=>VR (Zx E.Z0 E.w0 w') w' C0 res v∧Fr E.w0 (fun _=>False) w')∧E.Cb=C0∧E.df=[]
theorem Qh.kind {f:FuncId} {res:AV} (hE:Qh P f res E):E.b.kind=.normal:=hE.2.1
theorem Qh.cb {f:FuncId} {res:AV} (hE:Qh P f res E):E.Cb=C0:=hE.2.2.2.2.2.2.1
theorem mem_nil {Z:Nat→Prop} {w:World} (hz:∀ b,Z b→b<w.heap.size):Mem Z (fun _=>False) w C0 Z [] w :=
 ⟨by simp,by simp,by simp,fun _ _=>⟨rfl,rfl⟩,fun _ _ _ _ _ h=>by simp [C0] at h,fun _ _ _ h=>by simp [C0] at h,hz,fun _ h=>h,fun _ h=>.inl h,Fr.refl _ _⟩
theorem Qy {f:FuncId} {fn:Func} {c:Code} {args:List AV} {res:AV} (hf:P.funcs[f]?=some fn) (hb:fn.body=some c)
 (h:∀ E,Qh P f res E→G P E [.code c] ⟨args++unds (fn.ntmps - args.length),[]⟩):Pure P f args res:=by
 intro Z w cargs hz ha cs
 have hE:Qh P f res (callEnv P f Z (fun _=>False) w cs fun v w'=>VR (Zx Z w w') w' C0 res v∧Fr w (fun _=>False) w') :=
  ⟨rfl,rfl,rfl,fun _ h=>h,rfl,rfl,rfl,rfl⟩
 have henter:Frame.enter P f cargs .normal=({ (default:Frame) with fn:=f,kind:=.normal }:Frame).atR { tmps:=cargs++Array.replicate (fn.ntmps - cargs.size) undef,defers:=[] } [.code c]:=by
  simp only [Frame.enter,Frame.atR,hf,hb,Option.map_some,Option.getD_some,Option.bind_some]; rfl
 have hl:args.length=cargs.size:=by simpa using ha.1
 obtain ⟨m',s,v,w',fr,rfl,r1,r2,r3⟩:=h _ hE C0 Z { tmps:=cargs++Array.replicate (fn.ntmps - cargs.size) undef,defers:=[] } w
  ⟨⟨by simp [Yd,hl],fun i x y p q=>by
   simp only [Array.toList_append,Array.toList_replicate] at q
   rw [Yd] at p
   by_cases hi:i<args.length
   · rw [List.getElem?_append_left hi] at p
     rw [List.getElem?_append_left (by simpa [← hl] using hi)] at q
     exact ha.2 i x y p q
   · rw [List.getElem?_append_right (by omega)] at p
     rw [List.getElem?_append_right (by simp; omega)] at q
     have p':=List.mem_replicate.1 (List.mem_of_getElem? p)
     have q':=List.mem_replicate.1 (List.mem_of_getElem? q)
     rw [p'.2,q'.2]
     exact .tup rfl (by simp)⟩,mem_nil hz,⟨[],.nil,.nil,by simp⟩,⟨rfl,fun _ _ _ h _=>by cases h⟩,.bot⟩
 rw [henter]
 exact ⟨.returned v,w',fr,⟨v,rfl,r3⟩,s,r1,r2⟩
/-- The end of a function that only reads: its result,laid down. -/
theorem G_pure {f:FuncId} {fn:Func} {evs evs':List EV} {vs:List AV} {obs o2:List Prop} {res:AV} (hE:Qh P f res E) (hf:P.funcs[f]?=some fn)
 (h:resA P st fn.results.toList evs=some (vs,evs',obs)) (ho:AllP obs) (h2:(frz 8 (tupA vs)).run (st.blks[·]?)=some (res,o2)) (ho2:AllP o2)
 (hK:K=[] ∨ ∃ k,K=.code .ret :: k):G P E K st:=by
 obtain ⟨e1,e2,rfl,e4,-,e5,-,e6⟩:=hE
 refine G_end e1 e2 e6 hf e5 h ho (fun C Z w v hm hv _=>⟨?_,?_⟩) hK
 · refine (XX hm h2 ho2 hv).zmono fun b hb=>?_
   rcases hb with hb | ⟨k,o,hb⟩
   · rcases hm.zsub b hb with hb' | hb' | hb'
     · exact .inl hb'
     · exact absurd hb' (e4 b)
     · exact .inr ⟨hb',hm.zlt b hb⟩
   · obtain ⟨q1,q2,q3⟩:=hm.own k b o hb
     exact .inr ⟨q3.resolve_left (e4 b),q1⟩
 · have:=hm.frame
   exact ⟨this.os,this.tape,this.output,this.size,fun b hb _=>this.same b hb (e4 b)⟩
end
end Ax
namespace Ax
open Go
section
variable {P:Program} {E:Env} {K K':List Item} {st st':St}
theorem aop_congr {o:Oper} {ev ev':Operand→AV} {evs:List EV} (h:∀ x ∈ o.op.operands,ev x=ev' x):aop P o ev evs=aop P o ev' evs:=by
 obtain ⟨dst,op,type,pos,after,guard⟩:=o
 have pairs:∀ ps:Array (Nat × Operand),(∀ x ∈ (ps.toList.map (·.2)).toArray,ev x=ev' x)→(ps.toList.map fun p=>(p.1,ev p.2))=(ps.toList.map fun p=>(p.1,ev' p.2)):=fun ps hp =>
  List.map_congr_left fun p hm=>by rw [hp p.2 (by simp; exact ⟨p.1,by simpa using hm⟩)]
 cases op <;> simp only [Op.operands] at h <;> simp only [aop]
 case build t ps=>rw [pairs ps h]
 case buildSlice t n ps=>rw [pairs ps h]
 case makeFunc fn first captured =>
  cases fn <;> simp only
  rw [List.map_congr_left (l:=first.toList) fun x hx=>h x (by simp; exact .inl (by simpa using hx)),List.map_congr_left (l:=captured.toList) fun x hx=>h x (by simp; exact .inr (by simpa using hx))]
 case call c =>
  obtain ⟨callee,args,ats⟩:=c
  have hargs:args.toList.map ev=args.toList.map ev':=List.map_congr_left fun x hx=>h x (by simp [Call.operands]; exact .inr (by simpa using hx))
  cases callee with
  | value f=>have hf:ev f=ev' f:=h f (by simp [Call.operands]); simp only [hf,hargs]
  | invoke r m=>rfl
  | builtin b=>simp only [hargs]
 case slice t x lo hi mx=>cases lo <;> cases hi <;> cases mx <;> simp_all
 case makeMap t r=>cases r <;> rfl
 all_goals (first | rfl | (simp_all; done))
theorem Rd.run_congr {α:Type} {gb gb':Nat→Option Blk}:∀ {x:Rd α} {r:α},(∀ k ∈ x.log gb,gb' k=gb k)→x.run gb=some r→x.run gb'=some r∧x.log gb'=x.log gb
 | .ok a,r,h,hr=>⟨hr,rfl⟩
 | .fail,r,h,hr=>by cases hr
 | .get k f,r,h,hr=>by
  obtain ⟨b,hb,hr⟩:=QE hr
  have hk:gb' k=some b:=by rw [h k (by simp [Rd.log,hb]),hb]
  obtain ⟨h1,h2⟩:=Rd.run_congr (gb':=gb') (fun j hj=>h j (by simp [Rd.log,hb,hj])) hr
  exact ⟨by simp only [Rd.run,hk]; exact h1,by simp only [Rd.log,hk,hb,h2]⟩
def conc1 (g:Bool) (v:AV) (evs:List EV):Option (AV × List EV × List Prop) :=
 match g with
 | true=>(match v,evs with
  | .bool c,.b x :: r=>some (.bool x,r,[c=x])
  | _,_=>none)
 | false=>some (v,evs,[])
theorem conc1_sound {Z:Nat→Prop} {w:World} {C:Ctx} {g:Bool} {v tv:AV} {c:Value} {evs evs':List EV} {obs:List Prop} (h:VR Z w C v c)
 (hc:conc1 g v evs=some (tv,evs',obs)) (ho:AllP obs):VR Z w C tv c:=by
 unfold conc1 at hc
 split at hc
 · split at hc
   · simp only [Option.some.injEq,Prod.mk.injEq] at hc
     obtain ⟨rfl,-,rfl⟩:=hc
     rw [← ho.1]; exact h
   · cases hc
 · simp only [Option.some.injEq,Prod.mk.injEq] at hc
   obtain ⟨rfl,-,-⟩:=hc
   exact h
structure Rec where
 dst:Option Nat
 tv:AV
 blk:Option (Nat × Blk)
 rt:List Nat
 rb:List Nat
 fresh:Bool
def app1 (s:St) (r:Rec):St:=⟨putA s.tmps r.dst r.tv,match r.blk with | some (k,b)=>s.blks.set k b | none=>s.blks⟩
def recA (P:Program) (ops:Array Oper) (idx i:Nat) (o:Oper) (st:St) (evs:List EV):Option (Rec × List EV × List Prop) :=
 match Vt ops st.tmps o with
 | none=>none
 | some false=>some (⟨o.dst,.tup [],none,o.looksAt ops,[],false⟩,evs,[])
 | some true =>
  match (aop P o (Wd st.tmps) evs).run (st.blks[·]?) with
  | none=>none
  | some (eff,evs1,o1) =>
   match conc1 (isGuard ops i) (eff.av idx) evs1 with
   | none=>none
   | some (tv,evs2,o2) =>
    match eff with
    | .val _=>some (⟨o.dst,tv,none,o.looksAt ops,(aop P o (Wd st.tmps) evs).log (st.blks[·]?),false⟩,evs2,o1++o2)
    | .upd k b _=>some (⟨o.dst,tv,some (k,b),o.looksAt ops,(aop P o (Wd st.tmps) evs).log (st.blks[·]?),false⟩,evs2,o1++o2)
    | .new b _=>match st.blks[idx]? with
     | some ⟨false,0,0,true,[],false⟩=>some (⟨o.dst,tv,some (idx,b),o.looksAt ops,idx :: (aop P o (Wd st.tmps) evs).log (st.blks[·]?),true⟩,evs2,o1++o2)
     | _=>none
theorem Mem.pushN {Z0 M Z:Nat→Prop} {w0 w:World} {C:Ctx} {blks:List Blk} (hm:Mem Z0 M w0 C Z blks w):∀ m,Mem Z0 M w0 C Z (blks++List.replicate m dead) w
 | 0=>by simpa using hm
 | m+1=>by
  rw [List.replicate_succ',← List.append_assoc]
  exact (hm.pushN m).push
theorem Mem.popN {Z0 M Z:Nat→Prop} {w0 w:World} {C:Ctx} {blks:List Blk}:∀ m,Mem Z0 M w0 C Z (blks++List.replicate m dead) w→Mem Z0 M w0 C Z blks w
 | 0,hm=>by simpa using hm
 | m+1,hm=>by
  rw [List.replicate_succ',← List.append_assoc] at hm
  exact hm.pop.popN m
/-- One operation,with its new block's place told. -/
theorem op_core {ops:Array Oper} {i idx:Nat} {o:Oper} {rest:List Nat} {k:List Item} {eff:Eff} {tv:AV} {g:Bool} {evs evs1 evs2:List EV} {obs1 obs2:List Prop} (ho:ops[i]?=some o) {HK:Prop} (hk:HK)
 (hw:Vt ops st.tmps o=some true) (ha:(aop P o (Wd st.tmps) evs).run (st.blks[·]?)=some (eff,evs1,obs1)) (ob1:AllP obs1)
 (hc:conc1 g (eff.av idx) evs1=some (tv,evs2,obs2)) (ob2:AllP obs2) (hidx:st.blks[idx]?=some dead)
 (hg:G P E (.inRegion ops rest :: k) ⟨putA st.tmps o.dst tv,eff.blks idx st.blks⟩):G P E (.inRegion ops (i :: rest) :: k) st:=by
 intro C Z a w hr
 have hwc:=XU hr.tmp hw
 have hop:=aop_sound (idx:=idx) hr.mem hidx (Yh hr.tmp) ha ob1
 have hgo:=stepGR_op (P:=P) (b:=E.b) (k:=k) (cs:=E.cs) (w:=w) (rest:=rest) ho hwc
 rw [Oper.semAt_eq _ _ _ (not_defer ha)] at hgo
 have hfin:∀ v,(E.b.atR a (.inRegion ops (i :: rest) :: k)).finish v=E.b.atR (a.put o.dst v) (.inRegion ops rest :: k):=by
  intro v; rw [Frame.finish_atR,ho]; rfl
 have next:∀ (c:Value) (w':World),Res E.Z0 E.M E.w0 C Z st.blks w idx eff c w'→Reach P (lone (E.b.atR (a.put o.dst c) (.inRegion ops rest :: k)) E.cs w') E.Fin:=by
  rintro c w' ⟨C',Z',hle,hevo,hm,hv⟩
  refine hg C' Z' _ w' ⟨(hr.tmp.next hle hevo).put (conc1_sound hv hc ob2) o.dst,hm,?_,hr.gh.next hle hevo,hr.base.next hle hevo⟩
  have:(a.put o.dst c).defers=a.defers:=by cases o.dst <;> rfl
  rw [this]; exact hr.marks.evo hevo
 rcases hop with ⟨c,w',hrun,hq⟩ | ⟨w',hrun,hq⟩ | ⟨f,args,hrun,hcall⟩
 · refine .step (.one (step_lone_go ?_)) (next c w' hq)
   rw [hgo,← hfin]; simp [stepG.apply,hrun]
 · refine .step (.one (step_lone_go ?_)) (next undef w' hq)
   rw [hgo,← hfin]; simp [stepG.apply,hrun]
 · obtain ⟨e,w'',fr,⟨v,rfl,hq⟩,hsteps,-,hleave⟩:=hcall (E.b.atR a (.inRegion ops (i :: rest) :: k) :: E.cs)
   have henter:step P (lone (E.b.atR a (.inRegion ops (i :: rest) :: k)) E.cs w) =
    .next (lone (Frame.enter P f args .normal) (E.b.atR a (.inRegion ops (i :: rest) :: k) :: E.cs) w) :=
    step_lone_go (by rw [hgo]; simp [stepG.apply,hrun,Frame.atR])
   refine .step (Steps.head henter (hsteps.trans (.one ?_))) (next v w'' hq)
   rw [← hfin]; exact step_leave_returned hleave
theorem G_push {m:Nat} (hg:G P E K ⟨st.tmps,st.blks++List.replicate m dead⟩):G P E K st :=
 fun C Z a w hr=>hg C Z a w ⟨hr.tmp,hr.mem.pushN m,hr.marks,hr.gh,hr.base⟩
theorem G_pop {tmps:List AV} {blks:List Blk} {m:Nat} (hg:G P E K ⟨tmps,blks⟩):G P E K ⟨tmps,blks++List.replicate m dead⟩ :=
 fun C Z a w hr=>hg C Z a w ⟨hr.tmp,Mem.popN m hr.mem,hr.marks,hr.gh,hr.base⟩
theorem eff_idx {eff:Eff} {blks:List Blk} {j j':Nat} (h:∀ b mk,eff ≠ .new b mk):eff.blks j blks=eff.blks j' blks∧eff.av j=eff.av j':=by
 cases eff with
 | val v=>exact ⟨rfl,rfl⟩
 | upd k b v=>exact ⟨rfl,rfl⟩
 | new b mk=>exact absurd rfl (h b mk)
theorem yA {ops:Array Oper} {i idx:Nat} {o:Oper} {rest:List Nat} {k:List Item} {r:Rec} {evs evs':List EV} {obs:List Prop} (ho:ops[i]?=some o) {HK:Prop} (hk:HK)
 (h:recA P ops idx i o st evs=some (r,evs',obs)) (hob:AllP obs) (hg:G P E (.inRegion ops rest :: k) (app1 st r)):G P E (.inRegion ops (i :: rest) :: k) st:=by
 unfold recA at h
 split at h
 · cases h
 · rename_i hw
   simp only [Option.some.injEq,Prod.mk.injEq] at h
   obtain ⟨rfl,-,-⟩:=h
   intro C Z a w hr
   have hwc:=XU hr.tmp hw
   have hs:=stepR_op_skip (P:=P) (b:=E.b) (a:=a) (k:=k) (cs:=E.cs) (w:=w) (ops:=ops) (i:=i) (rest:=rest) (by simp [ho,hwc])
   simp only [ho,Option.bind_some] at hs
   refine .step (.one hs) (hg C Z _ w ⟨hr.tmp.put (.tup (by simp) (by simp)) o.dst,hr.mem,?_,hr.gh,hr.base⟩)
   cases hd:o.dst <;> exact hr.marks
 · rename_i hw
   split at h
   · cases h
   · rename_i eff evs1 obs1 ha
     split at h
     · cases h
     · rename_i tv evs2 obs2 hc
       -- where nothing is new,the place is a dead one behind
       have old:(∀ b mk,eff ≠ .new b mk)→G P E (.inRegion ops rest :: k) ⟨putA st.tmps o.dst tv,eff.blks st.blks.length st.blks⟩→AllP obs1→AllP obs2→G P E (.inRegion ops (i :: rest) :: k) st:=by
        intro hn hg ob1 ob2
        refine G_push (m:=1) ?_
        have ha':=Rd.run_mono (gb':=fun k=>(st.blks++[dead])[k]?) (fun k b h=>by rw [List.getElem?_append_left (List.getElem?_eq_some_iff.1 h).1]; exact h) ha
        refine op_core (st:=⟨st.tmps,st.blks++[dead]⟩) (idx:=st.blks.length) ho hk hw ha' ob1 (tv:=tv) (by rw [(eff_idx (blks:=st.blks) (j:=st.blks.length) (j':=idx) hn).2]; exact hc) ob2 (by simp) ?_
        have:eff.blks st.blks.length (st.blks++[dead])=eff.blks st.blks.length st.blks++List.replicate 1 dead:=by
         cases eff with
         | val v=>rfl
         | new b mk=>exact absurd rfl (hn b mk)
         | upd kk b v=>exact List.set_append_left kk b (aop_upd ha)
        rw [this]
        exact G_pop hg
       split at h
       · simp only [Option.some.injEq,Prod.mk.injEq] at h
         obtain ⟨rfl,-,rfl⟩:=h
         obtain ⟨ob1,ob2⟩:=Qm.1 hob
         exact old (by simp) hg ob1 ob2
       · simp only [Option.some.injEq,Prod.mk.injEq] at h
         obtain ⟨rfl,-,rfl⟩:=h
         obtain ⟨ob1,ob2⟩:=Qm.1 hob
         exact old (by simp) hg ob1 ob2
       · split at h
         · rename_i hidx
           simp only [Option.some.injEq,Prod.mk.injEq] at h
           obtain ⟨rfl,-,rfl⟩:=h
           obtain ⟨ob1,ob2⟩:=Qm.1 hob
           exact op_core ho hk hw ha ob1 hc ob2 hidx hg
         · cases h
theorem mem_looks {ops:Array Oper} {o:Oper} {t:Nat} (h:.tmp t ∈ o.op.operands):t ∈ o.looksAt ops :=
 List.mem_append_left _ (List.mem_filterMap.2 ⟨.tmp t,by simpa using h,rfl⟩)
theorem Wn {ops:Array Oper} {i idx:Nat} {o:Oper} {r:Rec} {evs evs':List EV} {obs:List Prop} (h:recA P ops idx i o st evs=some (r,evs',obs))
 (ht:∀ t ∈ r.rt,st'.tmps[t]?=st.tmps[t]?) (hb:∀ k ∈ r.rb,st'.blks[k]?=st.blks[k]?):recA P ops idx i o st' evs=some (r,evs',obs):=by
 have hrt:r.rt=o.looksAt ops:=by
  unfold recA at h
  repeat' (split at h)
  all_goals first | (cases h; done) | (simp only [Option.some.injEq,Prod.mk.injEq] at h; obtain ⟨rfl,-,-⟩:=h; rfl)
 rw [hrt] at ht
 have hwa:Vt ops st'.tmps o=Vt ops st.tmps o:=by
  unfold Vt
  cases hg:o.guard with
  | none=>rfl
  | some g =>
   obtain ⟨j,want⟩:=g
   simp only
   cases hd:(ops[j]?).bind (·.dst) with
   | none=>rfl
   | some d =>
    have:st'.tmps[d]?=st.tmps[d]?:=ht d (by
     unfold Oper.looksAt
     refine List.mem_append_right _ ?_
     simp only [hg]
     rw [hd]; simp)
    simp only [this]
 have hev:∀ x ∈ o.op.operands,Wd st.tmps x=Wd st'.tmps x:=by
  intro x hx
  cases x with
  | tmp t=>simp only [Wd,List.getD_eq_getElem?_getD,ht t (mem_looks hx)]
  | _=>rfl
 unfold recA at h ⊢
 rw [hwa]
 split at h
 · cases h
 · exact h
 · rename_i hw
   rw [← aop_congr (P:=P) (evs:=evs) hev]
   split at h
   · cases h
   · rename_i eff evs1 obs1 ha
     split at h
     · cases h
     · rename_i tv evs2 obs2 hc
       split at h
       · simp only [Option.some.injEq,Prod.mk.injEq] at h
         obtain ⟨rfl,rfl,rfl⟩:=h
         obtain ⟨h1,h2⟩:=Rd.run_congr (gb':=(st'.blks[·]?)) hb ha
         simp only [h1,hc,h2]
       · simp only [Option.some.injEq,Prod.mk.injEq] at h
         obtain ⟨rfl,rfl,rfl⟩:=h
         obtain ⟨h1,h2⟩:=Rd.run_congr (gb':=(st'.blks[·]?)) hb ha
         simp only [h1,hc,h2]
       · split at h
         · rename_i hidx
           simp only [Option.some.injEq,Prod.mk.injEq] at h
           obtain ⟨rfl,rfl,rfl⟩:=h
           obtain ⟨h1,h2⟩:=Rd.run_congr (gb':=(st'.blks[·]?)) (fun k hk=>hb k (List.mem_cons_of_mem _ hk)) ha
           have h3:=hb idx (List.mem_cons_self ..)
           simp only [h1,hc,h2,h3,hidx]
         · cases h
end
end Ax
namespace Ax
open Go
section
variable {P:Program} {E:Env} {K K':List Item} {st st':St}
/-- The records of 'D' alone,in the text's order. -/
def mix (D:Nat→Bool):Nat→List Rec→St→St
 | _,[],s=>s
 | i,r :: rs,s=>mix D (i+1) rs (bif D i then app1 s r else s)
theorem yp {s:St} {r:Rec} {t:Nat} (h:r.dst ≠ some t):(app1 s r).tmps[t]?=s.tmps[t]?:=by
 unfold app1 putA
 cases hd:r.dst with
 | none=>rfl
 | some d=>simp only; rw [List.getElem?_set_ne (fun e=>h (by rw [hd,e]))]
theorem yq {s:St} {r:Rec} {k:Nat} (h:∀ b,r.blk ≠ some (k,b)):(app1 s r).blks[k]?=s.blks[k]?:=by
 unfold app1
 cases hd:r.blk with
 | none=>rfl
 | some p =>
  obtain ⟨j,b⟩:=p
  simp only; rw [List.getElem?_set_ne (fun e=>h b (by rw [hd,e]))]
theorem app1_tmps_eq {s s':St} {r:Rec} {t:Nat} (h:s.tmps[t]?=s'.tmps[t]?):(app1 s r).tmps[t]?=(app1 s' r).tmps[t]?:=by
 unfold app1 putA
 cases hd:r.dst with
 | none=>exact h
 | some d =>
  simp only
  by_cases e:d=t
  · subst e; rw [List.getElem?_set_self',List.getElem?_set_self',h]
  · rw [List.getElem?_set_ne e,List.getElem?_set_ne e,h]
theorem app1_blks_eq {s s':St} {r:Rec} {k:Nat} (h:s.blks[k]?=s'.blks[k]?):(app1 s r).blks[k]?=(app1 s' r).blks[k]?:=by
 unfold app1
 cases hd:r.blk with
 | none=>exact h
 | some p =>
  obtain ⟨j,b⟩:=p
  simp only
  by_cases e:j=k
  · subst e; rw [List.getElem?_set_self',List.getElem?_set_self',h]
  · rw [List.getElem?_set_ne e,List.getElem?_set_ne e,h]
theorem yE {D D':Nat→Bool} {t:Nat}:∀ {a:Nat} {rs:List Rec} {s s':St},(∀ j r,rs[j]?=some r→r.dst=some t→D (a+j)=D' (a+j))→s.tmps[t]?=s'.tmps[t]? →
 (mix D a rs s).tmps[t]?=(mix D' a rs s').tmps[t]?
 | a,[],s,s',h,hs=>hs
 | a,r :: rs,s,s',h,hs=>by
  simp only [mix]
  refine yE (fun j r' hj hd=>by have:=h (j+1) r' (by simpa using hj) hd; rw [show a+1+j=a+(j+1) by omega]; exact this) ?_
  by_cases hd:r.dst=some t
  · have:=h 0 r rfl hd
    simp only [Nat.add_zero] at this
    rw [this]
    cases D' a with
    | false=>exact hs
    | true=>exact app1_tmps_eq hs
  · cases D a <;> cases D' a <;> simp only [cond_true,cond_false] <;> (try rw [yp hd]) <;> (try rw [yp hd]) <;> exact hs
theorem qg {D D':Nat→Bool} {k:Nat}:∀ {a:Nat} {rs:List Rec} {s s':St},(∀ j r b,rs[j]?=some r→r.blk=some (k,b)→D (a+j)=D' (a+j))→s.blks[k]?=s'.blks[k]? →
 (mix D a rs s).blks[k]?=(mix D' a rs s').blks[k]?
 | a,[],s,s',h,hs=>hs
 | a,r :: rs,s,s',h,hs=>by
  simp only [mix]
  refine qg (fun j r' b hj hd=>by have:=h (j+1) r' b (by simpa using hj) hd; rw [show a+1+j=a+(j+1) by omega]; exact this) ?_
  by_cases hd:∃ b,r.blk=some (k,b)
  · obtain ⟨b,hd⟩:=hd
    have:=h 0 r b rfl hd
    simp only [Nat.add_zero] at this
    rw [this]
    cases D' a with
    | false=>exact hs
    | true=>exact app1_blks_eq hs
  · have hd':∀ b,r.blk ≠ some (k,b):=fun b e=>hd ⟨b,e⟩
    cases D a <;> cases D' a <;> simp only [cond_true,cond_false] <;> (try rw [yq hd']) <;> (try rw [yq hd']) <;> exact hs
def wr2 (r r':Rec):Bool :=
 (match r.dst,r'.dst with | some d,some d'=>Nat.beq d d' | _,_=>false) || (match r.blk,r'.blk with | some (k,_),some (k',_)=>Nat.beq k k' | _,_=>false)
def wrd (r r':Rec):Bool :=
 (match r.dst with | some d=>r'.rt.any (Nat.beq d) | none=>false) || (match r.blk with | some (k,_)=>r'.rb.any (Nat.beq k) | none=>false)
def Yr (r r':Rec):Bool:=wr2 r r' || wrd r r' || wrd r' r
theorem wr2_symm (r r':Rec):wr2 r r'=wr2 r' r:=by
 have hb:∀ a b:Nat,Nat.beq a b=Nat.beq b a:=fun a b=>by
  rw [Bool.eq_iff_iff,Nat.beq_eq,Nat.beq_eq]; exact eq_comm
 unfold wr2
 cases r.dst <;> cases r'.dst <;> cases r.blk <;> cases r'.blk <;> simp [hb]
theorem YB (r r':Rec):Yr r r'=Yr r' r:=by
 unfold Yr; rw [wr2_symm]
 cases wr2 r' r <;> cases wrd r r' <;> cases wrd r' r <;> rfl
theorem app1_comm {s:St} {r r':Rec} (h:wr2 r r'=false):app1 (app1 s r) r'=app1 (app1 s r') r:=by
 simp only [wr2,Bool.or_eq_false_iff] at h
 obtain ⟨h1,h2⟩:=h
 unfold app1 putA
 simp only [St.mk.injEq]
 constructor
 · cases hd:r.dst with
   | none=>cases hd':r'.dst <;> rfl
   | some d =>
    cases hd':r'.dst with
    | none=>rfl
    | some d' =>
     simp only [hd,hd'] at h1
     exact List.set_comm _ _ fun e=>by subst e; simp at h1
 · cases hd:r.blk with
   | none=>cases hd':r'.blk <;> rfl
   | some d =>
    cases hd':r'.blk with
    | none=>rfl
    | some d' =>
     simp only [hd,hd'] at h2
     exact List.set_comm _ _ fun e=>by rw [e] at h2; simp at h2
theorem mix_comm {D:Nat→Bool} {r:Rec}:∀ {a:Nat} {rs:List Rec} {s:St},(∀ j r',rs[j]?=some r'→D (a+j)=true→wr2 r r'=false)→mix D a rs (app1 s r)=app1 (mix D a rs s) r
 | a,[],s,h=>rfl
 | a,r' :: rs,s,h=>by
  simp only [mix]
  have ih:=fun s=>mix_comm (D:=D) (r:=r) (a:=a+1) (rs:=rs) (s:=s) fun j r'' hj hd=>h (j+1) r'' (by simpa using hj) (by rw [← hd]; congr 1; omega)
  cases hD:D a with
  | false=>simp only [cond_false]; exact ih s
  | true =>
   simp only [cond_true]
   rw [app1_comm (h 0 r' rfl (by simpa using hD))]; exact ih _
theorem mix_cong {D D':Nat→Bool}:∀ {a:Nat} {rs:List Rec} {s:St},(∀ j,a≤j→D j=D' j)→mix D a rs s=mix D' a rs s
 | a,[],s,h=>rfl
 | a,r' :: rs,s,h=>by
  simp only [mix,h a (Nat.le_refl a)]
  exact mix_cong fun j hj=>h j (by omega)
theorem YA {D D':Nat→Bool} {i:Nat} {r:Rec} (hi:D i=false) (hD:∀ j,D' j=(D j || Nat.beq j i)):∀ {a:Nat} {rs:List Rec} {s:St},a≤i→rs[i - a]?=some r →
 (∀ j r',rs[j]?=some r'→i<a+j→D (a+j)=true→wr2 r r'=false)→mix D' a rs s=app1 (mix D a rs s) r
 | a,[],s,ha,hr,h=>by simp at hr
 | a,r0 :: rs,s,ha,hr,h=>by
  simp only [mix]
  by_cases e:a=i
  · subst e
    simp only [Nat.sub_self,List.getElem?_cons_zero,Option.some.injEq] at hr
    subst hr
    have:D' a=true:=by simp [hD]
    rw [this,hi,cond_true,cond_false]
    rw [mix_cong (D:=D') (D':=D) fun j hj=>by
     rw [hD]; have:Nat.beq j a=false:=by rw [← Bool.not_eq_true,Nat.beq_eq]; omega
     simp [this]]
    exact mix_comm fun j r' hj hd=>h (j+1) r' (by simpa using hj) (by omega) (by rw [← hd]; congr 1; omega)
  · have hDa:D' a=D a:=by
     rw [hD]; have:Nat.beq a i=false:=by rw [← Bool.not_eq_true,Nat.beq_eq]; exact e
     simp [this]
    rw [hDa]
    refine YA hi hD (by omega) ?_ fun j r' hj hlt hd=>h (j+1) r' (by simpa using hj) (by omega) (by rw [← hd]; congr 1; omega)
    have:i - a=(i - (a+1))+1:=by omega
    rw [this] at hr
    simpa using hr
theorem yF {D:Nat→Bool}:∀ {a:Nat} {rs:List Rec} {s:St},(∀ j,D j=false)→mix D a rs s=s
 | a,[],s,h=>rfl
 | a,r :: rs,s,h=>by simp only [mix,h a,cond_false]; exact yF h
theorem Qcg {D:Nat→Bool}:∀ {a:Nat} {rs:List Rec} {s:St},(∀ j,j<rs.length→D (a+j)=true)→mix D a rs s=rs.foldl app1 s
 | a,[],s,h=>rfl
 | a,r :: rs,s,h=>by
  have h0:=h 0 (by simp)
  simp only [Nat.add_zero] at h0
  simp only [mix,h0,cond_true,List.foldl_cons]
  exact Qcg fun j hj=>by have:=h (j+1) (by simpa using hj); rw [show a+1+j=a+(j+1) by omega]; exact this
theorem VU:∀ {a i:Nat} {rs:List Rec} {s:St},mix (fun j=>Nat.blt j (a+i)) a rs s=(rs.take i).foldl app1 s
 | a,0,rs,s=>by
  have:∀ {b:Nat} {rs:List Rec} {s:St},a≤b→mix (fun j=>Nat.blt j a) b rs s=s:=by
   intro b rs
   induction rs generalizing b with
   | nil=>intros; rfl
   | cons r rs ih =>
    intro s hb
    have:Nat.blt b a=false:=by rw [← Bool.not_eq_true]; simp [Nat.blt_eq]; omega
    simp only [mix,this,cond_false]; exact ih (by omega)
  simpa using this (Nat.le_refl a)
 | a,i+1,[],s=>by simp [mix]
 | a,i+1,r :: rs,s=>by
  have:Nat.blt a (a+(i+1))=true:=by simp [Nat.blt_eq]
  simp only [mix,this,cond_true,List.take_succ_cons,List.foldl_cons]
  have h:=VU (a:=a+1) (i:=i) (rs:=rs) (s:=app1 s r)
  rw [show a+1+i=a+(i+1) by omega] at h
  exact h
/-! ### The text's order -/
def recsA (P:Program) (ops:Array Oper):Nat→List Nat→St→List EV→Option (List Rec × St × List EV × List Prop)
 | idx,[],st,evs=>some ([],st,evs,[])
 | idx,i :: rest,st,evs =>
  match ops[i]? with
  | none=>none
  | some o =>
   match recA P ops idx i o st evs with
   | none=>none
   | some (r,evs1,o1) =>
    match recsA P ops (bif r.fresh then idx+1 else idx) rest (app1 st r) evs1 with
    | none=>none
    | some (rs,st',evs2,o2)=>some (r :: rs,st',evs2,o1++o2)
theorem Wm {ops:Array Oper}:∀ {a n idx:Nat} {st st':St} {evs evs':List EV} {rs:List Rec} {obs:List Prop},recsA P ops idx (List.range' a n) st evs=some (rs,st',evs',obs)→AllP obs →
 rs.length=n∧st'=rs.foldl app1 st∧∀ j r,rs[j]?=some r→∃ o idx' evs1 evs2 obs1,ops[a+j]?=some o∧recA P ops idx' (a+j) o ((rs.take j).foldl app1 st) evs1=some (r,evs2,obs1)∧AllP obs1
 | a,0,idx,st,st',evs,evs',rs,obs,h,ho=>by
  simp only [List.range'_zero,recsA,Option.some.injEq,Prod.mk.injEq] at h
  obtain ⟨rfl,rfl,-,-⟩:=h
  exact ⟨rfl,rfl,by simp⟩
 | a,n+1,idx,st,st',evs,evs',rs,obs,h,ho=>by
  rw [List.range'_succ] at h
  simp only [recsA] at h
  split at h
  · cases h
  · rename_i o hoi
    split at h
    · cases h
    · rename_i r evs1 o1 h1
      split at h
      · cases h
      · rename_i rs1 st1 evs2 o2 h2
        simp only [Option.some.injEq,Prod.mk.injEq] at h
        obtain ⟨rfl,rfl,-,rfl⟩:=h
        obtain ⟨ho1,ho2⟩:=Qm.1 ho
        obtain ⟨l,e,f⟩:=Wm h2 ho2
        refine ⟨by simp [l],by simpa using e,fun j r' hj=>?_⟩
        cases j with
        | zero=>simp at hj; subst hj; exact ⟨o,idx,evs,evs1,o1,by simpa using hoi,by simpa using h1,ho1⟩
        | succ j =>
         obtain ⟨o',idx',e1,e2,ob,q1,q2,q3⟩:=f j r' (by simpa using hj)
         exact ⟨o',idx',e1,e2,ob,by rw [show a+(j+1)=a+1+j by omega]; exact q1,by rw [show a+(j+1)=a+1+j by omega]; simpa using q2,q3⟩
/-! ### What must come before what -/
def hard (e:Edge):Bool :=
 match e.ground with
 | .textOnly _=>false
 | .gcOnly _=>false
 | _=>true
def foldE (acc:List Nat) (i:Nat):List Edge→Option Nat
 | []=>some 0
 | e :: es=>match foldE acc i es with
  | none=>none
  | some m=>bif hard e then (bif Nat.blt e.on i then some (m ||| 2 ^ e.on ||| acc.getD e.on 0) else none) else some m
def ancsA:Nat→List Oper→List Nat→Option (List Nat)
 | _,[],acc=>some acc
 | i,o :: os,acc=>match foldE acc i o.after.toList with
  | some m=>ancsA (i+1) os (acc++[m])
  | none=>none
theorem QaP {acc:List Nat} {i:Nat}:∀ {es:List Edge} {m:Nat},foldE acc i es=some m →
 (∀ e ∈ es,hard e=true→e.on<i)∧∀ j,m.testBit j=true→∃ e ∈ es,hard e=true∧(j=e.on ∨ (acc.getD e.on 0).testBit j=true)
 | [],m,h=>by simp [foldE] at h; subst h; simp
 | e :: es,m,h=>by
  simp only [foldE] at h
  split at h
  · cases h
  · rename_i m' hm
    obtain ⟨h1,h2⟩:=QaP hm
    cases he:hard e with
    | false =>
     simp only [he,cond_false,Option.some.injEq] at h
     subst h
     refine ⟨fun e' hm hh=>?_,fun j hj=>?_⟩
     · rcases List.mem_cons.1 hm with rfl | hm
       · rw [he] at hh; cases hh
       · exact h1 e' hm hh
     · obtain ⟨e',q1,q2⟩:=h2 j hj
       exact ⟨e',List.mem_cons_of_mem _ q1,q2⟩
    | true =>
     simp only [he,cond_true] at h
     cases hb:Nat.blt e.on i with
     | false=>simp [hb] at h
     | true =>
      simp only [hb,cond_true,Option.some.injEq] at h
      subst h
      refine ⟨fun e' hm hh=>?_,fun j hj=>?_⟩
      · rcases List.mem_cons.1 hm with rfl | hm
        · simpa [Nat.blt_eq] using hb
        · exact h1 e' hm hh
      · rw [Nat.testBit_or,Nat.testBit_or,Bool.or_eq_true,Bool.or_eq_true] at hj
        rcases hj with (hj | hj) | hj
        · obtain ⟨e',q1,q2⟩:=h2 j hj
          exact ⟨e',List.mem_cons_of_mem _ q1,q2⟩
        · rw [Nat.testBit_two_pow] at hj
          exact ⟨e,by simp,he,.inl (by simpa using hj:e.on=j).symm⟩
        · exact ⟨e,by simp,he,.inr hj⟩
/-- The masks: what must lie behind,for each operation. -/
theorem Wv:∀ {i:Nat} {os:List Oper} {acc ms:List Nat},acc.length=i→ancsA i os acc=some ms →
 (∀ j,j<i→ms[j]?=acc[j]?)∧ms.length=i+os.length∧∀ j o,os[j]?=some o→∃ m,ms[i+j]?=some m ∧
   (∀ e ∈ o.after,hard e=true→e.on<i+j)∧∀ p,m.testBit p=true→∃ e ∈ o.after,hard e=true∧(p=e.on ∨ (ms.getD e.on 0).testBit p=true)
 | i,[],acc,ms,hl,h=>by
  simp only [ancsA,Option.some.injEq] at h; subst h
  exact ⟨fun _ _=>rfl,by simpa using hl,by simp⟩
 | i,o :: os,acc,ms,hl,h=>by
  simp only [ancsA] at h
  split at h
  · rename_i m hm
    obtain ⟨h1,h2,h3⟩:=Wv (i:=i+1) (acc:=acc++[m]) (by simp [hl]) h
    refine ⟨fun j hj=>by rw [h1 j (by omega),List.getElem?_append_left (by omega)],by simp [h2]; omega,fun j o' hj=>?_⟩
    cases j with
    | zero =>
     simp at hj; subst hj
     obtain ⟨f1,f2⟩:=QaP hm
     refine ⟨m,?_,fun e he hh=>by simpa using f1 e (by simpa using he) hh,fun p hp=>?_⟩
     · rw [Nat.add_zero,h1 i (by omega),List.getElem?_append_right (by omega)]; simp [hl]
     · obtain ⟨e,q1,q2,q3⟩:=f2 p hp
       refine ⟨e,by simpa using q1,q2,q3.imp id fun q=>?_⟩
       have hlt:=f1 e q1 q2
       have:=h1 e.on (by omega)
       rw [List.getElem?_append_left (by omega)] at this
       rw [List.getD_eq_getElem?_getD] at q ⊢
       rw [this]; exact q
    | succ j =>
     obtain ⟨m',q1,q2⟩:=h3 j o' (by simpa using hj)
     rw [show i+1+j=i+(j+1) by omega] at q1 q2
     exact ⟨m',q1,q2⟩
  · cases h
def later (i:Nat) (r:Rec):List Rec→List Nat→Bool
 | r' :: rs,m :: ms=>(!Yr r r' || m.testBit i) && later i r rs ms
 | _,_=>true
def Vw:Nat→List Rec→List Nat→Bool
 | i,r :: rs,_ :: ms=>later i r rs ms && Vw (i+1) rs ms
 | _,_,_=>true
theorem QaM {i:Nat} {r:Rec}:∀ {rs:List Rec} {ms:List Nat},later i r rs ms=true→∀ {j:Nat} {r':Rec} {m:Nat},rs[j]?=some r'→ms[j]?=some m→Yr r r'=true→m.testBit i=true
 | [],ms,h,j,r',m,h1,h2,h3=>by simp at h1
 | a :: rs,[],h,j,r',m,h1,h2,h3=>by simp at h2
 | a :: rs,b :: ms,h,j,r',m,h1,h2,h3=>by
  simp only [later,Bool.and_eq_true,Bool.or_eq_true,Bool.not_eq_true'] at h
  cases j with
  | zero=>simp at h1 h2; subst h1; subst h2; exact h.1.resolve_left (by simp [h3])
  | succ j=>exact QaM h.2 (by simpa using h1) (by simpa using h2) h3
theorem Yo:∀ {a:Nat} {rs:List Rec} {ms:List Nat},Vw a rs ms=true→∀ {i j:Nat} {r r':Rec} {m:Nat},i<j→rs[i]?=some r→rs[j]?=some r'→ms[j]?=some m→Yr r r'=true →
 m.testBit (a+i)=true
 | a,[],ms,h,i,j,r,r',m,hij,h1,h2,h3,h4=>by simp at h1
 | a,x :: rs,[],h,i,j,r,r',m,hij,h1,h2,h3,h4=>by simp at h3
 | a,x :: rs,y :: ms,h,i,j,r,r',m,hij,h1,h2,h3,h4=>by
  simp only [Vw,Bool.and_eq_true] at h
  obtain ⟨j,rfl⟩:∃ k,j=k+1:=⟨j - 1,by omega⟩
  cases i with
  | zero=>simp at h1; subst h1; exact QaM h.1 (by simpa using h2) (by simpa using h3) h4
  | succ i =>
   have:=Yo h.2 (i:=i) (j:=j) (by omega) (by simpa using h1) (by simpa using h2) (by simpa using h3) h4
   rw [show a+(i+1)=a+1+i by omega]; exact this
def trim:List Blk→List Blk
 | []=>[]
 | b :: bs=>match trim bs,b with
  | [],⟨false,0,0,true,[],false⟩=>[]
  | bs,b=>b :: bs
theorem WS:∀ bs:List Blk,∃ m,bs=trim bs++List.replicate m dead
 | []=>⟨0,rfl⟩
 | b :: bs=>by
  obtain ⟨m,hm⟩:=WS bs
  unfold trim
  split
  · rename_i h1
    rw [h1] at hm
    exact ⟨m+1,by rw [hm]; simp [List.replicate_succ,dead]⟩
  · exact ⟨m,by rw [List.cons_append,← hm]⟩
def VV (o:Oper):Bool :=
 match o.op with
 | .alloc _=>true
 | .box ..=>true
 | .build ..=>true
 | .buildSlice ..=>true
 | .makeSlice ..=>true
 | .call _=>true
 | _=>false
def drawA (P:Program) (ops:Array Oper) (st:St) (evs:List EV):Option (St × List EV × List Prop) :=
 match recsA P ops st.blks.length (List.range' 0 ops.size) ⟨st.tmps,st.blks++List.replicate (ops.toList.countP VV) dead⟩ evs with
 | none=>none
 | some (rs,st',evs',obs) =>
  match ancsA 0 ops.toList [] with
  | none=>none
  | some ms=>bif Vw 0 rs ms then some (⟨st'.tmps,trim st'.blks⟩,evs',obs) else none
end
end Ax
namespace Ax
open Go
section
variable {P:Program} {E:Env} {K K':List Item} {st st':St}
theorem XO {e:Edge}:Region.binds .any e=hard e:=by
 unfold hard; unfold Region.binds
 cases hg:e.ground <;> simp [hg]
structure Draw (P:Program) (ops:Array Oper) (st0:St) (rs:List Rec) (ms:List Nat):Prop where
 len:rs.length=ops.size
 mlen:ms.length=ops.size
 rec':∀ j r,rs[j]?=some r→∃ o idx' evs1 evs2 obs1,ops[j]?=some o∧recA P ops idx' j o ((rs.take j).foldl app1 st0) evs1=some (r,evs2,obs1)∧AllP obs1
 anc:∀ j o,ops[j]?=some o→∃ m,ms[j]?=some m∧(∀ e ∈ o.after,hard e=true→e.on<j)∧∀ p,m.testBit p=true→∃ e ∈ o.after,hard e=true∧(p=e.on ∨ (ms.getD e.on 0).testBit p=true)
 pairs:Vw 0 rs ms=true
/-- Downwards closed. -/
def Down (ops:Array Oper) (D:Nat→Bool):Prop:=∀ i o,ops[i]?=some o→D i=true→∀ e ∈ o.after,hard e=true→D e.on=true
theorem Draw.down {ops:Array Oper} {st0:St} {rs:List Rec} {ms:List Nat} (h:Draw P ops st0 rs ms) {D:Nat→Bool} (hd:Down ops D) :
 ∀ (i:Nat) (o:Oper) (m:Nat),ops[i]?=some o→ms[i]?=some m→D i=true→∀ p,m.testBit p=true→D p=true:=by
 intro i
 induction i using Nat.strongRecOn with
 | ind i ih =>
  intro o m ho hm hD p hp
  obtain ⟨m',q1,q2,q3⟩:=h.anc i o ho
  rw [hm] at q1; cases q1
  obtain ⟨e,e1,e2,e3⟩:=q3 p hp
  have hDe:=hd i o ho hD e e1 e2
  rcases e3 with rfl | e3
  · exact hDe
  · have hlt:=q2 e e1 e2
    have hs:i<ops.size:=(Array.getElem?_eq_some_iff.1 ho).1
    have ho':ops[e.on]?=some ops[e.on]:=by simp
    have hm':ms[e.on]?=some (ms.getD e.on 0):=by
     have:e.on<ms.length:=by rw [h.mlen]; omega
     simp [List.getD,List.getElem?_eq_getElem this]
    exact ih e.on hlt _ _ ho' hm' hDe p e3
theorem draw_one {ops:Array Oper} {st0:St} {rs:List Rec} {ms:List Nat} (h:Draw P ops st0 rs ms) {HK:Prop} (hk:HK) {D D':Nat→Bool} (hd:Down ops D) {i:Nat} {o:Oper} {rest:List Nat} {k:List Item}
 (ho:ops[i]?=some o) (hi:D i=false) (hpre:∀ e ∈ o.after,hard e=true→D e.on=true) (hD':∀ j,D' j=(D j || Nat.beq j i))
 (hlt:∀ j,D j=true→j<ops.size)
 (hg:G P E (.inRegion ops rest :: k) (mix D' 0 rs st0)):G P E (.inRegion ops (i :: rest) :: k) (mix D 0 rs st0):=by
 have his:i<ops.size:=(Array.getElem?_eq_some_iff.1 ho).1
 have hir:i<rs.length:=by rw [h.len]; exact his
 obtain ⟨r,hr⟩:∃ r,rs[i]?=some r:=⟨rs[i],by simp [hir]⟩
 obtain ⟨o',idx',evs1,evs2,obs1,q1,q2,q3⟩:=h.rec' i r hr
 rw [ho] at q1; cases q1
 obtain ⟨m,m1,m2,m3⟩:=h.anc i o ho
 have anc:∀ p,m.testBit p=true→D p=true:=by
  intro p hp
  obtain ⟨e,e1,e2,e3⟩:=m3 p hp
  have hDe:=hpre e e1 e2
  rcases e3 with rfl | e3
  · exact hDe
  · have hl:=m2 e e1 e2
    have ho':ops[e.on]?=some ops[e.on]:=by simp
    have hm':ms[e.on]?=some (ms.getD e.on 0):=by
     have:e.on<ms.length:=by rw [h.mlen]; omega
     simp [List.getD,List.getElem?_eq_getElem this]
    exact h.down hd e.on _ _ ho' hm' hDe p e3
 -- who clashes with 'i'
 have clsh:∀ j r',rs[j]?=some r'→Yr r' r=true→(j<i→D j=true)∧(i<j→D j=false):=by
  intro j r' hj hc
  refine ⟨fun hji=>?_,fun hij=>?_⟩
  · exact anc j (by simpa using Yo h.pairs hji hj hr m1 hc)
  · cases hDj:D j with
    | false=>rfl
    | true =>
     have hjs:=hlt j hDj
     have hm':ms[j]?=some (ms.getD j 0):=by
      have:j<ms.length:=by rw [h.mlen]; omega
      simp [List.getD,List.getElem?_eq_getElem this]
     have:=Yo h.pairs hij hr hj hm' (by rw [YB]; exact hc)
     have h2:=h.down hd j ops[j] _ (by simp [hjs]) hm' hDj i (by simpa using this)
     rw [hi] at h2; cases h2
 have blt:∀ {a b:Nat},Nat.blt a b=decide (a<b):=fun {a b}=>by
  rw [Bool.eq_iff_iff,Nat.blt_eq]; simp
 have same:∀ j r',rs[j]?=some r'→(Yr r' r=true ∨ j=i)→D j=Nat.blt j i:=by
  intro j r' hj hc
  rcases Nat.lt_trichotomy j i with hlt' | rfl | hgt
  · rw [(clsh j r' hj (hc.resolve_right (by omega))).1 hlt',blt]; simp [hlt']
  · rw [hi,blt]; simp
  · rw [(clsh j r' hj (hc.resolve_right (by omega))).2 hgt,blt]; simp; omega
 have hrec:recA P ops idx' i o (mix D 0 rs st0) evs1=some (r,evs2,obs1):=by
  refine Wn q2 (fun t ht=>?_) (fun kk hk=>?_)
  · have:=VU (a:=0) (i:=i) (rs:=rs) (s:=st0)
    simp only [Nat.zero_add] at this
    rw [← this]
    refine yE (fun j r' hj hd=>?_) rfl
    simp only [Nat.zero_add]
    refine same j r' hj (.inl ?_)
    have hw:wrd r' r=true:=by
     simp only [wrd,hd,Bool.or_eq_true,List.any_eq_true]
     exact .inl ⟨t,ht,by simp⟩
    simp [Yr,hw]
  · have:=VU (a:=0) (i:=i) (rs:=rs) (s:=st0)
    simp only [Nat.zero_add] at this
    rw [← this]
    refine qg (fun j r' b hj hd=>?_) rfl
    simp only [Nat.zero_add]
    refine same j r' hj (.inl ?_)
    have hw:wrd r' r=true:=by
     simp only [wrd,hd,Bool.or_eq_true,List.any_eq_true]
     exact .inr ⟨kk,hk,by simp⟩
    simp [Yr,hw]
 refine yA ho hk hrec q3 ?_
 rw [← YA hi hD' (Nat.zero_le i) (by simpa using hr) fun j r' hj hlt' hDj=>?_]
 · exact hg
 · simp only [Nat.zero_add] at hlt' hDj
   cases hw:wr2 r r' with
   | false=>rfl
   | true =>
    have:=(clsh j r' hj (by rw [YB]; simp [Yr,hw])).2 hlt'
    rw [this] at hDj; cases hDj
def unl (n:Nat) (listed:Array Bool):List Nat:=(List.range n).filter fun i=>!listed.getD i true
theorem draw_go {ops:Array Oper} {st0:St} {rs:List Rec} {ms:List Nat} (h:Draw P ops st0 rs ms) {HK:Prop} (hk:HK) {k:List Item} (hg:G P E k (rs.foldl app1 st0)) :
 ∀ (fuel t:Nat) (listed:Array Bool),listed.size=ops.size→(unl ops.size listed).length≤fuel→Down ops (fun i=>listed.getD i false) →
  G P E (.inRegion ops (Region.linearise.go .any ops fuel t listed []) :: k) (mix (fun i=>listed.getD i false) 0 rs st0):=by
 have fin:∀ listed:Array Bool,listed.size=ops.size→(∀ i,i<ops.size→listed.getD i false=true)→G P E (.inRegion ops [] :: k) (mix (fun i=>listed.getD i false) 0 rs st0):=by
  intro listed hs hall
  rw [Qcg fun j hj=>by rw [Nat.zero_add]; exact hall j (by rw [← h.len]; exact hj)]
  exact .of_step (fun a w=>stepR_region_end) hg
 have gd:∀ (listed:Array Bool) (i:Nat),listed.size=ops.size→i<ops.size→listed.getD i true=listed.getD i false:=by
  intro listed i hs hi
  have:i<listed.size:=by omega
  simp [Array.getD,this]
 intro fuel
 induction fuel with
 | zero =>
  intro t listed hs hf hd
  simp only [Region.linearise.go,List.reverse_nil]
  refine fin listed hs fun i hi=>?_
  have h0:unl ops.size listed=[]:=List.length_eq_zero_iff.1 (by omega)
  cases hc:listed.getD i false with
  | true=>rfl
  | false =>
   have:i ∈ unl ops.size listed:=by
    unfold unl; rw [List.mem_filter,List.mem_range]
    exact ⟨hi,by rw [gd listed i hs hi,hc]; rfl⟩
   rw [h0] at this; cases this
 | succ fuel ih =>
  intro t listed hs hf hd
  simp only [Region.linearise.go]
  change G P E (.inRegion ops (match (Region.ready .any ops listed)[t % (Region.ready .any ops listed).length]? with
   | some i=>Region.linearise.go .any ops fuel (t / (Region.ready .any ops listed).length) (listed.setIfInBounds i true) [i]
   | none=>[].reverse) :: k) _
  cases hi:(Region.ready .any ops listed)[t % (Region.ready .any ops listed).length]? with
  | none =>
   have hnil:Region.ready .any ops listed=[]:=by
    cases hr:Region.ready .any ops listed with
    | nil=>rfl
    | cons x xs =>
     rw [hr] at hi
     have hlt:t % (x :: xs).length<(x :: xs).length:=Nat.mod_lt _ (by simp)
     simp at hi
     simp at hlt
     omega
   simp only [List.reverse_nil]
   refine fin listed hs fun i=>?_
   induction i using Nat.strongRecOn with
   | ind i ihi =>
    intro hi'
    cases hc:listed.getD i false with
    | true=>rfl
    | false =>
     have hop:ops[i]?=some ops[i]:=by simp [hi']
     have:i ∈ Region.ready .any ops listed:=by
      rw [mem_ready]
      refine ⟨by rw [gd listed i hs hi',hc],ops[i],hop,fun e he hb=>?_⟩
      rw [XO] at hb
      obtain ⟨m,m1,m2,m3⟩:=h.anc i _ hop
      have:=m2 e he hb
      exact ihi e.on this (by omega)
     rw [hnil] at this; cases this
  | some i =>
   simp only
   rw [linearise_go_acc,List.reverse_singleton,List.singleton_append]
   have hmem:=List.mem_of_getElem? hi
   obtain ⟨h0,o,ho,hpre⟩:=mem_ready.1 hmem
   have his:i<ops.size:=(Array.getElem?_eq_some_iff.1 ho).1
   have h0':listed.getD i false=false:=by rw [← gd listed i hs his]; exact h0
   have hset:∀ j,(listed.setIfInBounds i true).getD j false=(listed.getD j false || Nat.beq j i):=by
    intro j
    by_cases e:j=i
    · subst e
      have:j<listed.size:=by omega
      simp [Array.getD,this]
    · have:Nat.beq j i=false:=by rw [← Bool.not_eq_true,Nat.beq_eq]; exact e
      rw [getD_set_ne false (Ne.symm e),this,Bool.or_false]
   refine draw_one h hk hd ho h0' (fun e he hh=>hpre e he (by rw [XO]; exact hh)) hset (fun j hj=>?_) ?_
   · rcases Nat.lt_or_ge j ops.size with h1 | h1
     · exact h1
     · have h1':listed.size≤j:=by omega
       simp [Array.getD,Nat.not_lt.2 h1'] at hj
   · refine ih _ _ (by simpa using hs) ?_ ?_
     · have hsub:(unl ops.size (listed.setIfInBounds i true))=(unl ops.size listed).filter fun j=>!Nat.beq j i:=by
        unfold unl
        rw [List.filter_filter]
        refine List.filter_congr fun j hj=>?_
        have hj':=List.mem_range.1 hj
        rw [gd _ j (by simpa using hs) hj',hset j,gd listed j hs hj']
        cases listed.getD j false <;> cases Nat.beq j i <;> rfl
       have hlt:((unl ops.size listed).filter fun j=>!Nat.beq j i).length<(unl ops.size listed).length:=by
        rw [List.length_filter_lt_length_iff_exists]
        refine ⟨i,?_,by simp⟩
        unfold unl; rw [List.mem_filter,List.mem_range]
        exact ⟨his,by rw [h0]; rfl⟩
       rw [hsub]; omega
     · intro j oj hoj hDj e he hh
       simp only [hset] at hDj ⊢
       rw [Bool.or_eq_true] at hDj ⊢
       rcases hDj with hDj | hDj
       · exact .inl (hd j oj hoj hDj e he hh)
       · rw [Nat.beq_eq] at hDj; subst hDj
         rw [ho] at hoj; cases hoj
         exact .inl (hpre e he (by rw [XO]; exact hh))
/-- A region whose order is drawn. -/
theorem draw_step {ops:Array Oper} {id:Nat} {k:List Item} {evs evs':List EV} {obs:List Prop} {HK:Prop} (hk:HK) (hmx:P.follows .mixedOrders=true)
 (h:drawA P ops st evs=some (st',evs',obs)) (ho:AllP obs) (hg:G P E k st'):G P E (.code (.region id ops true) :: k) st:=by
 unfold drawA at h
 split at h
 · cases h
 · rename_i rs st1 evs1 obs1 h1
   split at h
   · cases h
   · rename_i ms hms
     cases hp:Vw 0 rs ms with
     | false=>simp [hp] at h
     | true =>
      simp only [hp,cond_true,Option.some.injEq,Prod.mk.injEq] at h
      obtain ⟨rfl,-,rfl⟩:=h
      obtain ⟨l,e,f⟩:=Wm h1 ho
      obtain ⟨a1,a2,a3⟩:=Wv (i:=0) (acc:=[]) rfl hms
      have hD:Draw P ops ⟨st.tmps,st.blks++List.replicate (ops.toList.countP VV) dead⟩ rs ms :=
       ⟨l,by simpa using a2,fun j r hj=>by simpa using f j r hj,fun j o hj=>by simpa using a3 j o (by simpa using hj),hp⟩
      have hg2:G P E k (rs.foldl app1 ⟨st.tmps,st.blks++List.replicate (ops.toList.countP VV) dead⟩):=by
       rw [← e]
       obtain ⟨m,hm⟩:=WS st1.blks
       have:st1=⟨st1.tmps,trim st1.blks++List.replicate m dead⟩:=by cases st1; simp only at hm ⊢; rw [← hm]
       rw [this]; exact G_pop hg
      intro C Z a w hr
      have hstep:=stepR_region_draw (P:=P) (b:=E.b) (a:=a) (k:=k) (cs:=E.cs) (w:=w) (ops:=ops) (id:=id)
      refine .step (.one hstep) ?_
      have hrep:∀ j,(Array.replicate ops.size false).getD j false=false:=by
       intro j
       by_cases hj:j<ops.size <;> simp [Array.getD,hj]
      have hgo:=draw_go hD hk hg2 ops.size (w.tape w.drawn (.order E.b.fn id)) (Array.replicate ops.size false) (by simp) (by
       unfold unl; exact Nat.le_trans (List.length_filter_le _ _) (by simp)) (by intro i o hio hDi; have:=(hrep i).symm.trans hDi; cases this)
      simp only [Region.schedule,hmx,Bool.true_or,if_true]
      rw [yF (fun j=>hrep j)] at hgo
      have ev:EvoC w { w with drawn:=w.drawn+1 }:=⟨fun _ _ _ h=>h,rfl⟩
      have hfr:=hr.mem.frame
      exact hgo C Z a { w with drawn:=w.drawn+1 } ⟨⟨hr.tmp.1,fun i c v p q=>(hr.tmp.2 i c v p q).evoC ev⟩,
       (hr.mem.evoC ev ⟨hfr.os,hfr.tape,hfr.output,hfr.size,hfr.same⟩).pushN _,hr.marks,⟨hr.gh.1,fun i c v p q=>(hr.gh.2 i c v p q).evoC ev⟩,hr.base.evoC ev⟩
end
end Ax
namespace Ax
open Go
/-! ### Calls that turn blocks of the caller -/
def Own (C:Ctx) (b:Nat):Prop:=∃ k o,C.β k=.loc b o
mutual
def ren (f:Nat→Nat):AV→AV
 | .ptr k g off=>.ptr (f k) g off
 | .sl k g off len sz=>.sl (f k) g off len sz
 | .mp k g it=>.mp (f k) g it
 | .pm row k g off=>.pm row (f k) g off
 | .agg cs=>.agg (rens f cs)
 | .tup cs=>.tup (rens f cs)
 | .clos g a b=>.clos g (rens f a) (rens f b)
 | v=>v
def rens (f:Nat→Nat):List AV→List AV
 | []=>[]
 | c :: cs=>ren f c :: rens f cs
end
mutual
def Yn (p:Nat→Bool):AV→Bool
 | .ptr k _ _=>p k
 | .sl k _ _ _ _=>p k
 | .mp k _ _=>p k
 | .pm _ k _ _=>p k
 | .agg cs=>refsIns p cs
 | .tup cs=>refsIns p cs
 | .clos _ a b=>refsIns p a && refsIns p b
 | _=>true
def refsIns (p:Nat→Bool):List AV→Bool
 | []=>true
 | c :: cs=>Yn p c && refsIns p cs
end
theorem Yx {f:Nat→Nat}:∀ {cs:List AV} {i:Nat},(rens f cs)[i]?=(cs[i]?).map (ren f)
 | [],i=>by simp [rens]
 | c :: cs,0=>by simp [rens]
 | c :: cs,i+1=>by simp [rens,Yx (cs:=cs)]
theorem Xw {f:Nat→Nat}:∀ {cs:List AV},(rens f cs).length=cs.length
 | []=>rfl
 | c :: cs=>by simp [rens,Xw (cs:=cs)]
theorem Yf {p:Nat→Bool}:∀ {cs:List AV} {i:Nat} {c:AV},refsIns p cs=true→cs[i]?=some c→Yn p c=true
 | [],_,_,_,h=>by simp at h
 | d :: cs,0,c,hn,h=>by simp [refsIns] at hn h; rw [← h]; exact hn.1
 | d :: cs,i+1,c,hn,h=>by simp [refsIns] at hn h; exact Yf hn.2 h
mutual
theorem QaF (v:AV):Yn (fun _=>true) v=true:=by
 cases v <;> simp only [Yn]
 case agg cs=>exact refsIns_all cs
 case tup cs=>exact refsIns_all cs
 case clos f a b=>rw [refsIns_all a,refsIns_all b]; rfl
theorem refsIns_all (cs:List AV):refsIns (fun _=>true) cs=true:=by
 cases cs with
 | nil=>rfl
 | cons c cs=>simp only [refsIns]; rw [QaF c,refsIns_all cs]; rfl
end
theorem isCell_ren {f:Nat→Nat} (v:AV):QY (ren f v)=QY v:=by
 cases v <;> rfl
theorem VR.ren {f:Nat→Nat} {p:Nat→Bool} {C C':Ctx} {Z:Nat→Prop} {w:World} {v:AV} {c:Value} (hf:∀ k,p k=true→C'.β (f k)=C.β k∧C'.γ (f k)=C.γ k)
 (h:VR Z w C v c) (hp:Yn p v=true):VR Z w C' (Ax.ren f v) c:=by
 have key:∀ {C₁ v c},VR Z w C₁ v c→C₁=C→Yn p v=true→VR Z w C' (Ax.ren f v) c:=by
  intro C₁ v c h
  have lst:∀ {cs:List AV} {arr:Array Value},(∀ (i:Nat) (c:AV) (v:Value),cs[i]?=some c→arr[i]?=some v→Yn p c=true→VR Z w C' (Ax.ren f c) v)→refsIns p cs=true →
   ∀ (i:Nat) (c:AV) (v:Value),(rens f cs)[i]?=some c→arr[i]?=some v→VR Z w C' c v:=by
   intro cs arr h hp i c v h1 h2
   rw [Yx,Option.map_eq_some_iff] at h1
   obtain ⟨c0,h1,rfl⟩:=h1
   exact h i c0 v h1 h2 (Yf hp h1)
  induction h with
  | bool b=>exact fun _ _=>.bool b
  | int k n=>exact fun _ _=>.int k n
  | nilPtr=>exact fun _ _=>.nilPtr
  | @ptr C₁ k g off c hg ho hh =>
   rintro rfl hp
   obtain ⟨e1,e2⟩:=hf k (by simpa [Yn] using hp)
   exact .ptr (by rw [e2]; exact hg) ho (by rw [e1,e2]; exact hh)
  | rptr cv hz hc hk hr ih=>exact fun _ _=>.rptr cv hz hc hk hr
  | nilSl=>exact fun _ _=>.nilSl
  | @sl C₁ k g off len sz c hg ho hh =>
   rintro rfl hp
   obtain ⟨e1,e2⟩:=hf k (by simpa [Yn] using hp)
   exact .sl (by rw [e2]; exact hg) ho (by unfold SlOk at hh ⊢; rw [e1,e2]; exact hh)
  | rsl cv hz hl hc hk hr ih=>exact fun _ _=>.rsl cv hz hl hc hk hr
  | rsl0=>exact fun _ _=>.rsl0
  | agg hl h ih =>
   intro e hp
   exact .agg (by rw [Xw]; exact hl) (lst (fun i c v h1 h2 h3=>ih i c v h1 h2 e h3) (by simpa [Yn] using hp))
  | tup hl h ih =>
   intro e hp
   exact .tup (by rw [Xw]; exact hl) (lst (fun i c v h1 h2 h3=>ih i c v h1 h2 e h3) (by simpa [Yn] using hp))
  | clos hl h hl' h' ih ih' =>
   intro e hp
   simp only [Yn,Bool.and_eq_true] at hp
   exact .clos (by rw [Xw]; exact hl) (lst (fun i c v h1 h2 h3=>ih i c v h1 h2 e h3) hp.1) (by rw [Xw]; exact hl') (lst (fun i c v h1 h2 h3=>ih' i c v h1 h2 e h3) hp.2)
  | nilFunc=>exact fun _ _=>.nilFunc
  | opq v=>exact fun _ _=>.opq v
  | junk v=>exact fun _ _=>.junk v
  | @mp C₁ k g it c hg ho hh =>
   rintro rfl hp
   obtain ⟨e1,e2⟩:=hf k (by simpa [Yn] using hp)
   exact .mp (by rw [e2]; exact hg) ho (by rw [e1,e2]; exact hh)
  | rmap es hz hh hl hb hr ih=>exact fun _ _=>.rmap es hz hh hl hb hr
  | pm cv hz hc hk hr hcm hv ih ihv =>
   intro e hp
   exact .pm cv hz hc hk hr hcm (ihv e (by simpa [Yn] using hp))
 exact key h rfl hp
/-- As 'Evo' and 'CtxLe' together; a row may have turned whose generation is gone. -/
structure EvoG (C C':Ctx) (Z Z':Nat→Prop) (w w':World):Prop where
 zsub:∀ b,Z b→Z' b
 same:∀ b,Z b→w'.heap[b]?=w.heap[b]?
 le:CtxLe C C'
 rows:∀ k blk o arr e,C.β k=.loc blk o→C'.γ k=C.γ k→w.heap[blk]?=some (.cells arr e (0,0))→∃ arr',w'.heap[blk]?=some (.cells arr' e (0,0))∧arr'.size=arr.size
theorem VR.evoG {C C':Ctx} {Z Z':Nat→Prop} {w w':World} {v:AV} {c:Value} (h:VR Z w C v c) (he:EvoG C C' Z Z' w w'):VR Z' w' C' v c:=by
 have he0:Evo C0 Z Z' w w':=⟨he.zsub,he.same,fun k blk o arr e h=>by simp [C0] at h⟩
 have key:∀ {C₁ v c},VR Z w C₁ v c→C₁=C→VR Z' w' C' v c:=by
  intro C₁ v c h
  induction h with
  | bool b=>exact fun _=>.bool b
  | int k n=>exact fun _=>.int k n
  | nilPtr=>exact fun _=>.nilPtr
  | @ptr C₁ k g off c hg ho hh =>
   rintro rfl
   refine .ptr (Nat.le_trans hg (he.le.gen k)) ho fun e=>?_
   have e1:g=C₁.γ k:=by have:=he.le.gen k; omega
   obtain ⟨blk,o,hb,hv⟩:=hh e1
   exact ⟨blk,o,by rw [he.le.pos k (by rw [hb]; simp) (by omega),hb],hv⟩
  | rptr cv hz hc hk hr ih=>exact fun _=>.rptr cv (he.zsub _ hz) (fun i hi=>(Xq (he.same _ hz)).trans (hc i hi)) hk fun i c hi=>(hr i c hi).mono he0
  | nilSl=>exact fun _=>.nilSl
  | @sl C₁ k g off len sz c hg ho hh =>
   rintro rfl
   refine .sl (Nat.le_trans hg (he.le.gen k)) ho fun e=>?_
   have e1:g=C₁.γ k:=by have:=he.le.gen k; omega
   have h1:=hh e1
   unfold SlOk at h1 ⊢
   rw [he.le.pos k (by intro hb; simp [hb] at h1) (by omega)]
   cases hb:C₁.β k with
   | absent=>simp [hb] at h1
   | unborn=>simp only [hb] at h1 ⊢; exact h1
   | loc blk o =>
    simp only [hb] at h1 ⊢
    obtain ⟨a,cap,h2,h3,h4,arr,e',h5,h6⟩:=h1
    obtain ⟨arr',h7,h8⟩:=he.rows k blk o arr e' hb (by omega) h5
    exact ⟨a,cap,h2,h3,h4,arr',e',h7,by omega⟩
  | rsl cv hz hl hc hk hr ih=>exact fun _=>.rsl cv (he.zsub _ hz) hl (fun i hi=>(Xq (he.same _ hz)).trans (hc i hi)) hk fun i c hi=>(hr i c hi).mono he0
  | rsl0=>exact fun _=>.rsl0
  | agg hl h ih=>exact fun e=>.agg hl fun i c v h1 h2=>ih i c v h1 h2 e
  | tup hl h ih=>exact fun e=>.tup hl fun i c v h1 h2=>ih i c v h1 h2 e
  | clos hl h hl' h' ih ih'=>exact fun e=>.clos hl (fun i c v h1 h2=>ih i c v h1 h2 e) hl' (fun i c v h1 h2=>ih' i c v h1 h2 e)
  | nilFunc=>exact fun _=>.nilFunc
  | opq v=>exact fun _=>.opq v
  | junk v=>exact fun _=>.junk v
  | @mp C₁ k g it c hg ho hh =>
   rintro rfl
   refine .mp (Nat.le_trans hg (he.le.gen k)) ho fun e=>?_
   have e1:g=C₁.γ k:=by have:=he.le.gen k; omega
   obtain ⟨blk,o,hb,hv⟩:=hh e1
   exact ⟨blk,o,by rw [he.le.pos k (by rw [hb]; simp) (by omega),hb],hv⟩
  | rmap es hz hh hl hb hr ih=>exact fun _=>.rmap es (he.zsub _ hz) ((he.same _ hz).trans hh) hl hb fun i c e h1 h2=>(hr i c e h1 h2).mono he0
  | pm cv hz hc hk hr hcm hv ih ihv=>exact fun e=>.pm cv (he.zsub _ hz) (fun i hi=>(Xq (he.same _ hz)).trans (hc i hi)) hk (fun i c hi=>(hr i c hi).mono he0) ((Xq (he.same _ hz)).trans hcm) (ihv e)
 exact key h rfl
theorem VRs.evoG {C C':Ctx} {Z Z':Nat→Prop} {w w':World} {cs:List AV} {vs:List Value} (h:VRs Z w C cs vs) (he:EvoG C C' Z Z' w w'):VRs Z' w' C' cs vs :=
 ⟨h.1,fun i c v a b=>(h.2 i c v a b).evoG he⟩
theorem Marks.evoG {C C':Ctx} {Z Z' M:Nat→Prop} {w0 w w':World} {df ds:List Deferred} (h:Marks df Z M w0 ds w) (he:EvoG C C' Z Z' w w'):Marks df Z' M w0 ds w':=by
 obtain ⟨Ds,h1,h2,h3⟩:=h
 exact ⟨Ds,h1,h2,fun D hD=>⟨he.zsub D (h3 D hD).1,(h3 D hD).2.1,by rw [he.same D (h3 D hD).1]; exact (h3 D hD).2.2⟩⟩
theorem Base.nextG {Cb C C':Ctx} {w0 w w':World} {Z Z':Nat→Prop} (h:Base Cb w0 C w) (he:EvoG C C' Z Z' w w'):Base Cb w0 C' w':=by
 refine ⟨⟨fun k=>Nat.le_trans (h.le.gen k) (he.le.gen k),fun k p q=>?_⟩,fun k blk o arr e p q r=>?_⟩
 · have e1:=h.le.gen k
   have e2:=he.le.gen k
   have e3:C.γ k=Cb.γ k:=by omega
   rw [he.le.pos k (by rw [h.le.pos k p e3]; exact p) (by omega),h.le.pos k p e3]
 · have e1:=h.le.gen k
   have e2:=he.le.gen k
   have e3:C.γ k=Cb.γ k:=by omega
   obtain ⟨arr1,a1,a2⟩:=h.rows k blk o arr e p e3 r
   have hb:C.β k=.loc blk o:=by rw [h.le.pos k (by rw [p]; simp) e3,p]
   obtain ⟨arr2,b1,b2⟩:=he.rows k blk o arr1 e hb (by omega) a1
   exact ⟨arr2,b1,by omega⟩
/-- A function value that turns what it is handed: blocks 'bs' become 'bs2' (and what is new lies behind them). -/
def QO (P:Program) (fv:AV) (args:List AV) (bs:List Blk) (res:AV) (bs2:List Blk):Prop :=
 ∀ (Z:Nat→Prop) (w:World) (C:Ctx) (cf:Value) (cargs:Array Value),Mem Z (Own C) w C Z bs w→VR Z w C fv cf→VRs Z w C args cargs.toList →
  ∃ (d:Deferred) (f:FuncId) (args':Array Value),(Deferred.ofValue cf cargs).run P w=.ok d w∧(invoke d.target d.args).run P w=.ok (.enter f args') w ∧
   Calls P f args' w fun e w'=>∃ v C' Z',e=.returned v∧Base C w C' w'∧Mem Z (Own C) w C' Z' bs2 w'∧VR Z' w' C' res v
def renB (f:Nat→Nat) (b:Blk):Blk:=bif b.flat then b else { b with cells:=rens f b.cells }
def YW:List Nat→Bool
 | []=>true
 | j :: js=>!js.contains j && YW js
def lend (f:Nat→Nat) (p:Nat→Bool) (blks:List Blk):List Nat→Option (List Blk)
 | []=>some []
 | j :: js=>match blks[j]?,lend f p blks js with
  | some b,some bs=>bif b.flat || refsIns p b.cells then some (renB f b :: bs) else none
  | _,_=>none
def Xo (blks:List Blk):List Nat→List Blk→List Blk
 | j :: js,b :: bs=>Xo (blks.set j b) js bs
 | _,_=>blks
/-- From the callee's numbers to the caller's. -/
def outN (N:Nat) (ρ:List Nat) (k:Nat):Nat:=bif Nat.ble ρ.length k then N+(k - ρ.length) else ρ.getD k 0
def lentA (P:Program) (fv:AV) (args:List AV) (blks:List Blk) (ρ:List Nat) (res:AV) (bs2:List Blk):Option (AV × List Blk × List Prop) :=
 bif YW ρ && Nat.ble ρ.length bs2.length && Yn (fun j=>ρ.contains j) fv && refsIns (fun j=>ρ.contains j) args then
  match lend (fun j=>ρ.idxOf j) (fun j=>ρ.contains j) blks ρ with
  | some bs=>some (ren (outN blks.length ρ) res,Xo blks ρ (bs2.map (renB (outN blks.length ρ)))++(bs2.drop ρ.length).map (renB (outN blks.length ρ)),
   [QO P (ren (fun j=>ρ.idxOf j) fv) (rens (fun j=>ρ.idxOf j) args) bs res bs2])
  | none=>none
 else none
theorem Fr.trans {w0 w w':World} {M F:Nat→Prop} (h:Fr w0 M w) (h':Fr w F w') (hF:∀ b,b<w0.heap.size→¬ M b→¬ F b):Fr w0 M w' :=
 ⟨h'.os.trans h.os,h'.tape.trans h.tape,h'.output.trans h.output,Nat.le_trans h.size h'.size,fun b hb hM=>by
  rw [h'.same b (Nat.lt_of_lt_of_le hb h.size) (hF b hb hM)]; exact h.same b hb hM⟩
theorem lend_get {f:Nat→Nat} {p:Nat→Bool} {blks:List Blk}:∀ {ρ:List Nat} {bs:List Blk},lend f p blks ρ=some bs→bs.length=ρ.length ∧
 ∀ (k:Nat) (b':Blk),bs[k]?=some b'→∃ j b,ρ[k]?=some j∧blks[j]?=some b∧b'=renB f b∧(b.flat=true ∨ refsIns p b.cells=true)
 | [],bs,h=>by simp only [lend,Option.some.injEq] at h; subst h; exact ⟨rfl,by simp⟩
 | j :: js,bs,h=>by
  simp only [lend] at h
  split at h
  · rename_i b bs1 hb hl
    obtain ⟨q1,q2⟩:=lend_get hl
    cases hc:(b.flat || refsIns p b.cells) with
    | false=>simp [hc] at h
    | true =>
     simp only [hc,cond_true,Option.some.injEq] at h
     subst h
     refine ⟨by simp [q1],fun k b' hk=>?_⟩
     cases k with
     | zero=>simp only [List.getElem?_cons_zero,Option.some.injEq] at hk; exact ⟨j,b,rfl,hb,hk.symm,by simpa using hc⟩
     | succ k=>exact q2 k b' (by simpa using hk)
  · cases h
theorem XG:∀ {ρ:List Nat} {bs blks:List Blk},(Xo blks ρ bs).length=blks.length
 | [],_,_=>by simp [Xo]
 | j :: js,[],_=>by simp [Xo]
 | j :: js,b :: bs,blks=>by simp [Xo,XG (ρ:=js)]
theorem VZ:∀ {ρ:List Nat} {bs blks:List Blk} {j:Nat},j ∉ ρ→(Xo blks ρ bs)[j]?=blks[j]?
 | [],_,_,_,_=>by simp [Xo]
 | i :: js,[],_,_,_=>by simp [Xo]
 | i :: js,b :: bs,blks,j,h=>by
  simp only [List.mem_cons,not_or] at h
  simp only [Xo]
  rw [VZ h.2,List.getElem?_set_ne (by omega)]
theorem KB:∀ {ρ:List Nat} {bs blks:List Blk} {j k:Nat} {b:Blk},YW ρ=true→ρ[k]?=some j→bs[k]?=some b→j<blks.length→(Xo blks ρ bs)[j]?=some b
 | [],_,_,_,_,_,_,h,_,_=>by simp at h
 | i :: js,[],_,_,_,_,_,_,h,_=>by simp at h
 | i :: js,b0 :: bs,blks,j,0,b,hn,h1,h2,h3=>by
  simp only [List.getElem?_cons_zero,Option.some.injEq] at h1 h2
  subst h1; subst h2
  simp only [YW,Bool.and_eq_true,Bool.not_eq_true',List.contains_eq_mem,decide_eq_false_iff_not] at hn
  simp only [Xo]
  rw [VZ hn.1]; simp [h3]
 | i :: js,b0 :: bs,blks,j,k+1,b,hn,h1,h2,h3=>by
  simp only [YW,Bool.and_eq_true] at hn
  simp only [Xo]
  exact KB hn.2 (by simpa using h1) (by simpa using h2) (by simpa using h3)
theorem Kn:∀ {ρ:List Nat} {k k' j:Nat},YW ρ=true→ρ[k]?=some j→ρ[k']?=some j→k=k'
 | [],_,_,_,_,h,_=>by simp at h
 | i :: js,0,0,_,_,_,_=>rfl
 | i :: js,0,k'+1,j,hn,h1,h2=>by
  simp only [YW,Bool.and_eq_true,Bool.not_eq_true',List.contains_eq_mem,decide_eq_false_iff_not] at hn
  simp only [List.getElem?_cons_zero,Option.some.injEq,List.getElem?_cons_succ] at h1 h2
  exact absurd (h1 ▸ List.mem_of_getElem? h2) hn.1
 | i :: js,k+1,0,j,hn,h1,h2=>by
  simp only [YW,Bool.and_eq_true,Bool.not_eq_true',List.contains_eq_mem,decide_eq_false_iff_not] at hn
  simp only [List.getElem?_cons_zero,Option.some.injEq,List.getElem?_cons_succ] at h1 h2
  exact absurd (h2 ▸ List.mem_of_getElem? h1) hn.1
 | i :: js,k+1,k'+1,j,hn,h1,h2=>by
  simp only [YW,Bool.and_eq_true] at hn
  have e:=Kn (k:=k) (k':=k') (j:=j) hn.2 (by simpa using h1) (by simpa using h2)
  rw [e]
theorem idx_get {ρ:List Nat} {k j:Nat} (hn:YW ρ=true) (h:ρ[k]?=some j):ρ.idxOf j=k:=by
 have hm:j ∈ ρ:=List.mem_of_getElem? h
 have hlt:ρ.idxOf j<ρ.length:=List.idxOf_lt_length_iff.2 hm
 refine Kn hn (j:=j) ?_ h
 rw [List.getElem?_eq_getElem hlt,List.getElem_idxOf hlt]
/-- From the caller's numbers to the callee's. -/
def inN (N:Nat) (ρ:List Nat) (j:Nat):Option Nat:=if j<N then (if j ∈ ρ then some (ρ.idxOf j) else none) else some (j - N+ρ.length)
def subC (C:Ctx) (ρ:List Nat):Ctx:=⟨fun k=>match ρ[k]? with | some j=>C.β j | none=>.absent,fun k=>match ρ[k]? with | some j=>C.γ j | none=>0⟩
def Ys (C C1:Ctx) (N:Nat) (ρ:List Nat):Ctx :=
 ⟨fun j=>match inN N ρ j with | some k=>C1.β k | none=>C.β j,fun j=>match inN N ρ j with | some k=>C1.γ k | none=>C.γ j⟩
theorem inN_out {N:Nat} {ρ:List Nat} {k:Nat} (hn:YW ρ=true) (hρ:∀ j ∈ ρ,j<N):inN N ρ (outN N ρ k)=some k:=by
 unfold inN outN
 by_cases hk:ρ.length≤k
 · rw [Nat.ble_eq_true_of_le hk]
   simp only [cond_true]
   rw [if_neg (by omega)]
   congr 1; omega
 · have hb:Nat.ble ρ.length k=false:=by
    cases h:Nat.ble ρ.length k with
    | false=>rfl
    | true=>exact absurd (Nat.le_of_ble_eq_true h) hk
   have hg:ρ[k]?=some ρ[k]:=List.getElem?_eq_getElem (by omega)
   have hgd:ρ.getD k 0=ρ[k]:=by simp [List.getD,hg]
   rw [hb]
   simp only [cond_false]
   rw [hgd,if_pos (hρ _ (List.getElem_mem _)),if_pos (List.getElem_mem _),idx_get hn hg]
theorem Kj {N:Nat} {ρ:List Nat} {j k:Nat} (h:inN N ρ j=some k):outN N ρ k=j∧(j<N→ρ[k]?=some j)∧(N≤j→ρ.length≤k):=by
 unfold inN at h
 unfold outN
 split at h
 · rename_i hj
   split at h
   · rename_i hm
     simp only [Option.some.injEq] at h
     subst h
     have hlt:ρ.idxOf j<ρ.length:=List.idxOf_lt_length_iff.2 hm
     have hg:ρ[ρ.idxOf j]?=some j:=by rw [List.getElem?_eq_getElem hlt,List.getElem_idxOf hlt]
     have hb:Nat.ble ρ.length (ρ.idxOf j)=false:=by
      cases h:Nat.ble ρ.length (ρ.idxOf j) with
      | false=>rfl
      | true=>exact absurd (Nat.le_of_ble_eq_true h) (by omega)
     exact ⟨by rw [hb]; simp [List.getD,hg],fun _=>hg,fun h=>by omega⟩
   · cases h
 · rename_i hj
   simp only [Option.some.injEq] at h
   subst h
   exact ⟨by rw [Nat.ble_eq_true_of_le (by omega)]; simp only [cond_true]; omega,fun h=>by omega,fun _=>by omega⟩
theorem qY.ren {C C':Ctx} {Z:Nat→Prop} {w:World} {k k':Nat} {b:Blk} {f:Nat→Nat} {p:Nat→Bool} (hf:∀ k,p k=true→C'.β (f k)=C.β k∧C'.γ (f k)=C.γ k)
 (hk:C'.β k'=C.β k) (hp:b.flat=true ∨ refsIns p b.cells=true) (h:qY C Z w k b):qY C' Z w k' (renB f b):=by
 intro hl
 unfold renB at hl ⊢
 cases hfl:b.flat with
 | true =>
  rw [hfl] at hl
  simp only [cond_true] at hl ⊢
  obtain ⟨q1,q2⟩:=h hl
  refine ⟨q1,?_⟩
  rw [hk]
  cases hs:C.β k with
  | absent=>simp [hs] at q2
  | unborn=>simp only [hs] at q2 ⊢; exact q2
  | loc blk o=>simp only [hs] at q2 ⊢; exact q2.next rfl (fun _ _ h=>h) (fun hf=>by rw [hfl] at hf; cases hf)
 | false =>
  rw [hfl] at hl
  simp only [cond_false] at hl ⊢
  have hp:=hp.resolve_left (by rw [hfl]; simp)
  obtain ⟨q1,q2⟩:=h hl
  refine ⟨fun i c hi=>?_,?_⟩
  · rw [Yx,Option.map_eq_some_iff] at hi
    obtain ⟨c0,hi,rfl⟩:=hi
    rw [isCell_ren]; exact q1 i c0 hi
  rw [hk]
  cases hs:C.β k with
  | absent=>simp [hs] at q2
  | unborn=>simp only [hs] at q2 ⊢; rw [q2]; rfl
  | loc blk o =>
   simp only [hs] at q2 ⊢
   rcases q2 with ⟨hz,arr,e,r1,r2,r3⟩ | ⟨hz,ob,r1,r2⟩
   · refine .inl ⟨hz,arr,e,r1,by rw [Xw]; exact r2,fun i c hi=>?_⟩
     rw [Yx,Option.map_eq_some_iff] at hi
     obtain ⟨c0,hi,rfl⟩:=hi
     obtain ⟨v,s1,s2⟩:=r3 i c0 hi
     simp only [hfl,Bool.false_eq_true,if_false] at s2 ⊢
     exact ⟨v,s1,s2.ren hf (Yf hp hi)⟩
   · refine .inr ⟨hz,ob,r1,?_⟩
     rw [hfl] at r2
     simp only [hfl,XJ,Bool.false_eq_true,if_false] at r2 ⊢
     obtain ⟨m,n,seen,a,b',⟨c,c1,c2⟩,d,e⟩:=r2
     refine ⟨m,n,seen,a,by rw [Xw]; exact b',⟨Ax.ren f c,by rw [Yx,c1]; rfl,c2.ren hf (Yf hp c1)⟩,by rw [Yx,d]; rfl,fun i s hs=>by rw [Yx,e i s hs]; rfl⟩
theorem qY.evoG {C C':Ctx} {Z Z':Nat→Prop} {w w':World} {k:Nat} {b:Blk} (h:qY C Z w k b) (he:EvoG C C' Z Z' w w') (hk:C'.β k=C.β k) (hh:∀ blk o,C.β k=.loc blk o→w'.heap[blk]?=w.heap[blk]?):qY C' Z' w' k b:=by
 intro hl
 obtain ⟨q1,q2⟩:=h hl
 refine ⟨q1,?_⟩
 rw [hk]
 cases hs:C.β k with
 | absent=>simp [hs] at q2
 | unborn=>simp only [hs] at q2 ⊢; exact q2
 | loc blk o =>
  simp only [hs] at q2 ⊢
  exact q2.next (hh blk o hs) (fun c v h=>h.mono ⟨he.zsub,he.same,fun k blk o arr e h=>by simp [C0] at h⟩) (fun _ c v _ h=>h.evoG he)
section
variable {P:Program} {Z0 M Z Z1:Nat→Prop} {w0 w w1:World} {C C1:Ctx} {blks bs bs2:List Blk} {ρ:List Nat}
/-- The memory that is lent. -/
theorem Mem.lend (hm:Mem Z0 M w0 C Z blks w) (hn:YW ρ=true) (h:Ax.lend (fun j=>ρ.idxOf j) (fun j=>ρ.contains j) blks ρ=some bs) :
 Mem Z (Own (subC C ρ)) w (subC C ρ) Z bs w∧(∀ j ∈ ρ,j<blks.length)∧∀ j,ρ.contains j=true→(subC C ρ).β (ρ.idxOf j)=C.β j∧(subC C ρ).γ (ρ.idxOf j)=C.γ j:=by
 obtain ⟨hlen,hget⟩:=lend_get h
 have hcon:∀ j,ρ.contains j=true→(subC C ρ).β (ρ.idxOf j)=C.β j∧(subC C ρ).γ (ρ.idxOf j)=C.γ j:=by
  intro j hj
  have hm:j ∈ ρ:=by simpa using hj
  have hlt:ρ.idxOf j<ρ.length:=List.idxOf_lt_length_iff.2 hm
  have hg:ρ[ρ.idxOf j]?=some j:=by rw [List.getElem?_eq_getElem hlt,List.getElem_idxOf hlt]
  simp only [subC,hg,and_self]
 have hρ:∀ j ∈ ρ,j<blks.length:=by
  intro j hj
  obtain ⟨k,hk⟩:=List.getElem?_of_mem hj
  have hkl:k<bs.length:=by rw [hlen]; exact (List.getElem?_eq_some_iff.1 hk).1
  obtain ⟨j',b,e1,e2,-⟩:=hget k bs[k] (List.getElem?_eq_getElem hkl)
  rw [hk] at e1; cases e1
  exact (List.getElem?_eq_some_iff.1 e2).1
 have hβ:∀ {k b o},(subC C ρ).β k=.loc b o→∃ j,ρ[k]?=some j∧C.β j=.loc b o:=by
  intro k b o h
  simp only [subC] at h
  cases hk:ρ[k]? with
  | none=>simp [hk] at h
  | some j=>simp only [hk] at h; exact ⟨j,rfl,h⟩
 have renB_eq:∀ (f:Nat→Nat) (b:Blk),(renB f b).gen=b.gen∧(renB f b).live=b.live:=by
  intro f b; unfold renB; cases b.flat <;> exact ⟨rfl,rfl⟩
 refine ⟨⟨fun k b' hb=>?_,fun k b' hb=>?_,fun k b' hb hd=>?_,fun k hk=>?_,fun k k' b o o' h1 h2=>?_,fun k b o h1=>?_,hm.zlt,fun _ h=>h,fun _ h=>.inl h,Fr.refl _ _⟩,hρ,hcon⟩
 · obtain ⟨j,b,e1,e2,rfl,e4⟩:=hget k b' hb
   exact (hm.blk j b e2).ren hcon (by simp only [subC,e1]) e4
 · obtain ⟨j,b,e1,e2,rfl,e4⟩:=hget k b' hb
   rw [(renB_eq _ b).1,← hm.gen j b e2]; simp only [subC,e1]
 · obtain ⟨j,b,e1,e2,rfl,e4⟩:=hget k b' hb
   rw [(renB_eq _ b).2] at hd
   have:=hm.dd j b e2 hd
   simp only [subC,e1]; exact this
 · have:ρ[k]?=none:=List.getElem?_eq_none (by omega)
   simp only [subC,this,and_self]
 · obtain ⟨j,e1,e2⟩:=hβ h1
   obtain ⟨j',e3,e4⟩:=hβ h2
   have:=hm.inj j j' b o o' e2 e4
   subst this
   exact Kn hn e1 e3
 · obtain ⟨j,e1,e2⟩:=hβ h1
   obtain ⟨a,b',c⟩:=hm.own j b o e2
   exact ⟨a,b',.inl ⟨k,o,h1⟩⟩
/-- The memory behind the call. -/
theorem Mem.given (hm:Mem Z0 M w0 C Z blks w) (hn:YW ρ=true) (hρ:∀ j ∈ ρ,j<blks.length) (hl:ρ.length≤bs2.length) (hb:Base (subC C ρ) w C1 w1) (h1:Mem Z (Own (subC C ρ)) w C1 Z1 bs2 w1) :
 Mem Z0 M w0 (Ys C C1 blks.length ρ) Z1 (Xo blks ρ (bs2.map (renB (outN blks.length ρ)))++(bs2.drop ρ.length).map (renB (outN blks.length ρ))) w1 ∧
 EvoG C (Ys C C1 blks.length ρ) Z Z1 w w1∧∀ k,(Ys C C1 blks.length ρ).β (outN blks.length ρ k)=C1.β k∧(Ys C C1 blks.length ρ).γ (outN blks.length ρ k)=C1.γ k:=by
 have hout:∀ k,(Ys C C1 blks.length ρ).β (outN blks.length ρ k)=C1.β k∧(Ys C C1 blks.length ρ).γ (outN blks.length ρ k)=C1.γ k:=by
  intro k; simp only [Ys,inN_out hn hρ,and_self]
 have hout':∀ k,(fun _:Nat=>true) k=true→(Ys C C1 blks.length ρ).β (outN blks.length ρ k)=C1.β k∧(Ys C C1 blks.length ρ).γ (outN blks.length ρ k)=C1.γ k:=fun k _=>hout k
 have hβ:∀ {k b o},(subC C ρ).β k=.loc b o→∃ j,ρ[k]?=some j∧C.β j=.loc b o:=by
  intro k b o h
  simp only [subC] at h
  cases hk:ρ[k]? with
  | none=>simp [hk] at h
  | some j=>simp only [hk] at h; exact ⟨j,rfl,h⟩
 have hOwn:∀ b,Own (subC C ρ) b→∃ j o,j ∈ ρ∧C.β j=.loc b o:=fun b ⟨k,o,h⟩=>by
  obtain ⟨j,e1,e2⟩:=hβ h
  exact ⟨j,o,List.mem_of_getElem? e1,e2⟩
 have hfs:=h1.frame.size
 have hs0:=hm.frame.size
 -- an old block that is not lent
 have hfree:∀ j b o,j ∉ ρ→C.β j=.loc b o→¬ Own (subC C ρ) b:=fun j b o hj h ho=>by
  obtain ⟨j',o',e1,e2⟩:=hOwn b ho
  exact hj (hm.inj j j' b o o' h e2 ▸ e1)
 have hnone:∀ j,inN blks.length ρ j=none→j<blks.length∧j ∉ ρ:=by
  intro j h
  unfold inN at h
  split at h
  · split at h
    · cases h
    · exact ⟨‹_›,‹_›⟩
  · cases h
 have hle:CtxLe C (Ys C C1 blks.length ρ):=by
  refine ⟨fun j=>?_,fun j hp hg=>?_⟩
  · simp only [Ys]
    cases hi:inN blks.length ρ j with
    | none=>exact Nat.le_refl _
    | some k =>
     obtain ⟨a,b,c⟩:=Kj hi
     by_cases hj:j<blks.length
     · have:=hb.le.gen k
       simp only [subC,b hj] at this
       exact this
     · rw [(hm.dom j (by omega)).2]; exact Nat.zero_le _
  · simp only [Ys] at hg ⊢
    cases hi:inN blks.length ρ j with
    | none=>rfl
    | some k =>
     rw [hi] at hg
     simp only at hg ⊢
     obtain ⟨a,b,c⟩:=Kj hi
     by_cases hj:j<blks.length
     · have:=hb.le.pos k
       simp only [subC,b hj] at this
       exact this hp hg
     · exact absurd (hm.dom j (by omega)).1 hp
 have hevo:EvoG C (Ys C C1 blks.length ρ) Z Z1 w w1:=by
  refine ⟨fun b hz=>h1.z0 b hz,fun b hz=>h1.frame.same b (hm.zlt b hz) fun ho=>?_,hle,fun j blk o arr e hj hg hw=>?_⟩
  · obtain ⟨j,o,-,e2⟩:=hOwn b ho
    exact (hm.own j b o e2).2.1 hz
  · simp only [Ys] at hg
    cases hi:inN blks.length ρ j with
    | none =>
     exact ⟨arr,by rw [h1.frame.same blk (hm.own j blk o hj).1 (hfree j blk o (hnone j hi).2 hj)]; exact hw,rfl⟩
    | some k =>
     rw [hi] at hg
     simp only at hg
     obtain ⟨a,b,c⟩:=Kj hi
     by_cases hjl:j<blks.length
     · have h2:=hb.rows k blk o arr e
       simp only [subC,b hjl] at h2
       exact h2 hj hg hw
     · have:=(hm.dom j (by omega)).1
       rw [this] at hj; cases hj
 have hget:∀ (j:Nat) (b:Blk),(Xo blks ρ (bs2.map (renB (outN blks.length ρ)))++(bs2.drop ρ.length).map (renB (outN blks.length ρ)))[j]?=some b →
  (∃ k b0,inN blks.length ρ j=some k∧bs2[k]?=some b0∧b=renB (outN blks.length ρ) b0) ∨ (inN blks.length ρ j=none∧blks[j]?=some b):=by
  intro j b h
  by_cases hj:j<blks.length
  · rw [List.getElem?_append_left (by rw [XG]; exact hj)] at h
    by_cases hm':j ∈ ρ
    · have hlt:ρ.idxOf j<ρ.length:=List.idxOf_lt_length_iff.2 hm'
      have hg:ρ[ρ.idxOf j]?=some j:=by rw [List.getElem?_eq_getElem hlt,List.getElem_idxOf hlt]
      have hb2:bs2[ρ.idxOf j]?=some bs2[ρ.idxOf j]:=List.getElem?_eq_getElem (by omega)
      rw [KB (b:=renB (outN blks.length ρ) bs2[ρ.idxOf j]) hn hg (by rw [List.getElem?_map,hb2]; rfl) hj] at h
      simp only [Option.some.injEq] at h
      exact .inl ⟨ρ.idxOf j,_,by simp only [inN,if_pos hj,if_pos hm'],hb2,h.symm⟩
    · rw [VZ hm'] at h
      exact .inr ⟨by simp only [inN,if_pos hj,if_neg hm'],h⟩
  · rw [List.getElem?_append_right (by rw [XG]; omega),XG,List.getElem?_map,List.getElem?_drop,Option.map_eq_some_iff] at h
    obtain ⟨b0,h2,h3⟩:=h
    exact .inl ⟨j - blks.length+ρ.length,b0,by simp only [inN,if_neg hj],by rw [← h2]; congr 1; omega,h3.symm⟩
 have renB_eq:∀ (f:Nat→Nat) (b:Blk),(renB f b).gen=b.gen∧(renB f b).live=b.live:=by
  intro f b; unfold renB; cases b.flat <;> exact ⟨rfl,rfl⟩
 refine ⟨⟨fun j b hj=>?_,fun j b hj=>?_,fun j b hj hd=>?_,fun j hj=>?_,fun j j' b o o' e1 e2=>?_,fun j b o e1=>?_,h1.zlt,fun b hz=>h1.z0 b (hm.z0 b hz),fun b hz=>?_,?_⟩,hevo,hout⟩
 · rcases hget j b hj with ⟨k,b0,q1,q2,rfl⟩ | ⟨q1,q2⟩
   · exact (h1.blk k b0 q2).ren hout' (by simp only [Ys,q1]) (.inr (refsIns_all _))
   · refine (hm.blk j b q2).evoG hevo (by simp only [Ys,q1]) fun blk o hbl=>?_
     exact h1.frame.same blk (hm.own j blk o hbl).1 (hfree j blk o (hnone j q1).2 hbl)
 · rcases hget j b hj with ⟨k,b0,q1,q2,rfl⟩ | ⟨q1,q2⟩
   · rw [(renB_eq _ b0).1,← h1.gen k b0 q2]; simp only [Ys,q1]
   · rw [← hm.gen j b q2]; simp only [Ys,q1]
 · rcases hget j b hj with ⟨k,b0,q1,q2,rfl⟩ | ⟨q1,q2⟩
   · rw [(renB_eq _ b0).2] at hd
     have:=h1.dd k b0 q2 hd
     simp only [Ys,q1]; exact this
   · have:=hm.dd j b q2 hd
     simp only [Ys,q1]; exact this
 · simp only [List.length_append,XG,List.length_map,List.length_drop] at hj
   have e:inN blks.length ρ j=some (j - blks.length+ρ.length):=by simp only [inN,if_neg (show ¬ j<blks.length by omega)]
   simp only [Ys,e]
   exact h1.dom _ (by omega)
 · simp only [Ys] at e1 e2
   have mix:∀ {i k c o1 i' o2},inN blks.length ρ i=some k→C1.β k=.loc c o1→inN blks.length ρ i'=none→C.β i'=.loc c o2→False:=by
    intro i k c o1 i' o2 q1 q2 q3 q4
    rcases (h1.own k c o1 q2).2.2 with h | h
    · exact hfree i' c o2 (hnone i' q3).2 q4 h
    · have:=(hm.own i' c o2 q4).1; omega
   cases hi:inN blks.length ρ j with
   | none =>
    cases hi':inN blks.length ρ j' with
    | none=>rw [hi] at e1; rw [hi'] at e2; exact hm.inj j j' b o o' e1 e2
    | some k'=>rw [hi] at e1; rw [hi'] at e2; exact (mix hi' e2 hi e1).elim
   | some k =>
    cases hi':inN blks.length ρ j' with
    | none=>rw [hi] at e1; rw [hi'] at e2; exact (mix hi e1 hi' e2).elim
    | some k' =>
     rw [hi] at e1; rw [hi'] at e2
     have:=h1.inj k k' b o o' e1 e2
     subst this
     rw [← (Kj hi).1,← (Kj hi').1]
 · simp only [Ys] at e1
   cases hi:inN blks.length ρ j with
   | none =>
    rw [hi] at e1
    obtain ⟨a,b',c⟩:=hm.own j b o e1
    refine ⟨by omega,fun hz=>?_,c⟩
    rcases h1.zsub b hz with h | h | h
    · exact b' h
    · exact hfree j b o (hnone j hi).2 e1 h
    · omega
   | some k =>
    rw [hi] at e1
    obtain ⟨a,b',c⟩:=h1.own k b o e1
    refine ⟨a,b',?_⟩
    rcases c with c | c
    · obtain ⟨j',o',-,e2⟩:=hOwn b c
      exact (hm.own j' b o' e2).2.2
    · exact .inr (by omega)
 · rcases h1.zsub b hz with h | h | h
   · exact hm.zsub b h
   · obtain ⟨j',o',-,e2⟩:=hOwn b h
     exact .inr (hm.own j' b o' e2).2.2
   · exact .inr (.inr (by omega))
 · refine hm.frame.trans h1.frame fun b hb hnM ho=>?_
   obtain ⟨j',o',-,e2⟩:=hOwn b ho
   rcases (hm.own j' b o' e2).2.2 with h | h
   · exact hnM h
   · omega
variable {E:Env} {K K':List Item} {st st':St}
/-- One operation: as 'opA',or a call that turns blocks. -/
def opL (P:Program) (ops:Array Oper) (i:Nat) (o:Oper) (st:St) (evs:List EV):Option (St × List EV × List Prop) :=
 match evs with
 | .lent ρ res bs2 :: evs =>
  (match o.op,Vt ops st.tmps o with
  | .call ⟨.value fop,args,_⟩,some true =>
   (match lentA P (Wd st.tmps fop) (args.toList.map (Wd st.tmps)) st.blks ρ res bs2 with
   | none=>none
   | some (v,blks,obs)=>(match conc (putA st.tmps o.dst v) (isGuard ops i) o.dst evs with
    | none=>none
    | some (tmps,evs,obs2)=>some (⟨tmps,blks⟩,evs,obs++obs2)))
  | _,_=>opA P ops i o st (.lent ρ res bs2 :: evs))
 | evs=>opA P ops i o st evs
theorem opL_step {ops:Array Oper} {i:Nat} {o:Oper} {rest:List Nat} {k:List Item} {evs evs':List EV} {obs:List Prop} (ho:ops[i]?=some o) {HK:Prop} (hk:HK)
 (h:opL P ops i o st evs=some (st',evs',obs)) (hob:AllP obs) (hg:G P E (.inRegion ops rest :: k) st'):G P E (.inRegion ops (i :: rest) :: k) st:=by
 unfold opL at h
 split at h
 · rename_i ρ res bs2 evs0
   split at h
   · rename_i fop args ats hop hw
     split at h
     · cases h
     · rename_i v blks obs1 hl
       split at h
       · cases h
       · rename_i tmps evs2 obs2 hc
         simp only [Option.some.injEq,Prod.mk.injEq] at h
         obtain ⟨rfl,-,rfl⟩:=h
         obtain ⟨ob1,ob2⟩:=Qm.1 hob
         unfold lentA at hl
         cases hcd:(YW ρ && Nat.ble ρ.length bs2.length && Yn (fun j=>ρ.contains j) (Wd st.tmps fop) && refsIns (fun j=>ρ.contains j) (args.toList.map (Wd st.tmps))) with
         | false=>rw [hcd] at hl; simp only [cond_false] at hl; cases hl
         | true =>
          rw [hcd] at hl
          simp only [cond_true] at hl
          simp only [Bool.and_eq_true] at hcd
          obtain ⟨⟨⟨hn,hle⟩,hrf⟩,hra⟩:=hcd
          have hle:=Nat.le_of_ble_eq_true hle
          split at hl
          · rename_i bs hlend
            simp only [Option.some.injEq,Prod.mk.injEq] at hl
            obtain ⟨rfl,rfl,rfl⟩:=hl
            intro C Z a w hr
            have hwc:=XU hr.tmp hw
            have hgo:=stepGR_op (P:=P) (b:=E.b) (k:=k) (cs:=E.cs) (w:=w) (rest:=rest) ho hwc
            rw [Oper.semAt_eq _ _ _ (by intro c hc; rw [hop] at hc; cases hc)] at hgo
            have hfin:∀ v,(E.b.atR a (.inRegion ops (i :: rest) :: k)).finish v=E.b.atR (a.put o.dst v) (.inRegion ops rest :: k):=by
             intro v; rw [Frame.finish_atR,ho]; rfl
            obtain ⟨hm1,hρ,hcon⟩:=hr.mem.lend hn hlend
            have hfv:=(Yh hr.tmp fop).ren hcon hrf
            have hargs:VRs Z w (subC C ρ) (rens (fun j=>ρ.idxOf j) (args.toList.map (Wd st.tmps))) (args.map a.eval).toList:=by
             refine ⟨by simp [Xw],fun j c v p q=>?_⟩
             rw [Yx,Option.map_eq_some_iff] at p
             obtain ⟨c0,p,rfl⟩:=p
             have hin:=Yf hra p
             simp only [List.getElem?_map,Option.map_eq_some_iff] at p
             obtain ⟨y,p1,p2⟩:=p
             simp only [Array.toList_map,List.getElem?_map,p1,Option.map_some,Option.some.injEq] at q
             rw [← q]
             exact (p2 ▸ Yh hr.tmp y).ren hcon hin
            obtain ⟨d,f,args',r1,r2,r3⟩:=ob1.1 Z w (subC C ρ) (a.eval fop) (args.map a.eval) hm1 hfv hargs
            obtain ⟨e,w1,fr,⟨v,C1,Z1,rfl,hb,hm2,hv⟩,hsteps,-,hleave⟩:=r3 (E.b.atR a (.inRegion ops (i :: rest) :: k) :: E.cs)
            have hexec:(execOp a.eval o).run P w=.ok (.enter f args') w:=by
             obtain ⟨dst,op,ty,pos,after,guard⟩:=o
             simp only at hop
             subst hop
             simp only [execOp,resolve,Sem.run_bind,r1,Result.andThen_ok,r2]
            have henter:step P (lone (E.b.atR a (.inRegion ops (i :: rest) :: k)) E.cs w) =
             .next (lone (Frame.enter P f args' .normal) (E.b.atR a (.inRegion ops (i :: rest) :: k) :: E.cs) w) :=
             step_lone_go (by rw [hgo]; simp [stepG.apply,hexec,Frame.atR])
            obtain ⟨hm3,hevo,hout⟩:=hr.mem.given hn hρ hle hb hm2
            refine .step (Steps.head henter (hsteps.trans (.one ?_))) (hg _ Z1 (a.put o.dst v) w1 ⟨Qbk ((hr.tmp.evoG hevo).put (hv.ren (p:=fun _=>true) (fun k _=>hout k) (QaF _)) o.dst) hc ob2,hm3,?_,hr.gh.evoG hevo,hr.base.nextG hevo⟩)
            · rw [← hfin]; exact step_leave_returned hleave
            · have:(a.put o.dst v).defers=a.defers:=by cases o.dst <;> rfl
              rw [this]; exact hr.marks.evoG hevo
          · cases hl
   · exact op_step ho hk h hob hg
 · exact op_step ho hk h hob hg
end
end Ax
namespace Ax
open Go
def killB (b:Blk):Blk:=⟨false,b.gen+1,b.sz,true,[],false⟩
def layCell (st:St) (j c:Nat):Option (St × List Prop) :=
 match st.blks[j]? with
 | some bj=>(match bj.live && bj.sz != 0,bj.cells[c]? with
  | true,some (.sl k g off len _)=>(match st.blks[k]? with
   | some bk=>(match bk.live && bk.flat && bk.sz != 0,k == j with
    | true,false=>some (⟨st.tmps,(st.blks.set k (killB bk)).set j { bj with cells:=bj.cells.set c (.rsl bk.cells off len),flat:=noRefs (bj.cells.set c (.rsl bk.cells off len)) }⟩,[g=bk.gen])
    | _,_=>none)
   | none=>none)
  | true,some .nilSl=>some (⟨st.tmps,st.blks.set j { bj with cells:=bj.cells.set c (.rsl [] 0 0),flat:=noRefs (bj.cells.set c (.rsl [] 0 0)) }⟩,[])
  | _,_=>none)
 | none=>none
section
variable {P:Program} {E:Env} {K:List Item} {st st':St} {Z0 M Z:Nat→Prop} {w0 w:World} {C:Ctx} {blks:List Blk}
theorem Ctx.put_id {k:Nat}:C.put k (C.β k) (C.γ k)=C:=by
 cases C with
 | mk β γ =>
  simp only [Ctx.put,Ctx.mk.injEq]
  constructor <;> (funext j; by_cases e:j=k <;> simp [e])
/-- One cell turned to another view of the value that lies there. -/
theorem Mem.recell (hm:Mem Z0 M w0 C Z blks w) {j c:Nat} {bj:Blk} {v v':AV} (hb:blks[j]?=some bj) (hl:bj.live=true) (hz:bj.sz ≠ 0) (hc:bj.cells[c]?=some v) (hk:QY v'=true)
 (h:∀ blk o arr te,C.β j=.loc blk o→w.heap[blk]?=some (.cells arr te (0,0))→∃ y,arr[o+c]?=some y∧VR Z w C v' y):Mem Z0 M w0 C Z (blks.set j { bj with cells:=bj.cells.set c v',flat:=noRefs (bj.cells.set c v') }) w:=by
 obtain ⟨q1,q2⟩:=hm.blk j bj hb hl
 have hg:=hm.gen j bj hb
 have:=hm.change (b':={ bj with cells:=bj.cells.set c v',flat:=noRefs (bj.cells.set c v') }) (w':=w) (s:=C.β j) (g:=C.γ j) hb rfl rfl rfl (Nat.le_refl _) (fun _ _ _=>rfl)
  (fun blk o arr e _ h=>⟨arr,h,rfl⟩) (Nat.le_refl _) (fun _ _=>rfl) hl hg.symm (fun blk o h=>.inl ⟨o,h⟩) (fun hle hevo _=>by
    refine ⟨fun i x hi=>?_,?_⟩
    · rw [List.getElem?_set] at hi
      split at hi
      · split at hi
        · cases hi; exact hk
        · cases hi
      · exact q1 i x hi
    · rw [Ctx.put_id]
      cases hs:C.β j with
      | absent=>simp [hs] at q2
      | unborn=>simp only [hs] at q2; rw [q2] at hc; simp at hc
      | loc blk o =>
       simp only [hs] at q2 ⊢
       obtain ⟨arr,te,r1,r2,r3⟩:=q2.cells hz
       refine .inl ⟨hz,arr,te,r1,by simpa using r2,fun i x hi=>?_⟩
       have key:∃ y,arr[o+i]?=some y∧VR Z w C x y:=by
        rw [List.getElem?_set] at hi
        split at hi
        · rename_i eij
          subst eij
          split at hi
          · cases hi
            exact h blk o arr te hs r1
          · cases hi
        · obtain ⟨y,s1,s2⟩:=r3 i x hi
          refine ⟨y,s1,?_⟩
          cases hf:bj.flat with
          | true=>rw [hf] at s2; exact VR.of0 (by simpa using s2)
          | false=>rw [hf] at s2; simpa using s2
       obtain ⟨y,s1,s2⟩:=key
       refine ⟨y,s1,?_⟩
       cases hf:noRefs (bj.cells.set c v') with
       | true=>simp only [if_true]; exact s2.ctx (QP hf hi)
       | false=>simpa using s2)
 rw [Ctx.put_id] at this
 exact this.1
/-- A block whose cells hold no reference. -/
theorem Mem.flatten (hm:Mem Z0 M w0 C Z blks w) {j:Nat} {bj:Blk} (hb:blks[j]?=some bj) (hl:bj.live=true) (hz:bj.sz ≠ 0) (hn:noRefs bj.cells=true):Mem Z0 M w0 C Z (blks.set j { bj with flat:=true }) w:=by
 obtain ⟨q1,q2⟩:=hm.blk j bj hb hl
 have hg:=hm.gen j bj hb
 have:=hm.change (b':={ bj with flat:=true }) (w':=w) (s:=C.β j) (g:=C.γ j) hb rfl rfl rfl (Nat.le_refl _) (fun _ _ _=>rfl)
  (fun blk o arr e _ h=>⟨arr,h,rfl⟩) (Nat.le_refl _) (fun _ _=>rfl) hl hg.symm (fun blk o h=>.inl ⟨o,h⟩) (fun hle hevo _=>by
    refine ⟨q1,?_⟩
    rw [Ctx.put_id]
    cases hs:C.β j with
    | absent=>simp [hs] at q2
    | unborn=>simp only [hs] at q2 ⊢; exact q2
    | loc blk o =>
     simp only [hs] at q2 ⊢
     obtain ⟨arr,te,r1,r2,r3⟩:=q2.cells hz
     refine .inl ⟨hz,arr,te,r1,r2,fun i x hi=>?_⟩
     obtain ⟨y,s1,s2⟩:=r3 i x hi
     refine ⟨y,s1,?_⟩
     simp only [if_true]
     cases hf:bj.flat with
     | true=>rw [hf] at s2; simpa using s2
     | false=>rw [hf] at s2; exact VR.ctx (by simpa using s2) (QP hn hi))
 rw [Ctx.put_id] at this
 exact this.1
def flatA (st:St) (j:Nat):Option (St × Prop):=match st.blks[j]? with
 | some bj=>if bj.live && bj.sz != 0 then some (⟨st.tmps,st.blks.set j { bj with flat:=true }⟩,noRefs bj.cells=true) else none
 | none=>none
theorem flatA_step {j:Nat} {o:Prop} (h:flatA st j=some (st',o)) (ho:o) (hg:G P E K st'):G P E K st:=by
 intro C Z a w hr
 unfold flatA at h
 split at h
 · rename_i bj hbj
   split at h
   · rename_i hc
     simp only [Option.some.injEq,Prod.mk.injEq] at h
     obtain ⟨rfl,rfl⟩:=h
     simp only [Bool.and_eq_true,bne_iff_ne,ne_eq] at hc
     exact hg C Z a w ⟨hr.tmp,hr.mem.flatten hbj hc.1 hc.2 ho,hr.marks,hr.gh,hr.base⟩
   · cases h
 · cases h
theorem layCell_step {j c:Nat} {o1:List Prop} (h:layCell st j c=some (st',o1)) (ho:AllP o1) (hg:G P E K st'):G P E K st:=by
 intro C Z a w hr
 unfold layCell at h
 split at h
 · rename_i bj hbj
   split at h
   · rename_i k g off len sz hl hc
     simp only [Bool.and_eq_true,bne_iff_ne,ne_eq] at hl
     split at h
     · rename_i bk hbk
       split at h
       · rename_i hk1 hk3
         simp only [Option.some.injEq,Prod.mk.injEq] at h
         obtain ⟨rfl,rfl⟩:=h
         simp only [Bool.and_eq_true,bne_iff_ne,ne_eq] at hk1
         have hkj:k ≠ j:=by simpa using hk3
         have hgk:g=bk.gen:=ho.1
         obtain ⟨m1,le1,ev1⟩:=hr.mem.kill hbk
         have hj1:(st.blks.set k (killB bk))[j]?=some bj:=by rw [List.getElem?_set_ne hkj]; exact hbj
         have hC:(C.put k .absent (bk.gen+1)).β j=C.β j:=by simp [Ctx.put,Ne.symm hkj]
         have m2:=Mem.recell (v':=.rsl bk.cells off len) m1 hj1 hl.1 hl.2 hc rfl (fun blk o arr te hs hh=>by
          rw [hC] at hs
          obtain ⟨q1,q2⟩:=hr.mem.blk j bj hbj hl.1
          simp only [hs] at q2
          obtain ⟨arr',te',r1,r2,r3⟩:=q2.cells hl.2
          rw [hh] at r1; simp only [Option.some.injEq,Obj.cells.injEq] at r1; obtain ⟨rfl,rfl,-⟩:=r1
          obtain ⟨y,s1,s2⟩:=r3 c _ hc
          refine ⟨y,s1,?_⟩
          have s3:VR Z w C (.sl k g off len sz) y:=by
           cases hf:bj.flat with
           | true=>rw [hf] at s2; exact VR.of0 (by simpa using s2)
           | false=>rw [hf] at s2; simpa using s2
          exact VR.lay hr.mem hbk hk1.1.1 hk1.2 hk1.1.2 hgk s3)
         exact hg _ _ a w ⟨hr.tmp.next le1 ev1,m2,hr.marks.evo ev1,hr.gh.next le1 ev1,hr.base.next le1 ev1⟩
       · cases h
     · cases h
   · rename_i hl hc
     simp only [Option.some.injEq,Prod.mk.injEq] at h
     obtain ⟨rfl,rfl⟩:=h
     simp only [Bool.and_eq_true,bne_iff_ne,ne_eq] at hl
     have m2:=Mem.recell (v':=.rsl [] 0 0) hr.mem hbj hl.1 hl.2 hc rfl (fun blk o arr te hs hh=>by
      obtain ⟨q1,q2⟩:=hr.mem.blk j bj hbj hl.1
      simp only [hs] at q2
      obtain ⟨arr',te',r1,r2,r3⟩:=q2.cells hl.2
      rw [hh] at r1; simp only [Option.some.injEq,Obj.cells.injEq] at r1; obtain ⟨rfl,rfl,-⟩:=r1
      obtain ⟨y,s1,s2⟩:=r3 c _ hc
      refine ⟨y,s1,?_⟩
      have:y=.slice none 0 0:=by cases s2; rfl
      rw [this]; exact .rsl0)
     exact hg C Z a w ⟨hr.tmp,m2,hr.marks,hr.gh,hr.base⟩
   · cases h
 · cases h
/-- A value without its nil slices: they are seen as empty ones. -/
def dnl1:AV→AV
 | .nilSl=>.rsl [] 0 0
 | v=>v
theorem dnl1_ok {Z:Nat→Prop} {w:World} {C:Ctx} {v:AV} {c:Value} (h:VR Z w C v c):VR Z w C (dnl1 v) c:=by
 cases h <;> first | exact .rsl0 | (simp only [dnl1]; constructor <;> assumption)
/-- Told 'wt t': a value loses its nil slices; a pointer's block is laid down as it lies. -/
def wtA (st:St) (t:Nat):Option (St × List Prop):=match st.tmps[t]? with
 | some (.agg cs)=>some (⟨st.tmps.set t (.agg (cs.map dnl1)),st.blks⟩,[])
 | some (.ptr k g off)=>(match st.blks[k]? with
  | some bk=>(match bk.live && bk.flat && bk.sz != 0,g == bk.gen with
   | true,true=>some (⟨st.tmps.set t (.rptr bk.cells off),st.blks.set k (killB bk)⟩,[])
   | _,_=>none)
  | none=>none)
 | some (.sl k g off len _)=>(match st.blks[k]? with
  | some bk=>(match bk.live && bk.flat && bk.sz != 0 with
   | true=>some (⟨st.tmps.set t (.rsl bk.cells off len),st.blks.set k (killB bk)⟩,[g=bk.gen])
   | _=>none)
  | none=>none)
 | _=>none
theorem wtA_step {t:Nat} {o1:List Prop} (h:wtA st t=some (st',o1)) (ho:AllP o1) (hg:G P E K st'):G P E K st:=by
 intro C Z a w hr
 unfold wtA at h
 split at h
 · rename_i cs hc
   simp only [Option.some.injEq,Prod.mk.injEq] at h
   obtain ⟨rfl,rfl⟩:=h
   refine hg C Z a w ⟨⟨by rw [List.length_set]; exact hr.tmp.1,fun i c v hi hv=>?_⟩,hr.mem,hr.marks,hr.gh,hr.base⟩
   rw [List.getElem?_set] at hi
   split at hi
   · rename_i e
     subst e
     split at hi
     · cases hi
       have:=hr.tmp.2 t _ v hc hv
       cases this with
       | @agg _ _ arr hl hh =>
        refine .agg (by simpa using hl) fun i c v p q=>?_
        rw [List.getElem?_map] at p
        cases hci:cs[i]? with
        | none=>rw [hci] at p; simp at p
        | some y =>
         rw [hci] at p
         simp only [Option.map_some,Option.some.injEq] at p
         subst p
         exact dnl1_ok (hh i y v hci q)
     · cases hi
   · exact hr.tmp.2 i c v hi hv
 · rename_i k g off hc
   split at h
   · rename_i bk hbk
     split at h
     · rename_i hk1 hk2
       simp only [Option.some.injEq,Prod.mk.injEq] at h
       obtain ⟨rfl,rfl⟩:=h
       simp only [Bool.and_eq_true,bne_iff_ne,ne_eq] at hk1
       have hgk:g=bk.gen:=by simpa using hk2
       obtain ⟨m1,le1,ev1⟩:=hr.mem.kill hbk
       have ht:=hr.tmp.next le1 ev1
       refine hg _ _ a w ⟨⟨by rw [List.length_set]; exact ht.1,fun i c v hi hv=>?_⟩,m1,hr.marks.evo ev1,hr.gh.next le1 ev1,hr.base.next le1 ev1⟩
       rw [List.getElem?_set] at hi
       split at hi
       · rename_i e
         subst e
         split at hi
         · cases hi
           exact VR.layP hr.mem hbk hk1.1.1 hk1.2 hk1.1.2 hgk (hr.tmp.2 t _ v hc hv)
         · cases hi
       · exact ht.2 i c v hi hv
     · cases h
   · cases h
 · rename_i k g off len sz hc
   split at h
   · rename_i bk hbk
     split at h
     · rename_i hk1
       simp only [Option.some.injEq,Prod.mk.injEq] at h
       obtain ⟨rfl,rfl⟩:=h
       simp only [Bool.and_eq_true,bne_iff_ne,ne_eq] at hk1
       have hgk:g=bk.gen:=ho.1
       obtain ⟨m1,le1,ev1⟩:=hr.mem.kill hbk
       have ht:=hr.tmp.next le1 ev1
       refine hg _ _ a w ⟨⟨by rw [List.length_set]; exact ht.1,fun i c v hi hv=>?_⟩,m1,hr.marks.evo ev1,hr.gh.next le1 ev1,hr.base.next le1 ev1⟩
       rw [List.getElem?_set] at hi
       split at hi
       · rename_i e
         subst e
         split at hi
         · cases hi
           exact VR.lay hr.mem hbk hk1.1.1 hk1.2 hk1.1.2 hgk (hr.tmp.2 t _ v hc hv)
         · cases hi
       · exact ht.2 i c v hi hv
     · cases h
   · cases h
 · cases h
end
end Ax
namespace Ax
open Go
section
variable {P:Program} {E:Env} {K K':List Item} {st st':St}
structure DrawT (P:Program) (ops:Array Oper) (st0:St) (rs:List Rec) (ms:List Nat):Prop where
 len:rs.length+1=ops.size
 mlen:ms.length=ops.size
 rec':∀ j r,rs[j]?=some r→∃ o idx' evs1 evs2 obs1,ops[j]?=some o∧recA P ops idx' j o ((rs.take j).foldl app1 st0) evs1=some (r,evs2,obs1)∧AllP obs1
 anc:∀ j o,ops[j]?=some o→∃ m,ms[j]?=some m∧(∀ e ∈ o.after,hard e=true→e.on<j)∧∀ p,m.testBit p=true→∃ e ∈ o.after,hard e=true∧(p=e.on ∨ (ms.getD e.on 0).testBit p=true)
 pairs:Vw 0 rs ms=true
 last:∀ p,p<rs.length→(ms.getD rs.length 0).testBit p=true
theorem DrawT.down {ops:Array Oper} {st0:St} {rs:List Rec} {ms:List Nat} (h:DrawT P ops st0 rs ms) {D:Nat→Bool} (hd:Down ops D) :
 ∀ (i:Nat) (o:Oper) (m:Nat),ops[i]?=some o→ms[i]?=some m→D i=true→∀ p,m.testBit p=true→D p=true:=by
 intro i
 induction i using Nat.strongRecOn with
 | ind i ih =>
  intro o m ho hm hD p hp
  obtain ⟨m',q1,q2,q3⟩:=h.anc i o ho
  rw [hm] at q1; cases q1
  obtain ⟨e,e1,e2,e3⟩:=q3 p hp
  have hDe:=hd i o ho hD e e1 e2
  rcases e3 with rfl | e3
  · exact hDe
  · have hlt:=q2 e e1 e2
    have hs:i<ops.size:=(Array.getElem?_eq_some_iff.1 ho).1
    have ho':ops[e.on]?=some ops[e.on]:=by simp
    have hm':ms[e.on]?=some (ms.getD e.on 0):=by
     have:e.on<ms.length:=by rw [h.mlen]; omega
     simp [List.getD,List.getElem?_eq_getElem this]
    exact ih e.on hlt _ _ ho' hm' hDe p e3
theorem draw_oneT {ops:Array Oper} {st0:St} {rs:List Rec} {ms:List Nat} (h:DrawT P ops st0 rs ms) {HK:Prop} (hk:HK) {D D':Nat→Bool} (hd:Down ops D) {i:Nat} {o:Oper} {rest:List Nat} {k:List Item}
 (ho:ops[i]?=some o) (hi:D i=false) (hpre:∀ e ∈ o.after,hard e=true→D e.on=true) (hD':∀ j,D' j=(D j || Nat.beq j i))
 (hlt:∀ j,D j=true→j<ops.size) (hir:i<rs.length)
 (hg:G P E (.inRegion ops rest :: k) (mix D' 0 rs st0)):G P E (.inRegion ops (i :: rest) :: k) (mix D 0 rs st0):=by
 have his:i<ops.size:=(Array.getElem?_eq_some_iff.1 ho).1
 obtain ⟨r,hr⟩:∃ r,rs[i]?=some r:=⟨rs[i],by simp [hir]⟩
 obtain ⟨o',idx',evs1,evs2,obs1,q1,q2,q3⟩:=h.rec' i r hr
 rw [ho] at q1; cases q1
 obtain ⟨m,m1,m2,m3⟩:=h.anc i o ho
 have anc:∀ p,m.testBit p=true→D p=true:=by
  intro p hp
  obtain ⟨e,e1,e2,e3⟩:=m3 p hp
  have hDe:=hpre e e1 e2
  rcases e3 with rfl | e3
  · exact hDe
  · have hl:=m2 e e1 e2
    have ho':ops[e.on]?=some ops[e.on]:=by simp
    have hm':ms[e.on]?=some (ms.getD e.on 0):=by
     have:e.on<ms.length:=by rw [h.mlen]; omega
     simp [List.getD,List.getElem?_eq_getElem this]
    exact h.down hd e.on _ _ ho' hm' hDe p e3
 -- who clashes with 'i'
 have clsh:∀ j r',rs[j]?=some r'→Yr r' r=true→(j<i→D j=true)∧(i<j→D j=false):=by
  intro j r' hj hc
  refine ⟨fun hji=>?_,fun hij=>?_⟩
  · exact anc j (by simpa using Yo h.pairs hji hj hr m1 hc)
  · cases hDj:D j with
    | false=>rfl
    | true =>
     have hjs:=hlt j hDj
     have hm':ms[j]?=some (ms.getD j 0):=by
      have:j<ms.length:=by rw [h.mlen]; omega
      simp [List.getD,List.getElem?_eq_getElem this]
     have:=Yo h.pairs hij hr hj hm' (by rw [YB]; exact hc)
     have h2:=h.down hd j ops[j] _ (by simp [hjs]) hm' hDj i (by simpa using this)
     rw [hi] at h2; cases h2
 have blt:∀ {a b:Nat},Nat.blt a b=decide (a<b):=fun {a b}=>by
  rw [Bool.eq_iff_iff,Nat.blt_eq]; simp
 have same:∀ j r',rs[j]?=some r'→(Yr r' r=true ∨ j=i)→D j=Nat.blt j i:=by
  intro j r' hj hc
  rcases Nat.lt_trichotomy j i with hlt' | rfl | hgt
  · rw [(clsh j r' hj (hc.resolve_right (by omega))).1 hlt',blt]; simp [hlt']
  · rw [hi,blt]; simp
  · rw [(clsh j r' hj (hc.resolve_right (by omega))).2 hgt,blt]; simp; omega
 have hrec:recA P ops idx' i o (mix D 0 rs st0) evs1=some (r,evs2,obs1):=by
  refine Wn q2 (fun t ht=>?_) (fun kk hk=>?_)
  · have:=VU (a:=0) (i:=i) (rs:=rs) (s:=st0)
    simp only [Nat.zero_add] at this
    rw [← this]
    refine yE (fun j r' hj hd=>?_) rfl
    simp only [Nat.zero_add]
    refine same j r' hj (.inl ?_)
    have hw:wrd r' r=true:=by
     simp only [wrd,hd,Bool.or_eq_true,List.any_eq_true]
     exact .inl ⟨t,ht,by simp⟩
    simp [Yr,hw]
  · have:=VU (a:=0) (i:=i) (rs:=rs) (s:=st0)
    simp only [Nat.zero_add] at this
    rw [← this]
    refine qg (fun j r' b hj hd=>?_) rfl
    simp only [Nat.zero_add]
    refine same j r' hj (.inl ?_)
    have hw:wrd r' r=true:=by
     simp only [wrd,hd,Bool.or_eq_true,List.any_eq_true]
     exact .inr ⟨kk,hk,by simp⟩
    simp [Yr,hw]
 refine yA ho hk hrec q3 ?_
 rw [← YA hi hD' (Nat.zero_le i) (by simpa using hr) fun j r' hj hlt' hDj=>?_]
 · exact hg
 · simp only [Nat.zero_add] at hlt' hDj
   cases hw:wr2 r r' with
   | false=>rfl
   | true =>
    have:=(clsh j r' hj (by rw [YB]; simp [Yr,hw])).2 hlt'
    rw [this] at hDj; cases hDj
theorem go_all {ops:Array Oper}:∀ {fuel t:Nat} {listed:Array Bool},(∀ i,i<ops.size→listed.getD i true=true)→Region.linearise.go .any ops fuel t listed []=[]
 | 0,t,listed,h=>rfl
 | fuel+1,t,listed,h=>by
  simp only [Region.linearise.go]
  change (match (Region.ready .any ops listed)[t % (Region.ready .any ops listed).length]? with
   | some i=>Region.linearise.go .any ops fuel (t / (Region.ready .any ops listed).length) (listed.setIfInBounds i true) [i]
   | none=>[].reverse)=[]
  have hnil:Region.ready .any ops listed=[]:=by
   cases hr:Region.ready .any ops listed with
   | nil=>rfl
   | cons x xs =>
    have hm:x ∈ Region.ready .any ops listed:=by rw [hr]; simp
    obtain ⟨h0,o,ho,-⟩:=mem_ready.1 hm
    rw [h x (Array.getElem?_eq_some_iff.1 ho).1] at h0; cases h0
  rw [hnil]; rfl
theorem draw_goT {ops:Array Oper} {st0:St} {rs:List Rec} {ms:List Nat} (h:DrawT P ops st0 rs ms) {HK:Prop} (hk:HK) {k:List Item} (hg:G P E (.inRegion ops [ops.size - 1] :: k) (rs.foldl app1 st0)) :
 ∀ (fuel t:Nat) (listed:Array Bool),listed.size=ops.size→(unl ops.size listed).length≤fuel→Down ops (fun i=>listed.getD i false)→listed.getD rs.length false=false →
  G P E (.inRegion ops (Region.linearise.go .any ops fuel t listed []) :: k) (mix (fun i=>listed.getD i false) 0 rs st0):=by
 have hsz:=h.len
 have gd:∀ (listed:Array Bool) (i:Nat),listed.size=ops.size→i<ops.size→listed.getD i true=listed.getD i false:=by
  intro listed i hs hi
  have:i<listed.size:=by omega
  simp [Array.getD,this]
 intro fuel
 induction fuel with
 | zero =>
  intro t listed hs hf hd hL
  have h0:unl ops.size listed=[]:=List.length_eq_zero_iff.1 (by omega)
  have:rs.length ∈ unl ops.size listed:=by
   unfold unl; rw [List.mem_filter,List.mem_range]
   exact ⟨by omega,by rw [gd listed _ hs (by omega),hL]; rfl⟩
  rw [h0] at this; cases this
 | succ fuel ih =>
  intro t listed hs hf hd hL
  simp only [Region.linearise.go]
  change G P E (.inRegion ops (match (Region.ready .any ops listed)[t % (Region.ready .any ops listed).length]? with
   | some i=>Region.linearise.go .any ops fuel (t / (Region.ready .any ops listed).length) (listed.setIfInBounds i true) [i]
   | none=>[].reverse) :: k) _
  cases hi:(Region.ready .any ops listed)[t % (Region.ready .any ops listed).length]? with
  | none =>
   have hnil:Region.ready .any ops listed=[]:=by
    cases hr:Region.ready .any ops listed with
    | nil=>rfl
    | cons x xs =>
     rw [hr] at hi
     have hlt:t % (x :: xs).length<(x :: xs).length:=Nat.mod_lt _ (by simp)
     simp at hi
     simp at hlt
     omega
   have hall:∀ i,i<ops.size→listed.getD i false=true:=by
    intro i
    induction i using Nat.strongRecOn with
    | ind i ihi =>
     intro hi'
     cases hc:listed.getD i false with
     | true=>rfl
     | false =>
      have hop:ops[i]?=some ops[i]:=by simp [hi']
      have:i ∈ Region.ready .any ops listed:=by
       rw [mem_ready]
       refine ⟨by rw [gd listed i hs hi',hc],ops[i],hop,fun e he hb=>?_⟩
       rw [XO] at hb
       obtain ⟨m,m1,m2,m3⟩:=h.anc i _ hop
       have:=m2 e he hb
       exact ihi e.on this (by omega)
      rw [hnil] at this; cases this
   rw [hall _ (by omega)] at hL; cases hL
  | some i =>
   simp only
   rw [linearise_go_acc,List.reverse_singleton,List.singleton_append]
   have hmem:=List.mem_of_getElem? hi
   obtain ⟨h0,o,ho,hpre⟩:=mem_ready.1 hmem
   have his:i<ops.size:=(Array.getElem?_eq_some_iff.1 ho).1
   have h0':listed.getD i false=false:=by rw [← gd listed i hs his]; exact h0
   have hset:∀ j,(listed.setIfInBounds i true).getD j false=(listed.getD j false || Nat.beq j i):=by
    intro j
    by_cases e:j=i
    · subst e
      have:j<listed.size:=by omega
      simp [Array.getD,this]
    · have:Nat.beq j i=false:=by rw [← Bool.not_eq_true,Nat.beq_eq]; exact e
      rw [getD_set_ne false (Ne.symm e),this,Bool.or_false]
   by_cases hiL:i=rs.length
   · -- the last one
     obtain ⟨m,m1,m2,m3⟩:=h.anc i o ho
     have hall:∀ p,p<rs.length→listed.getD p false=true:=fun p hp=>by
      have hb:=h.last p hp
      have hmg:ms.getD rs.length 0=m:=by rw [← hiL,List.getD,m1]; rfl
      rw [hmg] at hb
      obtain ⟨e,e1,e2,e3⟩:=m3 p hb
      have hDe:=hpre e e1 (by rw [XO]; exact e2)
      rcases e3 with rfl | e3
      · exact hDe
      · have hl:=m2 e e1 e2
        have ho':ops[e.on]?=some ops[e.on]:=by simp
        have hm':ms[e.on]?=some (ms.getD e.on 0):=by
         have:e.on<ms.length:=by rw [h.mlen]; omega
         simp [List.getD,List.getElem?_eq_getElem this]
        exact h.down hd e.on _ _ ho' hm' hDe p e3
     rw [Qcg fun j hj=>by rw [Nat.zero_add]; exact hall j hj,go_all fun j hj=>by
      rw [gd _ j (by simpa using hs) hj,hset]
      by_cases e:j=i
      · subst e; simp
      · rw [hall j (by omega)]; rfl]
     rw [show i=ops.size - 1 by omega]
     exact hg
   · refine draw_oneT h hk hd ho h0' (fun e he hh=>hpre e he (by rw [XO]; exact hh)) hset (fun j hj=>?_) (by omega) ?_
     · rcases Nat.lt_or_ge j ops.size with h1 | h1
       · exact h1
       · have h1':listed.size≤j:=by omega
         simp [Array.getD,Nat.not_lt.2 h1'] at hj
     · refine ih _ _ (by simpa using hs) ?_ ?_ ?_
       · have hsub:(unl ops.size (listed.setIfInBounds i true))=(unl ops.size listed).filter fun j=>!Nat.beq j i:=by
          unfold unl
          rw [List.filter_filter]
          refine List.filter_congr fun j hj=>?_
          have hj':=List.mem_range.1 hj
          rw [gd _ j (by simpa using hs) hj',hset j,gd listed j hs hj']
          cases listed.getD j false <;> cases Nat.beq j i <;> rfl
         have hlt:((unl ops.size listed).filter fun j=>!Nat.beq j i).length<(unl ops.size listed).length:=by
          rw [List.length_filter_lt_length_iff_exists]
          refine ⟨i,?_,by simp⟩
          unfold unl; rw [List.mem_filter,List.mem_range]
          exact ⟨his,by rw [h0]; rfl⟩
         rw [hsub]; omega
       · intro j oj hoj hDj e he hh
         simp only [hset] at hDj ⊢
         rw [Bool.or_eq_true] at hDj ⊢
         rcases hDj with hDj | hDj
         · exact .inl (hd j oj hoj hDj e he hh)
         · rw [Nat.beq_eq] at hDj; subst hDj
           rw [ho] at hoj; cases hoj
           exact .inl (hpre e he (by rw [XO]; exact hh))
       · rw [hset,hL,show Nat.beq rs.length i=false by rw [← Bool.not_eq_true,Nat.beq_eq]; exact fun e=>hiL e.symm]; rfl
def lastOk (n m:Nat):Bool:=(List.range n).all fun p=>m.testBit p
def drawT (P:Program) (ops:Array Oper) (st:St) (evs:List EV):Option (St × List EV × List Prop) :=
 match recsA P ops st.blks.length (List.range' 0 (ops.size - 1)) ⟨st.tmps,st.blks++List.replicate (ops.toList.countP VV) dead⟩ evs with
 | none=>none
 | some (rs,st',evs',obs) =>
  match ancsA 0 ops.toList [] with
  | none=>none
  | some ms=>bif Vw 0 rs ms && (Nat.blt 0 ops.size && lastOk rs.length (ms.getD rs.length 0)) then some (⟨st'.tmps,trim st'.blks⟩,evs',obs) else none
/-- A region whose order is drawn,up to its last operation: that comes behind all others. -/
theorem drawT_step {ops:Array Oper} {id:Nat} {k:List Item} {evs evs':List EV} {obs:List Prop} {HK:Prop} (hk:HK) (hmx:P.follows .mixedOrders=true)
 (h:drawT P ops st evs=some (st',evs',obs)) (ho:AllP obs) (hg:G P E (.inRegion ops [ops.size - 1] :: k) st'):G P E (.code (.region id ops true) :: k) st:=by
 unfold drawT at h
 split at h
 · cases h
 · rename_i rs st1 evs1 obs1 h1
   split at h
   · cases h
   · rename_i ms hms
     cases hp:Vw 0 rs ms && (Nat.blt 0 ops.size && lastOk rs.length (ms.getD rs.length 0)) with
     | false=>rw [hp,cond_false] at h; cases h
     | true =>
      rw [hp,cond_true] at h
      simp only [Option.some.injEq,Prod.mk.injEq] at h
      obtain ⟨rfl,-,rfl⟩:=h
      simp only [Bool.and_eq_true] at hp
      obtain ⟨hp,hp1,hp2⟩:=hp
      have hsz:0<ops.size:=by rw [Nat.blt_eq] at hp1; exact hp1
      obtain ⟨l,e,f⟩:=Wm h1 ho
      obtain ⟨a1,a2,a3⟩:=Wv (i:=0) (acc:=[]) rfl hms
      have hD:DrawT P ops ⟨st.tmps,st.blks++List.replicate (ops.toList.countP VV) dead⟩ rs ms :=
       ⟨by omega,by simpa using a2,fun j r hj=>by simpa using f j r hj,fun j o hj=>by simpa using a3 j o (by simpa using hj),hp,fun p hp=>by
        unfold lastOk at hp2
        exact List.all_eq_true.1 hp2 p (List.mem_range.2 hp)⟩
      have hg2:G P E (.inRegion ops [ops.size - 1] :: k) (rs.foldl app1 ⟨st.tmps,st.blks++List.replicate (ops.toList.countP VV) dead⟩):=by
       rw [← e]
       obtain ⟨m,hm⟩:=WS st1.blks
       have:st1=⟨st1.tmps,trim st1.blks++List.replicate m dead⟩:=by cases st1; simp only at hm ⊢; rw [← hm]
       rw [this]; exact G_pop hg
      intro C Z a w hr
      have hstep:=stepR_region_draw (P:=P) (b:=E.b) (a:=a) (k:=k) (cs:=E.cs) (w:=w) (ops:=ops) (id:=id)
      refine .step (.one hstep) ?_
      have hrep:∀ j,(Array.replicate ops.size false).getD j false=false:=by
       intro j
       by_cases hj:j<ops.size <;> simp [Array.getD,hj]
      have hgo:=draw_goT hD hk hg2 ops.size (w.tape w.drawn (.order E.b.fn id)) (Array.replicate ops.size false) (by simp) (by
       unfold unl; exact Nat.le_trans (List.length_filter_le _ _) (by simp)) (by intro i o hio hDi; have:=(hrep i).symm.trans hDi; cases this) (hrep _)
      simp only [Region.schedule,hmx,Bool.true_or,if_true]
      rw [yF (fun j=>hrep j)] at hgo
      have ev:EvoC w { w with drawn:=w.drawn+1 }:=⟨fun _ _ _ h=>h,rfl⟩
      have hfr:=hr.mem.frame
      exact hgo C Z a { w with drawn:=w.drawn+1 } ⟨⟨hr.tmp.1,fun i c v p q=>(hr.tmp.2 i c v p q).evoC ev⟩,
       (hr.mem.evoC ev ⟨hfr.os,hfr.tape,hfr.output,hfr.size,hfr.same⟩).pushN _,hr.marks,⟨hr.gh.1,fun i c v p q=>(hr.gh.2 i c v p q).evoC ev⟩,hr.base.evoC ev⟩
end
end Ax
namespace Ax
open Go
section
variable {P:Program} {E:Env} {K K':List Item} {st st':St}
def laterS (si sj i:Nat) (r:Rec):Nat→List Rec→List Nat→Bool
 | j,r' :: rs,m :: ms=>((Nat.beq i si && Nat.beq j sj) || (!Yr r r' || m.testBit i)) && laterS si sj i r (j+1) rs ms
 | _,_,_=>true
def QaI (si sj:Nat):Nat→List Rec→List Nat→Bool
 | i,r :: rs,_ :: ms=>laterS si sj i r (i+1) rs ms && QaI si sj (i+1) rs ms
 | _,_,_=>true
theorem Ky {si sj i:Nat} {r:Rec}:∀ {a:Nat} {rs:List Rec} {ms:List Nat},laterS si sj i r a rs ms=true→∀ {j:Nat} {r':Rec} {m:Nat},rs[j]?=some r'→ms[j]?=some m→Yr r r'=true→¬ (i=si∧a+j=sj)→m.testBit i=true
 | a,[],ms,h,j,r',m,h1,h2,h3,h4=>by simp at h1
 | a,x :: rs,[],h,j,r',m,h1,h2,h3,h4=>by simp at h2
 | a,x :: rs,b :: ms,h,j,r',m,h1,h2,h3,h4=>by
  simp only [laterS,Bool.and_eq_true,Bool.or_eq_true,Bool.not_eq_true',Nat.beq_eq] at h
  cases j with
  | zero =>
   simp at h1 h2; subst h1; subst h2
   rcases h.1 with q | q | q
   · exact absurd q (by simpa using h4)
   · rw [h3] at q; cases q
   · exact q
  | succ j=>exact Ky h.2 (by simpa using h1) (by simpa using h2) h3 (by rw [show a+1+j=a+(j+1) by omega]; exact h4)
theorem WE {si sj:Nat}:∀ {a:Nat} {rs:List Rec} {ms:List Nat},QaI si sj a rs ms=true→∀ {i j:Nat} {r r':Rec} {m:Nat},i<j→rs[i]?=some r→rs[j]?=some r'→ms[j]?=some m→Yr r r'=true →
 ¬ (a+i=si∧a+j=sj)→m.testBit (a+i)=true
 | a,[],ms,h,i,j,r,r',m,hij,h1,h2,h3,h4,h5=>by simp at h1
 | a,x :: rs,[],h,i,j,r,r',m,hij,h1,h2,h3,h4,h5=>by simp at h3
 | a,x :: rs,y :: ms,h,i,j,r,r',m,hij,h1,h2,h3,h4,h5=>by
  simp only [QaI,Bool.and_eq_true] at h
  obtain ⟨j,rfl⟩:∃ k,j=k+1:=⟨j - 1,by omega⟩
  cases i with
  | zero=>simp at h1; subst h1; exact Ky h.1 (by simpa using h2) (by simpa using h3) h4 (by rw [show a+1+j=a+(j+1) by omega]; exact h5)
  | succ i =>
   have:=WE h.2 (i:=i) (j:=j) (by omega) (by simpa using h1) (by simpa using h2) (by simpa using h3) h4 (by rw [show a+1+i=a+(i+1) by omega,show a+1+j=a+(j+1) by omega]; exact h5)
   rw [show a+(i+1)=a+1+i by omega]; exact this
/-- The look 'ri',and what it gives behind the turn 'rj' ('r2'). -/
def softOk (ri rj r2:Rec):Bool :=
 (match ri.blk,r2.blk with | none,none=>true | _,_=>false) && !wrd ri rj && !wr2 ri rj && (match rj.dst with | some d=>!ri.rt.any (Nat.beq d) | none=>true) &&
   (match ri.dst,r2.dst with | some a,some b=>Nat.beq a b | none,none=>true | _,_=>false) && r2.rb.all fun k=>ri.rb.any (Nat.beq k)
structure DrawS (P:Program) (ops:Array Oper) (st0:St) (rs:List Rec) (ms:List Nat) (si sj:Nat) (ri rj r2:Rec):Prop where
 len:rs.length=ops.size
 mlen:ms.length=ops.size
 rec':∀ j r,rs[j]?=some r→∃ o idx' evs1 evs2 obs1,ops[j]?=some o∧recA P ops idx' j o ((rs.take j).foldl app1 st0) evs1=some (r,evs2,obs1)∧AllP obs1
 anc:∀ j o,ops[j]?=some o→∃ m,ms[j]?=some m∧(∀ e ∈ o.after,hard e=true→e.on<j)∧∀ p,m.testBit p=true→∃ e ∈ o.after,hard e=true∧(p=e.on ∨ (ms.getD e.on 0).testBit p=true)
 pairs:QaI si sj 0 rs ms=true
 lt:si<sj
 hi:rs[si]?=some ri
 hj:rs[sj]?=some rj
 soft:softOk ri rj r2=true
 tv:r2.tv=ri.tv
 alt:∃ o idx' evs1 evs2 obs1,ops[si]?=some o∧recA P ops idx' si o ⟨((rs.take si).foldl app1 st0).tmps,(app1 ((rs.take si).foldl app1 st0) rj).blks⟩ evs1=some (r2,evs2,obs1)∧AllP obs1
theorem softOk_spec {ri rj r2:Rec} (h:softOk ri rj r2=true):ri.blk=none∧r2.blk=none∧wrd ri rj=false∧wr2 ri rj=false∧(∀ d,rj.dst=some d→d ∉ ri.rt)∧r2.dst=ri.dst∧∀ k ∈ r2.rb,k ∈ ri.rb:=by
 simp only [softOk,Bool.and_eq_true,Bool.not_eq_true'] at h
 obtain ⟨⟨⟨⟨⟨h1,h2⟩,h3⟩,h4⟩,h5⟩,h6⟩:=h
 have hb:ri.blk=none∧r2.blk=none:=by
  cases e1:ri.blk <;> cases e2:r2.blk <;> rw [e1,e2] at h1 <;> first | exact ⟨rfl,rfl⟩ | cases h1
 refine ⟨hb.1,hb.2,h2,h3,fun d hd hm=>?_,?_,fun k hk=>?_⟩
 · rw [hd] at h4
   simp only [Bool.not_eq_true',List.any_eq_false,Nat.beq_eq] at h4
   exact h4 d hm rfl
 · cases e1:ri.dst <;> cases e2:r2.dst <;> rw [e1,e2] at h5
   all_goals first | rfl | (cases h5; done) | (simp only [Nat.beq_eq] at h5; rw [h5])
 · have:=List.all_eq_true.1 h6 k hk
   obtain ⟨x,hx,e⟩:=List.any_eq_true.1 this
   rw [Nat.beq_eq] at e; rw [e]; exact hx
theorem recA_rt {ops:Array Oper} {i idx:Nat} {o:Oper} {st:St} {r:Rec} {evs evs':List EV} {obs:List Prop} (h:recA P ops idx i o st evs=some (r,evs',obs)):r.rt=o.looksAt ops:=by
 unfold recA at h
 repeat' (split at h)
 all_goals first | (cases h; done) | (simp only [Option.some.injEq,Prod.mk.injEq] at h; obtain ⟨rfl,-,-⟩:=h; rfl)
theorem DrawS.down {ops:Array Oper} {st0:St} {rs:List Rec} {ms:List Nat} {si sj:Nat} {ri rj r2:Rec} (h:DrawS P ops st0 rs ms si sj ri rj r2) {D:Nat→Bool} (hd:Down ops D) :
 ∀ (i:Nat) (o:Oper) (m:Nat),ops[i]?=some o→ms[i]?=some m→D i=true→∀ p,m.testBit p=true→D p=true:=by
 intro i
 induction i using Nat.strongRecOn with
 | ind i ih =>
  intro o m ho hm hD p hp
  obtain ⟨m',q1,q2,q3⟩:=h.anc i o ho
  rw [hm] at q1; cases q1
  obtain ⟨e,e1,e2,e3⟩:=q3 p hp
  have hDe:=hd i o ho hD e e1 e2
  rcases e3 with rfl | e3
  · exact hDe
  · have hlt:=q2 e e1 e2
    have hs:i<ops.size:=(Array.getElem?_eq_some_iff.1 ho).1
    have ho':ops[e.on]?=some ops[e.on]:=by simp
    have hm':ms[e.on]?=some (ms.getD e.on 0):=by
     have:e.on<ms.length:=by rw [h.mlen]; omega
     simp [List.getD,List.getElem?_eq_getElem this]
    exact ih e.on hlt _ _ ho' hm' hDe p e3
theorem draw_oneS {ops:Array Oper} {st0:St} {rs:List Rec} {ms:List Nat} {si sj:Nat} {ri rj r2:Rec} (h:DrawS P ops st0 rs ms si sj ri rj r2) {HK:Prop} (hk:HK) {D D':Nat→Bool} (hd:Down ops D) {i:Nat} {o:Oper} {rest:List Nat} {k:List Item}
 (ho:ops[i]?=some o) (hi:D i=false) (hpre:∀ e ∈ o.after,hard e=true→D e.on=true) (hD':∀ j,D' j=(D j || Nat.beq j i))
 (hlt:∀ j,D j=true→j<ops.size)
 (hg:G P E (.inRegion ops rest :: k) (mix D' 0 rs st0)):G P E (.inRegion ops (i :: rest) :: k) (mix D 0 rs st0):=by
 have his:i<ops.size:=(Array.getElem?_eq_some_iff.1 ho).1
 have hir:i<rs.length:=by rw [h.len]; exact his
 obtain ⟨r,hr⟩:∃ r,rs[i]?=some r:=⟨rs[i],by simp [hir]⟩
 obtain ⟨o',idx',evs1,evs2,obs1,q1,q2,q3⟩:=h.rec' i r hr
 rw [ho] at q1; cases q1
 obtain ⟨m,m1,m2,m3⟩:=h.anc i o ho
 obtain ⟨s1,s2,s3,s4,s5,s6,s7⟩:=softOk_spec h.soft
 have hsij:=h.lt
 have anc:∀ p,m.testBit p=true→D p=true:=by
  intro p hp
  obtain ⟨e,e1,e2,e3⟩:=m3 p hp
  have hDe:=hpre e e1 e2
  rcases e3 with rfl | e3
  · exact hDe
  · have hl:=m2 e e1 e2
    have ho':ops[e.on]?=some ops[e.on]:=by simp
    have hm':ms[e.on]?=some (ms.getD e.on 0):=by
     have:e.on<ms.length:=by rw [h.mlen]; omega
     simp [List.getD,List.getElem?_eq_getElem this]
    exact h.down hd e.on _ _ ho' hm' hDe p e3
 -- who clashes with 'i'
 have clsh:∀ j r',rs[j]?=some r'→Yr r' r=true→¬ (j=si∧i=sj)→¬ (i=si∧j=sj)→(j<i→D j=true)∧(i<j→D j=false):=by
  intro j r' hj hc n1 n2
  refine ⟨fun hji=>?_,fun hij=>?_⟩
  · exact anc j (by simpa using WE h.pairs hji hj hr m1 hc (by simpa using n1))
  · cases hDj:D j with
    | false=>rfl
    | true =>
     have hjs:=hlt j hDj
     have hm':ms[j]?=some (ms.getD j 0):=by
      have:j<ms.length:=by rw [h.mlen]; omega
      simp [List.getD,List.getElem?_eq_getElem this]
     have:=WE h.pairs hij hr hj hm' (by rw [YB]; exact hc) (by simpa using n2)
     have h2:=h.down hd j ops[j] _ (by simp [hjs]) hm' hDj i (by simpa using this)
     rw [hi] at h2; cases h2
 have blt:∀ {a b:Nat},Nat.blt a b=decide (a<b):=fun {a b}=>by
  rw [Bool.eq_iff_iff,Nat.blt_eq]; simp
 have same:∀ j r',rs[j]?=some r'→(Yr r' r=true ∨ j=i)→¬ (j=si∧i=sj)→¬ (i=si∧j=sj)→D j=Nat.blt j i:=by
  intro j r' hj hc n1 n2
  rcases Nat.lt_trichotomy j i with hlt' | rfl | hgt
  · rw [(clsh j r' hj (hc.resolve_right (by omega)) n1 n2).1 hlt',blt]; simp [hlt']
  · rw [hi,blt]; simp
  · rw [(clsh j r' hj (hc.resolve_right (by omega)) n1 n2).2 hgt,blt]; simp; omega
 have tmpsame:∀ t ∈ r.rt,(mix D 0 rs st0).tmps[t]?=((rs.take i).foldl app1 st0).tmps[t]?:=by
  intro t ht
  have:=VU (a:=0) (i:=i) (rs:=rs) (s:=st0)
  simp only [Nat.zero_add] at this
  rw [← this]
  refine yE (fun j r' hj hd=>?_) rfl
  simp only [Nat.zero_add]
  have hw:wrd r' r=true:=by
   simp only [wrd,hd,Bool.or_eq_true,List.any_eq_true]
   exact .inl ⟨t,ht,by simp⟩
  refine same j r' hj (.inl (by simp [Yr,hw])) (fun e=>?_) (fun e=>?_)
  · obtain ⟨e1,e2⟩:=e
    subst e1; subst e2
    rw [h.hi] at hj; cases hj
    rw [h.hj] at hr; cases hr
    rw [s3] at hw; cases hw
  · obtain ⟨e1,e2⟩:=e
    subst e1; subst e2
    rw [h.hj] at hj; cases hj
    rw [h.hi] at hr; cases hr
    exact s5 t hd ht
 have hins:∀ j r',rs[j]?=some r'→i<0+j→D (0+j)=true→wr2 r r'=false:=by
  intro j r' hj hlt' hDj
  simp only [Nat.zero_add] at hlt' hDj
  cases hw:wr2 r r' with
  | false=>rfl
  | true =>
   by_cases e:i=si∧j=sj
   · obtain ⟨e1,e2⟩:=e
     subst e1; subst e2
     rw [h.hj] at hj; cases hj
     rw [h.hi] at hr; cases hr
     rw [s4] at hw; cases hw
   · have:=(clsh j r' hj (by rw [YB]; simp [Yr,hw]) (fun e'=>by omega) e).2 hlt'
     rw [this] at hDj; cases hDj
 by_cases hcase:i=si∧D sj=true
 · obtain ⟨e1,hDj⟩:=hcase
   subst e1
   rw [h.hi] at hr; cases hr
   obtain ⟨o2,idx2,ev1,ev2,obs2,p1,p2,p3⟩:=h.alt
   rw [ho] at p1; cases p1
   have hrt:r2.rt=ri.rt:=by rw [recA_rt p2,recA_rt q2]
   have hrec:recA P ops idx2 i o (mix D 0 rs st0) ev1=some (r2,ev2,obs2):=by
    refine Wn p2 (fun t ht=>tmpsame t (by rw [← hrt]; exact ht)) (fun kk hk=>?_)
    have hk:=s7 kk hk
    show (mix D 0 rs st0).blks[kk]?=(app1 ((rs.take i).foldl app1 st0) rj).blks[kk]?
    have hpre':=VU (a:=0) (i:=i) (rs:=rs) (s:=st0)
    simp only [Nat.zero_add] at hpre'
    have hx:=YA (D:=fun j=>Nat.blt j i) (D':=fun j=>Nat.blt j i || Nat.beq j sj) (i:=sj) (r:=rj) (rs:=rs) (s:=st0) (a:=0) (by rw [blt]; simp; omega) (fun j=>rfl) (Nat.zero_le _) (by simpa using h.hj) (fun j r' hj h1 h2=>by
     simp only [Nat.zero_add,blt,decide_eq_true_eq] at h1 h2; omega)
    rw [← hpre',← hx]
    refine qg (fun j r' b hj hd=>?_) rfl
    simp only [Nat.zero_add]
    by_cases e:j=sj
    · subst e; rw [hDj]; simp
    · have hw:wrd r' ri=true:=by
       simp only [wrd,hd,Bool.or_eq_true,List.any_eq_true]
       exact .inr ⟨kk,hk,by simp⟩
      have hj2:=same j r' hj (.inl (by simp [Yr,hw])) (fun e'=>by omega) (fun e'=>e e'.2)
      have:Nat.beq j sj=false:=by rw [← Bool.not_eq_true,Nat.beq_eq]; exact e
      rw [hj2,this,Bool.or_false]
   refine yA ho hk hrec p3 ?_
   have happ:app1 (mix D 0 rs st0) r2=app1 (mix D 0 rs st0) ri:=by
    unfold app1; rw [s1,s2,s6,h.tv]
   rw [happ,← YA hi hD' (Nat.zero_le i) (by simpa using h.hi) hins]
   exact hg
 · have hrec:recA P ops idx' i o (mix D 0 rs st0) evs1=some (r,evs2,obs1):=by
    refine Wn q2 tmpsame (fun kk hk=>?_)
    have:=VU (a:=0) (i:=i) (rs:=rs) (s:=st0)
    simp only [Nat.zero_add] at this
    rw [← this]
    refine qg (fun j r' b hj hd=>?_) rfl
    simp only [Nat.zero_add]
    have hw:wrd r' r=true:=by
     simp only [wrd,hd,Bool.or_eq_true,List.any_eq_true]
     exact .inr ⟨kk,hk,by simp⟩
    by_cases e1:j=si∧i=sj
    · obtain ⟨e1,e2⟩:=e1
      subst e1
      rw [h.hi] at hj; cases hj
      rw [s1] at hd; cases hd
    · by_cases e2:i=si∧j=sj
      · have:D j=false:=by
         cases hq:D j with
         | false=>rfl
         | true=>exact absurd ⟨e2.1,by rw [← e2.2]; exact hq⟩ hcase
        rw [this,blt]; simp; omega
      · exact same j r' hj (.inl (by simp [Yr,hw])) e1 e2
   refine yA ho hk hrec q3 ?_
   rw [← YA hi hD' (Nat.zero_le i) (by simpa using hr) hins]
   exact hg
theorem draw_goS {ops:Array Oper} {st0:St} {rs:List Rec} {ms:List Nat} {si sj:Nat} {ri rj r2:Rec} (h:DrawS P ops st0 rs ms si sj ri rj r2) {HK:Prop} (hk:HK) {k:List Item} (hg:G P E k (rs.foldl app1 st0)) :
 ∀ (fuel t:Nat) (listed:Array Bool),listed.size=ops.size→(unl ops.size listed).length≤fuel→Down ops (fun i=>listed.getD i false) →
  G P E (.inRegion ops (Region.linearise.go .any ops fuel t listed []) :: k) (mix (fun i=>listed.getD i false) 0 rs st0):=by
 have fin:∀ listed:Array Bool,listed.size=ops.size→(∀ i,i<ops.size→listed.getD i false=true)→G P E (.inRegion ops [] :: k) (mix (fun i=>listed.getD i false) 0 rs st0):=by
  intro listed hs hall
  rw [Qcg fun j hj=>by rw [Nat.zero_add]; exact hall j (by rw [← h.len]; exact hj)]
  exact .of_step (fun a w=>stepR_region_end) hg
 have gd:∀ (listed:Array Bool) (i:Nat),listed.size=ops.size→i<ops.size→listed.getD i true=listed.getD i false:=by
  intro listed i hs hi
  have:i<listed.size:=by omega
  simp [Array.getD,this]
 intro fuel
 induction fuel with
 | zero =>
  intro t listed hs hf hd
  simp only [Region.linearise.go,List.reverse_nil]
  refine fin listed hs fun i hi=>?_
  have h0:unl ops.size listed=[]:=List.length_eq_zero_iff.1 (by omega)
  cases hc:listed.getD i false with
  | true=>rfl
  | false =>
   have:i ∈ unl ops.size listed:=by
    unfold unl; rw [List.mem_filter,List.mem_range]
    exact ⟨hi,by rw [gd listed i hs hi,hc]; rfl⟩
   rw [h0] at this; cases this
 | succ fuel ih =>
  intro t listed hs hf hd
  simp only [Region.linearise.go]
  change G P E (.inRegion ops (match (Region.ready .any ops listed)[t % (Region.ready .any ops listed).length]? with
   | some i=>Region.linearise.go .any ops fuel (t / (Region.ready .any ops listed).length) (listed.setIfInBounds i true) [i]
   | none=>[].reverse) :: k) _
  cases hi:(Region.ready .any ops listed)[t % (Region.ready .any ops listed).length]? with
  | none =>
   have hnil:Region.ready .any ops listed=[]:=by
    cases hr:Region.ready .any ops listed with
    | nil=>rfl
    | cons x xs =>
     rw [hr] at hi
     have hlt:t % (x :: xs).length<(x :: xs).length:=Nat.mod_lt _ (by simp)
     simp at hi
     simp at hlt
     omega
   simp only [List.reverse_nil]
   refine fin listed hs fun i=>?_
   induction i using Nat.strongRecOn with
   | ind i ihi =>
    intro hi'
    cases hc:listed.getD i false with
    | true=>rfl
    | false =>
     have hop:ops[i]?=some ops[i]:=by simp [hi']
     have:i ∈ Region.ready .any ops listed:=by
      rw [mem_ready]
      refine ⟨by rw [gd listed i hs hi',hc],ops[i],hop,fun e he hb=>?_⟩
      rw [XO] at hb
      obtain ⟨m,m1,m2,m3⟩:=h.anc i _ hop
      have:=m2 e he hb
      exact ihi e.on this (by omega)
     rw [hnil] at this; cases this
  | some i =>
   simp only
   rw [linearise_go_acc,List.reverse_singleton,List.singleton_append]
   have hmem:=List.mem_of_getElem? hi
   obtain ⟨h0,o,ho,hpre⟩:=mem_ready.1 hmem
   have his:i<ops.size:=(Array.getElem?_eq_some_iff.1 ho).1
   have h0':listed.getD i false=false:=by rw [← gd listed i hs his]; exact h0
   have hset:∀ j,(listed.setIfInBounds i true).getD j false=(listed.getD j false || Nat.beq j i):=by
    intro j
    by_cases e:j=i
    · subst e
      have:j<listed.size:=by omega
      simp [Array.getD,this]
    · have:Nat.beq j i=false:=by rw [← Bool.not_eq_true,Nat.beq_eq]; exact e
      rw [getD_set_ne false (Ne.symm e),this,Bool.or_false]
   refine draw_oneS h hk hd ho h0' (fun e he hh=>hpre e he (by rw [XO]; exact hh)) hset (fun j hj=>?_) ?_
   · rcases Nat.lt_or_ge j ops.size with h1 | h1
     · exact h1
     · have h1':listed.size≤j:=by omega
       simp [Array.getD,Nat.not_lt.2 h1'] at hj
   · refine ih _ _ (by simpa using hs) ?_ ?_
     · have hsub:(unl ops.size (listed.setIfInBounds i true))=(unl ops.size listed).filter fun j=>!Nat.beq j i:=by
        unfold unl
        rw [List.filter_filter]
        refine List.filter_congr fun j hj=>?_
        have hj':=List.mem_range.1 hj
        rw [gd _ j (by simpa using hs) hj',hset j,gd listed j hs hj']
        cases listed.getD j false <;> cases Nat.beq j i <;> rfl
       have hlt:((unl ops.size listed).filter fun j=>!Nat.beq j i).length<(unl ops.size listed).length:=by
        rw [List.length_filter_lt_length_iff_exists]
        refine ⟨i,?_,by simp⟩
        unfold unl; rw [List.mem_filter,List.mem_range]
        exact ⟨his,by rw [h0]; rfl⟩
       rw [hsub]; omega
     · intro j oj hoj hDj e he hh
       simp only [hset] at hDj ⊢
       rw [Bool.or_eq_true] at hDj ⊢
       rcases hDj with hDj | hDj
       · exact .inl (hd j oj hoj hDj e he hh)
       · rw [Nat.beq_eq] at hDj; subst hDj
         rw [ho] at hoj; cases hoj
         exact .inl (hpre e he (by rw [XO]; exact hh))
def drawS (P:Program) (ops:Array Oper) (si sj:Nat) (e:EV) (st:St) (evs:List EV):Option (St × List EV × List Prop) :=
 match recsA P ops st.blks.length (List.range' 0 ops.size) ⟨st.tmps,st.blks++List.replicate (ops.toList.countP VV) dead⟩ evs with
 | none=>none
 | some (rs,st',evs',obs) =>
  match ancsA 0 ops.toList [] with
  | none=>none
  | some ms =>
   match rs[si]?,rs[sj]?,ops[si]? with
   | some ri,some rj,some o =>
    match recA P ops 0 si o ⟨((rs.take si).foldl app1 ⟨st.tmps,st.blks++List.replicate (ops.toList.countP VV) dead⟩).tmps,(app1 ((rs.take si).foldl app1 ⟨st.tmps,st.blks++List.replicate (ops.toList.countP VV) dead⟩) rj).blks⟩ [e] with
    | some (r2,_,obs2)=>bif QaI si sj 0 rs ms && (Nat.blt si sj && softOk ri rj r2) then some (⟨st'.tmps,trim st'.blks⟩,evs',obs++(r2.tv=ri.tv) :: obs2) else none
    | none=>none
   | _,_,_=>none
/-- A region whose order is drawn,with a look that may stand before or behind a turn of what it looks at. -/
theorem drawS_step {ops:Array Oper} {id:Nat} {k:List Item} {si sj:Nat} {e:EV} {evs evs':List EV} {obs:List Prop} {HK:Prop} (hk:HK) (hmx:P.follows .mixedOrders=true)
 (h:drawS P ops si sj e st evs=some (st',evs',obs)) (ho:AllP obs) (hg:G P E k st'):G P E (.code (.region id ops true) :: k) st:=by
 unfold drawS at h
 split at h
 · cases h
 · rename_i rs st1 evs1 obs1 h1
   split at h
   · cases h
   · rename_i ms hms
     split at h
     · rename_i ri rj o hri hrj hoi
       split at h
       · rename_i r2 ev2 obs2 hr2
         cases hp:QaI si sj 0 rs ms && (Nat.blt si sj && softOk ri rj r2) with
         | false=>rw [hp,cond_false] at h; cases h
         | true =>
          rw [hp,cond_true] at h
          simp only [Option.some.injEq,Prod.mk.injEq] at h
          obtain ⟨rfl,-,rfl⟩:=h
          simp only [Bool.and_eq_true] at hp
          obtain ⟨hp,hp1,hp2⟩:=hp
          obtain ⟨ob1,obt,ob2⟩:AllP obs1∧r2.tv=ri.tv∧AllP obs2:=by
           obtain ⟨a,b⟩:=Qm.1 ho
           exact ⟨a,b.1,b.2⟩
          obtain ⟨l,e',f⟩:=Wm h1 ob1
          obtain ⟨a1,a2,a3⟩:=Wv (i:=0) (acc:=[]) rfl hms
          have hD:DrawS P ops ⟨st.tmps,st.blks++List.replicate (ops.toList.countP VV) dead⟩ rs ms si sj ri rj r2 :=
           ⟨l,by simpa using a2,fun j r hj=>by simpa using f j r hj,fun j o hj=>by simpa using a3 j o (by simpa using hj),hp,by rw [Nat.blt_eq] at hp1; exact hp1,hri,hrj,hp2,obt,
            ⟨o,0,[e],ev2,obs2,hoi,hr2,ob2⟩⟩
          have hg2:G P E k (rs.foldl app1 ⟨st.tmps,st.blks++List.replicate (ops.toList.countP VV) dead⟩):=by
           rw [← e']
           obtain ⟨m,hm⟩:=WS st1.blks
           have:st1=⟨st1.tmps,trim st1.blks++List.replicate m dead⟩:=by cases st1; simp only at hm ⊢; rw [← hm]
           rw [this]; exact G_pop hg
          intro C Z a w hr
          have hstep:=stepR_region_draw (P:=P) (b:=E.b) (a:=a) (k:=k) (cs:=E.cs) (w:=w) (ops:=ops) (id:=id)
          refine .step (.one hstep) ?_
          have hrep:∀ j,(Array.replicate ops.size false).getD j false=false:=by
           intro j
           by_cases hj:j<ops.size <;> simp [Array.getD,hj]
          have hgo:=draw_goS hD hk hg2 ops.size (w.tape w.drawn (.order E.b.fn id)) (Array.replicate ops.size false) (by simp) (by
           unfold unl; exact Nat.le_trans (List.length_filter_le _ _) (by simp)) (by intro i o hio hDi; have:=(hrep i).symm.trans hDi; cases this)
          simp only [Region.schedule,hmx,Bool.true_or,if_true]
          rw [yF (fun j=>hrep j)] at hgo
          have ev:EvoC w { w with drawn:=w.drawn+1 }:=⟨fun _ _ _ h=>h,rfl⟩
          have hfr:=hr.mem.frame
          exact hgo C Z a { w with drawn:=w.drawn+1 } ⟨⟨hr.tmp.1,fun i c v p q=>(hr.tmp.2 i c v p q).evoC ev⟩,
           (hr.mem.evoC ev ⟨hfr.os,hfr.tape,hfr.output,hfr.size,hfr.same⟩).pushN _,hr.marks,⟨hr.gh.1,fun i c v p q=>(hr.gh.2 i c v p q).evoC ev⟩,hr.base.evoC ev⟩
       · cases h
     · cases h
end
end Ax
namespace Ax
open Go
section
variable {P:Program} {E:Env} {K K':List Item} {st st':St}
def tick:List EV→List EV
 | .hold (j+1) :: evs=>.hold j :: evs
 | evs=>evs
def tock:List EV→List EV
 | .tail (j+1) :: evs=>.tail j :: evs
 | .soft (n+1) i j :: evs=>.soft n i j :: evs
 | evs=>evs
/-- What comes next,in text order,up to where 'stop' is told: a loop's body,a range over a function,a return,a jump out of a round,or the end. -/
def walk (P:Program):Nat→List Item→St→List EV→Option (List Item × St × List EV × List Prop)
 | 0,K,st,evs=>some (K,st,evs,[])
 | n+1,K,st,evs =>
  match K with
  | .code .skip :: k=>walk P n k st evs
  | .inBlock _ :: k=>walk P n k st evs
  | .code (.seq x y) :: k=>walk P n (.code x :: .code y :: k) st evs
  | .code (.block id body) :: k=>walk P n (.code body :: .inBlock id :: k) st evs
  | .code (.cond c x y) :: k =>
   (match Wd st.tmps c,evs with
   | .bool t,.b u :: evs=>(match walk P n (.code (bif u then x else y) :: k) st evs with
    | some (K',st',evs',obs)=>some (K',st',evs',(t=u) :: obs)
    | none=>none)
   | _,_=>none)
  | .code (.region _ ops false) :: k=>walk P n (.inRegion ops (List.range' 0 ops.size) :: k) st evs
  | .code (.region _ ops true) :: k =>
   (match evs with
   | .tail 0 :: evs=>(match drawT P ops st evs with
    | some (st1,evs1,o1)=>(match walk P n (.inRegion ops [ops.size - 1] :: k) st1 evs1 with
     | some (K',st',evs',obs)=>some (K',st',evs',o1++obs)
     | none=>none)
    | none=>none)
   | .soft 0 si sj :: e :: evs=>(match drawS P ops si sj e st evs with
    | some (st1,evs1,o1)=>(match walk P n k st1 evs1 with
     | some (K',st',evs',obs)=>some (K',st',evs',o1++obs)
     | none=>none)
    | none=>none)
   | evs=>(match drawA P ops st (tock evs) with
    | some (st1,evs1,o1)=>(match walk P n k st1 evs1 with
     | some (K',st',evs',obs)=>some (K',st',evs',o1++obs)
     | none=>none)
    | none=>none))
  | .inRegion ops [] :: k=>walk P n k st evs
  | .inRegion ops (i :: is) :: k =>
   (match evs with
   | .hold 0 :: evs=>some (.inRegion ops (i :: is) :: k,st,evs,[])
   | .frz j c :: evs=>(match layCell st j c with
    | some (st1,o1)=>(match walk P n (.inRegion ops (i :: is) :: k) st1 evs with
     | some (K',st',evs',obs)=>some (K',st',evs',o1++obs)
     | none=>none)
    | none=>none)
   | .flat j :: evs=>(match flatA st j with
    | some (st1,o1)=>(match walk P n (.inRegion ops (i :: is) :: k) st1 evs with
     | some (K',st',evs',obs)=>some (K',st',evs',o1 :: obs)
     | none=>none)
    | none=>none)
   | .wt t :: evs1=>(match wtA st t with
    | some (st1,o1)=>(match walk P n (.inRegion ops (i :: is) :: k) st1 evs1 with
     | some (K',st',evs',obs)=>some (K',st',evs',o1++obs)
     | none=>none)
    | none=>(match ops[i]? with
     | none=>none
     | some o=>(match opL P ops i o st (.wt t :: evs1) with
      | none=>none
      | some (st1,evs1,o1)=>(match walk P n (.inRegion ops is :: k) st1 evs1 with
       | some (K',st',evs',obs)=>some (K',st',evs',o1++obs)
       | none=>none))))
   | evs=>(match ops[i]? with
    | none=>none
    | some o=>(match opL P ops i o st (tick evs) with
     | none=>none
     | some (st1,evs1,o1)=>(match walk P n (.inRegion ops is :: k) st1 evs1 with
      | some (K',st',evs',obs)=>some (K',st',evs',o1++obs)
      | none=>none))))
  | .code (.exit id) :: k=>(match exitTo id k with
   | some k'=>walk P n k' st evs
   | none=>some (.code (.exit id) :: k,st,evs,[]))
  | .code (.loop body) :: k=>(match evs with
   | .stop :: evs=>some (.code body :: .inLoop body :: k,st,evs,[])
   | evs=>walk P n (.code body :: .inLoop body :: k) st evs)
  | .inLoop body :: k=>(match evs with
   | .stop :: evs=>some (.code body :: .inLoop body :: k,st,evs,[])
   | evs=>walk P n (.code body :: .inLoop body :: k) st evs)
  | K=>some (K,st,evs,[])
theorem QL {HK:Prop} (hk:HK) (hmx:P.follows .mixedOrders=true):∀ {n:Nat} {K K':List Item} {st st':St} {evs evs':List EV} {obs:List Prop},
 walk P n K st evs=some (K',st',evs',obs)→AllP obs→G P E K' st'→G P E K st
 | 0,K,K',st,st',evs,evs',obs,h,ho,hg=>by
  simp only [walk,Option.some.injEq,Prod.mk.injEq] at h
  obtain ⟨rfl,rfl,-,-⟩:=h
  exact hg
 | n+1,K,K',st,st',evs,evs',obs,h,ho,hg=>by
  unfold walk at h
  split at h
  · exact .of_step (fun a w=>stepR_skip) (QL hk hmx h ho hg)
  · exact .of_step (fun a w=>stepR_inBlock) (QL hk hmx h ho hg)
  · exact .of_step (fun a w=>stepR_seq) (QL hk hmx h ho hg)
  · exact .of_step (fun a w=>stepR_block) (QL hk hmx h ho hg)
  · rename_i c x y k
    split at h
    · rename_i t u evs1 hc
      split at h
      · rename_i K1 st1 evs2 obs1 h1
        simp only [Option.some.injEq,Prod.mk.injEq] at h
        obtain ⟨rfl,rfl,rfl,rfl⟩:=h
        obtain ⟨rfl,ho⟩:=ho
        have h2:=QL hk hmx h1 ho hg
        intro C Z a w hr
        have hv:=Yh hr.tmp c
        rw [hc] at hv
        generalize hcv:a.eval c=cv at hv
        cases hv
        refine .step (.one (stepR_cond hcv)) ?_
        have:=h2 C Z a w hr
        cases t <;> exact this
      · cases h
    · cases h
  · rename_i id ops k
    have:=QL hk hmx h ho hg
    rw [← List.range_eq_range'] at this
    exact .of_step (fun a w=>stepR_region) this
  · rename_i id ops k
    split at h
    · split at h
      · rename_i st1 evs1 o1 h1
        split at h
        · rename_i K2 st2 evs2 obs2 h2
          simp only [Option.some.injEq,Prod.mk.injEq] at h
          obtain ⟨rfl,rfl,rfl,rfl⟩:=h
          obtain ⟨a1,a2⟩:=Qm.1 ho
          exact drawT_step hk hmx h1 a1 (QL hk hmx h2 a2 hg)
        · cases h
      · cases h
    · split at h
      · rename_i st1 evs1 o1 h1
        split at h
        · rename_i K2 st2 evs2 obs2 h2
          simp only [Option.some.injEq,Prod.mk.injEq] at h
          obtain ⟨rfl,rfl,rfl,rfl⟩:=h
          obtain ⟨a1,a2⟩:=Qm.1 ho
          exact drawS_step hk hmx h1 a1 (QL hk hmx h2 a2 hg)
        · cases h
      · cases h
    · split at h
      · rename_i st1 evs1 o1 h1
        split at h
        · rename_i K2 st2 evs2 obs2 h2
          simp only [Option.some.injEq,Prod.mk.injEq] at h
          obtain ⟨rfl,rfl,rfl,rfl⟩:=h
          obtain ⟨a1,a2⟩:=Qm.1 ho
          exact draw_step hk hmx h1 a1 (QL hk hmx h2 a2 hg)
        · cases h
      · cases h
  · exact .of_step (fun a w=>stepR_region_end) (QL hk hmx h ho hg)
  · rename_i ops i is k
    split at h
    · simp only [Option.some.injEq,Prod.mk.injEq] at h
      obtain ⟨rfl,rfl,-,-⟩:=h
      exact hg
    · split at h
      · rename_i st1 o1 h1
        split at h
        · rename_i K2 st2 evs2 obs2 h2
          simp only [Option.some.injEq,Prod.mk.injEq] at h
          obtain ⟨rfl,rfl,rfl,rfl⟩:=h
          obtain ⟨a1,a2⟩:=Qm.1 ho
          exact layCell_step h1 a1 (QL hk hmx h2 a2 hg)
        · cases h
      · cases h
    · split at h
      · rename_i st1 o1 h1
        split at h
        · rename_i K2 st2 evs2 obs2 h2
          simp only [Option.some.injEq,Prod.mk.injEq] at h
          obtain ⟨rfl,rfl,rfl,rfl⟩:=h
          exact flatA_step h1 ho.1 (QL hk hmx h2 ho.2 hg)
        · cases h
      · cases h
    · split at h
      · rename_i st1 o1 h1
        split at h
        · rename_i K2 st2 evs2 obs2 h2
          simp only [Option.some.injEq,Prod.mk.injEq] at h
          obtain ⟨rfl,rfl,rfl,rfl⟩:=h
          obtain ⟨a1,a2⟩:=Qm.1 ho
          exact wtA_step h1 a1 (QL hk hmx h2 a2 hg)
        · cases h
      · split at h
        · cases h
        · rename_i o hoi
          split at h
          · cases h
          · rename_i st1 evs1 o1 h1
            split at h
            · rename_i K2 st2 evs2 obs2 h2
              simp only [Option.some.injEq,Prod.mk.injEq] at h
              obtain ⟨rfl,rfl,rfl,rfl⟩:=h
              obtain ⟨a1,a2⟩:=Qm.1 ho
              exact opL_step hoi hk h1 a1 (QL hk hmx h2 a2 hg)
            · cases h
    · split at h
      · cases h
      · rename_i o hoi
        split at h
        · cases h
        · rename_i st1 evs1 o1 h1
          split at h
          · rename_i K2 st2 evs2 obs2 h2
            simp only [Option.some.injEq,Prod.mk.injEq] at h
            obtain ⟨rfl,rfl,rfl,rfl⟩:=h
            obtain ⟨a1,a2⟩:=Qm.1 ho
            exact opL_step hoi hk h1 a1 (QL hk hmx h2 a2 hg)
          · cases h
  · rename_i id k
    split at h
    · rename_i k' hx
      exact .of_step (fun a w=>stepR_exit hx) (QL hk hmx h ho hg)
    · simp only [Option.some.injEq,Prod.mk.injEq] at h
      obtain ⟨rfl,rfl,-,-⟩:=h
      exact hg
  · split at h
    · simp only [Option.some.injEq,Prod.mk.injEq] at h
      obtain ⟨rfl,rfl,-,-⟩:=h
      exact .of_step (fun a w=>stepR_loop) hg
    · exact .of_step (fun a w=>stepR_loop) (QL hk hmx h ho hg)
  · split at h
    · simp only [Option.some.injEq,Prod.mk.injEq] at h
      obtain ⟨rfl,rfl,-,-⟩:=h
      exact .of_step (fun a w=>stepR_inLoop) hg
    · exact .of_step (fun a w=>stepR_inLoop) (QL hk hmx h ho hg)
  · simp only [Option.some.injEq,Prod.mk.injEq] at h
    obtain ⟨rfl,rfl,-,-⟩:=h
    exact hg
/-- A function that only reads, called by its value. -/
theorem Qk {f : FuncId} {fn : Func} {c : Code} {first args cap : List AV} {res : AV} (hf : P.funcs[f]? = some fn) (hname : (fn.name == "runtime.NumGoroutine") = false) (hb : fn.body = some c)
    (h : Pure P f (first ++ args ++ cap) res) : Qi P (.clos f first cap) args res := by
  intro Z w cf cargs hz hcf ha
  cases hcf with
  | @clos _ _ _ _ fa ca hl h1 hl' h2 =>
    refine ⟨{ target := .fn (.func f) ca, args := fa ++ cargs }, f, fa ++ cargs ++ ca, rfl, ?_, ?_⟩
    · have := Go.Proofs.enters_of (P := P) hf hname hb (fa ++ cargs ++ ca) w
      simpa [invoke] using this
    · refine h Z w _ hz ⟨by have := ha.1; simp at this; simp [hl, hl', this], fun i x y p q => ?_⟩
      have hal : args.length = cargs.size := by simpa using ha.1
      simp only [Array.toList_append] at q
      rw [List.append_assoc] at p q
      by_cases i1 : i < first.length
      · rw [List.getElem?_append_left i1] at p
        rw [List.getElem?_append_left (by simpa [← hl] using i1)] at q
        exact h1 i x y p (by simpa using q)
      · rw [List.getElem?_append_right (by omega)] at p
        rw [List.getElem?_append_right (by simp; omega)] at q
        have e1 : fa.toList.length = first.length := by simp [hl]
        rw [e1] at q
        by_cases i2 : i - first.length < args.length
        · rw [List.getElem?_append_left i2] at p
          rw [List.getElem?_append_left (by simpa [← hal] using i2)] at q
          exact ha.2 _ x y p q
        · rw [List.getElem?_append_right (by omega)] at p
          rw [List.getElem?_append_right (by simp; omega)] at q
          have e2 : cargs.toList.length = args.length := by simp [hal]
          rw [e2] at q
          exact h2 _ x y p (by simpa using q)

end
end Ax
namespace Ax
open Go
/-- The place in the code,by the tests' outcomes. -/
def kAt:Nat→List Item→List EV→List Item
 | 0,K,_=>K
 | n+1,K,evs =>
  match K with
  | .code .skip :: k=>kAt n k evs
  | .inBlock _ :: k=>kAt n k evs
  | .code (.seq x y) :: k=>kAt n (.code x :: .code y :: k) evs
  | .code (.block id body) :: k=>kAt n (.code body :: .inBlock id :: k) evs
  | .code (.cond _ x y) :: k=>(match evs with
   | .b u :: evs=>kAt n (.code (bif u then x else y) :: k) evs
   | _=>K)
  | .code (.region ..) :: k=>kAt n k evs
  | .inRegion .. :: k=>kAt n k evs
  | .code (.exit id) :: k=>(match exitTo id k with
   | some k'=>kAt n k' evs
   | none=>K)
  | .code (.loop body) :: k=>(match evs with
   | .stop :: _=>.code body :: .inLoop body :: k
   | evs=>kAt n (.code body :: .inLoop body :: k) evs)
  | .inLoop body :: k=>(match evs with
   | .stop :: _=>.code body :: .inLoop body :: k
   | evs=>kAt n (.code body :: .inLoop body :: k) evs)
  | K=>K
def Qd (P:Program) (f:FuncId):Code:=((P.funcs[f]?).bind (·.body)).getD .skip
section
variable {P:Program} {E:Env} {K K':List Item} {st st':St}
def isEnd:List Item→Bool
 | []=>true
 | .code .ret :: _=>true
 | _=>false
theorem Wp {K:List Item} (h:isEnd K=true):K=[] ∨ ∃ k,K=.code .ret :: k:=by
 unfold isEnd at h
 split at h
 · exact .inl rfl
 · exact .inr ⟨_,rfl⟩
 · cases h
/-- To the end: the result,laid down. -/
def endA (P:Program) (fn:Func) (n:Nat) (K:List Item) (st:St) (evs:List EV):Option (AV × List Prop) :=
 match walk P n K st evs with
 | some (K',st',evs',o1) =>
  (match isEnd K',resA P st' fn.results.toList evs' with
  | true,some (vs,_,o2) =>
   (match (frz 8 (tupA vs)).run (st'.blks[·]?) with
   | some (r,o3)=>some (r,o1++(o2++o3))
   | none=>none)
  | _,_=>none)
 | none=>none
theorem end_step {n:Nat} {f:FuncId} {fn:Func} {evs:List EV} {r res:AV} {obs:List Prop} (hE:Qh P f res E) (hf:P.funcs[f]?=some fn) (hmx:P.follows .mixedOrders=true)
 (h:endA P fn n K st evs=some (r,obs)) (ho:AllP obs) (hr:r=res):G P E K st:=by
 subst hr
 unfold endA at h
 split at h
 · rename_i K' st' evs' o1 h1
   split at h
   · rename_i vs evs2 o2 hK h2
     split at h
     · rename_i r' o3 h3
       simp only [Option.some.injEq,Prod.mk.injEq] at h
       obtain ⟨rfl,rfl⟩:=h
       obtain ⟨a1,a2⟩:=Qm.1 ho
       obtain ⟨a2,a3⟩:=Qm.1 a2
       exact QL hE.2.1 hmx h1 a1 (G_pure hE hf h2 a2 h3 a3 (Wp hK))
     · cases h
   · cases h
 · cases h
end
end Ax
namespace Ax
open Go
section
variable {P:Program} {Z0 M Z F M':Nat→Prop} {w0 w w':World} {C C':Ctx} {blks blks':List Blk}
theorem Mem.back {Z':Nat→Prop} (hm:Mem Z0 M w0 C Z blks w) (h:Mem Z M' w C' Z' blks' w') (hM:∀ b,M' b→M b ∨ w0.heap.size≤b):Mem Z0 M w0 C' Z' blks' w':=by
 have hs:=hm.frame.size
 refine ⟨h.blk,h.gen,h.dd,h.dom,h.inj,fun k b o ho=>?_,h.zlt,fun b hz=>h.z0 b (hm.z0 b hz),fun b hz=>?_,?_⟩
 · obtain ⟨a,b',c⟩:=h.own k b o ho
   refine ⟨a,b',?_⟩
   rcases c with c | c
   · exact hM b c
   · exact .inr (by omega)
 · rcases h.zsub b hz with h1 | h1 | h1
   · exact hm.zsub b h1
   · exact .inr (hM b h1)
   · exact .inr (.inr (by omega))
 · exact hm.frame.trans h.frame fun b hb hnM hm'=>by
    rcases hM b hm' with h1 | h1
    · exact hnM h1
    · omega
/-! ### Whoever ranges: 'F' is what a round may turn,'Kp' what it must find again -/
abbrev Sd:=(Nat→Prop)→(Nat→Prop)→World→Prop
structure Stable (Y:Sd):Prop where
 lt:∀ F Kp w,Y F Kp w→∀ b,F b ∨ Kp b→b<w.heap.size
 mv:∀ F Kp w Mi w',Y F Kp w→Fr w Mi w'→(∀ b,Mi b→¬ F b∧¬ Kp b)→Y F Kp w'
def YCall (P:Program) (yv:Value) (cargs:Array Value) (w:World) (Q:Bool→World→Prop):Prop :=
 ∃ l fn tm asg bd,yv=.func (.yield l) #[] #[]∧(Instr.yield l cargs).run P w=.ok (.round l fn tm asg bd) w ∧
  ∀ (c:Frame) (cs:List Frame),∃ t w',Q t w'∧Steps P (lone (Frame.round l fn tm asg bd .normal) (c :: cs) w) (lone (c.finish (.bool t)) cs w')
def nxt (cont:Nat→Bool) (n:Nat):Option Nat:=bif cont n then some (n+1) else none
def Yields (P:Program) (yv:Value) (Y:Option Nat→Sd) (cont:Nat→Bool) (xs:List (List AV)):Prop :=
 ∀ i x,xs[i]?=some x→∀ F Kp w,Y (some i) F Kp w→∀ cargs:Array Value,VRs (fun _=>False) w C0 x cargs.toList →
  YCall P yv cargs w fun t w'=>t=cont i∧∃ F' Kp',Y (nxt cont i) F' Kp' w'∧Fr w F w'∧(∀ b,F' b→F b ∨ w.heap.size≤b)∧(∀ b,Kp' b→F b ∨ Kp b ∨ w.heap.size≤b)
def At (Y:Sd) (E:Env):Prop:=∃ F Kp,Y F Kp E.w0∧(∀ b,E.M b→¬ F b∧¬ Kp b)∧(∀ b,E.Z0 b→¬ F b)
/-- The iterator's own frame,'o' the side's state. -/
structure IterE (P:Program) (f:FuncId) (xs:List (List AV)) (yv:Value) (Y:Option Nat→Sd) (cont:Nat→Bool) (e o:Option Nat) (E:Env):Prop where
 ro:E.b.roundOf=none
 kind:E.b.kind=.normal
 fn:E.b.fn=f
 gA:E.gA=[]
 cb:E.Cb=C0
 df:E.df=[]
 stab:∀ o,Stable (Y o)
 ylds:Yields P yv Y cont xs
 at':At (Y o) E
 fin:E.Fin=Wz P f E.cs fun _ w'=>∃ F Kp,Y e F Kp w'
variable {E:Env} {K K':List Item} {st st':St}
end
end Ax
namespace Ax
open Go
structure RoundE (gA:List AV) (E:Env):Prop where
 ro:∃ l,E.b.roundOf=some l
 kind:E.b.kind=.normal
 gA:E.gA=gA
 df:E.df=[]
section
variable {P:Program} {E:Env} {K K':List Item} {st st':St}
theorem VRs.app {Z:Nat→Prop} {w:World} {C:Ctx} {a b:List AV} {c d:List Value} (h:VRs Z w C a c) (h':VRs Z w C b d):VRs Z w C (a++b) (c++d):=by
 refine ⟨by simp [h.1,h'.1],fun i x y p q=>?_⟩
 by_cases hi:i<a.length
 · rw [List.getElem?_append_left hi] at p
   rw [List.getElem?_append_left (by rw [← h.1]; exact hi)] at q
   exact h.2 i x y p q
 · rw [List.getElem?_append_right (by omega)] at p
   rw [List.getElem?_append_right (by rw [← h.1]; omega),← h.1] at q
   exact h'.2 _ x y p q
theorem VRs.mono {Z Z':Nat→Prop} {w w':World} {C:Ctx} {a:List AV} {c:List Value} (h:VRs Z w C a c) (he:Evo C Z Z' w w'):VRs Z' w' C a c :=
 ⟨h.1,fun i x y p q=>(h.2 i x y p q).mono he⟩
theorem Fr.weaken {w0 w:World} {M M':Nat→Prop} (h:Fr w0 M w) (hM:∀ b,M b→M' b):Fr w0 M' w :=
 ⟨h.os,h.tape,h.output,h.size,fun b hb hn=>h.same b hb fun hm=>hn (hM b hm)⟩
end
end Ax
namespace Ax
open Go
section
variable {P:Program} {E:Env} {K K':List Item} {st st':St}
end
end Ax
namespace Ax
open Go
section
variable {P:Program} {E:Env} {K K':List Item} {st st':St}
def denil (st:St):List (Nat × Nat)→Option St
 | []=>some st
 | (t,sz) :: r=>match st.tmps[t]? with
  | some .nilSl=>denil ⟨st.tmps.set t (.sl st.blks.length 0 0 0 sz),st.blks++[⟨true,0,sz,true,[],true⟩]⟩ r
  | _=>none
theorem Qbj:∀ {ds:List (Nat × Nat)} {st st':St},denil st ds=some st'→G P E K st'→G P E K st
 | [],st,st',h,hg=>by simp only [denil,Option.some.injEq] at h; subst h; exact hg
 | (t,sz) :: r,st,st',h,hg=>by
  simp only [denil] at h
  split at h
  · rename_i ht
    have h1:=Qbj h hg
    intro C Z a w hr
    have hlt:t<a.tmps.size:=by
     have:=(List.getElem?_eq_some_iff.1 ht).1
     have h2:=hr.tmp.1
     simp at h2; omega
    have hv:=hr.tmp.2 t .nilSl a.tmps[t] ht (by simp [hlt])
    generalize hc:a.tmps[t]=c at hv
    cases hv
    obtain ⟨C',Z',hle,hevo,hm,hv'⟩:=VM (a:=none) (sz:=sz) (fl:=true) (idx:=st.blks.length) hr.mem.push (by simp)
    have e:(Eff.new ⟨true,0,sz,true,[],true⟩ (fun k=>AV.sl k 0 0 0 sz)).blks st.blks.length (st.blks++[dead])=st.blks++[⟨true,0,sz,true,[],true⟩]:=by simp [Eff.blks]
    rw [e] at hm
    have ht2:=hr.tmp.next hle hevo
    refine h1 C' Z' a w ⟨⟨by simpa using ht2.1,fun i x y p q=>?_⟩,hm,hr.marks.evo hevo,hr.gh.next hle hevo,hr.base.next hle hevo⟩
    rw [List.getElem?_set] at p
    split at p
    · rename_i e
      subst e
      split at p
      · cases p
        simp only [Array.getElem?_toList] at q
        rw [Array.getElem?_eq_getElem hlt,hc] at q
        cases q
        exact hv'
      · cases p
    · exact ht2.2 i x y p q
  · cases h
theorem Qh.nogh {f:FuncId} {res:AV} (hE:Qh P f res E) (m:Nat):refsBelows m E.gA=true:=by rw [hE.2.2.2.2.1]; rfl
theorem IterE.nogh {f:FuncId} {xs:List (List AV)} {yv:Value} {Y:Option Nat→Sd} {cont:Nat→Bool} {e o:Option Nat} (hE:IterE P f xs yv Y cont e o E) (m:Nat):refsBelows m E.gA=true:=by rw [hE.gA]; rfl
end
end Ax
namespace Ax
open Go
/-- The place at the region behind 'r' others,by the tests' outcomes. -/
def kReg:Nat→List Item→List EV→Nat→List Item
 | 0,K,_,_=>K
 | n+1,K,evs,r =>
  match K with
  | .code .skip :: k=>kReg n k evs r
  | .inBlock _ :: k=>kReg n k evs r
  | .code (.seq x y) :: k=>kReg n (.code x :: .code y :: k) evs r
  | .code (.block id body) :: k=>kReg n (.code body :: .inBlock id :: k) evs r
  | .code (.cond _ x y) :: k=>(match evs with
   | .b u :: evs=>kReg n (.code (bif u then x else y) :: k) evs r
   | _=>K)
  | .code (.region id ops d) :: k=>(match r with
   | 0=>.code (.region id ops d) :: k
   | r+1=>kReg n k evs r)
  | .inRegion .. :: k=>kReg n k evs r
  | .code (.exit id) :: k=>(match exitTo id k with
   | some k'=>kReg n k' evs r
   | none=>K)
  | .code (.loop body) :: k=>kReg n (.code body :: .inLoop body :: k) evs r
  | .inLoop body :: k=>kReg n (.code body :: .inLoop body :: k) evs r
  | K=>K
def toOp (i:Nat):List Item→List Item
 | .code (.region _ ops _) :: k=>.inRegion ops (List.range' i (ops.size - i)) :: k
 | K=>K
section
variable {P:Program} {E:Env} {K K':List Item} {st st':St}
end
end Ax
namespace Ax
open Go
section
variable {P:Program} {E:Env} {K K':List Item} {st st':St}
theorem Ctx.put_same (C:Ctx) (k:Nat):C.put k (C.β k) (C.γ k)=C:=by
 cases C with
 | mk β γ =>
  unfold Ctx.put
  congr 1 <;> funext j <;> by_cases e:j=k <;> simp [e]
theorem denilC_step {k j sz:Nat} {b:Blk} (hk:st.blks[k]?=some b) (hl:b.live=true) (hbz:b.sz ≠ 0) (hj:b.cells[j]?=some .nilSl)
 (hg:G P E K ⟨st.tmps,(st.blks++[(⟨true,0,sz,true,[],true⟩:Blk)]).set k { b with flat:=false,cells:=b.cells.set j (.sl st.blks.length 0 0 0 sz) }⟩):G P E K st:=by
 intro C Z a w hr
 obtain ⟨C',Z',hle,hevo,hm,hv'⟩:=VM (a:=none) (sz:=sz) (fl:=true) (idx:=st.blks.length) hr.mem.push (by simp)
 have e:(Eff.new ⟨true,0,sz,true,[],true⟩ (fun k=>AV.sl k 0 0 0 sz)).blks st.blks.length (st.blks++[dead])=st.blks++[⟨true,0,sz,true,[],true⟩]:=by simp [Eff.blks]
 rw [e] at hm
 have hkl:k<st.blks.length:=(List.getElem?_eq_some_iff.1 hk).1
 have hk':(st.blks++[(⟨true,0,sz,true,[],true⟩:Blk)])[k]?=some b:=by rw [List.getElem?_append_left hkl]; exact hk
 have hgen:=hm.gen k b hk'
 have hbk:=hm.blk k b hk' hl
 have hc:=hm.change (b':={ b with flat:=false,cells:=b.cells.set j (.sl st.blks.length 0 0 0 sz) }) (w':=w) (s:=C'.β k) (g:=C'.γ k) hk' rfl rfl rfl (Nat.le_refl _) (fun _ _ _=>rfl)
  (fun blk o arr e _ h=>⟨arr,h,rfl⟩) (Nat.le_refl _) (fun _ _=>rfl) hl hgen.symm (fun blk o h=>.inl ⟨o,h⟩) (fun hle' hevo' _=>by
    obtain ⟨q1,q2⟩:=hbk
    refine ⟨fun i c hi=>?_,?_⟩
    · rw [List.getElem?_set] at hi
      split at hi
      · split at hi
        · cases hi; rfl
        · cases hi
      · exact q1 i c hi
    · rw [Ctx.put_same]
      cases hs:C'.β k with
      | absent=>simp [hs] at q2
      | unborn=>simp only [hs] at q2; rw [q2] at hj; simp at hj
      | loc blk o =>
       simp only [hs] at q2 ⊢
       obtain ⟨arr,te,r1,r2,r3⟩:=q2.cells hbz
       refine .inl ⟨hbz,arr,te,r1,by simpa using r2,fun i c hi=>?_⟩
       simp only [Bool.false_eq_true,if_false]
       rw [List.getElem?_set] at hi
       split at hi
       · rename_i eij
         subst eij
         split at hi
         · cases hi
           obtain ⟨v,s1,s2⟩:=r3 j .nilSl hj
           refine ⟨v,s1,?_⟩
           have:v=.slice none 0 0:=by
            cases hf:b.flat with
            | true=>rw [hf] at s2; simp only [if_true] at s2; cases s2; rfl
            | false=>rw [hf] at s2; simp only [Bool.false_eq_true,if_false] at s2; cases s2; rfl
           rw [this]
           exact hv'.mono ⟨fun _ h=>h,fun _ _=>rfl,fun _ _ _ arr _ _ h=>⟨arr,h,rfl⟩⟩
         · cases hi
       · obtain ⟨v,s1,s2⟩:=r3 i c hi
         refine ⟨v,s1,?_⟩
         cases hf:b.flat with
         | true=>rw [hf] at s2; simp only [if_true] at s2; exact s2.of0
         | false=>rw [hf] at s2; simpa using s2)
 rw [Ctx.put_same] at hc
 exact hg C' Z' a w ⟨hr.tmp.next hle hevo,hc.1,hr.marks.evo hevo,hr.gh.next hle hevo,hr.base.next hle hevo⟩
end
end Ax
namespace Ax
open Go
theorem bnT {e:Bool} (h:(!e)=true):e=false:=by cases e <;> simp_all
theorem bnF {e:Bool} (h:(!e)=false):e=true:=by cases e <;> simp_all
theorem bneT {a b:Int} (h:(a != b)=true):¬ (a=b):=by simpa using h
theorem bneF {a b:Int} (h:(a != b)=false):a=b:=by simpa using h
def cI (n:Int):List AV:=[.int .i64 n]
def cB (b:Bool):List AV:=[.bool b]
def rowI (l:List Int):List AV:=l.flatMap cI
section
variable {α:Type} (f:α→List AV) {s:Nat}
theorem QC (hf:∀ a,(f a).length=s):∀ l:List α,(l.flatMap f).length=l.length*s
 | []=>by simp
 | a :: l=>by rw [List.flatMap_cons,List.length_append,QC hf l,hf,List.length_cons,Nat.add_mul]; omega
theorem Qbz (hf:∀ a,(f a).length=s):∀ {l:List α} {i:Nat} {a:α} {k:Nat},l[i]?=some a→k≤s →
 (l.flatMap f).drop (0+i*s+k)=(f a).drop k++(l.drop (i+1)).flatMap f
 | [],i,a,k,h,_=>by simp at h
 | b :: l,0,a,k,h,hk=>by
  simp only [List.getElem?_cons_zero,Option.some.injEq] at h
  subst h
  rw [List.flatMap_cons,List.drop_append_of_le_length (by rw [hf]; omega)]
  simp
 | b :: l,i+1,a,k,h,hk=>by
  simp only [List.getElem?_cons_succ] at h
  rw [List.flatMap_cons,show 0+(i+1)*s+k=(f b).length+(0+i*s+k) by rw [hf b,Nat.add_mul]; omega,List.drop_length_add_append]
  exact Qbz hf h hk
theorem row_part (hf:∀ a,(f a).length=s) {k m:Nat} (hk:k+m≤s) {l:List α} {i:Nat} {a:α} (h:l[i]?=some a) :
 ((l.flatMap f).drop (0+i*s+k)).take m=((f a).drop k).take m:=by
 rw [Qbz f hf h (by omega),List.take_append_of_le_length (by rw [List.length_drop,hf]; omega)]
theorem row_fits (hf:∀ a,(f a).length=s) {k m:Nat} (hk:k+m≤s) {l:List α} {i:Nat} {a:α} (h:l[i]?=some a):0+i*s+k+m≤(l.flatMap f).length:=by
 rw [QC f hf]
 have hi:=(List.getElem?_eq_some_iff.1 h).1
 have:(i+1)*s≤l.length*s:=Nat.mul_le_mul_right s hi
 rw [Nat.add_mul] at this; omega
theorem WB:∀ {xs A B:List AV} {o:Nat},o+xs.length≤A.length→Qu (A++B) o xs=Qu A o xs++B
 | [],A,B,o,_=>rfl
 | x :: xs,A,B,o,h=>by
  simp only [List.length_cons] at h
  simp only [Qu]
  rw [List.set_append_left (h:=by omega)]
  exact WB (by simp; omega)
theorem VO:∀ {xs A B:List AV} {o:Nat},Qu (A++B) (A.length+o) xs=A++Qu B o xs
 | [],A,B,o=>rfl
 | x :: xs,A,B,o=>by
  simp only [Qu]
  rw [List.set_append_right (h:=by omega),show A.length+o - A.length=o by omega,show A.length+o+1=A.length+(o+1) by omega]
  exact VO
theorem Qz (hf:∀ a,(f a).length=s) {k:Nat} {xs:List AV}:∀ {l:List α} {i:Nat} {a a':α},l[i]?=some a→Qu (f a) k xs=f a'→k+xs.length≤s →
 Qu (l.flatMap f) (0+i*s+k) xs=(l.set i a').flatMap f
 | [],i,a,a',h,_,_=>by simp at h
 | b :: l,0,a,a',h,he,hk=>by
  simp only [List.getElem?_cons_zero,Option.some.injEq] at h
  subst h
  rw [List.flatMap_cons,List.set_cons_zero,List.flatMap_cons,← he,show 0+0*s+k=k by omega,WB (by rw [hf]; omega)]
 | b :: l,i+1,a,a',h,he,hk=>by
  simp only [List.getElem?_cons_succ] at h
  rw [List.flatMap_cons,List.set_cons_succ,List.flatMap_cons,show 0+(i+1)*s+k=(f b).length+(0+i*s+k) by rw [hf b,Nat.add_mul]; omega,VO]
  rw [Qz hf h he hk]
theorem XD (a b:List α):(a++b).flatMap f=a.flatMap f++b.flatMap f:=by simp
end
theorem Qs {α:Type} {l:List α} {i:Nat} {a:α} (h:l[i]?=some a):(0:Int)≤(i:Int)∧(i:Int)<(l.length:Int):=by
 have:=(List.getElem?_eq_some_iff.1 h).1; omega
theorem Qj {α:Type} {l:List α} {i:Int} {a:α} (h0:0≤i) (h:l[Int.toNat i]?=some a):0≤i∧i<(l.length:Int):=by
 have:=(List.getElem?_eq_some_iff.1 h).1; omega
section
variable {P:Program} {E:Env} {K K':List Item} {st st':St}
def denilC (st:St):List (Nat × Nat × Nat)→Option St
 | []=>some st
 | (k,j,sz) :: r=>match st.blks[k]? with
  | some b=>(match b.live && b.sz != 0,b.cells[j]? with
   | true,some .nilSl=>denilC ⟨st.tmps,(st.blks++[(⟨true,0,sz,true,[],true⟩:Blk)]).set k { b with flat:=false,cells:=b.cells.set j (.sl st.blks.length 0 0 0 sz) }⟩ r
   | _,_=>none)
  | none=>none
theorem ym:∀ {ds:List (Nat × Nat × Nat)} {st st':St},denilC st ds=some st'→G P E K st'→G P E K st
 | [],st,st',h,hg=>by simp only [denilC,Option.some.injEq] at h; subst h; exact hg
 | (k,j,sz) :: r,st,st',h,hg=>by
  simp only [denilC] at h
  split at h
  · rename_i b hb
    split at h
    · rename_i hl hj
      exact denilC_step hb (by simpa using (Bool.and_eq_true_iff.1 hl).1) (by simpa using (Bool.and_eq_true_iff.1 hl).2) hj (ym h hg)
    · cases h
  · cases h
def segC (P:Program) (ds:List (Nat × Nat)) (cs:List (Nat × Nat × Nat)) (live:List Nat) (m n:Nat) (K:List Item) (st:St) (evs:List EV):Option (List Item × St × List Prop) :=
 match walk P n K st evs with
 | some (K',st',_,o1)=>(match denil st' ds with
  | some st1=>(match denilC st1 cs with
   | some st1=>(match weak live m st1 with
    | some st2=>some (K',st2,o1)
    | none=>none)
   | none=>none)
  | none=>none)
 | none=>none
theorem Qe {n m:Nat} {ds:List (Nat × Nat)} {cs:List (Nat × Nat × Nat)} {live:List Nat} {evs:List EV} {obs:List Prop} {HK:Prop} (hk:HK) (hgh:refsBelows m E.gA=true) (hmx:P.follows .mixedOrders=true)
 (h:segC P ds cs live m n K st evs=some (K',st',obs)) (ho:AllP obs) (hg:G P E K' st'):G P E K st:=by
 unfold segC at h
 split at h
 · rename_i K1 st1 evs1 o1 h1
   split at h
   · rename_i st2 h2
     split at h
     · rename_i st3 h3
       split at h
       · rename_i st4 h4
         simp only [Option.some.injEq,Prod.mk.injEq] at h
         obtain ⟨rfl,rfl,rfl⟩:=h
         exact QL hk hmx h1 ho (Qbj h2 (ym h3 (weak_step hgh h4 hg)))
       · cases h
     · cases h
   · cases h
 · cases h
end
theorem rp {α:Type} (f:α→List AV) (s k m:Nat) {l:List α} {i:Nat} {a:α} (h:l[i]?=some a) (hf:∀ a,(f a).length=s:=by exact fun _=>rfl) (hk:k+m≤s:=by decide):((l.flatMap f).drop (0+i*s+k)).take m=((f a).drop k).take m:=row_part f hf hk h
theorem rf {α:Type} (f:α→List AV) (s k m:Nat) {l:List α} {i:Nat} {a:α} (h:l[i]?=some a) (hf:∀ a,(f a).length=s:=by exact fun _=>rfl) (hk:k+m≤s:=by decide):0+i*s+k+m≤(l.flatMap f).length:=row_fits f hf hk h
theorem bft (b:Bool):b=true∨b=false:=Bool.eq_false_or_eq_true b
theorem odt {p:Prop} [Decidable p] (h:decide p=true):p:=of_decide_eq_true h
theorem odf {p:Prop} [Decidable p] (h:decide p=false):¬p:=of_decide_eq_false h
abbrev I6 (n:Int):Prop:= -9223372036854775808≤n∧n≤9223372036854775807
end Ax
namespace Ax
open Go
section
variable {σ X:Type} (step:σ→X→σ × Bool)
end
section
variable {P:Program} {E:Env} {K K':List Item} {st st':St}
end
end Ax
namespace Ax
open Go Go.ChangeShapes Go.WideShapes Go.RowKit
abbrev Old (W:World) (b:Nat):Prop:=b<W.heap.size
/-- What is read as of this type stands for typed data. -/
def Dec (P:Program) (W:World) (t:TypeId) (T:Type) (F:T→List AV) (Q:T→Prop):Prop :=
 ∀ (H:Type) (enc:TypeId × Value→H) (sp:Nat→Bool) (held:Bool) (fuel:Nat) (cs:List Value) (x:DataW H × List MemPlace),
  DataW.trod enc P W 0 sp held fuel t cs=some x→∃ a,Q a∧VRs (Old W) W C0 (F a) cs
/-- The same for the fields from one on; 'off' is where they begin. -/
def DecFs (P:Program) (W:World) (fs:List Field) (off:Nat) (T:Type) (F:T→List AV) (Q:T→Prop) (tot:Nat):Prop :=
 ∀ (H:Type) (enc:TypeId × Value→H) (sp:Nat→Bool) (held:Bool) (fuel:Nat) (cs:List Value),cs.length=tot →
  (∀ f ∈ fs,∃ x,DataW.trod enc P W 0 sp held fuel f.type ((cs.drop f.offset).take (P.cellsOf f.type))=some x)→∃ a,Q a∧VRs (Old W) W C0 (F a) (cs.drop off)
section
variable {P:Program} {W:World} {t e:TypeId}
theorem VRs.one1 {Z:Nat→Prop} {w:World} {C:Ctx} {a:AV} {c:Value} (h:VR Z w C a c):VRs Z w C [a] [c] :=
 ⟨rfl,fun i x y p q=>by
  cases i with
  | zero=>simp at p q; subst p; subst q; exact h
  | succ i=>simp at p⟩
theorem dec_int {k:IntKind} (ht:P.underlying t=some (.int k)):Dec P W t Int (fun n=>[.int k n]) (fun n=>k.min≤n∧n≤k.max):=by
 intro H enc sp held fuel cs x h
 obtain ⟨n,rfl,-,hw⟩:=DataW.trod_int ht h
 simp only [Lit.wf,Bool.and_eq_true,decide_eq_true_eq] at hw
 exact ⟨n,hw,VRs.one1 (.int _ _)⟩
theorem Vf (ht:P.underlying t=some (.int .i64)):Dec P W t Int cI (fun n=>InR .i64 n):=by
 intro H enc sp held fuel cs x h
 obtain ⟨n,hn,hv⟩:=dec_int ht H enc sp held fuel cs x h
 exact ⟨n,by simpa [InR,IntKind.min,IntKind.max,IntKind.signed,IntKind.bits] using hn,hv⟩
theorem dec_bool (ht:P.underlying t=some .bool):Dec P W t Bool cB (fun _=>True):=by
 intro H enc sp held fuel cs x h
 obtain ⟨b,rfl,-⟩:=DataW.trod_bool ht h
 exact ⟨b,trivial,VRs.one1 (.bool _)⟩
theorem Dec.map {T S:Type} {F:T→List AV} {Q:T→Prop} {F':S→List AV} {Q':S→Prop} (h:Dec P W t T F Q) (g:T→S) (hF:∀ a,F' (g a)=F a) (hQ:∀ a,Q a→Q' (g a)):Dec P W t S F' Q':=by
 intro H enc sp held fuel cs x hx
 obtain ⟨a,q,v⟩:=h H enc sp held fuel cs x hx
 exact ⟨g a,hQ a q,by rw [hF]; exact v⟩
theorem qq {tot:Nat}:DecFs P W [] tot Unit (fun _=>[]) (fun _=>True) tot:=by
 intro H enc sp held fuel cs hl _
 exact ⟨(),trivial,by rw [List.drop_of_length_le (by omega)]; exact ⟨rfl,fun i x y p q=>by simp at p⟩⟩
theorem Xf {f:Field} {fs:List Field} {off n tot:Nat} {A B:Type} {FA:A→List AV} {QA:A→Prop} {FB:B→List AV} {QB:B→Prop} (hn:P.cellsOf f.type=n) (ho:f.offset=off)
 (D:Dec P W f.type A FA QA) (R:DecFs P W fs (off+n) B FB QB tot) (hle:off+n≤tot):DecFs P W (f :: fs) off (A × B) (fun p=>FA p.1++FB p.2) (fun p=>QA p.1∧QB p.2) tot:=by
 intro H enc sp held fuel cs hl h
 obtain ⟨x,hx⟩:=h f (by simp)
 obtain ⟨a,qa,va⟩:=D H enc sp held fuel _ x hx
 obtain ⟨b,qb,vb⟩:=R H enc sp held fuel cs hl fun g hg=>h g (by simp [hg])
 rw [hn,ho] at va
 refine ⟨(a,b),⟨qa,qb⟩,?_⟩
 have e:cs.drop off=(cs.drop off).take n++cs.drop (off+n):=by
  rw [← List.drop_drop]; exact (List.take_append_drop _ _).symm
 rw [e]
 exact va.app vb
theorem Wt {fs:Array Field} {T:Type} {F:T→List AV} {Q:T→Prop} {l:List Field} {tot:Nat} (ht:P.underlying t=some (.struct fs)) (hl:fs.toList=l) (hc:P.cellsOf t=tot) (h:DecFs P W l 0 T F Q tot):Dec P W t T F Q:=by
 intro H enc sp held fuel cs x hx
 obtain ⟨xs,n,-,-,h1,h2,h3⟩:=DataW.trod_struct ht hx
 obtain ⟨a,q,v⟩:=h H enc sp held n cs (by rw [h1,hc]) fun f hf=>by
  rw [← hl] at hf
  obtain ⟨i,hi⟩:=List.mem_iff_getElem?.1 hf
  have:=h3 i f (by simpa using hi)
  have hlt:i<xs.length:=by rw [h2]; have:=(List.getElem?_eq_some_iff.1 hi).1; simpa using this
  exact ⟨xs[i],by rw [this]; simp [hlt]⟩
 exact ⟨a,q,by simpa using v⟩
theorem cells_get {W:World} {a:Addr} {n:Nat} {cs:List Value} (h:W.cells? 0 a n=some cs):cs.length=n∧∀ i,i<n→W.cell? (a.add i)=cs[i]?:=by
 unfold World.cells? at h
 rw [if_pos (Nat.zero_le _)] at h
 have key:∀ (n k:Nat) (cs:List Value),((List.range' k n).mapM fun i=>W.cell? (a.add i))=some cs→cs.length=n∧∀ i,i<n→W.cell? (a.add (k+i))=cs[i]?:=by
  intro n
  induction n with
  | zero=>intro k cs h; simp at h; subst h; simp
  | succ n ih =>
   intro k cs h
   rw [List.range'_succ,List.mapM_cons] at h
   simp only [Option.bind_eq_bind,Option.bind_eq_some_iff,Option.pure_def,Option.some.injEq] at h
   obtain ⟨c,h1,cs',h2,rfl⟩:=h
   obtain ⟨i1,i2⟩:=ih (k+1) cs' h2
   refine ⟨by simp [i1],fun i hi=>?_⟩
   cases i with
   | zero=>simpa using h1
   | succ i=>rw [show k+(i+1)=k+1+i by omega,i2 i (by omega)]; simp
 have:=key n 0 cs (by rw [← List.range_eq_range']; exact h)
 simpa using this
theorem list_of {T:Type} {Q:Nat→T→Prop}:∀ (n k:Nat),(∀ i,k≤i→i<k+n→∃ a,Q i a)→∃ l:List T,l.length=n∧∀ i a,l[i]?=some a→Q (k+i) a
 | 0,k,_=>⟨[],rfl,by simp⟩
 | n+1,k,h=>by
  obtain ⟨a,ha⟩:=h k (Nat.le_refl _) (by omega)
  obtain ⟨l,hl,hq⟩:=list_of n (k+1) fun i h1 h2=>h i (by omega) (by omega)
  refine ⟨a :: l,by simp [hl],fun i b hb=>?_⟩
  cases i with
  | zero=>simp at hb; subst hb; exact ha
  | succ i=>simp at hb; have:=hq i b hb; rw [show k+(i+1)=k+1+i by omega]; exact this
theorem Qaa {T:Type} {F:T→List AV} {Q:T→Prop} {n:Nat} (ht:P.underlying t=some (.slice e)) (hc:P.cellsOf e=n) (hn:0<n) (hF:∀ a,(F a).length=n) (hk:∀ a,QX (F a)=true) (D:Dec P W e T F Q) :
 Dec P W t (List T) (fun l=>[.rsl (l.flatMap F) 0 l.length]) (fun l=>l.length≤9223372036854775807∧∀ a ∈ l,Q a):=by
 intro H enc sp held fuel cs x h
 rcases DataW.trod_slice ht h with ⟨rfl,-⟩ | ⟨a,len,cap,elems,rest,m,-,rfl,-,-,h1,h2,h3,h4,-,-⟩
 · exact ⟨[],⟨by simp,by simp⟩,VRs.one1 .rsl0⟩
 have hel:∀ i,i<len→∃ b,Q b∧∃ vs,W.cells? 0 (a.add (i*n)) n=some vs∧VRs (Old W) W C0 (F b) vs:=by
  intro i hi
  have:=h4 i hi
  rw [hc,List.getElem?_eq_getElem (by omega)] at this
  obtain ⟨vs,g1,g2⟩:=Option.bind_eq_some_iff.1 this
  obtain ⟨b,qb,vb⟩:=D H enc sp held m vs _ g2
  exact ⟨b,qb,vs,g1,vb⟩
 obtain ⟨l,hl,hq⟩:=list_of (Q:=fun i b=>Q b∧∃ vs,W.cells? 0 (a.add (i*n)) n=some vs∧VRs (Old W) W C0 (F b) vs) len 0 fun i _ hi=>hel i (by omega)
 refine ⟨l,⟨by rw [hl]; unfold maxLen at h2; omega,fun b hb=>?_⟩,VRs.one1 ?_⟩
 · obtain ⟨i,hi⟩:=List.mem_iff_getElem?.1 hb
   exact (hq i b hi).1
 rcases Nat.eq_zero_or_pos len with h0 | h0
 · subst h0
   obtain rfl:l=[]:=List.length_eq_zero_iff.1 hl
   exact .rsl0
 have hcell:∀ j,j<len*n→∃ v,W.cell? ⟨a.block,a.off+j,none⟩=some v∧∃ c,(l.flatMap F)[j]?=some c∧VR (Old W) W C0 c v∧QY c=true∧a.spot=none:=by
  intro j hj
  have hi:j / n<len:=by rw [Nat.div_lt_iff_lt_mul hn]; exact hj
  have hm:j % n<n:=Nat.mod_lt _ hn
  have hb:l[j / n]?=some l[j / n]:=by simp [hl,hi]
  obtain ⟨-,vs,g1,g2⟩:=hq _ _ hb
  rw [Nat.zero_add] at g1
  obtain ⟨g3,g4⟩:=cells_get g1
  have g5:=g4 (j % n) hm
  have hv:vs[j % n]?=some vs[j % n]:=by simp [g3,hm]
  rw [hv] at g5
  have hdm:j / n*n+j % n=j:=by rw [Nat.mul_comm]; exact Nat.div_add_mod j n
  have hspot:a.spot=none:=by
   have g6:=g4 0 hn
   rw [List.getElem?_eq_getElem (by omega)] at g6
   have hfirst:∃ v0,W.cell? a=some v0:=by
    have hb0:l[0]?=some l[0]:=by simp [hl,h0]
    obtain ⟨-,vs0,k1,-⟩:=hq _ _ hb0
    obtain ⟨k3,k4⟩:=cells_get k1
    have k5:=k4 0 hn
    rw [List.getElem?_eq_getElem (by omega)] at k5
    exact ⟨_,by simpa [Addr.add] using k5⟩
   obtain ⟨v0,hv0⟩:=hfirst
   unfold World.cell? at hv0
   split at hv0
   · split at hv0
     · cases hv0
     · rename_i hsp; simpa using hsp
   · cases hv0
  have haddr:(a.add (j / n*n)).add (j % n)=⟨a.block,a.off+j,none⟩:=by
   obtain ⟨ab,ao,asp⟩:=a
   simp only at hspot
   subst hspot
   unfold Addr.add
   split <;> split <;> simp_all <;> omega
  rw [haddr] at g5
  refine ⟨_,g5,?_⟩
  have hrow:=Qbz F hF (k:=j % n) hb (by omega)
  have e1:(l.flatMap F)[j]?=(F l[j / n])[j % n]?:=by
   have:=congrArg (fun l=>l[0]?) hrow
   simp only [List.getElem?_drop,Nat.add_zero] at this
   rw [show 0+j / n*n+j % n=j by omega] at this
   rw [this,List.getElem?_append_left (by rw [List.length_drop,hF]; omega),List.getElem?_drop,Nat.add_zero]
  have hF1:(F l[j / n])[j % n]?=some ((F l[j / n])[j % n]'(by rw [hF]; exact hm)):=by simp [hF,hm]
  refine ⟨_,e1.trans hF1,g2.2 _ _ _ hF1 hv,Xz (hk _) hF1,hspot⟩
 have hrl:(l.flatMap F).length=len*n:=by rw [QC F hF,hl]
 obtain ⟨v0,c0,-,-,-,-,hspot⟩:=hcell 0 (Nat.mul_pos h0 hn)
 have haa:a=⟨a.block,0+a.off,none⟩:=by
  obtain ⟨ab,ao,asp⟩:=a
  simp only at hspot ⊢
  subst hspot; simp
 have hblk:a.block<W.heap.size:=by
  unfold World.cell? at c0
  split at c0
  · rename_i heq; exact (Array.getElem?_eq_some_iff.1 heq).1
  · cases c0
 rw [← hl]
 have hval:Value.slice (some a) l.length cap=Value.slice (some ⟨a.block,a.off+0,none⟩) l.length cap:=by
  congr 2
  rw [haa]; simp
 rw [hval]
 refine .rsl (o:=a.off) (fun i=>(W.cell? ⟨a.block,a.off+i,none⟩).getD undef) hblk (by omega) (fun i hi=>?_) (fun i c hc=>?_) (fun i c hc=>?_)
 · obtain ⟨v,h5,-⟩:=hcell i (by omega)
   rw [h5]; rfl
 · obtain ⟨v,-,c',h6,-,h7,-⟩:=hcell i (by have:=(List.getElem?_eq_some_iff.1 hc).1; omega)
   rw [hc] at h6; cases h6; exact h7
 · obtain ⟨v,h5,c',h6,h7,-,-⟩:=hcell i (by have:=(List.getElem?_eq_some_iff.1 hc).1; omega)
   rw [hc] at h6; cases h6; rw [h5]; exact h7
/-! ### A law's arguments -/
/-- One argument. -/
def DecA (P:Program) (W:World) (t:TypeId) (T:Type) (F:T→AV) (Q:T→Prop):Prop :=
 ∀ (H:Type) (enc:TypeId × Value→H) (base:Nat) (v:Value) (d:DataW H) (ps:List MemPlace),Value.okWide P W .any base t v→DataW.Trod enc P W 0 (fun _=>true) true t v d ps →
  ∃ a,Q a∧VR (Old W) W C0 (F a) v
theorem VRs.one' {Z:Nat→Prop} {w:World} {C:Ctx} {a:AV} {c:Value} (h:VRs Z w C [a] [c]):VR Z w C a c:=h.2 0 a c rfl rfl
theorem decA_int (ht:P.underlying t=some (.int .i64)):DecA P W t Int (fun n=>.int .i64 n) (fun n=>InR .i64 n):=by
 intro H enc base v d ps hok ⟨fuel,h⟩
 obtain ⟨n,rfl⟩:=okWide_int ht hok
 obtain ⟨a,q,hv⟩:=Vf ht H enc _ _ fuel _ _ h
 exact ⟨a,q,hv.one'⟩
theorem Qab {T:Type} {F:T→List AV} {Q:T→Prop} {fs:Array Field} (ht:P.underlying t=some (.struct fs)) (D:Dec P W t T F Q):DecA P W t T (fun a=>.agg (F a)) Q:=by
 intro H enc base v d ps hok ⟨fuel,h⟩
 obtain ⟨cs,rfl,-⟩:=okWide_struct ht hok
 obtain ⟨a,q,hv⟩:=D H enc _ _ fuel _ _ h
 exact ⟨a,q,.agg (by have:=hv.1; simpa [Value.cells] using this) fun i c x p r=>hv.2 i c x p (by simpa [Value.cells] using r)⟩
/-- All arguments; 'K': what holds of them together. -/
def DecAs (P:Program) (W:World) (ts:List TypeId) (K:List AV→Prop):Prop :=
 ∀ (H:Type) (enc:TypeId × Value→H) (base:Nat) (vs:List Value) (ds:List (DataW H)) (ps:List MemPlace),
  (∀ (j:Nat) t v,ts[j]?=some t→vs[j]?=some v→Value.okWide P W .any base t v)→DataW.TrodAll enc P W 0 (fun _=>true) true ts vs ds ps→∃ al,K al∧VRs (Old W) W C0 al vs
theorem decAs_nil {K:List AV→Prop} (h:K []):DecAs P W [] K:=by
 intro H enc base vs ds ps _ hT
 obtain ⟨rfl,rfl,rfl⟩:=trodAll_nil hT
 exact ⟨[],h,rfl,fun i x y p q=>by simp at p⟩
theorem qS {ts:List TypeId} {T:Type} {F:T→AV} {Q:T→Prop} {K:List AV→Prop} (D:DecA P W t T F Q) (R:∀ a,Q a→DecAs P W ts fun al=>K (F a :: al)):DecAs P W (t :: ts) K:=by
 intro H enc base vs ds ps hok hT
 obtain ⟨v,vs',d,ds',p,q,rfl,rfl,rfl,h1,h2⟩:=trodAll_cons hT
 obtain ⟨a,qa,va⟩:=D H enc base v d p (hok 0 t v rfl rfl) h1
 obtain ⟨al,ka,vas⟩:=R a qa H enc base vs' ds' q (fun j t v ht hv=>hok (j+1) t v (by simpa using ht) (by simpa using hv)) h2
 exact ⟨_,ka,by simpa using (VRs.one1 va).app vas⟩
theorem Fr.same_at {W W':World} (h:Fr W (fun _=>False) W') (p:MemPlace) (hp:p.block<W.heap.size):W.sameAt W' p:=by
 have:=h.same p.block hp (fun h=>h)
 cases p with
 | cell b off=>exact Xq this
 | map b=>exact this
theorem WR {H:Type} {enc:TypeId × Value→H} {W':World} (hl:laidOutB P=true) (h:Fr W (fun _=>False) W') {sp:Nat→Bool}:∀ {ts:List TypeId} {vs:List Value} {ds:List (DataW H)} {ps:List MemPlace},
 (∀ t ∈ ts,P.readableRec t=true∧t<P.types.size)→DataW.TrodAll enc P W 0 (fun _=>true) true ts vs ds ps→(∀ p ∈ ps,sp p.block=true)→DataW.TrodAll enc P W' 0 sp true ts vs ds ps
 | [],vs,ds,ps,_,hT,_=>by
  obtain ⟨rfl,rfl,rfl⟩:=trodAll_nil hT
  rfl
 | t :: ts,vs,ds,ps,hr,hT,hs=>by
  have hlt:=DataW.TrodAll.lt hT
  obtain ⟨v,vs',d,ds',p,q,rfl,rfl,rfl,h1,h2⟩:=trodAll_cons hT
  refine ⟨p,q,WideElems.Trod_stays hl (hr t (by simp)).1 (hr t (by simp)).2 h1 (fun x hx=>h.same_at x (hlt x (by simp [hx]))) (fun x hx=>hs x (by simp [hx])),
   WR hl h (fun t ht=>hr t (by simp [ht])) h2 (fun x hx=>hs x (by simp [hx])),rfl⟩
theorem Fr.keptBut {W W':World} (h:Fr W (fun _=>False) W') (may:MemPlace→Prop):W.keptBut W' may:=by
 refine ⟨h.os,h.output,fun i hi=>?_⟩
 rw [h.same i hi (fun h=>h)]
 cases hx:W.heap[i]? with
 | none=>simp
 | some o=>cases o <;> simp
theorem law_post {H:Type} {enc:TypeId × Value→H} {W':World} {f:Func} {s:ChangeSpec} {args:Array Value} {ds gs:List (DataW H)} {before:List MemPlace} {tb:TypeId}
 (hW:DataW.Whole enc P f.params.toList s.vars false W args.toList ds gs before) (hv:s.vars=[]) (hr:f.resultTypes=#[tb]) (hb:P.underlying tb=some .bool)
 (h1:(s.fn H (ds++gs)).results=[.lit (.bool true)]) (h2:(s.fn H (ds++gs)).args=ds) (h3:(s.fn H (ds++gs)).vars=[]) (hl:laidOutB P=true)
 (hread:∀ t ∈ f.params.toList,P.readableRec t=true∧t<P.types.size) (hf:Fr W (fun _=>False) W'):s.post enc P f false true false false W args (.bool true) W':=by
 have hW':=hW
 obtain ⟨p,q,hA,hV,hpq,-,-⟩:=hW
 refine ⟨ds,gs,before,[],p,[],hW',?_,?_,?_,hf.keptBut _,fun h=>by cases h⟩
 · rw [h1,hr]
   exact trodAll_mk1 ⟨1,by simp [DataW.trod,Value.cells,hb]⟩
 · rw [h2]
   exact WR hl hf hread hA fun x hx=>by simpa using DataW.TrodAll.lt hA x hx
 · rw [h3,hv]; rfl
theorem Fr.frozen {W W':World} (h:Fr W (fun _=>False) W') (a:Addr) (ha:a.block<W.heap.size):W'.frozen? a=W.frozen? a:=by
 unfold World.frozen?; rw [h.same a.block ha (fun h=>h)]
end
end Ax
namespace Ax
open Go
def AvLe (a b:AV):Prop:=∀ (Z:Nat→Prop) (w:World) (c:Value),VR Z w C0 a c→VR Z w C0 b c
def AvLes:List AV→List AV→Prop
 | [],[]=>True
 | a :: as',b :: bs=>AvLe a b∧AvLes as' bs
 | _,_=>False
theorem AvLe.refl (a:AV):AvLe a a:=fun _ _ _ h=>h
theorem AvLe.of_eq {a b:AV} (h:a=b):AvLe a b:=h ▸ AvLe.refl a
theorem qe {row:List AV} {off:Nat}:AvLe .nilSl (.rsl row off 0):=fun _ _ _ h=>by cases h; exact .rsl0
theorem AvLes.vrs {Z:Nat→Prop} {w:World}:∀ {as' bs:List AV} {vs:List Value},AvLes as' bs→VRs Z w C0 as' vs→VRs Z w C0 bs vs
 | [],[],vs,_,h=>h
 | a :: as',b :: bs,[],_,h=>by have:=h.1; simp at this
 | a :: as',b :: bs,v :: vs,hl,h=>by
  have h1:VR Z w C0 a v:=h.2 0 a v rfl rfl
  have h2:VRs Z w C0 as' vs:=⟨by have:=h.1; simpa using this,fun i c v p q=>h.2 (i+1) c v (by simpa using p) (by simpa using q)⟩
  have h3:=AvLes.vrs hl.2 h2
  refine ⟨by simp [h3.1],fun i c x p q=>?_⟩
  cases i with
  | zero=>simp at p q; subst p; subst q; exact hl.1 _ _ _ h1
  | succ i=>exact h3.2 i c x (by simpa using p) (by simpa using q)
 | [],b :: bs,_,hl,_=>hl.elim
 | a :: as',[],_,hl,_=>hl.elim
theorem yc {xs ys:List AV} (h:AvLes xs ys):AvLe (.tup xs) (.tup ys):=fun Z w c hc=>by
 cases hc with
 | @tup _ _ arr hl h1 =>
  have:=h.vrs (vs:=arr.toList) ⟨by simpa using hl,fun i c v p q=>h1 i c v p (by simpa using q)⟩
  exact .tup (by simpa using this.1) fun i c v p q=>this.2 i c v p (by simpa using q)
section
variable {P:Program} {E:Env} {K K':List Item} {st st':St}
theorem Pure.le {f:FuncId} {args args':List AV} {res:AV} (h:Pure P f args res) (hl:AvLes args' args):Pure P f args' res :=
 fun Z w cargs hz ha=>h Z w cargs hz (hl.vrs ha)
theorem Qi.le {fv:AV} {args args':List AV} {res:AV} (h:Qi P fv args res) (hl:AvLes args' args):Qi P fv args' res :=
 fun Z w cf cargs hz hf ha=>h Z w cf cargs hz hf (hl.vrs ha)
theorem G.fin {F':Machine→Prop} (h:G P { E with Fin:=F' } K st) (hm:∀ m,F' m→E.Fin m):G P E K st:=fun C Z a w hr =>
 let ⟨m',hs,hf⟩:=h C Z a w hr
 ⟨m',hs,hm m' hf⟩
theorem Wz.mono {f:FuncId} {cs:List Frame} {Q Q':Value→World→Prop} (hq:∀ v w,Q v w→Q' v w) {m:Machine} (h:Wz P f cs Q m):Wz P f cs Q' m:=by
 obtain ⟨v,w,fr,e,a,b,c⟩:=h
 exact ⟨v,w,fr,e,a,b,hq _ _ c⟩
theorem Qf {n:Nat} {f:FuncId} {fn:Func} {evs:List EV} {r res:AV} {obs:List Prop} (hE:Qh P f res E) (hf:P.funcs[f]?=some fn) (hmx:P.follows .mixedOrders=true)
 (h:endA P fn n K st evs=some (r,obs)) (ho:AllP obs) (hr:AvLe r res):G P E K st:=by
 obtain ⟨e1,e2,e3,e4,e5,e6,e7⟩:=hE
 refine G.fin (F':=Wz P f E.cs fun v w'=>VR (Zx E.Z0 E.w0 w') w' C0 r v∧Fr E.w0 (fun _=>False) w') (end_step ⟨e1,e2,e3,e4,e5,rfl,e7⟩ hf hmx h ho rfl) fun m hm=>?_
 rw [e6]
 exact Wz.mono (fun v w hq=>⟨hr _ _ _ hq.1,hq.2⟩) hm
end
end Ax
namespace Ax
open Go
theorem Qby {α:Type} (f:α→List AV) (n:Nat) (a:α):(List.replicate n (f a)).flatten=(List.replicate n a).flatMap f:=by
 induction n with
 | zero=>rfl
 | succ n ih=>rw [List.replicate_succ,List.flatten_cons,ih,List.replicate_succ,List.flatMap_cons]
theorem QM {α:Type} (f:α→List AV) {s:Nat} (hf:∀ a,(f a).length=s) (l:List α):((l.flatMap f).drop 0).take (l.length*s)=l.flatMap f:=by
 rw [List.drop_zero,List.take_of_length_le (by rw [QC f hf]; exact Nat.le_refl _)]
theorem QaK:∀ {a b:List AV},noRefs (a++b)=(noRefs a && noRefs b)
 | [],b=>by simp [noRefs]
 | x :: a,b=>by simp [noRefs,QaK,Bool.and_assoc]
theorem QV {α:Type} (f:α→List AV) (hf:∀ a,noRefs (f a)=true):∀ l:List α,noRefs (l.flatMap f)=true
 | []=>rfl
 | a :: l=>by rw [List.flatMap_cons,QaK,hf,QV f hf l]; rfl
end Ax
namespace Ax
open Go
section
variable {P:Program} {E:Env} {K K':List Item} {st st':St}
/-- What a call leaves: its result,and the blocks. -/
def Left (Z M:Nat→Prop) (w:World) (C:Ctx) (res:AV) (bs2:List Blk) (v:Value) (w':World):Prop :=
 ∃ C' Z',Base C w C' w'∧Mem Z M w C' Z' bs2 w'∧VR Z' w' C' res v
/-- A function that turns blocks 'bs' to 'bs2' (new ones behind them). -/
def Lent (P:Program) (f:FuncId) (args:List AV) (bs:List Blk) (res:AV) (bs2:List Blk):Prop :=
 ∀ (Z:Nat→Prop) (w:World) (C:Ctx) (cargs:Array Value),Mem Z (Own C) w C Z bs w→VRs Z w C args cargs.toList →
  Calls P f cargs w fun e w'=>∃ v,e=.returned v∧Left Z (Own C) w C res bs2 v w'
structure LentE (P:Program) (f:FuncId) (gA:List AV) (res:AV) (bs2:List Blk) (E:Env):Prop where
 ro:E.b.roundOf=none
 kind:E.b.kind=.normal
 fn:E.b.fn=f
 gA:E.gA=gA
 df:E.df=[]
 fin:E.Fin=Wz P f E.cs (Left E.Z0 E.M E.w0 E.Cb res bs2)
 wb:E.wb=E.w0
theorem LentE.nogh {f:FuncId} {k g:Nat} {res:AV} {bs2:List Blk} (hE:LentE P f [.sl k g 0 0 1] res bs2 E) {m:Nat} (h:Nat.ble (k+1) m=true):refsBelows m E.gA=true:=by
 rw [hE.gA]
 have:=Nat.le_of_ble_eq_true h
 simp [refsBelows,QW]; omega
theorem WF {f:FuncId} {fn:Func} {c:Code} {args:List AV} {bs bs2:List Blk} {res:AV} (b:Blk) (hf:P.funcs[f]?=some fn) (hb:fn.body=some c) (hl:bs.getLast?=some b) (hlv:b.live=true)
 (h:∀ E,LentE P f [.sl (bs.length - 1) b.gen 0 0 1] res bs2 E→G P E [.code c] ⟨args++unds (fn.ntmps - args.length),bs⟩) (hbz:b.sz ≠ 0:=by simp):Lent P f args bs res bs2:=by
 intro Z w C cargs hm ha cs
 have hn:bs ≠ []:=by rintro rfl; simp at hl
 have hlen:0<bs.length:=List.length_pos_iff.2 hn
 have hk:bs[bs.length - 1]?=some b:=by rw [List.getLast?_eq_getElem?] at hl; exact hl
 have hgh:VR Z w C (.sl (bs.length - 1) b.gen 0 0 1) (.slice none 0 0):=by
  have hg:=hm.gen _ _ hk
  refine .sl (by rw [hg]; exact Nat.le_refl _) rfl fun _=>?_
  obtain ⟨q1,q2⟩:=hm.blk _ _ hk hlv
  unfold SlOk
  cases hs:C.β (bs.length - 1) with
  | absent=>simp [hs] at q2
  | unborn=>exact ⟨rfl,none,rfl⟩
  | loc blk o =>
   simp only [hs] at q2
   obtain ⟨arr,e,r1,r2,r3⟩:=q2.cells hbz
   exact ⟨none,0,rfl,Nat.le_refl _,fun h=>absurd rfl h,arr,e,r1,by omega⟩
 have hlow:∀ n,refsBelows n [AV.sl (bs.length - 1) b.gen 0 0 1]=true→∀ k,n≤k→C.β k=.absent∧C.γ k=0:=fun n h1 k h2=>hm.dom k (by
  simp [refsBelows,QW] at h1; omega)
 let E:Env:=⟨Z,Own C,w,{ (default:Frame) with fn:=f,kind:=.normal },cs,Wz P f cs (Left Z (Own C) w C res bs2),[.sl (bs.length - 1) b.gen 0 0 1],[.slice none 0 0],[],C,hlow,w⟩
 have hE:LentE P f [.sl (bs.length - 1) b.gen 0 0 1] res bs2 E:=⟨rfl,rfl,rfl,rfl,rfl,rfl,rfl⟩
 have henter:Frame.enter P f cargs .normal=({ (default:Frame) with fn:=f,kind:=.normal }:Frame).atR { tmps:=cargs++Array.replicate (fn.ntmps - cargs.size) undef,defers:=[] } [.code c]:=by
  simp only [Frame.enter,Frame.atR,hf,hb,Option.map_some,Option.getD_some,Option.bind_some]; rfl
 have hl2:args.length=cargs.size:=by simpa using ha.1
 obtain ⟨m',s,v,w',fr,rfl,r1,r2,r3⟩:=h _ hE C Z { tmps:=cargs++Array.replicate (fn.ntmps - cargs.size) undef,defers:=[] } w
  ⟨⟨by simp [Yd,hl2],fun i x y p q=>by
   simp only [Array.toList_append,Array.toList_replicate] at q
   rw [Yd] at p
   by_cases hi:i<args.length
   · rw [List.getElem?_append_left hi] at p
     rw [List.getElem?_append_left (by simpa [← hl2] using hi)] at q
     exact ha.2 i x y p q
   · rw [List.getElem?_append_right (by omega)] at p
     rw [List.getElem?_append_right (by simp; omega)] at q
     have p':=List.mem_replicate.1 (List.mem_of_getElem? p)
     have q':=List.mem_replicate.1 (List.mem_of_getElem? q)
     rw [p'.2,q'.2]
     exact .tup rfl (by simp)⟩,hm,⟨[],.nil,.nil,by simp⟩,⟨rfl,fun i x y p q=>by
   cases i with
   | zero=>simp [E] at p q; rw [← p,← q]; exact hgh
   | succ i=>simp [E] at p⟩,.refl⟩
 rw [henter]
 exact ⟨.returned v,w',fr,⟨v,rfl,r3⟩,s,r1,r2⟩
theorem LentE.nogh0 {f:FuncId} {res:AV} {bs2:List Blk} (hE:LentE P f [] res bs2 E) (m:Nat):refsBelows m E.gA=true:=by rw [hE.gA]; rfl
/-- The same for a function that is handed no block,and gives back new ones. -/
theorem YX {f:FuncId} {fn:Func} {c:Code} {args:List AV} {bs2:List Blk} {res:AV} (hf:P.funcs[f]?=some fn) (hb:fn.body=some c)
 (h:∀ E,LentE P f [] res bs2 E→G P E [.code c] ⟨args++unds (fn.ntmps - args.length),[]⟩):Lent P f args [] res bs2:=by
 intro Z w C cargs hm ha cs
 have hlow:∀ n,refsBelows n ([]:List AV)=true→∀ k,n≤k→C.β k=.absent∧C.γ k=0:=fun n _ k _=>hm.dom k (by simp)
 let E:Env:=⟨Z,Own C,w,{ (default:Frame) with fn:=f,kind:=.normal },cs,Wz P f cs (Left Z (Own C) w C res bs2),[],[],[],C,hlow,w⟩
 have hE:LentE P f [] res bs2 E:=⟨rfl,rfl,rfl,rfl,rfl,rfl,rfl⟩
 have henter:Frame.enter P f cargs .normal=({ (default:Frame) with fn:=f,kind:=.normal }:Frame).atR { tmps:=cargs++Array.replicate (fn.ntmps - cargs.size) undef,defers:=[] } [.code c]:=by
  simp only [Frame.enter,Frame.atR,hf,hb,Option.map_some,Option.getD_some,Option.bind_some]; rfl
 have hl2:args.length=cargs.size:=by simpa using ha.1
 obtain ⟨m',s,v,w',fr,rfl,r1,r2,r3⟩:=h _ hE C Z { tmps:=cargs++Array.replicate (fn.ntmps - cargs.size) undef,defers:=[] } w
  ⟨⟨by simp [Yd,hl2],fun i x y p q=>by
   simp only [Array.toList_append,Array.toList_replicate] at q
   rw [Yd] at p
   by_cases hi:i<args.length
   · rw [List.getElem?_append_left hi] at p
     rw [List.getElem?_append_left (by simpa [← hl2] using hi)] at q
     exact ha.2 i x y p q
   · rw [List.getElem?_append_right (by omega)] at p
     rw [List.getElem?_append_right (by simp; omega)] at q
     have p':=List.mem_replicate.1 (List.mem_of_getElem? p)
     have q':=List.mem_replicate.1 (List.mem_of_getElem? q)
     rw [p'.2,q'.2]
     exact .tup rfl (by simp)⟩,hm,⟨[],.nil,.nil,by simp⟩,⟨rfl,fun i x y p q=>by simp [E] at p⟩,.refl⟩
 rw [henter]
 exact ⟨.returned v,w',fr,⟨v,rfl,r3⟩,s,r1,r2⟩
/-- The same,with one of the arguments as the place in the caller's blocks that is kept. -/
theorem lent_ofA {f:FuncId} {fn:Func} {c:Code} {args:List AV} {bs bs2:List Blk} {res:AV} (x:AV) (j:Nat) (hx:args[j]?=some x) (hlw:∀ n,refsBelows n [x]=true→bs.length≤n) (hf:P.funcs[f]?=some fn) (hb:fn.body=some c)
 (h:∀ E,LentE P f [x] res bs2 E→G P E [.code c] ⟨args++unds (fn.ntmps - args.length),bs⟩):Lent P f args bs res bs2:=by
 intro Z w C cargs hm ha cs
 have hl2:args.length=cargs.size:=by simpa using ha.1
 obtain ⟨y,hy⟩:∃ y,cargs.toList[j]?=some y:=by
  have:=(List.getElem?_eq_some_iff.1 hx).1
  exact ⟨_,List.getElem?_eq_getElem (by simpa [← hl2] using this)⟩
 have hgh:VR Z w C x y:=ha.2 j x y hx hy
 have hlow:∀ n,refsBelows n [x]=true→∀ k,n≤k→C.β k=.absent∧C.γ k=0:=fun n h1 k h2=>hm.dom k (Nat.le_trans (hlw n h1) h2)
 let E:Env:=⟨Z,Own C,w,{ (default:Frame) with fn:=f,kind:=.normal },cs,Wz P f cs (Left Z (Own C) w C res bs2),[x],[y],[],C,hlow,w⟩
 have hE:LentE P f [x] res bs2 E:=⟨rfl,rfl,rfl,rfl,rfl,rfl,rfl⟩
 have henter:Frame.enter P f cargs .normal=({ (default:Frame) with fn:=f,kind:=.normal }:Frame).atR { tmps:=cargs++Array.replicate (fn.ntmps - cargs.size) undef,defers:=[] } [.code c]:=by
  simp only [Frame.enter,Frame.atR,hf,hb,Option.map_some,Option.getD_some,Option.bind_some]; rfl
 obtain ⟨m',s,v,w',fr,rfl,r1,r2,r3⟩:=h _ hE C Z { tmps:=cargs++Array.replicate (fn.ntmps - cargs.size) undef,defers:=[] } w
  ⟨⟨by simp [Yd,hl2],fun i x y p q=>by
   simp only [Array.toList_append,Array.toList_replicate] at q
   rw [Yd] at p
   by_cases hi:i<args.length
   · rw [List.getElem?_append_left hi] at p
     rw [List.getElem?_append_left (by simpa [← hl2] using hi)] at q
     exact ha.2 i x y p q
   · rw [List.getElem?_append_right (by omega)] at p
     rw [List.getElem?_append_right (by simp; omega)] at q
     have p':=List.mem_replicate.1 (List.mem_of_getElem? p)
     have q':=List.mem_replicate.1 (List.mem_of_getElem? q)
     rw [p'.2,q'.2]
     exact .tup rfl (by simp)⟩,hm,⟨[],.nil,.nil,by simp⟩,⟨rfl,fun i x y p q=>by
   cases i with
   | zero=>simp [E] at p q; rw [← p,← q]; exact hgh
   | succ i=>simp [E] at p⟩,.refl⟩
 rw [henter]
 exact ⟨.returned v,w',fr,⟨v,rfl,r3⟩,s,r1,r2⟩
/-- Called by its value. -/
theorem Qt {f : FuncId} {fn : Func} {c : Code} {first args cap : List AV} {bs bs2 : List Blk} {res : AV} (hf : P.funcs[f]? = some fn) (hname : (fn.name == "runtime.NumGoroutine") = false) (hb : fn.body = some c)
    (h : Lent P f (first ++ args ++ cap) bs res bs2) : QO P (.clos f first cap) args bs res bs2 := by
  intro Z w C cf cargs hm hcf ha
  cases hcf with
  | @clos _ _ _ _ fa ca hl h1 hl' h2 =>
    refine ⟨{ target := .fn (.func f) ca, args := fa ++ cargs }, f, fa ++ cargs ++ ca, rfl, ?_, ?_⟩
    · have := Go.Proofs.enters_of (P := P) hf hname hb (fa ++ cargs ++ ca) w
      simpa [invoke] using this
    · refine (h Z w C _ hm ⟨by have := ha.1; simp at this; simp [hl, hl', this], fun i x y p q => ?_⟩).mono ?_
      · have hal : args.length = cargs.size := by simpa using ha.1
        simp only [Array.toList_append] at q
        rw [List.append_assoc] at p q
        by_cases i1 : i < first.length
        · rw [List.getElem?_append_left i1] at p
          rw [List.getElem?_append_left (by simpa [← hl] using i1)] at q
          exact h1 i x y p (by simpa using q)
        · rw [List.getElem?_append_right (by omega)] at p
          rw [List.getElem?_append_right (by simp; omega)] at q
          have e1 : fa.toList.length = first.length := by simp [hl]
          rw [e1] at q
          by_cases i2 : i - first.length < args.length
          · rw [List.getElem?_append_left i2] at p
            rw [List.getElem?_append_left (by simpa [← hal] using i2)] at q
            exact ha.2 _ x y p q
          · rw [List.getElem?_append_right (by omega)] at p
            rw [List.getElem?_append_right (by simp; omega)] at q
            have e2 : cargs.toList.length = args.length := by simp [hal]
            rw [e2] at q
            exact h2 _ x y p (by simpa using q)
      · rintro e w' ⟨v, rfl, C', Z', q1, q2, q3⟩
        exact ⟨v, C', Z', rfl, q1, q2, q3⟩

/-- A block that is handed over for good: it lies frozen from here on. -/
def kill (b:Blk):Blk:=⟨false,b.gen+1,b.sz,true,[],false⟩
/-- A call of what only reads: what it is handed is handed over for good. -/
theorem Xb {fv fv':AV} {args args':List AV} {bs:List Blk} {res:AV} {o1 o2:List Prop} (hf:(frz 8 fv).run (bs[·]?)=some (fv',o1)) (h1:AllP o1)
 (ha:(frzL (frz 8) args).run (bs[·]?)=some (args',o2)) (h2:AllP o2) (hp:Qi P fv' args' res):QO P fv args bs res (bs.map kill):=by
 intro Z w C cf cargs hm hcf hca
 obtain ⟨d,f,as',r1,r2,r3⟩:=hp (ZL C Z) w cf cargs (fun b hz=>by
  rcases hz with hz | ⟨k,o,hb⟩
  · exact hm.zlt b hz
  · exact (hm.own k b o hb).1) (XX hm hf h1 hcf) (Vm hm ha h2 hca)
 refine ⟨d,f,as',r1,r2,r3.mono ?_⟩
 rintro e w' ⟨v,rfl,hv,hfr⟩
 have hs:=hfr.size
 have lt_of:∀ k,C.β k ≠ .absent→k<bs.length:=fun k h=>by
  rcases Nat.lt_or_ge k bs.length with h' | h'
  · exact h'
  · exact absurd (hm.dom k h').1 h
 refine ⟨v,⟨fun _=>.absent,fun k=>if k<bs.length then C.γ k+1 else 0⟩,Zx (ZL C Z) w w',rfl,⟨⟨fun k=>?_,fun k hb hg=>?_⟩,fun k blk o arr e hb hg=>?_⟩,
  ⟨fun k b hb hl=>?_,fun k b hb=>?_,fun k b hb hd=>rfl,fun k hk=>?_,fun k k' b o o' h=>?_,fun k b o h=>?_,fun b hz=>?_,fun b hz=>.inl (.inl hz),fun b hz=>?_,?_⟩,hv.of0⟩
 · simp only
   split
   · omega
   · rw [(hm.dom k (by omega)).2]; exact Nat.le_refl _
 · simp only at hg
   rw [if_pos (lt_of k hb)] at hg; omega
 · simp only at hg
   rw [if_pos (lt_of k (by rw [hb]; simp))] at hg; omega
 · rw [List.getElem?_map,Option.map_eq_some_iff] at hb
   obtain ⟨b0,-,rfl⟩:=hb
   simp [kill] at hl
 · rw [List.getElem?_map,Option.map_eq_some_iff] at hb
   obtain ⟨b0,hb,rfl⟩:=hb
   have:=(List.getElem?_eq_some_iff.1 hb).1
   simp only [if_pos this,kill]
   rw [hm.gen k b0 hb]
 · simp only [List.length_map] at hk
   simp only [if_neg (show ¬ k<bs.length by omega),and_self]
 · cases h
 · cases h
 · rcases hz with (hz | ⟨k,o,hb⟩) | hz
   · have:=hm.zlt b hz; omega
   · have:=(hm.own k b o hb).1; omega
   · exact hz.2
 · rcases hz with (hz | hz) | hz
   · exact .inl hz
   · exact .inr (.inl hz)
   · exact .inr (.inr hz.1)
 · exact hfr.weaken fun _ h=>h.elim
/-- To the end of a function that turns what it was handed: the first 'm' blocks are left. -/
def endB (P:Program) (fn:Func) (live:List Nat) (m n:Nat) (K:List Item) (st:St) (evs:List EV):Option (AV × List Blk × List Prop) :=
 match walk P n K st evs with
 | some (K',st1,evs1,o1) =>
  (match isEnd K',weak live m st1 with
  | true,some st2 =>
   (match resA P st2 fn.results.toList evs1 with
   | some (vs,_,o2)=>some (tupA vs,st2.blks,o1++o2)
   | none=>none)
  | _,_=>none)
 | none=>none
theorem Qr {n m:Nat} {live:List Nat} {f:FuncId} {fn:Func} {evs:List EV} {r res:AV} {gA:List AV} {bs2 bs3:List Blk} {obs:List Prop} (hE:LentE P f gA res bs2 E) (hgh:refsBelows m E.gA=true) (hf:P.funcs[f]?=some fn) (hmx:P.follows .mixedOrders=true)
 (h:endB P fn live m n K st evs=some (r,bs3,obs)) (ho:AllP obs) (hr:r=res) (hb:bs3=bs2):G P E K st:=by
 subst hr
 subst hb
 unfold endB at h
 split at h
 · rename_i K' st1 evs1 o1 h1
   split at h
   · rename_i st2 hK h2
     split at h
     · rename_i vs evs2 o2 h3
       simp only [Option.some.injEq,Prod.mk.injEq] at h
       obtain ⟨rfl,rfl,rfl⟩:=h
       obtain ⟨a1,a2⟩:=Qm.1 ho
       have hfn:=hE.fn
       refine QL hE.kind hmx h1 a1 (weak_step hgh h2 (G_end (Post:=Left E.Z0 E.M E.w0 E.Cb (tupA vs) st2.blks) hE.ro hE.kind hE.df (by rw [hfn]; exact hf) (by rw [hE.fin,hfn]) h3 a2 (fun C Z w v hm hv hbs=>⟨C,Z,hE.wb ▸ hbs,hm,hv⟩) (Wp hK)))
     · cases h
   · cases h
 · cases h
end
end Ax
namespace Ax
open Go
section
variable {P:Program} {E:Env} {K K':List Item} {st st':St}
/-! ### The frame of a deferred closure -/
def EndedK (P:Program) (f:FuncId) (cs:List Frame) (Post:Value→World→Prop) (m:Machine):Prop :=
 ∃ v w' fr,m=lone fr cs w'∧fr.kind=.deferred∧fr.going P w' (.returned v)∧Post v w'
structure LentKE (P:Program) (f:FuncId) (gA:List AV) (res:AV) (bs2:List Blk) (E:Env):Prop where
 ro:E.b.roundOf=none
 kind:E.b.kind=.deferred
 fn:E.b.fn=f
 gA:E.gA=gA
 df:E.df=[]
 fin:E.Fin=EndedK P f E.cs (Left E.Z0 E.M E.w0 E.Cb res bs2)
 wb:E.wb=E.w0
theorem LentKE.nogh {f:FuncId} {k g:Nat} {res:AV} {bs2:List Blk} (hE:LentKE P f [.sl k g 0 0 1] res bs2 E) {m:Nat} (h:Nat.ble (k+1) m=true):refsBelows m E.gA=true:=by
 rw [hE.gA]
 have:=Nat.le_of_ble_eq_true h
 simp [refsBelows,QW]; omega
/-! ### The frame that has deferred -/
structure LentDE (P:Program) (f:FuncId) (g0:List AV) (clo:AV) (res:AV) (bs2:List Blk) (E:Env):Prop where
 ro:E.b.roundOf=none
 kind:E.b.kind=.normal
 fn:E.b.fn=f
 gA:E.gA=g0++[clo]
 df:∃ cf d,E.gV.getLast?=some cf∧(∀ w,(Deferred.ofValue cf #[]).run P w=.ok d w)∧E.df=[d]
 fin:E.Fin=Wz P f E.cs (Left E.Z0 E.M E.w0 E.Cb res bs2)
 low:∀ n,refsBelows n g0=true→∀ k,n≤k→E.Cb.β k=.absent∧E.Cb.γ k=0
 wb:E.wb=E.w0
theorem LentDE.nogh {f:FuncId} {k g fi k2 g2 o2:Nat} {res:AV} {bs2:List Blk} (hE:LentDE P f [.sl k g 0 0 1] (.clos fi [] [.ptr k2 g2 o2]) res bs2 E) {m:Nat} (h:(Nat.ble (k+1) m && Nat.ble (k2+1) m)=true):refsBelows m E.gA=true:=by
 rw [hE.gA]
 rw [Bool.and_eq_true] at h
 have h1:=Nat.le_of_ble_eq_true h.1
 have h2:=Nat.le_of_ble_eq_true h.2
 simp [refsBelows,QW]; omega
/-! ### What comes back in new memory -/
def qt (P:Program) (f:FuncId) (args:List AV) (res:AV):Prop :=
 ∀ (Z:Nat→Prop) (w:World) (cargs:Array Value),(∀ b,Z b→b<w.heap.size)→VRs Z w C0 args cargs.toList →
  Calls P f cargs w fun e w'=>∃ v,e=.returned v∧VR (Zn w w') w' C0 res v∧Fr w (fun _=>False) w'
structure PureNE (P:Program) (f:FuncId) (res:AV) (E:Env):Prop where
 ro:E.b.roundOf=none
 kind:E.b.kind=.normal
 fn:E.b.fn=f
 nm:∀ b,¬ E.M b
 gA:E.gA=[]
 fin:E.Fin=(Wz P f E.cs fun v w'=>VR (Zn E.w0 w') w' C0 res v∧Fr E.w0 (fun _=>False) w')
 cb:E.Cb=C0
 df:E.df=[]
theorem PureNE.nogh {f:FuncId} {res:AV} (hE:PureNE P f res E) (m:Nat):refsBelows m E.gA=true:=by rw [hE.gA]; rfl
theorem yB {f:FuncId} {fn:Func} {c:Code} {args:List AV} {res:AV} (hf:P.funcs[f]?=some fn) (hb:fn.body=some c)
 (h:∀ E,PureNE P f res E→G P E [.code c] ⟨args++unds (fn.ntmps - args.length),[]⟩):qt P f args res:=by
 intro Z w cargs hz ha cs
 have hE:PureNE P f res (callEnv P f Z (fun _=>False) w cs fun v w'=>VR (Zn w w') w' C0 res v∧Fr w (fun _=>False) w') :=
  ⟨rfl,rfl,rfl,fun _ h=>h,rfl,rfl,rfl,rfl⟩
 have henter:Frame.enter P f cargs .normal=({ (default:Frame) with fn:=f,kind:=.normal }:Frame).atR { tmps:=cargs++Array.replicate (fn.ntmps - cargs.size) undef,defers:=[] } [.code c]:=by
  simp only [Frame.enter,Frame.atR,hf,hb,Option.map_some,Option.getD_some,Option.bind_some]; rfl
 have hl:args.length=cargs.size:=by simpa using ha.1
 obtain ⟨m',s,v,w',fr,rfl,r1,r2,r3⟩:=h _ hE C0 Z { tmps:=cargs++Array.replicate (fn.ntmps - cargs.size) undef,defers:=[] } w
  ⟨⟨by simp [Yd,hl],fun i x y p q=>by
   simp only [Array.toList_append,Array.toList_replicate] at q
   rw [Yd] at p
   by_cases hi:i<args.length
   · rw [List.getElem?_append_left hi] at p
     rw [List.getElem?_append_left (by simpa [← hl] using hi)] at q
     exact ha.2 i x y p q
   · rw [List.getElem?_append_right (by omega)] at p
     rw [List.getElem?_append_right (by simp; omega)] at q
     have p':=List.mem_replicate.1 (List.mem_of_getElem? p)
     have q':=List.mem_replicate.1 (List.mem_of_getElem? q)
     rw [p'.2,q'.2]
     exact .tup rfl (by simp)⟩,mem_nil hz,⟨[],.nil,.nil,by simp⟩,⟨rfl,fun _ _ _ h _=>by cases h⟩,.bot⟩
 rw [henter]
 exact ⟨.returned v,w',fr,⟨v,rfl,r3⟩,s,r1,r2⟩
theorem QK {f : FuncId} {fn : Func} {c : Code} {first args cap : List AV} {res : AV} (hf : P.funcs[f]? = some fn) (hname : (fn.name == "runtime.NumGoroutine") = false) (hb : fn.body = some c)
    (h : qt P f (first ++ args ++ cap) res) : Yp P (.clos f first cap) args res := by
  intro Z w cf cargs hz hcf ha
  cases hcf with
  | @clos _ _ _ _ fa ca hl h1 hl' h2 =>
    refine ⟨{ target := .fn (.func f) ca, args := fa ++ cargs }, f, fa ++ cargs ++ ca, rfl, ?_, ?_⟩
    · have := Go.Proofs.enters_of (P := P) hf hname hb (fa ++ cargs ++ ca) w
      simpa [invoke] using this
    · refine h Z w _ hz ⟨by have := ha.1; simp at this; simp [hl, hl', this], fun i x y p q => ?_⟩
      have hal : args.length = cargs.size := by simpa using ha.1
      simp only [Array.toList_append] at q
      rw [List.append_assoc] at p q
      by_cases i1 : i < first.length
      · rw [List.getElem?_append_left i1] at p
        rw [List.getElem?_append_left (by simpa [← hl] using i1)] at q
        exact h1 i x y p (by simpa using q)
      · rw [List.getElem?_append_right (by omega)] at p
        rw [List.getElem?_append_right (by simp; omega)] at q
        have e1 : fa.toList.length = first.length := by simp [hl]
        rw [e1] at q
        by_cases i2 : i - first.length < args.length
        · rw [List.getElem?_append_left i2] at p
          rw [List.getElem?_append_left (by simpa [← hal] using i2)] at q
          exact ha.2 _ x y p q
        · rw [List.getElem?_append_right (by omega)] at p
          rw [List.getElem?_append_right (by simp; omega)] at q
          have e2 : cargs.toList.length = args.length := by simp [hal]
          rw [e2] at q
          exact h2 _ x y p (by simpa using q)

theorem VR.layN {Z Z0 M:Nat→Prop} {w0 w:World} {C:Ctx} {blks:List Blk} (hm:Mem Z0 M w0 C Z blks w) {k g off len sz:Nat} {b:Blk} {c:Value} (hb:blks[k]?=some b) (hl:b.live=true) (hz:b.sz ≠ 0) (hf:b.flat=true) (hg:g=b.gen) (hsc:∀ x ∈ b.cells,Xt x=true)
 (h:VR Z w C (.sl k g off len sz) c) {C':Ctx}:VR (fun c=>∃ o,C.β k=.loc c o) w C' (.rsl b.cells off len) c:=by
 have hok:=yr hm hb hg h
 obtain ⟨hk,h1⟩:=hm.blk k b hb hl
 unfold SlOk at hok
 split at hok
 · rename_i bl o hβ
   obtain ⟨a,cap,rfl,hlc,ha,-⟩:=hok
   simp only [hβ] at h1
   obtain ⟨arr,e,hh,hsz,hc⟩:=h1.cells hz
   by_cases hlen:len=0
   · subst hlen; exact .rsl0
   · obtain rfl:=ha (by omega)
     refine .rsl (fun i=>arr.getD (o+i) undef) ⟨o,hβ⟩ hlc (fun i hi=>?_) hk (fun i c hi=>?_)
     · rw [Yb hh]; simp [Array.getD,show o+i<arr.size by omega]
     · obtain ⟨v,h2,h3⟩:=hc i c hi
       simp only [hf,if_true] at h3
       have:arr.getD (o+i) undef=v:=by
        have hlt:=(Array.getElem?_eq_some_iff.1 h2).1
        simp [Array.getD,hlt]; exact (Array.getElem?_eq_some_iff.1 h2).2
       show VR _ w C0 c (arr.getD (o+i) undef)
       rw [this]
       exact Yy (hsc c (List.mem_of_getElem? hi)) h3
 · obtain ⟨rfl,a,rfl⟩:=hok
   exact .rsl0
 · exact hok.elim
/-- A value that leads nowhere but to flat blocks of scalars of the call's own,laid down. -/
def frN1 (blks:List Blk):AV→Option (AV × List Prop)
 | .sl k g off len _=>(match blks[k]? with
  | some b=>(match b.live && b.flat && b.sz != 0 with
   | true=>some (.rsl b.cells off len,[g=b.gen,∀ x ∈ b.cells,Xt x=true])
   | false=>none)
  | none=>none)
 | v=>(match Xt v with
  | true=>some (v,[])
  | false=>none)
def frNL (blks:List Blk):List AV→Option (List AV × List Prop)
 | []=>some ([],[])
 | v :: vs=>(match frN1 blks v,frNL blks vs with
  | some (r,o),some (rs,os)=>some (r :: rs,o++os)
  | _,_=>none)
def frN (blks:List Blk):AV→Option (AV × List Prop)
 | .agg cs=>(match frNL blks cs with
  | some (rs,o)=>some (.agg rs,o)
  | none=>none)
 | .tup cs=>(match frNL blks cs with
  | some (rs,o)=>some (.tup rs,o)
  | none=>none)
 | v=>frN1 blks v
theorem QaO {Z Z0 M:Nat→Prop} {w0 w:World} {C C':Ctx} {blks:List Blk} (hm:Mem Z0 M w0 C Z blks w) {v r:AV} {c:Value} {o:List Prop} (h:frN1 blks v=some (r,o)) (ho:AllP o) (hv:VR Z w C v c):VR (Own C) w C' r c:=by
 have sc:∀ v,Xt v=true→VR Z w C v c→VR (Own C) w C' v c:=fun v hs hv=>Yy hs hv
 cases v with
 | sl k g off len sz =>
  simp only [frN1] at h
  split at h
  · rename_i b hb
    split at h
    · rename_i hlb
      simp only [Option.some.injEq,Prod.mk.injEq] at h
      obtain ⟨rfl,rfl⟩:=h
      simp only [Bool.and_eq_true,bne_iff_ne,ne_eq] at hlb
      exact (VR.layN hm hb hlb.1.1 hlb.2 hlb.1.2 ho.1 ho.2.1 hv).zmono fun c ⟨o,hc⟩=>⟨k,o,hc⟩
    · cases h
  · cases h
 | _ =>
  simp only [frN1] at h
  split at h
  · rename_i hs
    simp only [Option.some.injEq,Prod.mk.injEq] at h
    obtain ⟨rfl,-⟩:=h
    exact sc _ hs hv
  · cases h
theorem qJ {Z Z0 M:Nat→Prop} {w0 w:World} {C C':Ctx} {blks:List Blk} (hm:Mem Z0 M w0 C Z blks w):∀ {vs rs:List AV} {o:List Prop},frNL blks vs=some (rs,o)→AllP o→rs.length=vs.length ∧
 ∀ (i:Nat) (r:AV) (c:Value),rs[i]?=some r→(∀ v,vs[i]?=some v→VR Z w C v c)→VR (Own C) w C' r c
 | [],rs,o,h,ho=>by
  simp only [frNL,Option.some.injEq,Prod.mk.injEq] at h
  obtain ⟨rfl,-⟩:=h
  exact ⟨rfl,fun i r c h=>by simp at h⟩
 | v :: vs,rs,o,h,ho=>by
  simp only [frNL] at h
  split at h
  · rename_i r1 o1 rs1 os1 h1 h2
    simp only [Option.some.injEq,Prod.mk.injEq] at h
    obtain ⟨rfl,rfl⟩:=h
    obtain ⟨p1,p2⟩:=Qm.1 ho
    obtain ⟨q1,q2⟩:=qJ (C':=C') hm h2 p2
    refine ⟨by simp [q1],fun i r c hr hv=>?_⟩
    cases i with
    | zero =>
     simp only [List.getElem?_cons_zero,Option.some.injEq] at hr
     subst hr
     exact QaO hm h1 p1 (hv v rfl)
    | succ i=>exact q2 i r c (by simpa using hr) (fun v hv'=>hv v (by simpa using hv'))
  · cases h
theorem frN_sound {Z Z0 M:Nat→Prop} {w0 w:World} {C C':Ctx} {blks:List Blk} (hm:Mem Z0 M w0 C Z blks w) {v r:AV} {c:Value} {o:List Prop} (h:frN blks v=some (r,o)) (ho:AllP o) (hv:VR Z w C v c):VR (Own C) w C' r c:=by
 cases v with
 | agg cs =>
  simp only [frN] at h
  split at h
  · rename_i rs o1 h1
    simp only [Option.some.injEq,Prod.mk.injEq] at h
    obtain ⟨rfl,rfl⟩:=h
    obtain ⟨q1,q2⟩:=qJ (C':=C') hm h1 ho
    cases hv with
    | agg hl hh=>exact .agg (by rw [q1]; exact hl) fun i r c hr hc=>q2 i r c hr fun v hv=>hh i v c hv hc
  · cases h
 | tup cs =>
  simp only [frN] at h
  split at h
  · rename_i rs o1 h1
    simp only [Option.some.injEq,Prod.mk.injEq] at h
    obtain ⟨rfl,rfl⟩:=h
    obtain ⟨q1,q2⟩:=qJ (C':=C') hm h1 ho
    cases hv with
    | tup hl hh=>exact .tup (by rw [q1]; exact hl) fun i r c hr hc=>q2 i r c hr fun v hv=>hh i v c hv hc
  · cases h
 | _=>exact QaO hm (by simpa only [frN] using h) ho hv
def endN (P:Program) (fn:Func) (n:Nat) (K:List Item) (st:St) (evs:List EV):Option (AV × List Prop) :=
 match walk P n K st evs with
 | some (K',st',evs',o1) =>
  (match isEnd K',resA P st' fn.results.toList evs' with
  | true,some (vs,_,o2) =>
   (match frN st'.blks (tupA vs) with
   | some (r,o3)=>some (r,o1++(o2++o3))
   | none=>none)
  | _,_=>none)
 | none=>none
theorem Xg {n:Nat} {f:FuncId} {fn:Func} {evs:List EV} {r res:AV} {obs:List Prop} (hE:PureNE P f res E) (hf:P.funcs[f]?=some fn) (hmx:P.follows .mixedOrders=true)
 (h:endN P fn n K st evs=some (r,obs)) (ho:AllP obs) (hr:r=res):G P E K st:=by
 subst hr
 unfold endN at h
 split at h
 · rename_i K' st' evs' o1 h1
   split at h
   · rename_i vs evs2 o2 hK h2
     split at h
     · rename_i r' o3 h3
       simp only [Option.some.injEq,Prod.mk.injEq] at h
       obtain ⟨rfl,rfl⟩:=h
       obtain ⟨a1,a2⟩:=Qm.1 ho
       obtain ⟨a2,a3⟩:=Qm.1 a2
       have hfn:=hE.fn
       refine QL hE.kind hmx h1 a1 (G_end (Post:=fun v w'=>VR (Zn E.w0 w') w' C0 r' v∧Fr E.w0 (fun _=>False) w') hE.ro hE.kind hE.df (by rw [hfn]; exact hf) (by rw [hE.fin,hfn]) h2 a2 (fun C Z w v hm hv _=>⟨?_,?_⟩) (Wp hK))
       · refine (frN_sound hm h3 a3 hv).zmono fun c hc=>?_
         obtain ⟨k,o,hc⟩:=hc
         obtain ⟨q1,q2,q3⟩:=hm.own k c o hc
         exact ⟨q3.resolve_left (hE.nm c),q1⟩
       · have:=hm.frame
         exact ⟨this.os,this.tape,this.output,this.size,fun b hb _=>this.same b hb (hE.nm b)⟩
     · cases h
   · cases h
 · cases h
/-- What gives back a slice over new memory, as it is called amid others. -/
theorem Vv {f : FuncId} {fn : Func} {c : Code} {first args cap : List AV} {g len sz : Nat} {cells : List AV} (hf : P.funcs[f]? = some fn) (hname : (fn.name == "runtime.NumGoroutine") = false) (hb : fn.body = some c)
    (h : Lent P f (first ++ args ++ cap) [] (.sl 0 g 0 len sz) [⟨true, g, sz, true, cells, true⟩]) (hz : sz ≠ 0) (hsc : ∀ x ∈ cells, Xt x = true) : PureO P (.clos f first cap) args len sz cells := by
  intro Z w cf cargs hzl hcf ha
  have hno : ∀ b, ¬ Own C0 b := fun b ⟨k, o, h⟩ => by simp [C0] at h
  have hm : Mem Z (Own C0) w C0 Z [] w := ⟨fun k b h => by simp at h, fun k b h => by simp at h, fun k b h => by simp at h, fun k _ => ⟨rfl, rfl⟩, fun k k' b o o' h => by simp [C0] at h, fun k b o h => by simp [C0] at h, hzl, fun b h => h, fun b h => .inl h, .refl w _⟩
  obtain ⟨d, f', as1, r1, r2, r3⟩ := Qt hf hname hb h Z w C0 cf cargs hm hcf ha
  refine ⟨d, f', as1, r1, r2, r3.mono ?_⟩
  rintro e w' ⟨v, C', Z', rfl, hbase, hm', hv⟩
  have hfr : Fr w (fun _ => False) w' := ⟨hm'.frame.os, hm'.frame.tape, hm'.frame.output, hm'.frame.size, fun b h1 _ => hm'.frame.same b h1 (hno b)⟩
  refine ⟨v, rfl, ?_, hfr⟩
  have hb0 : ([⟨true, g, sz, true, cells, true⟩] : List Blk)[0]? = some ⟨true, g, sz, true, cells, true⟩ := rfl
  have hgen := hm'.gen 0 _ hb0
  obtain ⟨hk, hblk⟩ := hm'.blk 0 _ hb0 rfl
  cases hv with
  | sl _ _ hs =>
    have hs := hs hgen.symm
    unfold SlOk at hs
    cases hβ : C'.β 0 with
    | absent => simp [hβ] at hs
    | unborn =>
      simp only [hβ] at hs hblk
      obtain ⟨rfl, a, rfl⟩ := hs
      exact .inl ⟨rfl, hblk, a, rfl⟩
    | loc blk o =>
      simp only [hβ] at hs hblk
      obtain ⟨a, cp, rfl, h1, h2, arr, e, h3, h4⟩ := hs
      obtain ⟨arr', e', h5, h6, h7⟩ := hblk.cells hz
      rw [h3] at h5
      simp only [Option.some.injEq, Obj.cells.injEq] at h5
      obtain ⟨rfl, rfl, -⟩ := h5
      have hown := (hm'.own 0 blk o hβ).2.2
      refine .inr ⟨blk, o, a, cp, arr, e, rfl, h1, by simpa using h2, hown.resolve_left (hno blk), h3, by simpa using h4, h6, fun i c hi => ⟨hk i c hi, ?_⟩⟩
      obtain ⟨u, q1, q2⟩ := h7 i c hi
      exact ⟨u, q1, fun Z C => Yy (hsc c (List.mem_of_getElem? hi)) q2⟩
end
end Ax
namespace Ax
open Go
section
variable {P:Program} {E:Env} {K k:List Item} {st:St}
end
end Ax
namespace Ax
open Go
def yx:List AV→List AV→Prop
 | [],[]=>True
 | x :: xs,y :: ys=>AvLe x y∧QY y=true∧Xx y=true∧yx xs ys
 | _,_=>False
theorem yx.app:∀ {a b c d:List AV},yx a b→yx c d→yx (a++c) (b++d)
 | [],[],c,d,_,h=>h
 | x :: a,y :: b,c,d,h1,h2=>⟨h1.1,h1.2.1,h1.2.2.1,yx.app h1.2.2.2 h2⟩
theorem yx.length:∀ {a b:List AV},yx a b→b.length=a.length
 | [],[],_=>rfl
 | x :: a,y :: b,h=>by simp [yx.length h.2.2.2]
theorem yx.get:∀ {a b:List AV} {i:Nat} {y:AV},yx a b→b[i]?=some y→∃ x,a[i]?=some x∧AvLe x y∧QY y=true∧Xx y=true
 | [],[],i,y,_,h=>by simp at h
 | x :: a,z :: b,0,y,h,hi=>by simp at hi; subst hi; exact ⟨x,rfl,h.1,h.2.1,h.2.2.1⟩
 | x :: a,z :: b,i+1,y,h,hi=>by
  obtain ⟨x',h1,h2⟩:=yx.get h.2.2.2 (by simpa using hi)
  exact ⟨x',by simpa using h1,h2⟩
section
variable {P:Program} {E:Env} {K:List Item} {st:St}
end
end Ax
namespace Ax
open Go
section
variable {P:Program} {E:Env} {K K':List Item} {st st':St}
def cutOk (n:Nat) (blks:List Blk):Bool:=(blks.take n).all fun b=>!b.live || b.flat || refsBelows n (bif b.sz == 0 then b.cells.take 1 else b.cells)
theorem Mem.cut {Z0 M Z:Nat→Prop} {w0 w:World} {C:Ctx} {blks:List Blk} {n:Nat} (hm:Mem Z0 M w0 C Z blks w) (h2:cutOk n blks=true):Mem Z0 M w0 (C.cut n) Z (blks.take n) w:=by
 have hget:∀ {k:Nat} {b:Blk},(blks.take n)[k]?=some b→k<n∧blks[k]?=some b:=by
  intro k b hb
  rw [List.getElem?_take] at hb
  split at hb
  · exact ⟨‹_›,hb⟩
  · cases hb
 refine ⟨fun k b hb hl=>?_,fun k b hb=>?_,fun k b hb hd=>?_,fun k hk=>?_,fun k k' c o o' e1 e2=>?_,fun k c o e1=>?_,hm.zlt,hm.z0,hm.zsub,hm.frame⟩
 · obtain ⟨hkn,hb'⟩:=hget hb
   obtain ⟨q1,q2⟩:=hm.blk k b hb' hl
   refine ⟨q1,?_⟩
   simp only [Ctx.cut,hkn,if_true]
   cases hs:C.β k with
   | absent=>simp [hs] at q2
   | unborn=>simp only [hs] at q2 ⊢; exact q2
   | loc blk o =>
    simp only [hs] at q2 ⊢
    refine q2.next1 rfl (fun c v h=>h) fun hf c v hc s2=>?_
    have:=List.all_eq_true.1 h2 b (List.mem_of_getElem? hb)
    simp only [hl,hf,Bool.not_true,Bool.false_or] at this
    obtain ⟨i,hi⟩:=List.getElem?_of_mem hc
    exact s2.cut (Xa this hi)
 · obtain ⟨hkn,hb'⟩:=hget hb
   simp only [Ctx.cut,hkn,if_true]; exact hm.gen k b hb'
 · obtain ⟨hkn,hb'⟩:=hget hb
   simp only [Ctx.cut,hkn,if_true]; exact hm.dd k b hb' hd
 · simp only [List.length_take] at hk
   simp only [Ctx.cut]
   by_cases hkn:k<n
   · simp only [hkn,if_true]; exact hm.dom k (by omega)
   · simp [hkn]
 · simp only [Ctx.cut] at e1 e2
   split at e1 <;> split at e2 <;> first | exact hm.inj k k' c o o' e1 e2 | cases e1 | cases e2
 · simp only [Ctx.cut] at e1
   split at e1
   · exact hm.own k c o e1
   · cases e1
/-! ### Nil slices in a block's cells,seen as empty ones -/
def LeD:List AV→List AV→Prop
 | [],[]=>True
 | x :: xs,y :: ys=>(x=y ∨ (x=.nilSl∧y=.rsl [] 0 0))∧LeD xs ys
 | _,_=>False
theorem LeD.refl:∀ (a:List AV),LeD a a
 | []=>trivial
 | _ :: a=>⟨.inl rfl,LeD.refl a⟩
theorem LeD.app:∀ {a b c d:List AV},LeD a b→LeD c d→LeD (a++c) (b++d)
 | [],[],_,_,_,h=>h
 | _ :: _,_ :: _,_,_,h1,h2=>⟨h1.1,LeD.app h1.2 h2⟩
theorem LeD.length:∀ {a b:List AV},LeD a b→b.length=a.length
 | [],[],_=>rfl
 | _ :: _,_ :: _,h=>by simp [LeD.length h.2]
theorem LeD.get:∀ {a b:List AV} {i:Nat} {y:AV},LeD a b→b[i]?=some y→∃ x,a[i]?=some x∧(x=y ∨ (x=.nilSl∧y=.rsl [] 0 0))
 | [],[],i,y,_,h=>by simp at h
 | x :: a,z :: b,0,y,h,hi=>by simp at hi; subst hi; exact ⟨x,rfl,h.1⟩
 | x :: a,z :: b,i+1,y,h,hi=>by
  obtain ⟨x',h1,h2⟩:=LeD.get h.2 (by simpa using hi)
  exact ⟨x',by simpa using h1,h2⟩
/-! ### A segment whose blocks hold symbolic rows beside references -/
mutual
theorem refsBelow_nr {n:Nat}:∀ {v:AV},Xx v=true→QW n v=true
 | .ptr ..,h=>by simp [Xx] at h
 | .sl ..,h=>by simp [Xx] at h
 | .mp ..,h=>by simp [Xx] at h
 | .pm ..,h=>by simp [Xx] at h
 | .agg cs,h=>by simp only [Xx,QW] at h ⊢; exact refsBelows_nr h
 | .tup cs,h=>by simp only [Xx,QW] at h ⊢; exact refsBelows_nr h
 | .clos _ a b,h=>by
  simp only [Xx,QW,Bool.and_eq_true] at h ⊢
  exact ⟨refsBelows_nr h.1,refsBelows_nr h.2⟩
 | .bool ..,_=>rfl
 | .int ..,_=>rfl
 | .nilPtr,_=>rfl
 | .rptr ..,_=>rfl
 | .nilSl,_=>rfl
 | .rsl ..,_=>rfl
 | .nilFunc,_=>rfl
 | .rmap ..,_=>rfl
 | .opq ..,_=>rfl
 | .junk,_=>rfl
theorem refsBelows_nr {n:Nat}:∀ {cs:List AV},noRefs cs=true→refsBelows n cs=true
 | [],_=>rfl
 | c :: cs,h=>by
  simp only [noRefs,refsBelows,Bool.and_eq_true] at h ⊢
  exact ⟨refsBelow_nr h.1,refsBelows_nr h.2⟩
end
/-! ### A call that turns one block of the caller's,in a region whose order is drawn -/
theorem Vu {fv:AV} {args:List AV} {k:Nat} {b b':Blk} {res:AV} (h:QO P (ren (fun j=>[k].idxOf j) fv) (rens (fun j=>[k].idxOf j) args) [b] res [b'])
 (hrf:Yn (fun j=>[k].contains j) fv=true) (hra:refsIns (fun j=>[k].contains j) args=true) (hfl:b.flat=true) (hfl':b'.flat=true) (hg:b'.gen=b.gen) (hres:Xx res=true):PureU P fv args k b b' res:=by
 intro Z0 M w0 w C Z blks cf cargs hm hb hf ha
 have hl:Ax.lend (fun j=>[k].idxOf j) (fun j=>[k].contains j) blks [k]=some [b]:=by simp [lend,hb,hfl,renB]
 obtain ⟨hm1,hρ,hcon⟩:=hm.lend (ρ:=[k]) rfl hl
 have hargs:VRs Z w (subC C [k]) (rens (fun j=>[k].idxOf j) args) cargs.toList:=by
  refine ⟨by rw [Xw]; exact ha.1,fun j c v p q=>?_⟩
  rw [Yx,Option.map_eq_some_iff] at p
  obtain ⟨c0,p,rfl⟩:=p
  exact (ha.2 j c0 v p q).ren hcon (Yf hra p)
 obtain ⟨d,f,args',r1,r2,r3⟩:=h Z w (subC C [k]) cf cargs hm1 (hf.ren hcon hrf) hargs
 refine ⟨d,f,args',r1,r2,r3.mono ?_⟩
 rintro e w' ⟨v,C1,Z1,rfl,hbase,hm2,hv⟩
 obtain ⟨hm3,hevo,hout⟩:=hm.given (ρ:=[k]) rfl hρ (by simp) hbase hm2
 have e1:Xo blks [k] ([b'].map (renB (outN blks.length [k])))++([b'].drop [k].length).map (renB (outN blks.length [k]))=blks.set k b':=by simp [Xo,renB,hfl']
 rw [e1] at hm3
 refine ⟨v,rfl,Ys C C1 blks.length [k],Z1,hevo.le,⟨hevo.zsub,hevo.same,fun j blk o arr e hb' ha'=>hevo.rows j blk o arr e hb' ?_ ha'⟩,hm3,hv.ctx hres⟩
 have hkl:=(List.getElem?_eq_some_iff.1 hb).1
 by_cases hj:j=k
 · subst hj
   rw [hm3.gen j b' (by simp [hkl]),hm.gen j b hb,hg]
 · simp only [Ys,inN]
   by_cases hjl:j<blks.length
   · simp [hjl,hj]
   · rw [(hm.dom j (by omega)).1] at hb'; cases hb'
end
end Ax
namespace Ax
open Go
theorem take_le {row:List AV} {k len:Nat}:AvLe (.rsl row 0 len) (.rsl (row.take k) 0 len):=fun Z w c h=>by
 cases h with
 | @rsl _ _ _ _ cap blk o cv hz hl hc hk hr =>
  refine .rsl cv hz hl (fun i hi=>?_) (fun i c hi=>?_) (fun i c hi=>?_)
  · rw [List.length_take] at hi; exact hc i (by omega)
  · rw [List.getElem?_take] at hi; split at hi
    · exact hk i c hi
    · cases hi
  · rw [List.getElem?_take] at hi; split at hi
    · exact hr i c hi
    · cases hi
 | rsl0=>exact .rsl0
theorem KE {α:Type} (c:α→List AV) {s:Nat} (hs:∀ x,(c x).length=s):∀ {l:List α} {k:Nat},(l.flatMap c).take (k*s)=(l.take k).flatMap c
 | [],k=>by simp
 | x :: l,0=>by simp
 | x :: l,k+1=>by
  have:=KE c hs (l:=l) (k:=k)
  rw [List.flatMap_cons,List.take_succ_cons,List.flatMap_cons,← this,List.take_append,hs x,List.take_of_length_le (by rw [hs x,Nat.add_mul]; omega)]
  congr 2
  rw [Nat.add_mul]; omega
theorem rsl_take {α:Type} (c:α→List AV) {s:Nat} (hs:∀ x,(c x).length=s) {l:List α} {len:Nat} (hl:len≤l.length) :
 AvLe (.rsl (l.flatMap c) 0 len) (.rsl ((l.take len).flatMap c) 0 (l.take len).length):=by
 rw [← KE c hs,List.length_take,Nat.min_eq_left hl]; exact take_le
section
variable {P:Program} {E:Env} {K:List Item} {st:St}
end
end Ax
namespace Ax
open Go
def Wy {α:Type}:List α→Nat→List α→List α
 | l,_,[]=>l
 | l,d,v :: vs=>Wy (l.set d v) (d+1) vs
theorem Xd {α:Type}:∀ {x l:List α} {d:Nat},(Wy l d x).length=l.length
 | [],l,d=>rfl
 | v :: x,l,d=>by simp only [Wy]; rw [Xd]; simp
theorem setAt_two:∀ {a b c:List AV} {off:Nat},Qu c off (a++b)=Qu (Qu c off a) (off+a.length) b
 | [],b,c,off=>rfl
 | x :: a,b,c,off=>by
  simp only [List.cons_append,Qu,List.length_cons]
  rw [setAt_two,show off+1+a.length=off+(a.length+1) by omega]
theorem setAt_mid:∀ {x c p:List AV},c.length=x.length→Qu (p++c) p.length x=p++x
 | [],c,p,h=>by rw [List.length_eq_zero_iff.1 h]; rfl
 | v :: x,[],p,h=>by simp at h
 | v :: x,y :: c,p,h=>by
  have e:(p++y :: c).set p.length v=(p++[v])++c:=by
   rw [List.set_append_right (h:=Nat.le_refl _),Nat.sub_self,List.set_cons_zero,List.append_assoc]; rfl
  simp only [Qu]
  rw [e,show p.length+1=(p++[v]).length by simp,setAt_mid (p:=p++[v]) (by simpa using h),List.append_assoc]; rfl
theorem setAt_full {x c:List AV} (h:c.length=x.length):Qu c 0 x=x:=setAt_mid (p:=[]) h
theorem We {α:Type}:∀ {x l:List α} {d i:Nat},d+x.length≤l.length→(Wy l d x)[i]?=if d≤i∧i<d+x.length then x[i - d]? else l[i]?
 | [],l,d,i,h=>by simp only [Wy,List.length_nil]; rw [if_neg (by omega)]
 | v :: x,l,d,i,h=>by
  simp only [List.length_cons] at h ⊢
  simp only [Wy]
  rw [We (by simp; omega)]
  by_cases c:d+1≤i∧i<d+1+x.length
  · rw [if_pos c,if_pos (by omega),show i - d=(i - (d+1))+1 by omega,List.getElem?_cons_succ]
  · rw [if_neg c]
    by_cases e:d=i
    · subst e
      rw [if_pos (by omega),List.getElem?_set_self (by omega),Nat.sub_self]; rfl
    · rw [if_neg (by omega),List.getElem?_set_ne e]
section
variable {α:Type} (f:α→List AV) {s:Nat} (hf:∀ a,(f a).length=s)
include hf
theorem copy_row0:∀ (x l:List α) (d:Nat),d+x.length≤l.length→Qu (l.flatMap f) (d*s) (x.flatMap f)=(Wy l d x).flatMap f
 | [],l,d,h=>rfl
 | v :: x,l,d,h=>by
  simp only [List.length_cons] at h
  rw [List.flatMap_cons,setAt_two,hf]
  have hd:l[d]?=some (l[d]'(by omega)):=List.getElem?_eq_getElem (by omega)
  have h1:=Qz f hf (k:=0) (xs:=f v) (a':=v) hd (setAt_full (by rw [hf,hf])) (by rw [hf]; omega)
  rw [show 0+d*s+0=d*s by omega] at h1
  rw [h1,show d*s+s=(d+1)*s by rw [Nat.add_mul]; omega]
  exact copy_row0 x (l.set d v) (d+1) (by simp; omega)
theorem yK {l sc:List α} {d si n off:Nat} (h1:d+n≤l.length) (h2:si+n≤sc.length) (he:off=d*s):Qu (l.flatMap f) off (((sc.drop si).take n).flatMap f)=(Wy l d ((sc.drop si).take n)).flatMap f:=by
 rw [he]
 exact copy_row0 f hf _ l d (by rw [List.length_take,List.length_drop]; omega)
theorem qr {l:List α} {d n off:Nat} (h:d+n≤l.length) (he:off=d*s):off+n*s≤(l.flatMap f).length:=by
 rw [QC f hf,he,← Nat.add_mul]
 exact Nat.mul_le_mul_right s h
theorem yJ {sc:List α} {si so:Nat} (n:Nat) (he:so=si*s):((sc.flatMap f).drop so).take (n*s)=((sc.drop si).take n).flatMap f:=by
 have hd:∀ (k:Nat) (l:List α),(l.flatMap f).drop (k*s)=(l.drop k).flatMap f:=by
  intro k
  induction k with
  | zero=>intro l; simp
  | succ k ih =>
   intro l
   cases l with
   | nil=>simp
   | cons a l =>
    rw [List.flatMap_cons,List.drop_succ_cons,← ih l,show (k+1)*s=(f a).length+k*s by rw [hf,Nat.add_mul]; omega,← List.drop_drop,List.drop_left]
 rw [he,hd,KE f hf]
theorem yL {sc:List α} {si n:Nat} (h:si+n≤sc.length):(((sc.drop si).take n).flatMap f).length=n*s:=by
 rw [QC f hf,List.length_take,List.length_drop,Nat.min_eq_left (by omega)]
end
end Ax
namespace Ax
open Go
section
variable {P:Program} {E:Env} {K K':List Item} {st st':St}
end
end Ax