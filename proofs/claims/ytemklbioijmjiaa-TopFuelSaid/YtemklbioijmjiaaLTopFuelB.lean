/- A part of the proof: several texts, one behind the other. -/
import Derived.Test.YtemklbioijmjiaaLTopFuelA
import Derived.RangeFuncRecord
import Derived.Laws.Sem
import Derived.Orders
import Derived.Shelf.Abstract
import Derived.ProofKit
import Derived.OpenShut
import Derived.WideShapes
import Derived.WideKeyArgs
import Derived.ChangeSame
set_option linter.unusedVariables false
set_option linter.unusedSimpArgs false
namespace Ax
open Go
section
variable {P:Program} {Z0 M Z Z':Nat→Prop} {w0 w w':World} {C:Ctx} {blks:List Blk} {evs:List EV} {eff:Eff} {evs':List EV} {obs:List Prop} {idx:Nat}
theorem OpOk.val {o:Oper} {ρ:Operand→Value} {s:Sem Value} {Q:Value→World→Prop} (he:execOp ρ o=(do pure (.value (← s)))) {c:Value} {w':World} (h:s.run P w=.ok c w') (hq:Q c w'):OpOk P o ρ w Q :=
 .inl ⟨c,w',by rw [he]; simp only [Sem.run_bind,h,Result.andThen_ok,Sem.run_pure],hq⟩
theorem VRs.map {ev:Operand→AV} {ρ:Operand→Value} (hv:∀ x,VR Z w C (ev x) (ρ x)) (xs:Array Operand):VRs Z w C (xs.toList.map ev) (xs.map ρ).toList:=by
 refine ⟨by simp,fun i c v h1 h2=>?_⟩
 simp only [List.getElem?_map,Array.toList_map] at h1 h2
 cases h:xs.toList[i]? with
 | none=>simp [h] at h1
 | some x=>simp [h] at h1 h2; rw [← h1,← h2]; exact hv x
theorem VRs.cons {x:AV} {xs:List AV} {cs:List Value} (h:VRs Z w C (x :: xs) cs):∃ c cs',cs=c :: cs'∧VR Z w C x c∧VRs Z w C xs cs':=by
 cases cs with
 | nil=>simp [VRs] at h
 | cons c cs=>exact ⟨c,cs,rfl,h.2 0 _ _ rfl rfl,by simpa using h.1,fun i a b h1 h2=>h.2 (i+1) a b (by simpa using h1) (by simpa using h2)⟩
theorem VRs.nil {cs:List Value} (h:VRs Z w C [] cs):cs=[]:=List.length_eq_zero_iff.1 h.1.symm
theorem VRo.map {ev:Operand→AV} {ρ:Operand→Value} (hv:∀ x,VR Z w C (ev x) (ρ x)) (o:Option Operand):VRo Z w C (o.map ev) (o.map ρ):=by
 cases o with
 | none=>trivial
 | some x=>exact hv x
theorem Mem.allocObj (hm:Mem Z0 M w0 C Z blks w) (hb:blks[idx]?=some dead) {cells:List AV} {fl:Bool} {ob:Obj} (hk:∀ (i:Nat) (c:AV),cells[i]?=some c→Xd c=true) (hr:XK C Z w fl cells ob) {it:Bool} :
 Res Z0 M w0 C Z blks w idx (.new ⟨true,0,0,fl,cells,false⟩ (fun k=>.mp k 0 it)) (WX it w.heap.size) (w.alloc ob):=by
 have habs:C.β idx=.absent:=hm.dd idx dead hb rfl
 have hg0:C.γ idx=0:=hm.gen idx dead hb
 have hh:(w.alloc ob).heap=w.heap.push ob:=rfl
 have hsz:(w.alloc ob).heap.size=w.heap.size+1:=by rw [hh]; simp
 have hβ:(C.put idx (.loc w.heap.size 0) 0).β idx=.loc w.heap.size 0:=by simp [Ctx.put]
 obtain ⟨h1,h2,h3⟩:=hm.change (b':=⟨true,0,0,fl,cells,false⟩) (w':=w.alloc ob) (s:=.loc w.heap.size 0) (g:=0) hb rfl rfl rfl (by omega) (fun c h1 _=>by rw [hh,Array.getElem?_push,if_neg (by omega)]) (fun blk o _ _ h=>by simp [habs] at h) (by omega) (fun h=>absurd habs h) rfl rfl
  (fun blk o h=>.inr (by simp only [Slot.loc.injEq] at h; omega)) fun hle hevo _=>⟨hk,by
    simp only [hβ]
    exact .inr ⟨rfl,ob,by rw [hh]; simp,hr.next (fun c v h=>h.mono hevo.zero) (fun c v _ h=>(h.mono hevo).grow hle)⟩⟩
 exact ⟨_,Z,h2,h3,h1,.mp (by simp [Ctx.put]) (by cases it <;> rfl) fun _=>⟨_,0,hβ,rfl⟩⟩
theorem qA {t:TypeId} {m k v:AV} {cm ck cv:Value} (hm:Mem Z0 M w0 C Z blks w) (h1:VR Z w C m cm) (h2:VR Z w C k ck) (h3:VR Z w C v cv)
 (h:(qY P t m k v evs).run (blks[·]?)=some (eff,evs',obs)) (ho:AllP obs):∃ w',(Instr.mapUpdate t cm ck cv).run P w=.ok () w'∧Res Z0 M w0 C Z blks w idx eff undef w':=by
 unfold qY at h
 split at h
 · rename_i kt et kk g ht
   split at h
   · simp [Rd.run] at h
   rename_i hc
   simp only [Bool.or_eq_true,Bool.not_eq_true',not_or,Bool.not_eq_false] at hc
   obtain ⟨⟨hko,hnk⟩,hnv⟩:=hc
   obtain ⟨b,hb,h⟩:=QC h
   obtain ⟨hl,hz,hf,hg,h⟩:=Vf h
   obtain ⟨blk,o,ob,hβ,rfl,q1,q2⟩:=yP hm hb hl hz hg h1
   obtain ⟨es,rfl,e1,e2⟩:=q2.ents hf
   have hk0:=h2.ctx (C':=C0) hnk
   have hv0:=h3.ctx (C':=C0) hnv
   obtain ⟨d,hd⟩:=keyOk_und hko
   split at h
   · rename_i i v0 r _ _
     simp only [Rd.run,Option.some.injEq,Prod.mk.injEq] at h
     obtain ⟨rfl,-,rfl⟩:=h
     have hget:(getObj blk).run P w=.ok (.map es es.size) w:=Xy q1 (by intro c t f; simp)
     obtain ⟨hkc,-⟩:=hm.blk kk b hb hl
     have hl1:b.cells.length=es.size:=by have:=e1.1; simpa using this
     obtain ⟨e,x1,x2,x3⟩:=yR (P:=P) hk0 e1 ho.1
     obtain ⟨k',y1,y2,-⟩:=ho.1
     obtain ⟨hek,hev⟩:=yE (e1.2 i _ _ y1 x1)
     have hsame:=same_key hk0 hek y2
     have x1':es[i]?=some e:=by simpa using x1
     have hset:=yf (P:=P) (ob':=.map (es.modify i fun e=>{ e with key:=ck,val:=cv }) es.size) q1 (by intro c t f; simp)
     refine ⟨w.putObj blk (.map (es.modify i fun e=>{ e with key:=ck,val:=cv }) es.size),?_,?_⟩
     · simp only [Instr.mapUpdate,Sem.run_bind,run_underlying ht,Result.andThen_ok,WX,Bool.false_eq_true,if_false,hget,qN hk0 hko,x3,Instr.keyThatStays,x1',Option.map_some,Option.getD_some,hsame,if_true,Sem.run_pure,hset]
     · have hw:=map_write (idx:=idx) (es':=es.modify i fun e=>{ e with key:=ck,val:=cv }) (cells':=b.cells.set i (.clos 0 [k] [v])) (av:=.junk) (c:=undef) hm hb hl hz hf hβ q1
        (fun j c hj=>by
          rw [List.getElem?_set] at hj
          split at hj
          · split at hj
            · cases hj; rfl
            · cases hj
          · exact hkc j c hj)
        (fun j x hj=>by
          rw [Array.getElem?_modify] at hj
          split at hj
          · rename_i e; subst e
            cases hx:es[i]? with
            | none=>rw [hx] at hj; cases hj
            | some y=>rw [hx] at hj; simp only [Option.map_some,Option.some.injEq] at hj; subst hj; exact e2 i y hx
          · exact e2 j x hj)
        ⟨by simp [hl1],fun j c x hj hx=>by
         rw [List.getElem?_set] at hj
         have hx':(es.modify i fun e=>{ e with key:=ck,val:=cv })[j]?=some x:=by rw [← Array.getElem?_toList]; exact hx
         rw [Array.getElem?_modify] at hx'
         split at hj
         · rename_i e; subst e
           split at hj
           · cases hj
             rw [if_pos rfl,x1'] at hx'
             simp only [Option.map_some,Option.some.injEq] at hx'
             subst hx'
             exact ent_mk hk0 hv0
           · cases hj
         · rename_i e
           rw [if_neg e] at hx'
           exact e1.2 j c x hj (by simpa using hx')⟩
        (.junk _)
       rw [Array.size_modify] at hw
       exact hw
   simp only [Rd.run,Option.some.injEq,Prod.mk.injEq] at h
   obtain ⟨rfl,-,rfl⟩:=h
   have hfind:=yS (P:=P) hd hk0 e1 ho.1
   have hget:(getObj blk).run P w=.ok (.map es es.size) w:=Xy q1 (by intro c t f; simp)
   have hset:=yf (P:=P) (ob':=.map (es.push { key:=ck,val:=cv,born:=es.size }) (es.size+1)) q1 (by intro c t f; simp)
   refine ⟨w.putObj blk (.map (es.push { key:=ck,val:=cv,born:=es.size }) (es.size+1)),?_,?_⟩
   · simp only [Instr.mapUpdate,Sem.run_bind,run_underlying ht,Result.andThen_ok,WX,Bool.false_eq_true,if_false,hget,qN hk0 hko,hfind,hset]
   have hC:C.put kk (.loc blk o) b.gen=C:=by
    have e1:=hm.gen kk b hb
    cases C with
    | mk β γ =>
     simp only [Ctx.put,Ctx.mk.injEq]
     constructor
     · funext j; by_cases e:j=kk
       · subst e; simp; exact hβ.symm
       · simp [e]
     · funext j; by_cases e:j=kk
       · subst e; simp; exact e1.symm
       · simp [e]
   have hblt:blk<w.heap.size:=(hm.own kk blk o hβ).1
   obtain ⟨hkc,-⟩:=hm.blk kk b hb hl
   have hch:=hm.change (w':=w.putObj blk (.map (es.push { key:=ck,val:=cv,born:=es.size }) (es.size+1))) (b':={ b with cells:=b.cells++[.clos 0 [k] [v]] }) (s:=.loc blk o) (g:=b.gen) hb
    rfl rfl rfl (by simp) (fun c hc hne=>World.putObj_heap_other (fun e=>hne o (by rw [e]; exact hβ)))
    (fun blk2 o2 arr2 e2 h2 h3=>by
      rw [hβ] at h2; simp only [Slot.loc.injEq] at h2; obtain ⟨rfl,rfl⟩:=h2
      rw [q1] at h3; cases h3)
    (by rw [hm.gen kk b hb]; exact Nat.le_refl _) (fun _ _=>hβ.symm) hl rfl (fun blk2 o2 h2=>by simp only [Slot.loc.injEq] at h2; obtain ⟨rfl,rfl⟩:=h2; exact .inl ⟨_,hβ⟩)
    (fun hle hevo _=>by
      refine ⟨fun i c hi=>?_,?_⟩
      · rw [List.getElem?_append] at hi
        split at hi
        · exact hkc i c hi
        · have:=List.mem_of_getElem? hi
          simp only [List.mem_singleton] at this
          subst this; rfl
      · simp only [hC,hβ]
        refine .inr ⟨hz,_,World.putObj_heap_same hblt,?_⟩
        simp only [XK,hf,if_true]
        have hl1:b.cells.length=es.size:=by have:=e1.1; simpa using this
        refine ⟨es.push { key:=ck,val:=cv,born:=es.size },by simp,by simp [hl1],fun i e hi=>?_,fun i c e hi he=>?_⟩
        · rw [Array.getElem?_push] at hi
          split at hi
          · rename_i h; cases hi; exact h.symm
          · exact e2 i e hi
        · rw [Array.getElem?_push] at he
          rw [List.getElem?_append] at hi
          split at he
          · rename_i h
            rw [if_neg (by omega),h,hl1,Nat.sub_self] at hi
            cases he
            simp only [List.getElem?_cons_zero,Option.some.injEq] at hi
            subst hi
            have k1:=hk0.mono hevo.zero
            have v1:=hv0.mono hevo.zero
            exact .clos rfl (fun i c v p q=>by
             match i,p,q with
             | 0,p,q=>simp at p q; subst p; subst q; exact k1
             | i+1,p,q=>simp at p) rfl (fun i c v p q=>by
             match i,p,q with
             | 0,p,q=>simp at p q; subst p; subst q; exact v1
             | i+1,p,q=>simp at p)
          · have hlt:i<es.size:=(Array.getElem?_eq_some_iff.1 he).1
            rw [if_pos (by omega)] at hi
            exact (e1.2 i c e hi (by simpa using he)).mono hevo.zero)
   rw [hC] at hch
   exact ⟨C,Z,hch.2.1,hch.2.2,hch.1,.junk _⟩
 · simp [Rd.run] at h
theorem wrapNil (ts:Array TypeId) (t:TypeId) (a:Addr) (x y:String):Builtin.ssaWrapNilChk_ ts t #[.pointer (some a),strVal x,strVal y]=pure (.pointer (some a)):=rfl
theorem KE {t:TypeId} {p:Bool} {v v':AV} {c:Value} (hm:Mem Z0 M w0 C Z blks w) (hv:VR Z w C v c) (h:(recvA P t p v).run (blks[·]?)=some v') :
 ∃ c',VR Z w C v' c'∧∀ nm,(receiverAt t (.val c) p (some nm)).run P w=.ok c' w:=by
 unfold recvA at h
 split at h
 · rename_i e hu
   simp only [Rd.run,Option.some.injEq] at h
   subst h
   exact ⟨c,hv,fun nm=>by simp [receiverAt,run_underlying hu,Place.get]⟩
 · rename_i e hu
   obtain ⟨⟨eff,evs',obs⟩,h1,h⟩:=bind_some h
   split at h
   · rename_i v1 he
     simp only [Prod.mk.injEq] at he
     obtain ⟨rfl,rfl,rfl⟩:=he
     simp only [Rd.run,Option.some.injEq] at h
     subst h
     obtain ⟨v2,c',e1,e2,e3⟩:=qp hm hv h1 trivial
     cases e1
     refine ⟨c',e3,fun nm=>?_⟩
     unfold Instr.loadAt at e2
     cases c with
     | pointer a =>
      cases a with
      | some a=>simpa [receiverAt,run_underlying hu,Place.get,wrapNil,asAddr,Instr.sureAddr] using e2
      | none=>simp [Instr.sureAddr] at e2
     | _=>simp [Instr.sureAddr] at e2
   · simp [Rd.run] at h
 · simp [Rd.run] at h
/-- A method of an interface value is called: as if its function were called by its name. -/
theorem Qbj {t : TypeId} {p : Bool} {f g : FuncId} {name : String} {c c' : Value} {cargs args' : Array Value} {d : Deferred} (hme : methA P t name = some (f, p)) (hr : ∀ nm, (receiverAt t (.val c) p (some nm)).run P w = .ok c' w)
    (h1 : (Deferred.ofValue (.func (.func f) #[] #[]) (#[c'] ++ cargs)).run P w = .ok d w) (h2 : (invoke d.target d.args).run P w = .ok (.enter g args') w) :
    (invoke (.fn (.method name) #[]) (#[.iface t c] ++ cargs)).run P w = .ok (.enter g args') w := by
  have hd : d = { target := .fn (.func f) #[], args := #[] ++ (#[c'] ++ cargs) } := by
    have : (Deferred.ofValue (.func (.func f) #[] #[]) (#[c'] ++ cargs)).run P w = .ok { target := .fn (.func f) #[], args := #[] ++ (#[c'] ++ cargs) } w := rfl
    rw [this] at h1; cases h1; rfl
  subst hd
  unfold methA at hme
  simp only [Option.bind_eq_some_iff] at hme
  obtain ⟨i, hi, m, hm, hme⟩ := hme
  have hpath : m.path.isEmpty = true ∧ m.func = some (f, p) := by
    cases hp : m.path.isEmpty with
    | true => rw [hp] at hme; exact ⟨rfl, hme⟩
    | false => rw [hp] at hme; cases hme
  have hpe : m.path = #[] := by simpa using hpath.1
  have hpl : m.path.toList = [] := by rw [hpe]
  have hmeth : (method (P.types.size + Made.depth) t c name).run P w = .ok (f, c') w := by
    rw [show P.types.size + Made.depth = (P.types.size + Made.depth - 1) + 1 from by have : 0 < Made.depth := by decide
                                                                                     omega]
    simp [method, typeInfo, hi, hm, hpl, follow, hpath.2, hpe, hr]
  have e0 : (#[Value.iface t c] ++ cargs)[0]? = some (.iface t c) := by
    rw [Array.getElem?_append_left (show 0 < #[Value.iface t c].size from Nat.one_pos)]; rfl
  have e1 : (#[Value.iface t c] ++ cargs).extract 1 (#[Value.iface t c] ++ cargs).size = cargs := by
    apply Array.ext'; simp
  have h3 : (callFunc f (#[c'] ++ cargs)).run P w = .ok (.enter g args') w := by simpa [invoke] using h2
  simp only [invoke, e0, e1, callMethod]
  simp [hmeth]
  simpa using h3

theorem aop_sound {o:Oper} {ev:Operand→AV} {ρ:Operand→Value} (hm:Mem Z0 M w0 C Z blks w) (hb:blks[idx]?=some dead) (hv:∀ x,VR Z w C (ev x) (ρ x))
 (h:(aop P o ev evs).run (blks[·]?)=some (eff,evs',obs)) (ho:AllP obs):OpOk P o ρ w (Res Z0 M w0 C Z blks w idx eff):=by
 have fin:∀ {s:Sem Value},execOp ρ o=(do pure (.value (← s)))→Yf P Z w C eff s→OpOk P o ρ w (Res Z0 M w0 C Z blks w idx eff):=by
  intro s he hs
  obtain ⟨c,w',h1,h2⟩:=hs.res (idx:=idx) hm
  exact .val he h1 h2
 have finE:∀ {s:Sem Value},execOp ρ o=(do pure (.value (← s)))→(∃ c w',s.run P w=.ok c w'∧Res Z0 M w0 C Z blks w idx eff c w')→OpOk P o ρ w (Res Z0 M w0 C Z blks w idx eff):=by
  rintro s he ⟨c,w',h1,h2⟩
  exact .val he h1 h2
 obtain ⟨dst,op,type,pos,after,guard⟩:=o
 simp only [aop] at h
 cases op <;> (try simp only at h) <;> try (simp [Rd.run] at h; done)
 case move x =>
  have:=Qp h; simp only [Prod.mk.injEq] at this; obtain ⟨rfl,-,-⟩:=this
  exact fin (s:=pure (ρ x)) rfl (.mk rfl (hv x))
 case assign x =>
  have:=Qp h; simp only [Prod.mk.injEq] at this; obtain ⟨rfl,-,-⟩:=this
  exact fin (s:=pure (ρ x)) rfl (.mk rfl (hv x))
 case pick c a b =>
  split at h
  · rename_i t hc
    have:=Qp h; simp only [Prod.mk.injEq] at this; obtain ⟨rfl,-,-⟩:=this
    have hvc:=hv c
    rw [hc] at hvc
    generalize hρ:ρ c=vc at hvc
    cases hvc
    have key:∀ {v:AV} {c':Value},VR Z w C v c'→c'=(if t then ρ a else ρ b)→OpOk P ⟨dst,.pick c a b,type,pos,after,guard⟩ ρ w (Res Z0 M w0 C Z blks w idx (.val v)):=by
     intro v c' hv' he
     obtain ⟨c2,w',h1,h2⟩:=Yf.res (idx:=idx) hm (Yf.mk (P:=P) (s:=pure c') rfl hv')
     cases h1
     refine .inl ⟨c',w,?_,h2⟩
     simp only [execOp,hρ,asBool,Sem.run_bind,Sem.run_pure,Result.andThen_ok,he]
    cases t with
    | true=>exact key (hv a) rfl
    | false=>exact key (hv b) rfl
  · simp [Rd.run] at h
 case alloc t =>
  split at h
  · rename_i cs hz
    obtain ⟨z,h1,h2,-,-⟩:=WB (P:=P) (w:=w) (Z:=Z) (C:=C) hz
    refine finE (s:=Instr.alloc t true (.tuple #[])) rfl ⟨_,_,?_,yO (vs:=z.cells) (e:=t) hm hb h2 h⟩
    simp [Instr.alloc,h1,newVar,newRow]
  · simp [Rd.run] at h
 case box t x =>
  refine finE (s:=Instr.box t (ρ x)) rfl ⟨_,_,?_,yO (vs:=(ρ x).cells) (e:=t) hm hb (fun hk=>(hv x).cells hk) h⟩
  simp [Instr.box,newVar,newRow]
 case build t parts=>exact fin rfl (buildA_sound hv h)
 case buildSlice t len parts=>exact finE rfl (yI hm hb hv h ho)
 case load t a=>exact fin rfl (qp hm (hv a) h ho)
 case store t a x =>
  obtain ⟨w',h1,h2⟩:=storeA_sound (idx:=idx) hm (hv a) (hv x) h ho
  exact .inr (.inl ⟨w',by simp only [execOp,Sem.run_bind,h1,Result.andThen_ok,Sem.run_pure],h2⟩)
 case nilCheck x =>
  have hvx:=hv x
  split at h
  · rename_i row off hx
    have:=Qp h; simp only [Prod.mk.injEq] at this; obtain ⟨rfl,-,-⟩:=this
    rw [hx] at hvx
    generalize hρ:ρ x=vx at hvx
    have hvx':=hvx
    cases hvx
    refine .inl ⟨_,w,by simp only [execOp,hρ]; rfl,?_⟩
    obtain ⟨c,w',h1,h2⟩:=Yf.res (idx:=idx) hm (Yf.mk (P:=P) (s:=pure _) rfl hvx')
    cases h1; exact h2
  · rename_i row k g off hx
    have:=Qp h; simp only [Prod.mk.injEq] at this; obtain ⟨rfl,-,-⟩:=this
    rw [hx] at hvx
    generalize hρ:ρ x=vx at hvx
    have hvx':=hvx
    cases hvx
    refine .inl ⟨_,w,by simp only [execOp,hρ]; rfl,?_⟩
    obtain ⟨c,w',h1,h2⟩:=Yf.res (idx:=idx) hm (Yf.mk (P:=P) (s:=pure _) rfl hvx')
    cases h1; exact h2
  · rename_i f a c hx
    have:=Qp h; simp only [Prod.mk.injEq] at this; obtain ⟨rfl,-,-⟩:=this
    rw [hx] at hvx
    generalize hρ:ρ x=vx at hvx
    have hvx':=hvx
    cases hvx
    refine .inl ⟨_,w,by simp only [execOp,hρ]; rfl,?_⟩
    obtain ⟨c,w',h1,h2⟩:=Yf.res (idx:=idx) hm (Yf.mk (P:=P) (s:=pure _) rfl hvx')
    cases h1; exact h2
  · rename_i k g off hx
    obtain ⟨b,hbk,h⟩:=QC h
    obtain ⟨hlive,ob,h,hg⟩:=QR h
    have:=Qp h; simp only [Prod.mk.injEq] at this; obtain ⟨rfl,-,rfl⟩:=this
    rw [hx] at hvx
    obtain ⟨blk,o,hβ,hρ⟩:=KG hm hbk (hg ho) hvx
    refine .inl ⟨_,w,by simp only [execOp,hρ]; rfl,?_⟩
    rw [hρ] at hvx
    obtain ⟨c,w',h1,h2⟩:=Yf.res (idx:=idx) hm (Yf.mk (P:=P) (s:=pure _) rfl hvx)
    cases h1; exact h2
  · simp [Rd.run] at h
 case binOp op t x y yt=>exact fin rfl (binA_sound (hv x) (hv y) h ho)
 case unOp op t x=>exact fin rfl (unA_sound (hv x) h ho)
 case convert s d x =>
  split at h
  · rename_i ts k k' n hs hd hx
    obtain ⟨rfl,-⟩:=Vk h ho
    have hvx:=hv x
    rw [hx] at hvx
    generalize hρ:ρ x=vx at hvx
    cases hvx
    refine fin (s:=convert s d (ρ x)) rfl (.mk ?_ (.int _ _))
    simp [convert,run_underlying hs,run_underlying hd,hρ,Conv.intToInt]
  · simp [Rd.run] at h
 case makeFunc fn first cap =>
  cases fn <;> (try simp only at h) <;> try (simp [Rd.run] at h; done)
  rename_i f
  have:=Qp h; simp only [Prod.mk.injEq] at this; obtain ⟨rfl,-,-⟩:=this
  have h1:=VRs.map hv first; have h2:=VRs.map hv cap
  refine fin (s:=Instr.makeFunc (.func f) (first.map ρ) (cap.map ρ)) rfl (.mk rfl (.clos (by simp) (fun i c v a b=>h1.2 i c v a (by simpa using b)) (by simp) (fun i c v a b=>h2.2 i c v a (by simpa using b))))
 case makeSlice t l c=>exact finE rfl (Kb hm hb (hv l) (hv c) h ho)
 case slice t x lo hi mx=>exact finE rfl (sliceA_sound hm hb (hv x) (VRo.map hv lo) (VRo.map hv hi) (VRo.map hv mx) h ho)
 case fieldAddr s x f=>exact fin rfl (fieldA_sound hm (hv x) h ho)
 case field s x f=>exact fin rfl (Qcr (hv x) h)
 case indexAddr t x i=>exact fin rfl (indexA_sound hm (hv x) (hv i) h ho)
 case index t x i=>exact fin rfl (Qch (hv x) (hv i) h ho)
 case makeMap t r =>
  cases r with
  | some _=>simp [Rd.run] at h
  | none =>
   simp only [Qce] at h
   split at h
   · simp only [Rd.run,Option.some.injEq,Prod.mk.injEq] at h
     obtain ⟨rfl,-,-⟩:=h
     exact finE (s:=Instr.makeMap t none) rfl ⟨_,_,by simp only [Instr.makeMap,Sem.run_bind,yg,Result.andThen_ok,Sem.run_pure]; rfl,Mem.allocObj (cells:=[]) (fl:=true) (ob:=.map #[] 0) (it:=false) hm hb (by simp) (by simp only [XK,if_true]; exact ⟨#[],rfl,rfl,by simp,by simp⟩)⟩
   · simp [Rd.run] at h
 case lookup t x i ok =>
  have hx:=hv x
  have hi:=hv i
  simp only [lookupA] at h
  split at h
  · rename_i kt et kk g ht hxe
    rw [hxe] at hx
    obtain ⟨b,hb',h⟩:=QC h
    obtain ⟨hl,hz,hf,hg,h⟩:=Vf h
    obtain ⟨blk,o,ob,hβ,hc,q1,q2⟩:=yP hm hb' hl hz hg hx
    obtain ⟨es,rfl,e1,e2⟩:=q2.ents hf
    refine fin (s:=Instr.lookup t (ρ x) (ρ i) ok) rfl ?_
    rw [hc]
    exact KW ht hi q1 e1 h ho
  · rename_i kt et cells ht hxe
    rw [hxe] at hx
    generalize hρ:ρ x=vx at hx
    cases hx with
    | rmap es hz hh hl hb2 hr =>
     refine fin (s:=Instr.lookup t (ρ x) (ρ i) ok) rfl ?_
     rw [hρ]
     exact KW ht hi hh ⟨by simpa using hl,fun i c e p q=>hr i c e p (by simpa using q)⟩ h ho
  · simp [Rd.run] at h
 case insert t m k x =>
  obtain ⟨w',h1,h2⟩:=qA (idx:=idx) hm (hv m) (hv k) (hv x) h ho
  exact .inr (.inl ⟨w',by simp only [execOp,Sem.run_bind,h1,Result.andThen_ok,Sem.run_pure],h2⟩)
 case mapUpdate t m k x =>
  obtain ⟨w',h1,h2⟩:=qA (idx:=idx) hm (hv m) (hv k) (hv x) h ho
  exact .inr (.inl ⟨w',by simp only [execOp,Sem.run_bind,h1,Result.andThen_ok,Sem.run_pure],h2⟩)
 case range t x =>
  have hx:=hv x
  simp only [rangeA] at h
  split at h
  · rename_i kt et kk g ht hxe
    rw [hxe] at hx
    obtain ⟨b,hb',h⟩:=QC h
    obtain ⟨hl,hz,hf,hg,h⟩:=Vf h
    simp only [Rd.run,Option.some.injEq,Prod.mk.injEq] at h
    obtain ⟨rfl,-,-⟩:=h
    obtain ⟨blk,o,ob,hβ,hc,q1,q2⟩:=yP hm hb' hl hz hg hx
    obtain ⟨es,rfl,e1,e2⟩:=q2.ents hf
    have hget:(getObj blk).run P w=.ok (.map es es.size) w:=Xy q1 (by intro c t f; simp)
    rw [hc] at hx
    refine finE (s:=Instr.range t (ρ x)) rfl ⟨_,_,by
     simp only [Instr.range,Sem.run_bind,run_underlying ht,Result.andThen_ok,hc,WX,Bool.false_eq_true,if_false,hget,yg,Sem.run_pure]; rfl,Mem.allocObj (ob:=.mapIter (some blk) es.size #[] es.size) (it:=true) hm hb ?_ ?_⟩
    · intro i c hi
      match i,hi with
      | 0,hi=>simp at hi; subst hi; rfl
      | 1,hi=>simp at hi; subst hi; rfl
      | i+2,hi=>simp at hi
    · simp only [XK,Bool.false_eq_true,if_false]
      refine ⟨blk,es.size,#[],rfl,rfl,⟨_,rfl,hx⟩,by have:=e1.1; simp at this; simp [this],by simp⟩
  · rename_i kt et cells ht hxe
    rw [hxe] at hx
    simp only [Rd.run,Option.some.injEq,Prod.mk.injEq] at h
    obtain ⟨rfl,-,-⟩:=h
    generalize hρ:ρ x=vx at hx
    have hx2:=hx
    cases hx with
    | rmap es hz hh hl hb2 hr =>
     rename_i blk
     have hget:(getObj blk).run P w=.ok (.map es es.size) w:=Xy hh (by intro c t f; simp)
     refine finE (s:=Instr.range t (ρ x)) rfl ⟨_,_,by
      simp only [Instr.range,Sem.run_bind,run_underlying ht,Result.andThen_ok,hρ,hget,yg,Sem.run_pure]; rfl,Mem.allocObj (ob:=.mapIter (some blk) es.size #[] es.size) (it:=true) hm hb ?_ ?_⟩
     · intro i c hi
       match i,hi with
       | 0,hi=>simp at hi; subst hi; rfl
       | 1,hi=>simp at hi; subst hi; rfl
       | i+2,hi=>simp at hi
     · simp only [XK,Bool.false_eq_true,if_false]
       exact ⟨blk,es.size,#[],rfl,rfl,⟨_,rfl,hx2⟩,by simp [hl],by simp⟩
  · simp [Rd.run] at h
 case entry it =>
  have hx:=hv it
  simp only [entryA] at h
  split at h
  · rename_i kk g hxe
    rw [hxe] at hx
    obtain ⟨b,hb',h⟩:=QC h
    obtain ⟨hl,hz,hf,hg,h⟩:=Vf h
    obtain ⟨blk,o,ob,hβ,hc,q1,q2⟩:=yP hm hb' hl hz hg hx
    rw [hf] at q2
    simp only [XK,Bool.false_eq_true,if_false] at q2
    obtain ⟨m,n,seen,rfl,l1,⟨c0,l2,l3⟩,l4,l5⟩:=q2
    have hgetI:(getObj blk).run P w=.ok (.mapIter (some m) n seen n) w:=Xy q1 (by intro c t f; simp)
    have main:∀ {cells:List AV} {es:Array MapEntry},w.heap[m]?=some (.map es es.size)→Ents Z w cells es.toList→(∀ (i:Nat) (e:MapEntry),es[i]?=some e→e.born=i)→(Qas b cells evs).run (blks[·]?)=some (eff,evs',obs) →
     Yf P Z w C eff (Instr.entry (ρ it)):=by
     intro cells es hh he hb2 h
     unfold Qas at h
     split at h
     · rename_i i k v r _ _ _
       have:=Qp h; simp only [Prod.mk.injEq] at this; obtain ⟨rfl,-,rfl⟩:=this
       obtain ⟨o1,o2,o3,o4,-⟩:=ho
       have hlen:cells.length=es.size:=by have:=he.1; simpa using this
       rw [l4] at o2
       have hn:n=es.size:=by
        simp only [Option.some.injEq,AV.int.injEq,true_and] at o2; omega
       have hpos:0<seen.size:=by omega
       have hlast:seen[seen.size - 1]?=some (seen[seen.size - 1]'(by omega)):=by simp [show seen.size - 1<seen.size by omega]
       have hl5:=l5 _ _ hlast
       rw [List.getLast?_eq_getElem?,show b.cells.length - 1=seen.size - 1+2 by omega,hl5] at o1
       have hs:seen[seen.size - 1]'(by omega)=i:=by
        simp only [Option.some.injEq,AV.int.injEq,true_and] at o1; omega
       have hback:seen.back?=some i:=by rw [Array.back?_eq_getElem?,hlast,hs]
       have hi:i<es.size:=by have:=(List.getElem?_eq_some_iff.1 o4).1; omega
       have hgetM:(getObj m).run P w=.ok (.map es es.size) w:=Xy hh (by intro c t f; simp)
       have hei:es[i]?=some es[i]:=by simp [hi]
       have hfind:es.find? (fun e=>e.born == i)=some es[i]:=by
        rw [← Array.find?_toList]
        have:∀ (l:List MapEntry) (s:Nat),(∀ (j:Nat) (e:MapEntry),l[j]?=some e→e.born=s+j)→∀ (e:MapEntry) (j:Nat),l[j]?=some e→l.find? (fun x=>x.born == s+j)=some e:=by
         intro l
         induction l with
         | nil=>intro s _ e j h; simp at h
         | cons x l ih =>
          intro s hb e j h
          have h0:=hb 0 x rfl
          cases j with
          | zero=>simp at h; subst h; simp [List.find?,h0]
          | succ j =>
           have:(x.born == s+(j+1))=false:=by simp [h0]
           simp only [List.find?,this]
           have:=ih (s+1) (fun j e hj=>by rw [hb (j+1) e (by simpa using hj)]; omega) e j (by simpa using h)
           rw [show s+(j+1)=s+1+j by omega]; exact this
        have:=this es.toList 0 (fun j e hj=>by rw [Nat.zero_add]; exact hb2 j e (by rw [← Array.getElem?_toList]; exact hj)) es[i] i (by simp)
        simpa using this
       obtain ⟨hk,hv'⟩:=yE (he.2 i _ es[i] o4 (by simp))
       refine .mk (c:=.tuple #[es[i].key,es[i].val]) ?_ (.tup rfl fun j c v p q=>?_)
       · simp only [Instr.entry,hc,WX,if_true,Sem.run_bind,hgetI,Result.andThen_ok,hback,hgetM,hn,bne_self_eq_false,Bool.false_eq_true,if_false,Sem.run_pure,hfind]
       · match j,p,q with
         | 0,p,q=>simp at p q; subst p; subst q; exact hk.of0
         | 1,p,q=>simp at p q; subst p; subst q; exact hv'.of0
         | j+2,p,q=>simp at p
     · simp [Rd.run] at h
    split at h
    · rename_i km gm hcm
      rw [l2] at hcm; cases hcm
      obtain ⟨bm,hbm,h⟩:=QC h
      obtain ⟨ml,mz,mf,mg,h⟩:=Vf h
      obtain ⟨blk2,o2,ob2,hβ2,hc2,r1,r2⟩:=yP hm hbm ml mz mg l3
      simp only [WX,Bool.false_eq_true,if_false,Value.map.injEq,Option.some.injEq] at hc2
      subst hc2
      obtain ⟨es,rfl,e1,e2⟩:=r2.ents mf
      exact fin (s:=Instr.entry (ρ it)) rfl (main r1 e1 e2 h)
    · rename_i cells hcm
      rw [l2] at hcm; cases hcm
      cases l3 with
      | rmap es hz2 hh hl2 hb2 hr=>exact fin (s:=Instr.entry (ρ it)) rfl (main hh ⟨by simpa using hl2,fun i c e p q=>hr i c e p (by simpa using q)⟩ hb2 h)
    · simp [Rd.run] at h
  · simp [Rd.run] at h
 case makeInterface t x =>
  split at h
  · simp [Rd.run] at h
  · rename_i d hne hd
    have:=Qp h; simp only [Prod.mk.injEq] at this; obtain ⟨rfl,-,-⟩:=this
    refine fin (s:=Instr.makeInterface t (ρ x)) rfl (.mk (c:=.iface t (ρ x)) ?_ (.ifc (hv x)))
    cases d <;> simp [Instr.makeInterface,run_underlying hd] <;> exact (hne _ rfl).elim
  · simp [Rd.run] at h
 case typeAssert x xt u ok =>
  cases ok with
  | true=>simp [Rd.run] at h
  | false =>
   simp only at h
   have hvx:=hv x
   split at h
   · simp [Rd.run] at h
   · rename_i d t v hne hd hx
     split at h
     · rename_i e
       have:=Qp h; simp only [Prod.mk.injEq] at this; obtain ⟨rfl,-,-⟩:=this
       rw [hx] at hvx
       generalize hρ:ρ x=vx at hvx
       cases hvx with
       | ifc hvx =>
        rename_i c
        have e:t=u:=by simpa using e
        subst e
        refine fin (s:=Instr.typeAssert (ρ x) xt t false) rfl (.mk (c:=c) ?_ hvx)
        rw [hρ]
        cases d <;> simp [Instr.typeAssert,run_underlying hd] <;> exact (hne _ rfl).elim
     · simp [Rd.run] at h
   · simp [Rd.run] at h
 case extract t i =>
  split at h
  · rename_i vs ht
    split at h
    · rename_i v hvi
      have:=Qp h; simp only [Prod.mk.injEq] at this; obtain ⟨rfl,-,-⟩:=this
      have hvt:=hv t
      rw [ht] at hvt
      generalize hρ:ρ t=vt at hvt
      cases hvt with
      | tup hl h =>
       rename_i arr
       have hlt:i<arr.size:=by have:=(List.getElem?_eq_some_iff.1 hvi).1; omega
       refine fin (s:=Instr.extract (ρ t) i) rfl (.mk (c:=arr[i]) ?_ (h i v arr[i] hvi (by simp [hlt])))
       simp [Instr.extract,hρ,hlt]
    · simp [Rd.run] at h
  · simp [Rd.run] at h
 case call c =>
  obtain ⟨callee,args,argTypes⟩:=c
  have hargs:=VRs.map hv args
  cases callee <;> (try simp only at h) <;> try (simp [Rd.run] at h; done)
  case value f =>
   obtain ⟨d,g,as1,h1,h2,h3⟩:=QaA (idx:=idx) (cargs:=args.map ρ) hm hb (hv f) hargs h ho
   exact .inr (.inr ⟨g,as1,by simp only [execOp,resolve,Sem.run_bind,h1,Result.andThen_ok,h2],h3⟩)
  case invoke r name =>
   unfold Qcg at h
   have hvr:=hv r
   split at h
   · rename_i t v hr
     rw [hr] at hvr
     generalize hρ:ρ r=vr at hvr
     cases hvr with
     | ifc hvr =>
      rename_i c
      split at h
      · rename_i f p hme
        obtain ⟨v',h1,h⟩:=bind_some h
        obtain ⟨c',q1,q2⟩:=KE hm hvr h1
        have hargs2:VRs Z w C (v' :: args.toList.map ev) (#[c']++args.map ρ).toList:=by
         refine ⟨by have:=hargs.1; simp at this ⊢,fun i c v p q=>?_⟩
         cases i with
         | zero=>simp at p q; subst p; subst q; exact q1
         | succ i =>
          simp only [List.getElem?_cons_succ] at p
          have q':(args.map ρ).toList[i]?=some v:=by simpa using q
          exact hargs.2 i c v p q'
        obtain ⟨d,g,as1,h1,h2,h3⟩:=QaA (idx:=idx) (cf:=.func (.func f) #[] #[]) (cargs:=#[c']++args.map ρ) hm hb (.clos rfl (fun i c v p q=>by simp at p) rfl (fun i c v p q=>by simp at p)) hargs2 h ho
        exact .inr (.inr ⟨g,as1,by simp only [execOp,resolve,Sem.run_bind,Sem.run_pure,Result.andThen_ok,hρ]; exact Qbj hme q2 h1 h2,h3⟩)
      · simp [Rd.run] at h
   · simp [Rd.run] at h
  case builtin b =>
   split at h
   · rename_i x t ha ht
     rw [ha] at hargs
     obtain ⟨c,cs,e1,hx,hr⟩:=hargs.cons
     obtain rfl:=hr.nil
     have e2:args.map ρ=#[c]:=by apply Array.ext'; simpa using e1
     have e3:argTypes=#[t]:=by apply Array.ext'; simpa using ht
     refine fin (s:=Builtin.len_ #[t] type #[c]) ?_ (lenA_sound hm hx h ho type)
     simp only [execOp,resolve,invoke,builtin,e2,e3]
     rfl
   · rename_i d s t u ha ht
     rw [ha] at hargs
     obtain ⟨c1,cs,e1,hd,hr⟩:=hargs.cons
     obtain ⟨c2,cs2,rfl,hs,hr2⟩:=hr.cons
     obtain rfl:=hr2.nil
     have e2:args.map ρ=#[c1,c2]:=by apply Array.ext'; simpa using e1
     have e3:argTypes=#[t,u]:=by apply Array.ext'; simpa using ht
     split at h
     · rename_i e' hu
       refine finE (s:=Builtin.append_ #[t,u] type #[c1,c2]) ?_ (QcG hm hb hd hs hu h ho)
       simp only [execOp,resolve,invoke,builtin,e2,e3]
       rfl
     · simp [Rd.run] at h
   · rename_i d s t r ha ht
     rw [ha] at hargs
     obtain ⟨c1,cs,e1,hd,hr⟩:=hargs.cons
     obtain ⟨c2,cs2,rfl,hs,hr2⟩:=hr.cons
     obtain rfl:=hr2.nil
     have e2:args.map ρ=#[c1,c2]:=by apply Array.ext'; simpa using e1
     have e3:argTypes[0]?=some t:=by rw [← Array.getElem?_toList,ht]; rfl
     refine finE (s:=Builtin.copy_ argTypes type #[c1,c2]) ?_ (copyB_sound e3 hm hd hs h ho)
     simp only [execOp,resolve,invoke,builtin,e2]
     rfl
   · rename_i k n r ha
     split at h
     · rename_i m hf
       have:=Qp h; simp only [Prod.mk.injEq] at this; obtain ⟨rfl,-,-⟩:=this
       rw [ha] at hargs
       obtain ⟨c1,cs,e1,hd,hr⟩:=hargs.cons
       cases hd
       refine fin (s:=Builtin.max_ argTypes type (args.map ρ)) rfl (.mk ?_ (.int _ _))
       simp only [Builtin.max_,e1]
       exact foldI_max hr hf
     · simp [Rd.run] at h
   · rename_i k n r ha
     split at h
     · rename_i m hf
       have:=Qp h; simp only [Prod.mk.injEq] at this; obtain ⟨rfl,-,-⟩:=this
       rw [ha] at hargs
       obtain ⟨c1,cs,e1,hd,hr⟩:=hargs.cons
       cases hd
       refine fin (s:=Builtin.min_ argTypes type (args.map ρ)) rfl (.mk ?_ (.int _ _))
       simp only [Builtin.min_,e1]
       exact foldI_min hr hf
     · simp [Rd.run] at h
   · simp [Rd.run] at h
end
end Ax
namespace Ax
open Go
mutual
def QI (n:Nat):AV→Bool
 | .ptr k _ _=>decide (k<n)
 | .sl k _ _ _ _=>decide (k<n)
 | .mp k _ _=>decide (k<n)
 | .pm _ k _ _=>decide (k<n)
 | .agg cs=>refsBelows n cs
 | .tup cs=>refsBelows n cs
 | .clos _ a b=>refsBelows n a && refsBelows n b
 | .ifc _ v=>QI n v
 | _=>true
def refsBelows (n:Nat):List AV→Bool
 | []=>true
 | c :: cs=>QI n c && refsBelows n cs
end
structure Env where
 Z0:Nat→Prop
 M:Nat→Prop
 w0:World
 b:Frame
 cs:List Frame
 Fin:Machine→Prop
 gA:List AV:=[]
 gV:List Value:=[]
 df:List Deferred:=[]
 Cb:Ctx:=C0
 low:∀ n,refsBelows n gA=true→∀ k,n≤k→Cb.β k=.absent∧Cb.γ k=0:=by intros; exact ⟨rfl,rfl⟩
 wb:World:=w0
def Reach (P:Program) (m:Machine) (F:Machine→Prop):Prop:=∃ m',Steps P m m'∧F m'
theorem Reach.step {P:Program} {m m':Machine} {F:Machine→Prop} (h:Steps P m m') (h':Reach P m' F):Reach P m F :=
 let ⟨x,a,b⟩:=h'; ⟨x,h.trans a,b⟩
/-- From here on,in whatever memory fits,the frame comes to what is asked. -/
def G (P:Program) (E:Env) (K:List Item) (st:St):Prop :=
 ∀ (C:Ctx) (Z:Nat→Prop) (a:Act) (w:World),Rel E.df E.Z0 E.M E.w0 E.gA E.gV E.Cb E.wb C Z st a w→Reach P (lone (E.b.atR a K) E.cs w) E.Fin
section
variable {P:Program} {E:Env} {K K':List Item} {st st':St}
theorem G.of_step (h:∀ (a:Act) (w:World),step P (lone (E.b.atR a K) E.cs w)=.next (lone (E.b.atR a K') E.cs w)) (hg:G P E K' st):G P E K st :=
 fun C Z a w hr=>.step (.one (h a w)) (hg C Z a w hr)
def putA (tmps:List AV) (dst:Option Nat) (v:AV):List AV :=
 match dst with
 | some d=>tmps.set d v
 | none=>tmps
theorem VRs.put {Z:Nat→Prop} {w:World} {C:Ctx} {tmps:List AV} {a:Act} {v:AV} {c:Value} (h:VRs Z w C tmps a.tmps.toList) (hv:VR Z w C v c) (dst:Option Nat) :
 VRs Z w C (putA tmps dst v) (a.put dst c).tmps.toList:=by
 cases dst with
 | none=>exact h
 | some d =>
  refine ⟨by simpa [putA,Act.put] using h.1,fun i x y h1 h2=>?_⟩
  simp only [putA] at h1
  simp only [Act.put,Array.toList_setIfInBounds] at h2
  rw [List.getElem?_set] at h1 h2
  split at h1
  · rename_i e
    rw [if_pos e] at h2
    split at h1
    · split at h2
      · cases h1; cases h2; exact hv
      · cases h2
    · cases h1
  · rename_i e
    rw [if_neg e] at h2
    exact h.2 i x y h1 h2
theorem QV {Z:Nat→Prop} {w:World} {C:Ctx} {tmps:List AV} {a:Act} (h:VRs Z w C tmps a.tmps.toList) (x:Operand):VR Z w C (XU tmps x) (a.eval x):=by
 cases x with
 | tmp t =>
  simp only [XU,Act.eval]
  by_cases ht:t<tmps.length
  · have hl:t<a.tmps.size:=by exact Nat.lt_of_lt_of_eq ht h.1
    have:=h.2 t tmps[t] a.tmps[t] (by simp [ht]) (by simp [hl])
    simpa [List.getD,Array.getD,ht,hl] using this
  · simp [List.getD,List.getElem?_eq_none (Nat.le_of_not_lt ht)]; exact .junk _
 | const v=>exact qK v
 | global g=>exact .junk _
 | func f=>exact .clos rfl (by simp) rfl (by simp)
def Yh (ops:Array Oper) (tmps:List AV) (o:Oper):Option Bool :=
 match o.guard with
 | none=>some true
 | some (j,want) =>
  match (ops[j]?).bind (·.dst) with
  | some d=>match tmps[d]? with
   | some (.bool c)=>some (c == want)
   | some (.tup _)=>some false
   | _=>none
  | none=>none
theorem XF {Z:Nat→Prop} {w:World} {C:Ctx} {ops:Array Oper} {tmps:List AV} {a:Act} {o:Oper} {b:Bool} (h:VRs Z w C tmps a.tmps.toList) (hw:Yh ops tmps o=some b) :
 Region.wanted o (yielded ops a.tmps)=b:=by
 unfold Yh at hw
 unfold Region.wanted
 cases hg:o.guard with
 | none=>simp [hg] at hw; simpa using hw
 | some g =>
  obtain ⟨j,want⟩:=g
  simp only [hg] at hw ⊢
  cases hd:(ops[j]?).bind (·.dst) with
  | none=>simp [hd] at hw
  | some d =>
   simp only [hd] at hw
   have key:∀ v,tmps[d]?=some v→∃ c,a.tmps[d]?=some c∧VR Z w C v c:=by
    intro v hv
    have hlt:d<a.tmps.size:=by exact Nat.lt_of_lt_of_eq (List.getElem?_eq_some_iff.1 hv).1 h.1
    exact ⟨a.tmps[d],by simp [hlt],h.2 d v _ hv (by simp [hlt])⟩
   split at hw
   · rename_i c hc
     obtain ⟨c',h1,h2⟩:=key _ hc
     cases h2
     simp only [Option.some.injEq] at hw
     simp [yielded,hd,h1,← hw]
   · rename_i vs hc
     obtain ⟨c',h1,h2⟩:=key _ hc
     cases h2
     simp only [Option.some.injEq] at hw
     simp [yielded,hd,h1,← hw]
   · cases hw
def effBlks (blks:List Blk):Eff→List Blk
 | .val _=>blks
 | .new b _=>blks++[b]
 | .upd k b _=>blks.set k b
def Qab (ops:Array Oper) (i:Nat):Bool:=ops.toList.any fun o=>match o.guard with | some (j,_)=>j == i | none=>false
/-- A test's outcome,where later operations hang on it,is told. -/
def conc (tmps:List AV) (g:Bool) (dst:Option Nat) (evs:List EV):Option (List AV × List EV × List Prop) :=
 match g,dst with
 | true,some d=>match tmps[d]?,evs with
  | some (.bool c),.b x :: r=>some (tmps.set d (.bool x),r,[c=x])
  | _,_=>none
 | _,_=>some (tmps,evs,[])
def opA (P:Program) (ops:Array Oper) (i:Nat) (o:Oper) (st:St) (evs:List EV):Option (St × List EV × List Prop) :=
 match Yh ops st.tmps o with
 | none=>none
 | some false=>some (⟨putA st.tmps o.dst (.tup []),st.blks⟩,evs,[])
 | some true =>
  match (aop P o (XU st.tmps) evs).run (st.blks[·]?) with
  | none=>none
  | some (eff,evs,obs) =>
   match conc (putA st.tmps o.dst (eff.av st.blks.length)) (Qab ops i) o.dst evs with
   | none=>none
   | some (tmps,evs,obs2)=>some (⟨tmps,effBlks st.blks eff⟩,evs,obs++obs2)
theorem Rd.run_mono {α:Type} {gb gb':Nat→Option Blk} (h:∀ k b,gb k=some b→gb' k=some b):∀ {x:Rd α} {r:α},x.run gb=some r→x.run gb'=some r
 | .ok a,r,hr=>hr
 | .fail,r,hr=>by cases hr
 | .get k f,r,hr=>by
  obtain ⟨b,hb,hr⟩:=QC hr
  simp only [Rd.run,h k b hb]
  exact Rd.run_mono h hr
theorem Mem.push {Z0 M Z:Nat→Prop} {w0 w:World} {C:Ctx} {blks:List Blk} (hm:Mem Z0 M w0 C Z blks w):Mem Z0 M w0 C Z (blks++[dead]) w:=by
 have key:∀ {k:Nat} {b:Blk},(blks++[dead])[k]?=some b→blks[k]?=some b ∨ (k=blks.length∧b=dead):=by
  intro k b h
  rw [List.getElem?_append] at h
  split at h
  · exact .inl h
  · rename_i hk
    have h0:k - blks.length=0:=by have:=(List.getElem?_eq_some_iff.1 h).1; simp at this; omega
    rw [h0] at h; simp at h
    exact .inr ⟨by omega,h.symm⟩
 refine ⟨fun k b h=>?_,fun k b h=>?_,fun k b h hd=>?_,fun k h=>hm.dom k (by simp at h; omega),hm.inj,hm.own,hm.zlt,hm.z0,hm.zsub,hm.frame⟩
 · rcases key h with h | ⟨-,rfl⟩
   · exact hm.blk k b h
   · intro h; simp [dead] at h
 · rcases key h with h | ⟨rfl,rfl⟩
   · exact hm.gen k b h
   · exact (hm.dom _ (Nat.le_refl _)).2
 · rcases key h with h | ⟨rfl,rfl⟩
   · exact hm.dd k b h hd
   · exact (hm.dom _ (Nat.le_refl _)).1
theorem Mem.pop {Z0 M Z:Nat→Prop} {w0 w:World} {C:Ctx} {blks:List Blk} (hm:Mem Z0 M w0 C Z (blks++[dead]) w):Mem Z0 M w0 C Z blks w:=by
 have key:∀ {k:Nat} {b:Blk},blks[k]?=some b→(blks++[dead])[k]?=some b:=fun {k b} h=>by
  rw [List.getElem?_append_left (List.getElem?_eq_some_iff.1 h).1]; exact h
 refine ⟨fun k b h=>hm.blk k b (key h),fun k b h=>hm.gen k b (key h),fun k b h=>hm.dd k b (key h),fun k h=>?_,hm.inj,hm.own,hm.zlt,hm.z0,hm.zsub,hm.frame⟩
 rcases Nat.lt_or_ge blks.length k with h1 | h1
 · exact hm.dom k (by simp; omega)
 · obtain rfl:k=blks.length:=by omega
   have hd:(blks++[dead])[blks.length]?=some dead:=by simp
   exact ⟨hm.dd _ _ hd rfl,hm.gen _ _ hd⟩
theorem Marks.evo {C:Ctx} {Z Z' M:Nat→Prop} {w0 w w':World} {df ds:List Deferred} (h:Marks df Z M w0 ds w) (he:Evo C Z Z' w w'):Marks df Z' M w0 ds w':=by
 obtain ⟨Ds,h1,h2,h3⟩:=h
 exact ⟨Ds,h1,h2,fun D hD=>⟨he.zsub D (h3 D hD).1,(h3 D hD).2.1,by rw [he.same D (h3 D hD).1]; exact (h3 D hD).2.2⟩⟩
theorem VRs.next {C C':Ctx} {Z Z':Nat→Prop} {w w':World} {cs:List AV} {vs:List Value} (h:VRs Z w C cs vs) (hle:CtxLe C C') (he:Evo C Z Z' w w'):VRs Z' w' C' cs vs :=
 ⟨h.1,fun i c v a b=>((h.2 i c v a b).mono he).grow hle⟩
theorem Qbv {Z:Nat→Prop} {w:World} {C:Ctx} {tmps tmps':List AV} {vs:List Value} {g:Bool} {dst:Option Nat} {evs evs':List EV} {obs:List Prop} (h:VRs Z w C tmps vs)
 (hc:conc tmps g dst evs=some (tmps',evs',obs)) (ho:AllP obs):VRs Z w C tmps' vs:=by
 unfold conc at hc
 split at hc
 · rename_i d
   split at hc
   · rename_i c x r hd
     simp only [Option.some.injEq,Prod.mk.injEq] at hc
     obtain ⟨rfl,-,rfl⟩:=hc
     refine ⟨by simpa using h.1,fun i a b h1 h2=>?_⟩
     rw [List.getElem?_set] at h1
     split at h1
     · rename_i e
       subst e
       split at h1
       · cases h1
         rw [← ho.1]
         exact h.2 _ _ b hd h2
       · cases h1
     · exact h.2 i a b h1 h2
   · cases hc
 · simp only [Option.some.injEq,Prod.mk.injEq] at hc
   obtain ⟨rfl,-,-⟩:=hc
   exact h
theorem not_defer {o:Oper} {ev:Operand→AV} {evs:List EV} {gb:Nat→Option Blk} {r:Eff × List EV × List Prop} (h:(aop P o ev evs).run gb=some r):∀ c,o.op ≠ .defer c:=by
 intro c hc
 simp [aop,hc,Rd.run] at h
theorem okv_no {gb:Nat→Option Blk} {v:AV} {evs evs':List EV} {obs obs':List Prop} {k:Nat} {b:Blk} {u:AV} (h:(okv v evs obs).run gb=some (.upd k b u,evs',obs')):False:=by
 have:=Qp h; simp at this
/-- Which block an operation turns: one that it has read. -/
def Xv (blks:List Blk) (x:R):Prop:=∀ (k:Nat) (b:Blk) (v:AV) (evs':List EV) (obs:List Prop),x.run (blks[·]?)=some (.upd k b v,evs',obs)→k<blks.length
theorem Xv.okv {blks:List Blk} {v:AV} {evs:List EV} {obs:List Prop}:Xv blks (okv v evs obs):=fun _ _ _ _ _ h=>(okv_no h).elim
theorem Xv.fail {blks:List Blk}:Xv blks .fail:=fun _ _ _ _ _ h=>by cases h
theorem Xv.new {blks:List Blk} {b:Blk} {mk:Nat→AV} {evs:List EV} {obs:List Prop}:Xv blks (.ok (.new b mk,evs,obs)):=fun _ _ _ _ _ h=>by simp [Rd.run] at h
theorem Xv.upd {blks:List Blk} {k:Nat} {b b':Blk} {v:AV} {evs:List EV} {obs:List Prop} (hb:blks[k]?=some b):Xv blks (.ok (.upd k b' v,evs,obs)):=fun _ _ _ _ _ h=>by
 simp only [Rd.run,Option.some.injEq,Prod.mk.injEq,Eff.upd.injEq] at h
 rw [← h.1.1]; exact (List.getElem?_eq_some_iff.1 hb).1
theorem Xv.get {blks:List Blk} {k:Nat} {f:Blk→R} (h:∀ b,blks[k]?=some b→Xv blks (f b)):Xv blks (.get k f):=fun _ _ _ _ _ hr=>by
 obtain ⟨b,hb,hr⟩:=QC hr; exact h b hb _ _ _ _ _ hr
theorem Xv.gen {blks:List Blk} {b:Blk} {g:Nat} {f:List Prop→R} (h:∀ ob,Xv blks (f ob)):Xv blks (VL b g f):=fun _ _ _ _ _ hr=>by
 obtain ⟨_,ob,hr,_⟩:=QR hr; exact h ob _ _ _ _ _ hr
theorem Xv.arith {blks:List Blk} {k:IntKind} {n:Int} {ob:List Prop} {evs:List EV}:Xv blks (arith k n ob evs):=by
 unfold Ax.arith; split <;> exact .okv
theorem Xv.bind {α:Type} {blks:List Blk} {x:Rd α} {f:α→R} (h:∀ a,Xv blks (f a)):Xv blks (x.bind f):=fun _ _ _ _ _ hr=>by
 obtain ⟨a,_,hr⟩:=bind_some hr; exact h a _ _ _ _ _ hr
theorem Xv.app {blks:List Blk} {e sz:Nat} {dst:AV} {S:List AV} {nr:Bool} {m:Nat} {evs:List EV} {obs:List Prop}:Xv blks (appA P e sz dst S nr m evs obs):=by
 unfold appA
 split
 · exact .fail
 split
 · exact .new
 · split
   · exact .fail
   · intro k b v evs' obs' hr
     obtain ⟨b',hb,hr⟩:=QC hr
     split at hr
     · split at hr
       · cases hr
       · simp only [Rd.run,Option.some.injEq,Prod.mk.injEq,Eff.upd.injEq] at hr
         obtain ⟨⟨rfl,-,-⟩,-,-⟩:=hr
         exact (List.getElem?_eq_some_iff.1 hb).1
     · cases hr
 · exact .fail
theorem Xv.appF {blks:List Blk} {t:TypeId} {d s:AV} {evs:List EV}:Xv blks (yJ P t d s evs):=fun _ _ _ _ _ h=>appendF_turn h
theorem Xv.over {blks:List Blk} {k g off n sz:Nat} {S:List AV} {ob2:List Prop} {evs:List EV}:Xv blks (Wo k g off n sz S ob2 evs):=by
 unfold Wo
 exact .get fun b hb=>.gen fun ob=>.upd hb
theorem Xv.copy {blks:List Blk} {t:TypeId} {d s:AV} {evs:List EV}:Xv blks (copyA P t d s evs):=by
 unfold copyA
 repeat' (first | exact .fail | exact .over | (refine .get fun b hb=>?_) | (refine .gen fun ob=>?_) | split)
theorem Xv.copyB {blks:List Blk} {t:TypeId} {d s:AV} {evs:List EV}:Xv blks (copyB P t d s evs):=by
 unfold Ax.copyB
 split
 · unfold copy0A
   repeat' (first | exact .fail | exact .okv | (refine .get fun b hb=>?_) | (refine .gen fun ob=>?_) | split)
 · exact .copy
theorem Xv.store {blks:List Blk} {t:TypeId} {a x:AV} {evs:List EV}:Xv blks (storeA P t a x evs):=by
 unfold storeA
 split
 · simp only
   split
   · intro k b v evs' obs' hr
     obtain ⟨b',hb,hr⟩:=QC hr
     · obtain ⟨_,ob,hr,_⟩:=QR hr
       simp only [Rd.run,Option.some.injEq,Prod.mk.injEq,Eff.upd.injEq] at hr
       obtain ⟨⟨rfl,-,-⟩,-,-⟩:=hr
       exact (List.getElem?_eq_some_iff.1 hb).1
   · exact .fail
 · exact .fail
theorem Qbe {blks:List Blk} {b:Blk} {g:Nat} {fl:Bool} {r:R} (h:Xv blks r):Xv blks (QbX b g fl r):=fun _ _ _ _ _ hr=>by
 obtain ⟨-,-,-,-,hr⟩:=Vf hr; exact h _ _ _ _ _ hr
theorem Xv.update {blks:List Blk} {t:TypeId} {m k v:AV} {evs:List EV}:Xv blks (qY P t m k v evs):=by
 unfold qY
 split
 · split
   · exact .fail
   · refine .get fun b hb=>Qbe ?_
     split
     · exact .upd hb
     · exact .upd hb
 · exact .fail
theorem Xv.layN {blks:List Blk} {x:R}:Xv blks (layN x):=by
 unfold Ax.layN
 split
 · unfold layA
   simp only
   split
   · exact .new
   · exact .fail
 · exact .fail
theorem Xv.call {blks:List Blk} {fv:AV} {args:List AV} {evs:List EV}:Xv blks (callA P fv args evs):=by
 unfold callA
 repeat' (first | exact .okv | exact .fail | exact .new | exact .upd (by assumption) | (refine .get fun b hb=>?_) | (refine .bind fun a=>?_) | split)
theorem Xv.invoke {blks:List Blk} {r:AV} {name:String} {args:List AV} {evs:List EV}:Xv blks (Qcg P r name args evs):=by
 unfold Qcg
 split
 · split
   · exact .bind fun a=>.call
   · exact .fail
 · exact .fail
theorem Xv.aop {blks:List Blk} {o:Oper} {ev:Operand→AV} {evs:List EV}:Xv blks (aop P o ev evs):=by
 unfold Ax.aop
 split
 case h_9=>exact .store
 all_goals (try unfold newBox); (try unfold buildA); (try unfold VY); (try unfold Vj); (try unfold loadA); (try unfold binA); (try unfold unA); (try unfold WL); (try unfold sliceA); (try unfold fieldA); (try unfold Qcs); (try unfold indexA); (try unfold Qci); (try unfold callA); (try unfold lenA); (try unfold Qce); (try unfold lookupA); (try unfold lookA); (try unfold rangeA); (try unfold entryA); (try unfold Qas)
 all_goals repeat' (first | exact .okv | exact .fail | (with_reducible exact .update) | (with_reducible exact .layN) | (refine Qbe ?_) | exact .new | exact .arith | exact .upd (by assumption) | (with_reducible exact .app) | (with_reducible exact .appF) | (with_reducible exact .copyB) | (with_reducible exact .invoke) | (refine .get fun b hb=>?_) | (refine .gen fun ob=>?_) | (refine .bind fun a=>?_) | split)
/-- Only a block that is there is turned. -/
theorem aop_upd {blks:List Blk} {o:Oper} {ev:Operand→AV} {evs evs':List EV} {obs:List Prop} {k:Nat} {b:Blk} {v:AV} (h:(aop P o ev evs).run (blks[·]?)=some (.upd k b v,evs',obs)):k<blks.length :=
 Xv.aop k b v evs' obs h
/-- One operation. -/
theorem op_step {ops:Array Oper} {i:Nat} {o:Oper} {rest:List Nat} {k:List Item} {evs evs':List EV} {obs:List Prop} (ho:ops[i]?=some o) {HK:Prop} (hk:HK)
 (h:opA P ops i o st evs=some (st',evs',obs)) (hob:AllP obs) (hg:G P E (.inRegion ops rest :: k) st'):G P E (.inRegion ops (i :: rest) :: k) st:=by
 intro C Z a w hr
 unfold opA at h
 split at h
 · cases h
 · rename_i hw
   simp only [Option.some.injEq,Prod.mk.injEq] at h
   obtain ⟨rfl,-,-⟩:=h
   have hwc:=XF hr.tmp hw
   have hs:=stepR_op_skip (P:=P) (b:=E.b) (a:=a) (k:=k) (cs:=E.cs) (w:=w) (ops:=ops) (i:=i) (rest:=rest) (by simp [ho,hwc])
   simp only [ho,Option.bind_some] at hs
   refine .step (.one hs) (hg C Z _ w ⟨hr.tmp.put (.tup (by simp) (by simp)) o.dst,hr.mem,?_,hr.gh,hr.base⟩)
   cases hd:o.dst <;> exact hr.marks
 · rename_i hw
   have hwc:=XF hr.tmp hw
   split at h
   · cases h
   · rename_i eff evs1 obs1 ha
     split at h
     · cases h
     · rename_i tmps evs2 obs2 hc
       simp only [Option.some.injEq,Prod.mk.injEq] at h
       obtain ⟨rfl,-,rfl⟩:=h
       obtain ⟨ob1,ob2⟩:=Qj.1 hob
       have hpush:=hr.mem.push
       have ha':=Rd.run_mono (gb':=fun k=>(st.blks++[dead])[k]?) (fun k b h=>by rw [List.getElem?_append_left (List.getElem?_eq_some_iff.1 h).1]; exact h) ha
       have hop:=aop_sound (idx:=st.blks.length) hpush (by simp) (QV hr.tmp) ha' ob1
       have hgo:=stepGR_op (P:=P) (b:=E.b) (k:=k) (cs:=E.cs) (w:=w) (rest:=rest) ho hwc
       rw [Oper.semAt_eq _ _ _ (not_defer ha)] at hgo
       have hfin:∀ v,(E.b.atR a (.inRegion ops (i :: rest) :: k)).finish v=E.b.atR (a.put o.dst v) (.inRegion ops rest :: k):=by
        intro v; rw [Frame.finish_atR,ho]; rfl
       -- behind it
       have next:∀ (c:Value) (w':World),Res E.Z0 E.M E.w0 C Z (st.blks++[dead]) w st.blks.length eff c w'→Reach P (lone (E.b.atR (a.put o.dst c) (.inRegion ops rest :: k)) E.cs w') E.Fin:=by
        rintro c w' ⟨C',Z',hle,hevo,hm,hv⟩
        refine hg C' Z' _ w' ⟨Qbv ((hr.tmp.next hle hevo).put hv o.dst) hc ob2,?_,?_,hr.gh.next hle hevo,hr.base.next hle hevo⟩
        · cases eff with
          | val v=>exact hm.pop
          | new b mk =>
           have e:(st.blks++[dead]).set st.blks.length b=st.blks++[b]:=by simp
           simpa [Eff.blks,effBlks,e] using hm
          | upd kk b v =>
           have hkk:kk<st.blks.length:=aop_upd ha
           have e:(st.blks++[dead]).set kk b=st.blks.set kk b++[dead]:=List.set_append_left kk b hkk
           exact Mem.pop (by simpa [Eff.blks,effBlks,e] using hm)
        · have:(a.put o.dst c).defers=a.defers:=by cases o.dst <;> rfl
          rw [this]; exact hr.marks.evo hevo
       rcases hop with ⟨c,w',hrun,hq⟩ | ⟨w',hrun,hq⟩ | ⟨f,args,hrun,hcall⟩
       · refine .step (.one (step_lone_go ?_)) (next c w' hq)
         rw [hgo,← hfin]; simp [stepG.apply,hrun]
       · refine .step (.one (step_lone_go ?_)) (next undef w' hq)
         rw [hgo,← hfin]; simp [stepG.apply,hrun]
       · obtain ⟨e,w'',fr,⟨v,rfl,hq⟩,hsteps,-,hleave⟩:=hcall (E.b.atR a (.inRegion ops (i :: rest) :: k) :: E.cs)
         have henter:step P (lone (E.b.atR a (.inRegion ops (i :: rest) :: k)) E.cs w) =
          .next (lone (Frame.enter P f args .normal) (E.b.atR a (.inRegion ops (i :: rest) :: k) :: E.cs) w) :=
          step_lone_go (by rw [hgo]; simp [stepG.apply,hrun,Frame.atR])
         refine .step (Steps.head henter (hsteps.trans (.one ?_))) (next v w'' hq)
         rw [← hfin]; exact step_leave_returned hleave
end
end Ax
namespace Ax
open Go
section
variable {P:Program} {E:Env} {K K':List Item} {st st':St}
/-! ### Forgetting: temporaries that are written before they are read,blocks that nothing leads to -/
/-- 'live': the temporaries that are kept. -/
def keepT (live:List Nat):Nat→List AV→List AV
 | _,[]=>[]
 | i,v :: vs=>(bif live.contains i then v else .junk) :: keepT live (i+1) vs
def weak (live:List Nat) (n:Nat) (st:St):Option St :=
 let tmps:=keepT live 0 st.tmps
 let blks:=st.blks.take n
 if refsBelows n tmps && (blks.all fun b=>!b.live || b.flat || refsBelows n (bif b.sz == 0 then b.cells.take 1 else b.cells)) then some ⟨tmps,blks⟩ else none
theorem Xc:∀ {n:Nat} {cs:List AV} {i:Nat} {c:AV},refsBelows n cs=true→cs[i]?=some c→QI n c=true
 | n,[],_,_,_,h=>by simp at h
 | n,d :: cs,0,c,hn,h=>by simp [refsBelows] at hn h; rw [← h]; exact hn.1
 | n,d :: cs,i+1,c,hn,h=>by simp [refsBelows] at hn h; exact Xc hn.2 h
def Ctx.cut (C:Ctx) (n:Nat):Ctx:=⟨fun k=>if k<n then C.β k else .absent,fun k=>if k<n then C.γ k else 0⟩
theorem VR.cut {C:Ctx} {Z:Nat→Prop} {w:World} {n:Nat} {v:AV} {c:Value} (h:VR Z w C v c) (hn:QI n v=true):VR Z w (C.cut n) v c:=by
 induction h with
 | bool b=>exact .bool b
 | int k n=>exact .int k n
 | nilPtr=>exact .nilPtr
 | @ptr C₁ k g off c hg ho h =>
  have hk:k<n:=by simpa [QI] using hn
  exact .ptr (by simp [Ctx.cut,hk]; exact hg) ho (by simp [Ctx.cut,hk]; exact h)
 | rptr cv hz hc hk hr ih=>exact .rptr cv hz hc hk hr
 | nilSl=>exact .nilSl
 | @sl C₁ k g off len sz c hg ho h =>
  have hk:k<n:=by simpa [QI] using hn
  exact .sl (by simp [Ctx.cut,hk]; exact hg) ho (by simp only [SlOk,Ctx.cut,hk,if_true]; exact h)
 | rsl cv hz hl hc hk hr ih=>exact .rsl cv hz hl hc hk hr
 | rsl0=>exact .rsl0
 | agg hl h ih=>exact .agg hl fun i c v h1 h2=>ih i c v h1 h2 (Xc (by simpa [QI] using hn) h1)
 | tup hl h ih=>exact .tup hl fun i c v h1 h2=>ih i c v h1 h2 (Xc (by simpa [QI] using hn) h1)
 | clos hl h hl' h' ih ih' =>
  simp only [QI,Bool.and_eq_true] at hn
  exact .clos hl (fun i c v h1 h2=>ih i c v h1 h2 (Xc hn.1 h1)) hl' (fun i c v h1 h2=>ih' i c v h1 h2 (Xc hn.2 h1))
 | @mp C₁ k g it c hg ho h =>
  have hk:k<n:=by simpa [QI] using hn
  exact .mp (by simp [Ctx.cut,hk]; exact hg) ho (by simp only [Ctx.cut,hk,if_true]; exact h)
 | pm cv hz hc hk hr hcm hv ih ihv=>exact .pm cv hz hc hk hr hcm (ihv (by simpa [QI] using hn))
 | rmap es hz hh hl hb hr ih=>exact .rmap es hz hh hl hb hr
 | ifc h ih=>exact .ifc (ih (by simpa [QI] using hn))
 | nilFunc=>exact .nilFunc
 | opq v=>exact .opq v
 | junk v=>exact .junk v
theorem yQ (live:List Nat):∀ (i:Nat) (vs:List AV),(keepT live i vs).length=vs.length
 | _,[]=>rfl
 | i,v :: vs=>by simp [keepT,yQ live (i+1) vs]
theorem keepT_get (live:List Nat):∀ (i:Nat) (vs:List AV) (j:Nat) (x:AV),(keepT live i vs)[j]?=some x→vs[j]?=some x ∨ (x=.junk∧j<vs.length)
 | _,[],j,x,h=>by simp [keepT] at h
 | i,v :: vs,0,x,h=>by
  simp only [keepT,List.getElem?_cons_zero,Option.some.injEq] at h
  cases hc:live.contains i with
  | true=>rw [hc] at h; exact .inl (by rw [← h]; rfl)
  | false=>rw [hc] at h; exact .inr ⟨h.symm,by simp⟩
 | i,v :: vs,j+1,x,h=>by
  simp only [keepT,List.getElem?_cons_succ] at h
  rcases keepT_get live (i+1) vs j x h with h | ⟨h1,h2⟩
  · exact .inl (by simpa using h)
  · exact .inr ⟨h1,by simp; omega⟩
theorem Base.cut {Cb C:Ctx} {w0 w:World} {n:Nat} (h:Base Cb w0 C w) (hn:∀ k,n≤k→Cb.β k=.absent∧Cb.γ k=0):Base Cb w0 (C.cut n) w:=by
 refine ⟨⟨fun k=>?_,fun k p q=>?_⟩,fun k blk o arr e p q r=>?_⟩
 · simp only [Ctx.cut]
   split
   · exact h.le.gen k
   · rw [(hn k (by omega)).2]; exact Nat.zero_le _
 · simp only [Ctx.cut] at q ⊢
   split at q
   · rename_i hk; rw [if_pos hk]; exact h.le.pos k p q
   · rename_i hk; exact absurd (hn k (by omega)).1 p
 · simp only [Ctx.cut] at q
   split at q
   · exact h.rows k blk o arr e p q r
   · rename_i hk; rw [(hn k (by omega)).1] at p; cases p
/-- Of an iterator's row only the first cell refers to anything. -/
theorem QaN.next1 {C C':Ctx} {Z Z':Nat→Prop} {w w':World} {blk o:Nat} {b:Blk} (h:QaN C Z w blk o b) (hh:w'.heap[blk]?=w.heap[blk]?)
 (h0:∀ c v,VR Z w C0 c v→VR Z' w' C0 c v) (h1:b.flat=false→∀ c v,c ∈ (bif b.sz == 0 then b.cells.take 1 else b.cells)→VR Z w C c v→VR Z' w' C' c v):QaN C' Z' w' blk o b:=by
 by_cases hz:b.sz=0
 · rcases h with ⟨hz',-⟩ | ⟨-,ob,r1,r2⟩
   · exact absurd hz hz'
   · refine .inr ⟨hz,ob,by rw [hh]; exact r1,?_⟩
     cases hf:b.flat with
     | true =>
      simp only [hf,XK,if_true] at r2 ⊢
      obtain ⟨es,a,b',q,c⟩:=r2
      exact ⟨es,a,b',q,fun i x e hx he=>h0 _ _ (c i x e hx he)⟩
     | false =>
      simp only [hf,XK,Bool.false_eq_true,if_false] at r2 ⊢
      obtain ⟨m,n,seen,a,b',⟨c,c1,c2⟩,d,e⟩:=r2
      refine ⟨m,n,seen,a,b',⟨c,c1,h1 hf _ _ ?_ c2⟩,d,e⟩
      simp only [hz,beq_self_eq_true,cond_true]
      exact List.mem_of_getElem? (i:=0) (by rw [List.getElem?_take,if_pos (by omega)]; exact c1)
 · have:(b.sz == 0)=false:=by simpa using hz
   simp only [this,cond_false] at h1
   exact h.next hh h0 h1
theorem weak_rel {df:List Deferred} {Z0 M:Nat→Prop} {w0:World} {gA:List AV} {gV:List Value} {Cb C:Ctx} {wb:World} {Z:Nat→Prop} {a:Act} {w:World} {live:List Nat} {n:Nat} (hlow:∀ k,n≤k→Cb.β k=.absent∧Cb.γ k=0) (hgh:refsBelows n gA=true) (h:weak live n st=some st')
 (hr:Rel df Z0 M w0 gA gV Cb wb C Z st a w):Rel df Z0 M w0 gA gV Cb wb (C.cut n) Z st' a w:=by
 simp only [weak] at h
 split at h
 · rename_i hc
   simp only [Option.some.injEq] at h
   subst h
   rw [Bool.and_eq_true] at hc
   obtain ⟨h1,h2⟩:=hc
   refine ⟨⟨by rw [yQ]; exact hr.tmp.1,fun i c v hi hv=>?_⟩,?_,hr.marks,⟨hr.gh.1,fun i c v hi hv=>(hr.gh.2 i c v hi hv).cut (Xc hgh hi)⟩,hr.base.cut hlow⟩
   · have hb:=Xc h1 hi
     rcases keepT_get _ _ _ _ _ hi with h3 | ⟨rfl,-⟩
     · exact (hr.tmp.2 i c v h3 hv).cut hb
     · exact .junk _
   · have hm:=hr.mem
     have hget:∀ {k:Nat} {b:Blk},(st.blks.take n)[k]?=some b→k<n∧st.blks[k]?=some b:=by
      intro k b hb
      rw [List.getElem?_take] at hb
      split at hb
      · exact ⟨‹_›,hb⟩
      · cases hb
     refine ⟨fun k b hb hl=>?_,fun k b hb=>?_,fun k b hb hd=>?_,fun k hk=>?_,fun k k' c o o' e1 e2=>?_,fun k c o e1=>?_,hm.zlt,hm.z0,hm.zsub,hm.frame⟩
     · obtain ⟨hkn,hb'⟩:=hget hb
       obtain ⟨q1,q2⟩:=hm.blk k b hb' hl
       refine ⟨q1,?_⟩
       simp only [Ctx.cut,hkn,if_true]
       cases hs:C.β k with
       | absent=>simp [hs] at q2
       | unborn=>simp only [hs] at q2 ⊢; exact q2
       | loc blk o =>
        simp only [hs] at q2 ⊢
        refine q2.next1 rfl (fun c v h=>h) fun hf c v hc s2=>?_
        have:=List.all_eq_true.1 h2 b (List.mem_of_getElem? hb)
        simp only [hl,hf,Bool.not_true,Bool.false_or] at this
        obtain ⟨i,hi⟩:=List.getElem?_of_mem hc
        exact s2.cut (Xc this hi)
     · obtain ⟨hkn,hb'⟩:=hget hb
       simp only [Ctx.cut,hkn,if_true]; exact hm.gen k b hb'
     · obtain ⟨hkn,hb'⟩:=hget hb
       simp only [Ctx.cut,hkn,if_true]; exact hm.dd k b hb' hd
     · simp only [List.length_take] at hk
       simp only [Ctx.cut]
       by_cases hkn:k<n
       · simp only [hkn,if_true]; exact hm.dom k (by omega)
       · simp [hkn]
     · simp only [Ctx.cut] at e1 e2
       split at e1 <;> split at e2 <;> first | exact hm.inj k k' c o o' e1 e2 | cases e1 | cases e2
     · simp only [Ctx.cut] at e1
       split at e1
       · exact hm.own k c o e1
       · cases e1
 · cases h
theorem Kt {live:List Nat} {n:Nat} (hgh:refsBelows n E.gA=true) (h:weak live n st=some st') (hg:G P E K st'):G P E K st :=
 fun C Z a w hr=>hg (C.cut n) Z a w (weak_rel (E.low n hgh) hgh h hr)
/-! ### A function's end -/
/-- Cells lie on; what is no row of cells may have turned. -/
structure EvoC (w w':World):Prop where
 objs:∀ (b:Nat) (ob:Obj),(∀ d,ob ≠ .deferred d)→w.heap[b]?=some ob→w'.heap[b]?=some ob
 size:w'.heap.size=w.heap.size
theorem EvoC.cells {w w':World} (h:EvoC w w') (b:Nat) (arr:Array Value) (e:TypeId) (fz:Nat × Nat) (hb:w.heap[b]?=some (Obj.cells arr e fz)):w'.heap[b]?=some (Obj.cells arr e fz):=h.objs b _ (by simp) hb
theorem EvoC.maps {w w':World} (h:EvoC w w') (b:Nat) (es:Array MapEntry) (n:Nat) (hb:w.heap[b]?=some (Obj.map es n)):w'.heap[b]?=some (Obj.map es n):=h.objs b _ (by simp) hb
theorem EvoC.iters {w w':World} (h:EvoC w w') (b:Nat) (m:Option Nat) (n:Nat) (seen:Array Nat) (l:Nat) (hb:w.heap[b]?=some (Obj.mapIter m n seen l)):w'.heap[b]?=some (Obj.mapIter m n seen l):=h.objs b _ (by simp) hb
theorem EvoC.cell {w w':World} (h:EvoC w w') {a:Addr} {v:Value} (hc:w.cell? a=some v):w'.cell? a=some v:=by
 unfold World.cell? at hc ⊢
 split at hc
 · rename_i c e f hb; rw [h.cells _ _ _ _ hb]; exact hc
 · cases hc
theorem VR.evoC {C:Ctx} {Z:Nat→Prop} {w w':World} {v:AV} {c:Value} (h:VR Z w C v c) (he:EvoC w w'):VR Z w' C v c:=by
 induction h with
 | bool b=>exact .bool b
 | int k n=>exact .int k n
 | nilPtr=>exact .nilPtr
 | ptr hg ho h=>exact .ptr hg ho h
 | rptr cv hz hc hk hr ih=>exact .rptr cv hz (fun i hi=>he.cell (hc i hi)) hk ih
 | nilSl=>exact .nilSl
 | sl hg ho h =>
  refine .sl hg ho fun e=>?_
  have h1:=h e
  unfold SlOk at h1 ⊢
  split at h1
  · obtain ⟨a,cap,h2,h3,h4,arr,e',h5,h6⟩:=h1
    exact ⟨a,cap,h2,h3,h4,arr,e',he.cells _ _ _ _ h5,h6⟩
  · exact h1
  · exact h1.elim
 | rsl cv hz hl hc hk hr ih=>exact .rsl cv hz hl (fun i hi=>he.cell (hc i hi)) hk ih
 | rsl0=>exact .rsl0
 | agg hl h ih=>exact .agg hl ih
 | tup hl h ih=>exact .tup hl ih
 | clos hl h hl' h' ih ih'=>exact .clos hl ih hl' ih'
 | nilFunc=>exact .nilFunc
 | opq v=>exact .opq v
 | junk v=>exact .junk v
 | mp hg ho h=>exact .mp hg ho h
 | rmap es hz hh hl hb hr ih=>exact .rmap es hz (he.maps _ _ _ hh) hl hb ih
 | pm cv hz hc hk hr hcm hv ih ihv=>exact .pm cv hz (fun i hi=>he.cell (hc i hi)) hk ih (he.cell hcm) ihv
 | ifc h ih=>exact .ifc ih
theorem Mem.evoC {Z0 M Z:Nat→Prop} {w0 w w':World} {C:Ctx} {blks:List Blk} (hm:Mem Z0 M w0 C Z blks w) (he:EvoC w w') (hf:Fr w0 M w'):Mem Z0 M w0 C Z blks w':=by
 refine ⟨fun k b hb hl=>?_,hm.gen,hm.dd,hm.dom,hm.inj,fun k b o h=>?_,fun b hz=>by rw [he.size]; exact hm.zlt b hz,hm.z0,hm.zsub,hf⟩
 · obtain ⟨q1,q2⟩:=hm.blk k b hb hl
   refine ⟨q1,?_⟩
   cases hs:C.β k with
   | absent=>simp [hs] at q2
   | unborn=>simp only [hs] at q2 ⊢; exact q2
   | loc blk o =>
    simp only [hs] at q2 ⊢
    refine QaN.next (w:=w) (C:=C) (Z:=Z) q2 ?_ (fun c v h=>h.evoC he) (fun _ c v _ h=>h.evoC he)
    rcases q2 with ⟨-,arr,e,r1,-⟩ | ⟨-,ob,r1,r2⟩
    · rw [he.cells _ _ _ _ r1,r1]
    · unfold XK at r2
      split at r2
      · obtain ⟨es,rfl,-⟩:=r2
        rw [he.maps _ _ _ r1,r1]
      · obtain ⟨m,n,seen,rfl,-⟩:=r2
        rw [he.iters _ _ _ _ _ r1,r1]
 · rw [he.size]; exact hm.own k b o h
theorem Base.evoC {Cb C:Ctx} {w0 w w':World} (h:Base Cb w0 C w) (he:EvoC w w'):Base Cb w0 C w' :=
 ⟨h.le,fun k blk o arr e p q r=>let ⟨arr',a,b⟩:=h.rows k blk o arr e p q r; ⟨arr',he.cells _ _ _ _ a,b⟩⟩
/-- The results,as the abstract machine reads them. -/
def resA (P:Program) (st:St):List ResultVar→List EV→Option (List AV × List EV × List Prop)
 | [],evs=>some ([],evs,[])
 | .tmp t :: rs,evs=>match resA P st rs evs with
  | some (vs,evs,obs)=>some (st.tmps.getD t .junk :: vs,evs,obs)
  | none=>none
 | .cell a t :: rs,evs=>match (loadA P t (st.tmps.getD a .junk) evs).run (st.blks[·]?) with
  | some (.val v,evs,o1)=>match resA P st rs evs with
   | some (vs,evs,obs)=>some (v :: vs,evs,o1++obs)
   | none=>none
  | _=>none
theorem tmps_get {C:Ctx} {Z:Nat→Prop} {w:World} {tmps:List AV} {arr:Array Value} (h:VRs Z w C tmps arr.toList) (t:Tmp):VR Z w C (tmps.getD t .junk) (arr.getD t undef) :=
 QV (a:=⟨arr,[]⟩) h (.tmp t)
def resF (arr:Array Value):ResultVar→Sem Value
 | .tmp t=>pure (arr.getD t undef)
 | .cell a t=>do loadVar t (← asAddr (arr.getD a undef))
theorem yj {C:Ctx} {Z Z0 M:Nat→Prop} {w0 w:World} {arr:Array Value} (hm:Mem Z0 M w0 C Z st.blks w) (ht:VRs Z w C st.tmps arr.toList) :
 ∀ {rs:List ResultVar} {evs evs':List EV} {vs:List AV} {obs:List Prop},resA P st rs evs=some (vs,evs',obs)→AllP obs →
  ∃ cs:List Value,(rs.mapM (resF arr)).run P w=.ok cs w∧VRs Z w C vs cs
 | [],evs,evs',vs,obs,h,ho=>by
  simp only [resA,Option.some.injEq,Prod.mk.injEq] at h
  obtain ⟨rfl,-,-⟩:=h
  exact ⟨[],rfl,rfl,by simp⟩
 | .tmp t :: rs,evs,evs',vs,obs,h,ho=>by
  simp only [resA] at h
  split at h
  · rename_i vs1 evs1 obs1 h1
    simp only [Option.some.injEq,Prod.mk.injEq] at h
    obtain ⟨rfl,-,rfl⟩:=h
    obtain ⟨cs,r1,r2⟩:=yj hm ht h1 ho
    refine ⟨arr.getD t undef :: cs,by simp only [List.mapM_cons,resF,Sem.run_bind,Sem.run_pure,Result.andThen_ok,r1],by simp [r2.1],fun i c v a b=>?_⟩
    cases i with
    | zero=>simp only [List.getElem?_cons_zero,Option.some.injEq] at a b; rw [← a,← b]; exact tmps_get ht t
    | succ i=>exact r2.2 i c v (by simpa using a) (by simpa using b)
  · cases h
 | .cell a t :: rs,evs,evs',vs,obs,h,ho=>by
  simp only [resA] at h
  split at h
  · rename_i v evs1 o1 hl
    split at h
    · rename_i vs1 evs2 obs2 h1
      simp only [Option.some.injEq,Prod.mk.injEq] at h
      obtain ⟨rfl,-,rfl⟩:=h
      obtain ⟨a1,a2⟩:=Qj.1 ho
      obtain ⟨cs,r1,r2⟩:=yj hm ht h1 a2
      obtain ⟨v',c,e1,e2,e3⟩:=qp hm (tmps_get ht a) hl a1
      cases e1
      have hload:(do loadVar t (← asAddr (arr.getD a undef)):Sem Value).run P w=.ok c w:=by
       unfold Instr.loadAt at e2
       cases hv:arr.getD a undef <;> simp only [hv,Instr.sureAddr] at e2 <;> try (simp at e2; done)
       rename_i p
       cases p with
       | none=>simp at e2
       | some p=>simpa [hv,asAddr] using e2
      refine ⟨c :: cs,by simp only [List.mapM_cons,resF,Sem.run_bind,Sem.run_pure,Result.andThen_ok,r1] at hload ⊢; rw [hload]; simp only [Result.andThen_ok,r1],by simp [r2.1],fun i c' v'' p q=>?_⟩
      cases i with
      | zero=>simp only [List.getElem?_cons_zero,Option.some.injEq] at p q; rw [← p,← q]; exact e3
      | succ i=>exact r2.2 i c' v'' (by simpa using p) (by simpa using q)
    · cases h
  · cases h
end
end Ax
namespace Ax
open Go
section
variable {P:Program} {E:Env} {K K':List Item} {st st':St}
def VA (P:Program) (f:FuncId) (cs:List Frame) (Post:Value→World→Prop) (m:Machine):Prop :=
 ∃ v w' fr,m=lone fr cs w'∧fr.fn=f∧fr.leaving P w' (.returned v)∧Post v w'
theorem Qax {cs:List Frame} {M Z:Nat→Prop} {w0:World}:∀ (Ds:List Nat) (fr:Frame) (w:World),fr.mode=.returning→fr.defers=Ds.map mark→Ds.Nodup →
 (∀ D ∈ Ds,Z D∧(M D ∨ w0.heap.size≤D)∧w.heap[D]?=some (.deferred (some []))) →
 ∃ w',Steps P (lone fr cs w) (lone { fr with defers:=[] } cs w')∧EvoC w w'∧(Fr w0 M w→Fr w0 M w')
 | [],fr,w,hm,hd,hn,h=>by
  refine ⟨w,?_,⟨fun _ _ _ h=>h,rfl⟩,fun h=>h⟩
  have:fr={ fr with defers:=[] }:=by cases fr; simp at hd; simp [hd]
  rw [← this]; exact .refl _ _
 | D :: Ds,fr,w,hm,hd,hn,h=>by
  obtain ⟨h1,h2,h3⟩:=h D (by simp)
  have s1:=step_collected (P:=P) (cs:=cs) (fr:=fr) (by rw [hm]; simp) (d:=mark D) (ds:=Ds.map mark) (by simpa using hd) rfl (run_takeDeferred h3)
  obtain ⟨w',s2,e2,f2⟩:=Qax (M:=M) Ds { fr with defers:=[]++Ds.map mark } (w.putObj D (.deferred none)) hm rfl (List.nodup_cons.1 hn).2 fun D' hD'=>by
   obtain ⟨a,b,c⟩:=h D' (by simp [hD'])
   refine ⟨a,b,?_⟩
   have:D ≠ D':=fun e=>(List.nodup_cons.1 hn).1 (e ▸ hD')
   simp [World.putObj,this,c]
  refine ⟨w',.trans (.one s1) s2,⟨fun b ob hnd hb=>e2.objs b ob hnd ?_,by rw [e2.size]; simp [World.putObj]⟩,fun hf=>f2 ?_⟩
  · have:D ≠ b:=by rintro rfl; rw [h3] at hb; cases hb; exact hnd _ rfl
    simp [World.putObj,this,hb]
  · refine ⟨hf.os,hf.tape,hf.output,by simpa [World.putObj] using hf.size,hf.dr,fun b hb hM=>?_⟩
    have:D ≠ b:=by rintro rfl; rcases h2 with h2 | h2; exact hM h2; omega
    simp [World.putObj,this]; exact hf.same b hb hM
def tupV:List Value→Value
 | [v]=>v
 | cs=>.tuple cs.toArray
theorem results_run {fn:Func} {arr:Array Value} {w:World} {cs:List Value}
 (h:(fn.results.toList.mapM (resF arr)).run P w=.ok cs w) :
 (results fn arr).run P w=.ok (tupV cs) w:=by
 have hF:results fn arr=(do let vs ← fn.results.mapM (resF arr); pure (if h:vs.size=1 then vs[0] else .tuple vs):Sem Value):=by
  unfold results
  congr 2
 rw [hF,Array.mapM_eq_mapM_toList]
 simp only [Sem.run_bind,map_eq_pure_bind,Sem.run_pure]
 rw [h]
 simp only [Result.andThen_ok,Sem.run_pure]
 split
 · rename_i h1
   match cs,h1 with
   | [v],_=>rfl
 · rename_i h1
   match cs,h1 with
   | [],_=>rfl
   | [v],h1=>simp at h1
   | a :: b :: c,_=>rfl
def tupA:List AV→AV
 | [v]=>v
 | vs=>.tup vs
theorem tupA_sound {Z:Nat→Prop} {w:World} {C:Ctx} {vs:List AV} {cs:List Value} (h:VRs Z w C vs cs):VR Z w C (tupA vs) (tupV cs):=by
 obtain ⟨h1,h2⟩:=h
 match vs,cs,h1 with
 | [],[],_=>exact .tup rfl (by simp)
 | [v],[c],_=>exact h2 0 v c rfl rfl
 | a :: b :: r,a' :: b' :: r',h1=>exact .tup (by simpa using h1) fun i c v p q=>h2 i c v p (by simpa using q)
/-- The end of a function's body. -/
theorem G_end {fn:Func} {evs evs':List EV} {vs:List AV} {obs:List Prop} {Post:Value→World→Prop}
 (hr:E.b.roundOf=none) (hk:E.b.kind=.normal) (hdf:E.df=[]) (hf:P.funcs[E.b.fn]?=some fn) (hfin:E.Fin=VA P E.b.fn E.cs Post)
 (h:resA P st fn.results.toList evs=some (vs,evs',obs)) (ho:AllP obs)
 (hp:∀ (C:Ctx) (Z:Nat→Prop) (w:World) (v:Value),Mem E.Z0 E.M E.w0 C Z st.blks w→VR Z w C (tupA vs) v→Base E.Cb E.wb C w→Post v w)
 (hK:K=[] ∨ ∃ k,K=.code .ret :: k):G P E K st:=by
 intro C Z a w hrel
 have hs:step P (lone (E.b.atR a K) E.cs w)=.next (lone { E.b.atR a K with mode:=.returning } E.cs w):=by
  rcases hK with rfl | ⟨k,rfl⟩
  · exact stepR_end hr
  · exact stepR_ret hr
 obtain ⟨Ds,d1,d2,d3⟩:=hrel.marks
 obtain ⟨w',s2,e2,f2⟩:=Qax (P:=P) (cs:=E.cs) (M:=E.M) (w0:=E.w0) Ds { E.b.atR a K with mode:=.returning } w rfl (d2.eq hdf) d1 d3
 have hm':=hrel.mem.evoC e2 (f2 hrel.mem.frame)
 have ht':VRs Z w' C st.tmps a.tmps.toList:=⟨hrel.tmp.1,fun i c v p q=>(hrel.tmp.2 i c v p q).evoC e2⟩
 obtain ⟨cs,r1,r2⟩:=yj hm' ht' h ho
 refine ⟨_,.trans (.one hs) s2,?_⟩
 rw [hfin]
 exact ⟨_,w',_,rfl,rfl,⟨rfl,rfl,hk,fn,hf,results_run r1⟩,hp C Z w' _ hm' (tupA_sound r2) (hrel.base.evoC e2)⟩
/-- A function that only reads what it is handed. -/
def Pure (P:Program) (f:FuncId) (args:List AV) (res:AV):Prop :=
 ∀ (Z:Nat→Prop) (w:World) (cargs:Array Value),(∀ b,Z b→b<w.heap.size)→VRs Z w C0 args cargs.toList →
  Calls P f cargs w fun e w'=>∃ v,e=.returned v∧VR (Zx Z w w') w' C0 res v∧Fr w (fun _=>False) w'
def unds:Nat→List AV
 | 0=>[]
 | n+1=>.tup [] :: unds n
theorem Yi:∀ n,unds n=List.replicate n (.tup [])
 | 0=>rfl
 | n+1=>by simp [unds,Yi n,List.replicate_succ]
/-- The frame of a called function,and what it must come to. -/
def callEnv (P:Program) (f:FuncId) (Z:Nat→Prop) (M:Nat→Prop) (w:World) (cs:List Frame) (Post:Value→World→Prop):Env :=
 { Z0:=Z,M:=M,w0:=w,b:={ (default:Frame) with fn:=f,kind:=.normal },cs:=cs,Fin:=VA P f cs Post }
def Qr (P:Program) (f:FuncId) (res:AV) (E:Env):Prop :=
 E.b.roundOf=none∧E.b.kind=.normal∧E.b.fn=f∧(∀ b,¬ E.M b) ∧
  E.gA=[]∧E.Fin=(VA P f E.cs fun v w'=>VR (Zx E.Z0 E.w0 w') w' C0 res v∧Fr E.w0 (fun _=>False) w')∧E.Cb=C0∧E.df=[]
theorem Qr.kind {f:FuncId} {res:AV} (hE:Qr P f res E):E.b.kind=.normal:=hE.2.1
theorem Qr.cb {f:FuncId} {res:AV} (hE:Qr P f res E):E.Cb=C0:=hE.2.2.2.2.2.2.1
theorem KS {Z:Nat→Prop} {w:World} (hz:∀ b,Z b→b<w.heap.size):Mem Z (fun _=>False) w C0 Z [] w :=
 ⟨by simp,by simp,by simp,fun _ _=>⟨rfl,rfl⟩,fun _ _ _ _ _ h=>by simp [C0] at h,fun _ _ _ h=>by simp [C0] at h,hz,fun _ h=>h,fun _ h=>.inl h,Fr.refl _ _⟩
theorem Qt {f:FuncId} {fn:Func} {c:Code} {args:List AV} {res:AV} (hf:P.funcs[f]?=some fn) (hb:fn.body=some c)
 (h:∀ E,Qr P f res E→G P E [.code c] ⟨args++unds (fn.ntmps - args.length),[]⟩):Pure P f args res:=by
 intro Z w cargs hz ha cs
 have hE:Qr P f res (callEnv P f Z (fun _=>False) w cs fun v w'=>VR (Zx Z w w') w' C0 res v∧Fr w (fun _=>False) w') :=
  ⟨rfl,rfl,rfl,fun _ h=>h,rfl,rfl,rfl,rfl⟩
 have henter:Frame.enter P f cargs .normal=({ (default:Frame) with fn:=f,kind:=.normal }:Frame).atR { tmps:=cargs++Array.replicate (fn.ntmps - cargs.size) undef,defers:=[] } [.code c]:=by
  simp only [Frame.enter,Frame.atR,hf,hb,Option.map_some,Option.getD_some,Option.bind_some]; rfl
 have hl:args.length=cargs.size:=by simpa using ha.1
 obtain ⟨m',s,v,w',fr,rfl,r1,r2,r3⟩:=h _ hE C0 Z { tmps:=cargs++Array.replicate (fn.ntmps - cargs.size) undef,defers:=[] } w
  ⟨⟨by simp [Yi,hl],fun i x y p q=>by
   simp only [Array.toList_append,Array.toList_replicate] at q
   rw [Yi] at p
   by_cases hi:i<args.length
   · rw [List.getElem?_append_left hi] at p
     rw [List.getElem?_append_left (by simpa [← hl] using hi)] at q
     exact ha.2 i x y p q
   · rw [List.getElem?_append_right (by omega)] at p
     rw [List.getElem?_append_right (by simp; omega)] at q
     have p':=List.mem_replicate.1 (List.mem_of_getElem? p)
     have q':=List.mem_replicate.1 (List.mem_of_getElem? q)
     rw [p'.2,q'.2]
     exact .tup rfl (by simp)⟩,KS hz,⟨[],.nil,.nil,by simp⟩,⟨rfl,fun _ _ _ h _=>by cases h⟩,.bot⟩
 rw [henter]
 exact ⟨.returned v,w',fr,⟨v,rfl,r3⟩,s,r1,r2⟩
/-- The end of a function that only reads: its result,laid down. -/
theorem G_pure {f:FuncId} {fn:Func} {evs evs':List EV} {vs:List AV} {obs o2:List Prop} {res:AV} (hE:Qr P f res E) (hf:P.funcs[f]?=some fn)
 (h:resA P st fn.results.toList evs=some (vs,evs',obs)) (ho:AllP obs) (h2:(frz 8 (tupA vs)).run (st.blks[·]?)=some (res,o2)) (ho2:AllP o2)
 (hK:K=[] ∨ ∃ k,K=.code .ret :: k):G P E K st:=by
 obtain ⟨e1,e2,rfl,e4,-,e5,-,e6⟩:=hE
 refine G_end e1 e2 e6 hf e5 h ho (fun C Z w v hm hv _=>⟨?_,?_⟩) hK
 · refine (Yc hm h2 ho2 hv).zmono fun b hb=>?_
   rcases hb with hb | ⟨k,o,hb⟩
   · rcases hm.zsub b hb with hb' | hb' | hb'
     · exact .inl hb'
     · exact absurd hb' (e4 b)
     · exact .inr ⟨hb',hm.zlt b hb⟩
   · obtain ⟨q1,q2,q3⟩:=hm.own k b o hb
     exact .inr ⟨q3.resolve_left (e4 b),q1⟩
 · have:=hm.frame
   exact ⟨this.os,this.tape,this.output,this.size,this.dr,fun b hb _=>this.same b hb (e4 b)⟩
end
end Ax
namespace Ax
open Go
section
variable {P:Program} {E:Env} {K K':List Item} {st st':St}
theorem aop_congr {o:Oper} {ev ev':Operand→AV} {evs:List EV} (h:∀ x ∈ o.op.operands,ev x=ev' x):aop P o ev evs=aop P o ev' evs:=by
 obtain ⟨dst,op,type,pos,after,guard⟩:=o
 have pairs:∀ ps:Array (Nat × Operand),(∀ x ∈ (ps.toList.map (·.2)).toArray,ev x=ev' x)→(ps.toList.map fun p=>(p.1,ev p.2))=(ps.toList.map fun p=>(p.1,ev' p.2)):=fun ps hp =>
  List.map_congr_left fun p hm=>by rw [hp p.2 (by simp; exact ⟨p.1,by simpa using hm⟩)]
 cases op <;> simp only [Op.operands] at h <;> simp only [aop]
 case build t ps=>rw [pairs ps h]
 case buildSlice t n ps=>rw [pairs ps h]
 case makeFunc fn first captured =>
  cases fn <;> simp only
  rw [List.map_congr_left (l:=first.toList) fun x hx=>h x (by simp; exact .inl (by simpa using hx)),List.map_congr_left (l:=captured.toList) fun x hx=>h x (by simp; exact .inr (by simpa using hx))]
 case call c =>
  obtain ⟨callee,args,ats⟩:=c
  have hargs:args.toList.map ev=args.toList.map ev':=List.map_congr_left fun x hx=>h x (by simp [Call.operands]; exact .inr (by simpa using hx))
  cases callee with
  | value f=>have hf:ev f=ev' f:=h f (by simp [Call.operands]); simp only [hf,hargs]
  | invoke r m=>have hr:ev r=ev' r:=h r (by simp [Call.operands]); simp only [hr,hargs]
  | builtin b=>simp only [hargs]
 case slice t x lo hi mx=>cases lo <;> cases hi <;> cases mx <;> simp_all
 case makeMap t r=>cases r <;> rfl
 case typeAssert x xt u ok=>cases ok <;> simp_all
 all_goals (first | rfl | (simp_all; done))
theorem Rd.run_congr {α:Type} {gb gb':Nat→Option Blk}:∀ {x:Rd α} {r:α},(∀ k ∈ x.log gb,gb' k=gb k)→x.run gb=some r→x.run gb'=some r∧x.log gb'=x.log gb
 | .ok a,r,h,hr=>⟨hr,rfl⟩
 | .fail,r,h,hr=>by cases hr
 | .get k f,r,h,hr=>by
  obtain ⟨b,hb,hr⟩:=QC hr
  have hk:gb' k=some b:=by rw [h k (by simp [Rd.log,hb]),hb]
  obtain ⟨h1,h2⟩:=Rd.run_congr (gb':=gb') (fun j hj=>h j (by simp [Rd.log,hb,hj])) hr
  exact ⟨by simp only [Rd.run,hk]; exact h1,by simp only [Rd.log,hk,hb,h2]⟩
def conc1 (g:Bool) (v:AV) (evs:List EV):Option (AV × List EV × List Prop) :=
 match g with
 | true=>(match v,evs with
  | .bool c,.b x :: r=>some (.bool x,r,[c=x])
  | _,_=>none)
 | false=>some (v,evs,[])
theorem conc1_sound {Z:Nat→Prop} {w:World} {C:Ctx} {g:Bool} {v tv:AV} {c:Value} {evs evs':List EV} {obs:List Prop} (h:VR Z w C v c)
 (hc:conc1 g v evs=some (tv,evs',obs)) (ho:AllP obs):VR Z w C tv c:=by
 unfold conc1 at hc
 split at hc
 · split at hc
   · simp only [Option.some.injEq,Prod.mk.injEq] at hc
     obtain ⟨rfl,-,rfl⟩:=hc
     rw [← ho.1]; exact h
   · cases hc
 · simp only [Option.some.injEq,Prod.mk.injEq] at hc
   obtain ⟨rfl,-,-⟩:=hc
   exact h
structure Rec where
 dst:Option Nat
 tv:AV
 blk:Option (Nat × Blk)
 rt:List Nat
 rb:List Nat
 fresh:Bool
def app1 (s:St) (r:Rec):St:=⟨putA s.tmps r.dst r.tv,match r.blk with | some (k,b)=>s.blks.set k b | none=>s.blks⟩
def recA (P:Program) (ops:Array Oper) (idx i:Nat) (o:Oper) (st:St) (evs:List EV):Option (Rec × List EV × List Prop) :=
 match Yh ops st.tmps o with
 | none=>none
 | some false=>some (⟨o.dst,.tup [],none,o.looksAt ops,[],false⟩,evs,[])
 | some true =>
  match (aop P o (XU st.tmps) evs).run (st.blks[·]?) with
  | none=>none
  | some (eff,evs1,o1) =>
   match conc1 (Qab ops i) (eff.av idx) evs1 with
   | none=>none
   | some (tv,evs2,o2) =>
    match eff with
    | .val _=>some (⟨o.dst,tv,none,o.looksAt ops,(aop P o (XU st.tmps) evs).log (st.blks[·]?),false⟩,evs2,o1++o2)
    | .upd k b _=>some (⟨o.dst,tv,some (k,b),o.looksAt ops,(aop P o (XU st.tmps) evs).log (st.blks[·]?),false⟩,evs2,o1++o2)
    | .new b _=>match st.blks[idx]? with
     | some ⟨false,0,0,true,[],false⟩=>some (⟨o.dst,tv,some (idx,b),o.looksAt ops,idx :: (aop P o (XU st.tmps) evs).log (st.blks[·]?),true⟩,evs2,o1++o2)
     | _=>none
theorem Mem.pushN {Z0 M Z:Nat→Prop} {w0 w:World} {C:Ctx} {blks:List Blk} (hm:Mem Z0 M w0 C Z blks w):∀ m,Mem Z0 M w0 C Z (blks++List.replicate m dead) w
 | 0=>by simpa using hm
 | m+1=>by
  rw [List.replicate_succ',← List.append_assoc]
  exact (hm.pushN m).push
theorem Mem.popN {Z0 M Z:Nat→Prop} {w0 w:World} {C:Ctx} {blks:List Blk}:∀ m,Mem Z0 M w0 C Z (blks++List.replicate m dead) w→Mem Z0 M w0 C Z blks w
 | 0,hm=>by simpa using hm
 | m+1,hm=>by
  rw [List.replicate_succ',← List.append_assoc] at hm
  exact hm.pop.popN m
/-- One operation,with its new block's place told. -/
theorem op_core {ops:Array Oper} {i idx:Nat} {o:Oper} {rest:List Nat} {k:List Item} {eff:Eff} {tv:AV} {g:Bool} {evs evs1 evs2:List EV} {obs1 obs2:List Prop} (ho:ops[i]?=some o) {HK:Prop} (hk:HK)
 (hw:Yh ops st.tmps o=some true) (ha:(aop P o (XU st.tmps) evs).run (st.blks[·]?)=some (eff,evs1,obs1)) (ob1:AllP obs1)
 (hc:conc1 g (eff.av idx) evs1=some (tv,evs2,obs2)) (ob2:AllP obs2) (hidx:st.blks[idx]?=some dead)
 (hg:G P E (.inRegion ops rest :: k) ⟨putA st.tmps o.dst tv,eff.blks idx st.blks⟩):G P E (.inRegion ops (i :: rest) :: k) st:=by
 intro C Z a w hr
 have hwc:=XF hr.tmp hw
 have hop:=aop_sound (idx:=idx) hr.mem hidx (QV hr.tmp) ha ob1
 have hgo:=stepGR_op (P:=P) (b:=E.b) (k:=k) (cs:=E.cs) (w:=w) (rest:=rest) ho hwc
 rw [Oper.semAt_eq _ _ _ (not_defer ha)] at hgo
 have hfin:∀ v,(E.b.atR a (.inRegion ops (i :: rest) :: k)).finish v=E.b.atR (a.put o.dst v) (.inRegion ops rest :: k):=by
  intro v; rw [Frame.finish_atR,ho]; rfl
 have next:∀ (c:Value) (w':World),Res E.Z0 E.M E.w0 C Z st.blks w idx eff c w'→Reach P (lone (E.b.atR (a.put o.dst c) (.inRegion ops rest :: k)) E.cs w') E.Fin:=by
  rintro c w' ⟨C',Z',hle,hevo,hm,hv⟩
  refine hg C' Z' _ w' ⟨(hr.tmp.next hle hevo).put (conc1_sound hv hc ob2) o.dst,hm,?_,hr.gh.next hle hevo,hr.base.next hle hevo⟩
  have:(a.put o.dst c).defers=a.defers:=by cases o.dst <;> rfl
  rw [this]; exact hr.marks.evo hevo
 rcases hop with ⟨c,w',hrun,hq⟩ | ⟨w',hrun,hq⟩ | ⟨f,args,hrun,hcall⟩
 · refine .step (.one (step_lone_go ?_)) (next c w' hq)
   rw [hgo,← hfin]; simp [stepG.apply,hrun]
 · refine .step (.one (step_lone_go ?_)) (next undef w' hq)
   rw [hgo,← hfin]; simp [stepG.apply,hrun]
 · obtain ⟨e,w'',fr,⟨v,rfl,hq⟩,hsteps,-,hleave⟩:=hcall (E.b.atR a (.inRegion ops (i :: rest) :: k) :: E.cs)
   have henter:step P (lone (E.b.atR a (.inRegion ops (i :: rest) :: k)) E.cs w) =
    .next (lone (Frame.enter P f args .normal) (E.b.atR a (.inRegion ops (i :: rest) :: k) :: E.cs) w) :=
    step_lone_go (by rw [hgo]; simp [stepG.apply,hrun,Frame.atR])
   refine .step (Steps.head henter (hsteps.trans (.one ?_))) (next v w'' hq)
   rw [← hfin]; exact step_leave_returned hleave
theorem G_push {m:Nat} (hg:G P E K ⟨st.tmps,st.blks++List.replicate m dead⟩):G P E K st :=
 fun C Z a w hr=>hg C Z a w ⟨hr.tmp,hr.mem.pushN m,hr.marks,hr.gh,hr.base⟩
theorem G_pop {tmps:List AV} {blks:List Blk} {m:Nat} (hg:G P E K ⟨tmps,blks⟩):G P E K ⟨tmps,blks++List.replicate m dead⟩ :=
 fun C Z a w hr=>hg C Z a w ⟨hr.tmp,Mem.popN m hr.mem,hr.marks,hr.gh,hr.base⟩
theorem eff_idx {eff:Eff} {blks:List Blk} {j j':Nat} (h:∀ b mk,eff ≠ .new b mk):eff.blks j blks=eff.blks j' blks∧eff.av j=eff.av j':=by
 cases eff with
 | val v=>exact ⟨rfl,rfl⟩
 | upd k b v=>exact ⟨rfl,rfl⟩
 | new b mk=>exact absurd rfl (h b mk)
theorem rec_step {ops:Array Oper} {i idx:Nat} {o:Oper} {rest:List Nat} {k:List Item} {r:Rec} {evs evs':List EV} {obs:List Prop} (ho:ops[i]?=some o) {HK:Prop} (hk:HK)
 (h:recA P ops idx i o st evs=some (r,evs',obs)) (hob:AllP obs) (hg:G P E (.inRegion ops rest :: k) (app1 st r)):G P E (.inRegion ops (i :: rest) :: k) st:=by
 unfold recA at h
 split at h
 · cases h
 · rename_i hw
   simp only [Option.some.injEq,Prod.mk.injEq] at h
   obtain ⟨rfl,-,-⟩:=h
   intro C Z a w hr
   have hwc:=XF hr.tmp hw
   have hs:=stepR_op_skip (P:=P) (b:=E.b) (a:=a) (k:=k) (cs:=E.cs) (w:=w) (ops:=ops) (i:=i) (rest:=rest) (by simp [ho,hwc])
   simp only [ho,Option.bind_some] at hs
   refine .step (.one hs) (hg C Z _ w ⟨hr.tmp.put (.tup (by simp) (by simp)) o.dst,hr.mem,?_,hr.gh,hr.base⟩)
   cases hd:o.dst <;> exact hr.marks
 · rename_i hw
   split at h
   · cases h
   · rename_i eff evs1 obs1 ha
     split at h
     · cases h
     · rename_i tv evs2 obs2 hc
       -- where nothing is new,the place is a dead one behind
       have old:(∀ b mk,eff ≠ .new b mk)→G P E (.inRegion ops rest :: k) ⟨putA st.tmps o.dst tv,eff.blks st.blks.length st.blks⟩→AllP obs1→AllP obs2→G P E (.inRegion ops (i :: rest) :: k) st:=by
        intro hn hg ob1 ob2
        refine G_push (m:=1) ?_
        have ha':=Rd.run_mono (gb':=fun k=>(st.blks++[dead])[k]?) (fun k b h=>by rw [List.getElem?_append_left (List.getElem?_eq_some_iff.1 h).1]; exact h) ha
        refine op_core (st:=⟨st.tmps,st.blks++[dead]⟩) (idx:=st.blks.length) ho hk hw ha' ob1 (tv:=tv) (by rw [(eff_idx (blks:=st.blks) (j:=st.blks.length) (j':=idx) hn).2]; exact hc) ob2 (by simp) ?_
        have:eff.blks st.blks.length (st.blks++[dead])=eff.blks st.blks.length st.blks++List.replicate 1 dead:=by
         cases eff with
         | val v=>rfl
         | new b mk=>exact absurd rfl (hn b mk)
         | upd kk b v=>exact List.set_append_left kk b (aop_upd ha)
        rw [this]
        exact G_pop hg
       split at h
       · simp only [Option.some.injEq,Prod.mk.injEq] at h
         obtain ⟨rfl,-,rfl⟩:=h
         obtain ⟨ob1,ob2⟩:=Qj.1 hob
         exact old (by simp) hg ob1 ob2
       · simp only [Option.some.injEq,Prod.mk.injEq] at h
         obtain ⟨rfl,-,rfl⟩:=h
         obtain ⟨ob1,ob2⟩:=Qj.1 hob
         exact old (by simp) hg ob1 ob2
       · split at h
         · rename_i hidx
           simp only [Option.some.injEq,Prod.mk.injEq] at h
           obtain ⟨rfl,-,rfl⟩:=h
           obtain ⟨ob1,ob2⟩:=Qj.1 hob
           exact op_core ho hk hw ha ob1 hc ob2 hidx hg
         · cases h
theorem mem_looks {ops:Array Oper} {o:Oper} {t:Nat} (h:.tmp t ∈ o.op.operands):t ∈ o.looksAt ops :=
 List.mem_append_left _ (List.mem_filterMap.2 ⟨.tmp t,by simpa using h,rfl⟩)
theorem QaY {ops:Array Oper} {i idx:Nat} {o:Oper} {r:Rec} {evs evs':List EV} {obs:List Prop} (h:recA P ops idx i o st evs=some (r,evs',obs))
 (ht:∀ t ∈ r.rt,st'.tmps[t]?=st.tmps[t]?) (hb:∀ k ∈ r.rb,st'.blks[k]?=st.blks[k]?):recA P ops idx i o st' evs=some (r,evs',obs):=by
 have hrt:r.rt=o.looksAt ops:=by
  unfold recA at h
  repeat' (split at h)
  all_goals first | (cases h; done) | (simp only [Option.some.injEq,Prod.mk.injEq] at h; obtain ⟨rfl,-,-⟩:=h; rfl)
 rw [hrt] at ht
 have hwa:Yh ops st'.tmps o=Yh ops st.tmps o:=by
  unfold Yh
  cases hg:o.guard with
  | none=>rfl
  | some g =>
   obtain ⟨j,want⟩:=g
   simp only
   cases hd:(ops[j]?).bind (·.dst) with
   | none=>rfl
   | some d =>
    have:st'.tmps[d]?=st.tmps[d]?:=ht d (by
     unfold Oper.looksAt
     refine List.mem_append_right _ ?_
     simp only [hg]
     rw [hd]; simp)
    simp only [this]
 have hev:∀ x ∈ o.op.operands,XU st.tmps x=XU st'.tmps x:=by
  intro x hx
  cases x with
  | tmp t=>simp only [XU,List.getD_eq_getElem?_getD,ht t (mem_looks hx)]
  | _=>rfl
 unfold recA at h ⊢
 rw [hwa]
 split at h
 · cases h
 · exact h
 · rename_i hw
   rw [← aop_congr (P:=P) (evs:=evs) hev]
   split at h
   · cases h
   · rename_i eff evs1 obs1 ha
     split at h
     · cases h
     · rename_i tv evs2 obs2 hc
       split at h
       · simp only [Option.some.injEq,Prod.mk.injEq] at h
         obtain ⟨rfl,rfl,rfl⟩:=h
         obtain ⟨h1,h2⟩:=Rd.run_congr (gb':=(st'.blks[·]?)) hb ha
         simp only [h1,hc,h2]
       · simp only [Option.some.injEq,Prod.mk.injEq] at h
         obtain ⟨rfl,rfl,rfl⟩:=h
         obtain ⟨h1,h2⟩:=Rd.run_congr (gb':=(st'.blks[·]?)) hb ha
         simp only [h1,hc,h2]
       · split at h
         · rename_i hidx
           simp only [Option.some.injEq,Prod.mk.injEq] at h
           obtain ⟨rfl,rfl,rfl⟩:=h
           obtain ⟨h1,h2⟩:=Rd.run_congr (gb':=(st'.blks[·]?)) (fun k hk=>hb k (List.mem_cons_of_mem _ hk)) ha
           have h3:=hb idx (List.mem_cons_self ..)
           simp only [h1,hc,h2,h3,hidx]
         · cases h
end
end Ax
namespace Ax
open Go
section
variable {P:Program} {E:Env} {K K':List Item} {st st':St}
/-- The records of 'D' alone,in the text's order. -/
def mix (D:Nat→Bool):Nat→List Rec→St→St
 | _,[],s=>s
 | i,r :: rs,s=>mix D (i+1) rs (bif D i then app1 s r else s)
theorem yX {s:St} {r:Rec} {t:Nat} (h:r.dst ≠ some t):(app1 s r).tmps[t]?=s.tmps[t]?:=by
 unfold app1 putA
 cases hd:r.dst with
 | none=>rfl
 | some d=>simp only; rw [List.getElem?_set_ne (fun e=>h (by rw [hd,e]))]
theorem yY {s:St} {r:Rec} {k:Nat} (h:∀ b,r.blk ≠ some (k,b)):(app1 s r).blks[k]?=s.blks[k]?:=by
 unfold app1
 cases hd:r.blk with
 | none=>rfl
 | some p =>
  obtain ⟨j,b⟩:=p
  simp only; rw [List.getElem?_set_ne (fun e=>h b (by rw [hd,e]))]
theorem app1_tmps_eq {s s':St} {r:Rec} {t:Nat} (h:s.tmps[t]?=s'.tmps[t]?):(app1 s r).tmps[t]?=(app1 s' r).tmps[t]?:=by
 unfold app1 putA
 cases hd:r.dst with
 | none=>exact h
 | some d =>
  simp only
  by_cases e:d=t
  · subst e; rw [List.getElem?_set_self',List.getElem?_set_self',h]
  · rw [List.getElem?_set_ne e,List.getElem?_set_ne e,h]
theorem app1_blks_eq {s s':St} {r:Rec} {k:Nat} (h:s.blks[k]?=s'.blks[k]?):(app1 s r).blks[k]?=(app1 s' r).blks[k]?:=by
 unfold app1
 cases hd:r.blk with
 | none=>exact h
 | some p =>
  obtain ⟨j,b⟩:=p
  simp only
  by_cases e:j=k
  · subst e; rw [List.getElem?_set_self',List.getElem?_set_self',h]
  · rw [List.getElem?_set_ne e,List.getElem?_set_ne e,h]
theorem QbZ {D D':Nat→Bool} {t:Nat}:∀ {a:Nat} {rs:List Rec} {s s':St},(∀ j r,rs[j]?=some r→r.dst=some t→D (a+j)=D' (a+j))→s.tmps[t]?=s'.tmps[t]? →
 (mix D a rs s).tmps[t]?=(mix D' a rs s').tmps[t]?
 | a,[],s,s',h,hs=>hs
 | a,r :: rs,s,s',h,hs=>by
  simp only [mix]
  refine QbZ (fun j r' hj hd=>by have:=h (j+1) r' (by simpa using hj) hd; rw [show a+1+j=a+(j+1) by omega]; exact this) ?_
  by_cases hd:r.dst=some t
  · have:=h 0 r rfl hd
    simp only [Nat.add_zero] at this
    rw [this]
    cases D' a with
    | false=>exact hs
    | true=>exact app1_tmps_eq hs
  · cases D a <;> cases D' a <;> simp only [cond_true,cond_false] <;> (try rw [yX hd]) <;> (try rw [yX hd]) <;> exact hs
theorem Qcb {D D':Nat→Bool} {k:Nat}:∀ {a:Nat} {rs:List Rec} {s s':St},(∀ j r b,rs[j]?=some r→r.blk=some (k,b)→D (a+j)=D' (a+j))→s.blks[k]?=s'.blks[k]? →
 (mix D a rs s).blks[k]?=(mix D' a rs s').blks[k]?
 | a,[],s,s',h,hs=>hs
 | a,r :: rs,s,s',h,hs=>by
  simp only [mix]
  refine Qcb (fun j r' b hj hd=>by have:=h (j+1) r' b (by simpa using hj) hd; rw [show a+1+j=a+(j+1) by omega]; exact this) ?_
  by_cases hd:∃ b,r.blk=some (k,b)
  · obtain ⟨b,hd⟩:=hd
    have:=h 0 r b rfl hd
    simp only [Nat.add_zero] at this
    rw [this]
    cases D' a with
    | false=>exact hs
    | true=>exact app1_blks_eq hs
  · have hd':∀ b,r.blk ≠ some (k,b):=fun b e=>hd ⟨b,e⟩
    cases D a <;> cases D' a <;> simp only [cond_true,cond_false] <;> (try rw [yY hd']) <;> (try rw [yY hd']) <;> exact hs
def wr2 (r r':Rec):Bool :=
 (match r.dst,r'.dst with | some d,some d'=>Nat.beq d d' | _,_=>false) || (match r.blk,r'.blk with | some (k,_),some (k',_)=>Nat.beq k k' | _,_=>false)
def wrd (r r':Rec):Bool :=
 (match r.dst with | some d=>r'.rt.any (Nat.beq d) | none=>false) || (match r.blk with | some (k,_)=>r'.rb.any (Nat.beq k) | none=>false)
def Wy (r r':Rec):Bool:=wr2 r r' || wrd r r' || wrd r' r
theorem wr2_symm (r r':Rec):wr2 r r'=wr2 r' r:=by
 have hb:∀ a b:Nat,Nat.beq a b=Nat.beq b a:=fun a b=>by
  rw [Bool.eq_iff_iff,Nat.beq_eq,Nat.beq_eq]; exact eq_comm
 unfold wr2
 cases r.dst <;> cases r'.dst <;> cases r.blk <;> cases r'.blk <;> simp [hb]
theorem WQ (r r':Rec):Wy r r'=Wy r' r:=by
 unfold Wy; rw [wr2_symm]
 cases wr2 r' r <;> cases wrd r r' <;> cases wrd r' r <;> rfl
theorem app1_comm {s:St} {r r':Rec} (h:wr2 r r'=false):app1 (app1 s r) r'=app1 (app1 s r') r:=by
 simp only [wr2,Bool.or_eq_false_iff] at h
 obtain ⟨h1,h2⟩:=h
 unfold app1 putA
 simp only [St.mk.injEq]
 constructor
 · cases hd:r.dst with
   | none=>cases hd':r'.dst <;> rfl
   | some d =>
    cases hd':r'.dst with
    | none=>rfl
    | some d' =>
     simp only [hd,hd'] at h1
     exact List.set_comm _ _ fun e=>by subst e; simp at h1
 · cases hd:r.blk with
   | none=>cases hd':r'.blk <;> rfl
   | some d =>
    cases hd':r'.blk with
    | none=>rfl
    | some d' =>
     simp only [hd,hd'] at h2
     exact List.set_comm _ _ fun e=>by rw [e] at h2; simp at h2
theorem mix_comm {D:Nat→Bool} {r:Rec}:∀ {a:Nat} {rs:List Rec} {s:St},(∀ j r',rs[j]?=some r'→D (a+j)=true→wr2 r r'=false)→mix D a rs (app1 s r)=app1 (mix D a rs s) r
 | a,[],s,h=>rfl
 | a,r' :: rs,s,h=>by
  simp only [mix]
  have ih:=fun s=>mix_comm (D:=D) (r:=r) (a:=a+1) (rs:=rs) (s:=s) fun j r'' hj hd=>h (j+1) r'' (by simpa using hj) (by rw [← hd]; congr 1; omega)
  cases hD:D a with
  | false=>simp only [cond_false]; exact ih s
  | true =>
   simp only [cond_true]
   rw [app1_comm (h 0 r' rfl (by simpa using hD))]; exact ih _
theorem mix_cong {D D':Nat→Bool}:∀ {a:Nat} {rs:List Rec} {s:St},(∀ j,a≤j→D j=D' j)→mix D a rs s=mix D' a rs s
 | a,[],s,h=>rfl
 | a,r' :: rs,s,h=>by
  simp only [mix,h a (Nat.le_refl a)]
  exact mix_cong fun j hj=>h j (by omega)
theorem yq {D D':Nat→Bool} {i:Nat} {r:Rec} (hi:D i=false) (hD:∀ j,D' j=(D j || Nat.beq j i)):∀ {a:Nat} {rs:List Rec} {s:St},a≤i→rs[i - a]?=some r →
 (∀ j r',rs[j]?=some r'→i<a+j→D (a+j)=true→wr2 r r'=false)→mix D' a rs s=app1 (mix D a rs s) r
 | a,[],s,ha,hr,h=>by simp at hr
 | a,r0 :: rs,s,ha,hr,h=>by
  simp only [mix]
  by_cases e:a=i
  · subst e
    simp only [Nat.sub_self,List.getElem?_cons_zero,Option.some.injEq] at hr
    subst hr
    have:D' a=true:=by simp [hD]
    rw [this,hi,cond_true,cond_false]
    rw [mix_cong (D:=D') (D':=D) fun j hj=>by
     rw [hD]; have:Nat.beq j a=false:=by rw [← Bool.not_eq_true,Nat.beq_eq]; omega
     simp [this]]
    exact mix_comm fun j r' hj hd=>h (j+1) r' (by simpa using hj) (by omega) (by rw [← hd]; congr 1; omega)
  · have hDa:D' a=D a:=by
     rw [hD]; have:Nat.beq a i=false:=by rw [← Bool.not_eq_true,Nat.beq_eq]; exact e
     simp [this]
    rw [hDa]
    refine yq hi hD (by omega) ?_ fun j r' hj hlt hd=>h (j+1) r' (by simpa using hj) (by omega) (by rw [← hd]; congr 1; omega)
    have:i - a=(i - (a+1))+1:=by omega
    rw [this] at hr
    simpa using hr
theorem Qca {D:Nat→Bool}:∀ {a:Nat} {rs:List Rec} {s:St},(∀ j,D j=false)→mix D a rs s=s
 | a,[],s,h=>rfl
 | a,r :: rs,s,h=>by simp only [mix,h a,cond_false]; exact Qca h
theorem Qcc {D:Nat→Bool}:∀ {a:Nat} {rs:List Rec} {s:St},(∀ j,j<rs.length→D (a+j)=true)→mix D a rs s=rs.foldl app1 s
 | a,[],s,h=>rfl
 | a,r :: rs,s,h=>by
  have h0:=h 0 (by simp)
  simp only [Nat.add_zero] at h0
  simp only [mix,h0,cond_true,List.foldl_cons]
  exact Qcc fun j hj=>by have:=h (j+1) (by simpa using hj); rw [show a+1+j=a+(j+1) by omega]; exact this
theorem KQ:∀ {a i:Nat} {rs:List Rec} {s:St},mix (fun j=>Nat.blt j (a+i)) a rs s=(rs.take i).foldl app1 s
 | a,0,rs,s=>by
  have:∀ {b:Nat} {rs:List Rec} {s:St},a≤b→mix (fun j=>Nat.blt j a) b rs s=s:=by
   intro b rs
   induction rs generalizing b with
   | nil=>intros; rfl
   | cons r rs ih =>
    intro s hb
    have:Nat.blt b a=false:=by rw [← Bool.not_eq_true]; simp [Nat.blt_eq]; omega
    simp only [mix,this,cond_false]; exact ih (by omega)
  simpa using this (Nat.le_refl a)
 | a,i+1,[],s=>by simp [mix]
 | a,i+1,r :: rs,s=>by
  have:Nat.blt a (a+(i+1))=true:=by simp [Nat.blt_eq]
  simp only [mix,this,cond_true,List.take_succ_cons,List.foldl_cons]
  have h:=KQ (a:=a+1) (i:=i) (rs:=rs) (s:=app1 s r)
  rw [show a+1+i=a+(i+1) by omega] at h
  exact h
/-! ### The text's order -/
def recsA (P:Program) (ops:Array Oper):Nat→List Nat→St→List EV→Option (List Rec × St × List EV × List Prop)
 | idx,[],st,evs=>some ([],st,evs,[])
 | idx,i :: rest,st,evs =>
  match ops[i]? with
  | none=>none
  | some o =>
   match recA P ops idx i o st evs with
   | none=>none
   | some (r,evs1,o1) =>
    match recsA P ops (bif r.fresh then idx+1 else idx) rest (app1 st r) evs1 with
    | none=>none
    | some (rs,st',evs2,o2)=>some (r :: rs,st',evs2,o1++o2)
theorem WI {ops:Array Oper}:∀ {a n idx:Nat} {st st':St} {evs evs':List EV} {rs:List Rec} {obs:List Prop},recsA P ops idx (List.range' a n) st evs=some (rs,st',evs',obs)→AllP obs →
 rs.length=n∧st'=rs.foldl app1 st∧∀ j r,rs[j]?=some r→∃ o idx' evs1 evs2 obs1,ops[a+j]?=some o∧recA P ops idx' (a+j) o ((rs.take j).foldl app1 st) evs1=some (r,evs2,obs1)∧AllP obs1
 | a,0,idx,st,st',evs,evs',rs,obs,h,ho=>by
  simp only [List.range'_zero,recsA,Option.some.injEq,Prod.mk.injEq] at h
  obtain ⟨rfl,rfl,-,-⟩:=h
  exact ⟨rfl,rfl,by simp⟩
 | a,n+1,idx,st,st',evs,evs',rs,obs,h,ho=>by
  rw [List.range'_succ] at h
  simp only [recsA] at h
  split at h
  · cases h
  · rename_i o hoi
    split at h
    · cases h
    · rename_i r evs1 o1 h1
      split at h
      · cases h
      · rename_i rs1 st1 evs2 o2 h2
        simp only [Option.some.injEq,Prod.mk.injEq] at h
        obtain ⟨rfl,rfl,-,rfl⟩:=h
        obtain ⟨ho1,ho2⟩:=Qj.1 ho
        obtain ⟨l,e,f⟩:=WI h2 ho2
        refine ⟨by simp [l],by simpa using e,fun j r' hj=>?_⟩
        cases j with
        | zero=>simp at hj; subst hj; exact ⟨o,idx,evs,evs1,o1,by simpa using hoi,by simpa using h1,ho1⟩
        | succ j =>
         obtain ⟨o',idx',e1,e2,ob,q1,q2,q3⟩:=f j r' (by simpa using hj)
         exact ⟨o',idx',e1,e2,ob,by rw [show a+(j+1)=a+1+j by omega]; exact q1,by rw [show a+(j+1)=a+1+j by omega]; simpa using q2,q3⟩
/-! ### What must come before what -/
def hard (e:Edge):Bool :=
 match e.ground with
 | .textOnly _=>false
 | .gcOnly _=>false
 | _=>true
def foldE (acc:List Nat) (i:Nat):List Edge→Option Nat
 | []=>some 0
 | e :: es=>match foldE acc i es with
  | none=>none
  | some m=>bif hard e then (bif Nat.blt e.on i then some (m ||| 2 ^ e.on ||| acc.getD e.on 0) else none) else some m
def ancsA:Nat→List Oper→List Nat→Option (List Nat)
 | _,[],acc=>some acc
 | i,o :: os,acc=>match foldE acc i o.after.toList with
  | some m=>ancsA (i+1) os (acc++[m])
  | none=>none
theorem Qbm {acc:List Nat} {i:Nat}:∀ {es:List Edge} {m:Nat},foldE acc i es=some m →
 (∀ e ∈ es,hard e=true→e.on<i)∧∀ j,m.testBit j=true→∃ e ∈ es,hard e=true∧(j=e.on ∨ (acc.getD e.on 0).testBit j=true)
 | [],m,h=>by simp [foldE] at h; subst h; simp
 | e :: es,m,h=>by
  simp only [foldE] at h
  split at h
  · cases h
  · rename_i m' hm
    obtain ⟨h1,h2⟩:=Qbm hm
    cases he:hard e with
    | false =>
     simp only [he,cond_false,Option.some.injEq] at h
     subst h
     refine ⟨fun e' hm hh=>?_,fun j hj=>?_⟩
     · rcases List.mem_cons.1 hm with rfl | hm
       · rw [he] at hh; cases hh
       · exact h1 e' hm hh
     · obtain ⟨e',q1,q2⟩:=h2 j hj
       exact ⟨e',List.mem_cons_of_mem _ q1,q2⟩
    | true =>
     simp only [he,cond_true] at h
     cases hb:Nat.blt e.on i with
     | false=>simp [hb] at h
     | true =>
      simp only [hb,cond_true,Option.some.injEq] at h
      subst h
      refine ⟨fun e' hm hh=>?_,fun j hj=>?_⟩
      · rcases List.mem_cons.1 hm with rfl | hm
        · simpa [Nat.blt_eq] using hb
        · exact h1 e' hm hh
      · rw [Nat.testBit_or,Nat.testBit_or,Bool.or_eq_true,Bool.or_eq_true] at hj
        rcases hj with (hj | hj) | hj
        · obtain ⟨e',q1,q2⟩:=h2 j hj
          exact ⟨e',List.mem_cons_of_mem _ q1,q2⟩
        · rw [Nat.testBit_two_pow] at hj
          exact ⟨e,by simp,he,.inl (by simpa using hj:e.on=j).symm⟩
        · exact ⟨e,by simp,he,.inr hj⟩
/-- The masks: what must lie behind,for each operation. -/
theorem WR:∀ {i:Nat} {os:List Oper} {acc ms:List Nat},acc.length=i→ancsA i os acc=some ms →
 (∀ j,j<i→ms[j]?=acc[j]?)∧ms.length=i+os.length∧∀ j o,os[j]?=some o→∃ m,ms[i+j]?=some m ∧
   (∀ e ∈ o.after,hard e=true→e.on<i+j)∧∀ p,m.testBit p=true→∃ e ∈ o.after,hard e=true∧(p=e.on ∨ (ms.getD e.on 0).testBit p=true)
 | i,[],acc,ms,hl,h=>by
  simp only [ancsA,Option.some.injEq] at h; subst h
  exact ⟨fun _ _=>rfl,by simpa using hl,by simp⟩
 | i,o :: os,acc,ms,hl,h=>by
  simp only [ancsA] at h
  split at h
  · rename_i m hm
    obtain ⟨h1,h2,h3⟩:=WR (i:=i+1) (acc:=acc++[m]) (by simp [hl]) h
    refine ⟨fun j hj=>by rw [h1 j (by omega),List.getElem?_append_left (by omega)],by simp [h2]; omega,fun j o' hj=>?_⟩
    cases j with
    | zero =>
     simp at hj; subst hj
     obtain ⟨f1,f2⟩:=Qbm hm
     refine ⟨m,?_,fun e he hh=>by simpa using f1 e (by simpa using he) hh,fun p hp=>?_⟩
     · rw [Nat.add_zero,h1 i (by omega),List.getElem?_append_right (by omega)]; simp [hl]
     · obtain ⟨e,q1,q2,q3⟩:=f2 p hp
       refine ⟨e,by simpa using q1,q2,q3.imp id fun q=>?_⟩
       have hlt:=f1 e q1 q2
       have:=h1 e.on (by omega)
       rw [List.getElem?_append_left (by omega)] at this
       rw [List.getD_eq_getElem?_getD] at q ⊢
       rw [this]; exact q
    | succ j =>
     obtain ⟨m',q1,q2⟩:=h3 j o' (by simpa using hj)
     rw [show i+1+j=i+(j+1) by omega] at q1 q2
     exact ⟨m',q1,q2⟩
  · cases h
def later (i:Nat) (r:Rec):List Rec→List Nat→Bool
 | r' :: rs,m :: ms=>(!Wy r r' || m.testBit i) && later i r rs ms
 | _,_=>true
def YU:Nat→List Rec→List Nat→Bool
 | i,r :: rs,_ :: ms=>later i r rs ms && YU (i+1) rs ms
 | _,_,_=>true
theorem Qbg {i:Nat} {r:Rec}:∀ {rs:List Rec} {ms:List Nat},later i r rs ms=true→∀ {j:Nat} {r':Rec} {m:Nat},rs[j]?=some r'→ms[j]?=some m→Wy r r'=true→m.testBit i=true
 | [],ms,h,j,r',m,h1,h2,h3=>by simp at h1
 | a :: rs,[],h,j,r',m,h1,h2,h3=>by simp at h2
 | a :: rs,b :: ms,h,j,r',m,h1,h2,h3=>by
  simp only [later,Bool.and_eq_true,Bool.or_eq_true,Bool.not_eq_true'] at h
  cases j with
  | zero=>simp at h1 h2; subst h1; subst h2; exact h.1.resolve_left (by simp [h3])
  | succ j=>exact Qbg h.2 (by simpa using h1) (by simpa using h2) h3
theorem YQ:∀ {a:Nat} {rs:List Rec} {ms:List Nat},YU a rs ms=true→∀ {i j:Nat} {r r':Rec} {m:Nat},i<j→rs[i]?=some r→rs[j]?=some r'→ms[j]?=some m→Wy r r'=true →
 m.testBit (a+i)=true
 | a,[],ms,h,i,j,r,r',m,hij,h1,h2,h3,h4=>by simp at h1
 | a,x :: rs,[],h,i,j,r,r',m,hij,h1,h2,h3,h4=>by simp at h3
 | a,x :: rs,y :: ms,h,i,j,r,r',m,hij,h1,h2,h3,h4=>by
  simp only [YU,Bool.and_eq_true] at h
  obtain ⟨j,rfl⟩:∃ k,j=k+1:=⟨j - 1,by omega⟩
  cases i with
  | zero=>simp at h1; subst h1; exact Qbg h.1 (by simpa using h2) (by simpa using h3) h4
  | succ i =>
   have:=YQ h.2 (i:=i) (j:=j) (by omega) (by simpa using h1) (by simpa using h2) (by simpa using h3) h4
   rw [show a+(i+1)=a+1+i by omega]; exact this
def trim:List Blk→List Blk
 | []=>[]
 | b :: bs=>match trim bs,b with
  | [],⟨false,0,0,true,[],false⟩=>[]
  | bs,b=>b :: bs
theorem qC:∀ bs:List Blk,∃ m,bs=trim bs++List.replicate m dead
 | []=>⟨0,rfl⟩
 | b :: bs=>by
  obtain ⟨m,hm⟩:=qC bs
  unfold trim
  split
  · rename_i h1
    rw [h1] at hm
    exact ⟨m+1,by rw [hm]; simp [List.replicate_succ,dead]⟩
  · exact ⟨m,by rw [List.cons_append,← hm]⟩
def Wm (o:Oper):Bool :=
 match o.op with
 | .alloc _=>true
 | .box ..=>true
 | .build ..=>true
 | .buildSlice ..=>true
 | .makeSlice ..=>true
 | .call _=>true
 | _=>false
def drawA (P:Program) (ops:Array Oper) (st:St) (evs:List EV):Option (St × List EV × List Prop) :=
 match recsA P ops st.blks.length (List.range' 0 ops.size) ⟨st.tmps,st.blks++List.replicate (ops.toList.countP Wm) dead⟩ evs with
 | none=>none
 | some (rs,st',evs',obs) =>
  match ancsA 0 ops.toList [] with
  | none=>none
  | some ms=>bif YU 0 rs ms then some (⟨st'.tmps,trim st'.blks⟩,evs',obs) else none
end
end Ax
namespace Ax
open Go
section
variable {P:Program} {E:Env} {K K':List Item} {st st':St}
theorem VP {e:Edge}:Region.binds .any e=hard e:=by
 unfold hard; unfold Region.binds
 cases hg:e.ground <;> simp [hg]
structure Draw (P:Program) (ops:Array Oper) (st0:St) (rs:List Rec) (ms:List Nat):Prop where
 len:rs.length=ops.size
 mlen:ms.length=ops.size
 rec':∀ j r,rs[j]?=some r→∃ o idx' evs1 evs2 obs1,ops[j]?=some o∧recA P ops idx' j o ((rs.take j).foldl app1 st0) evs1=some (r,evs2,obs1)∧AllP obs1
 anc:∀ j o,ops[j]?=some o→∃ m,ms[j]?=some m∧(∀ e ∈ o.after,hard e=true→e.on<j)∧∀ p,m.testBit p=true→∃ e ∈ o.after,hard e=true∧(p=e.on ∨ (ms.getD e.on 0).testBit p=true)
 pairs:YU 0 rs ms=true
/-- Downwards closed. -/
def Down (ops:Array Oper) (D:Nat→Bool):Prop:=∀ i o,ops[i]?=some o→D i=true→∀ e ∈ o.after,hard e=true→D e.on=true
theorem Draw.down {ops:Array Oper} {st0:St} {rs:List Rec} {ms:List Nat} (h:Draw P ops st0 rs ms) {D:Nat→Bool} (hd:Down ops D) :
 ∀ (i:Nat) (o:Oper) (m:Nat),ops[i]?=some o→ms[i]?=some m→D i=true→∀ p,m.testBit p=true→D p=true:=by
 intro i
 induction i using Nat.strongRecOn with
 | ind i ih =>
  intro o m ho hm hD p hp
  obtain ⟨m',q1,q2,q3⟩:=h.anc i o ho
  rw [hm] at q1; cases q1
  obtain ⟨e,e1,e2,e3⟩:=q3 p hp
  have hDe:=hd i o ho hD e e1 e2
  rcases e3 with rfl | e3
  · exact hDe
  · have hlt:=q2 e e1 e2
    have hs:i<ops.size:=(Array.getElem?_eq_some_iff.1 ho).1
    have ho':ops[e.on]?=some ops[e.on]:=by simp
    have hm':ms[e.on]?=some (ms.getD e.on 0):=by
     have:e.on<ms.length:=by rw [h.mlen]; omega
     simp [List.getD,List.getElem?_eq_getElem this]
    exact ih e.on hlt _ _ ho' hm' hDe p e3
theorem draw_one {ops:Array Oper} {st0:St} {rs:List Rec} {ms:List Nat} (h:Draw P ops st0 rs ms) {HK:Prop} (hk:HK) {D D':Nat→Bool} (hd:Down ops D) {i:Nat} {o:Oper} {rest:List Nat} {k:List Item}
 (ho:ops[i]?=some o) (hi:D i=false) (hpre:∀ e ∈ o.after,hard e=true→D e.on=true) (hD':∀ j,D' j=(D j || Nat.beq j i))
 (hlt:∀ j,D j=true→j<ops.size)
 (hg:G P E (.inRegion ops rest :: k) (mix D' 0 rs st0)):G P E (.inRegion ops (i :: rest) :: k) (mix D 0 rs st0):=by
 have his:i<ops.size:=(Array.getElem?_eq_some_iff.1 ho).1
 have hir:i<rs.length:=by rw [h.len]; exact his
 obtain ⟨r,hr⟩:∃ r,rs[i]?=some r:=⟨rs[i],by simp [hir]⟩
 obtain ⟨o',idx',evs1,evs2,obs1,q1,q2,q3⟩:=h.rec' i r hr
 rw [ho] at q1; cases q1
 obtain ⟨m,m1,m2,m3⟩:=h.anc i o ho
 have anc:∀ p,m.testBit p=true→D p=true:=by
  intro p hp
  obtain ⟨e,e1,e2,e3⟩:=m3 p hp
  have hDe:=hpre e e1 e2
  rcases e3 with rfl | e3
  · exact hDe
  · have hl:=m2 e e1 e2
    have ho':ops[e.on]?=some ops[e.on]:=by simp
    have hm':ms[e.on]?=some (ms.getD e.on 0):=by
     have:e.on<ms.length:=by rw [h.mlen]; omega
     simp [List.getD,List.getElem?_eq_getElem this]
    exact h.down hd e.on _ _ ho' hm' hDe p e3
 -- who clashes with 'i'
 have clsh:∀ j r',rs[j]?=some r'→Wy r' r=true→(j<i→D j=true)∧(i<j→D j=false):=by
  intro j r' hj hc
  refine ⟨fun hji=>?_,fun hij=>?_⟩
  · exact anc j (by simpa using YQ h.pairs hji hj hr m1 hc)
  · cases hDj:D j with
    | false=>rfl
    | true =>
     have hjs:=hlt j hDj
     have hm':ms[j]?=some (ms.getD j 0):=by
      have:j<ms.length:=by rw [h.mlen]; omega
      simp [List.getD,List.getElem?_eq_getElem this]
     have:=YQ h.pairs hij hr hj hm' (by rw [WQ]; exact hc)
     have h2:=h.down hd j ops[j] _ (by simp [hjs]) hm' hDj i (by simpa using this)
     rw [hi] at h2; cases h2
 have blt:∀ {a b:Nat},Nat.blt a b=decide (a<b):=fun {a b}=>by
  rw [Bool.eq_iff_iff,Nat.blt_eq]; simp
 have same:∀ j r',rs[j]?=some r'→(Wy r' r=true ∨ j=i)→D j=Nat.blt j i:=by
  intro j r' hj hc
  rcases Nat.lt_trichotomy j i with hlt' | rfl | hgt
  · rw [(clsh j r' hj (hc.resolve_right (by omega))).1 hlt',blt]; simp [hlt']
  · rw [hi,blt]; simp
  · rw [(clsh j r' hj (hc.resolve_right (by omega))).2 hgt,blt]; simp; omega
 have hrec:recA P ops idx' i o (mix D 0 rs st0) evs1=some (r,evs2,obs1):=by
  refine QaY q2 (fun t ht=>?_) (fun kk hk=>?_)
  · have:=KQ (a:=0) (i:=i) (rs:=rs) (s:=st0)
    simp only [Nat.zero_add] at this
    rw [← this]
    refine QbZ (fun j r' hj hd=>?_) rfl
    simp only [Nat.zero_add]
    refine same j r' hj (.inl ?_)
    have hw:wrd r' r=true:=by
     simp only [wrd,hd,Bool.or_eq_true,List.any_eq_true]
     exact .inl ⟨t,ht,by simp⟩
    simp [Wy,hw]
  · have:=KQ (a:=0) (i:=i) (rs:=rs) (s:=st0)
    simp only [Nat.zero_add] at this
    rw [← this]
    refine Qcb (fun j r' b hj hd=>?_) rfl
    simp only [Nat.zero_add]
    refine same j r' hj (.inl ?_)
    have hw:wrd r' r=true:=by
     simp only [wrd,hd,Bool.or_eq_true,List.any_eq_true]
     exact .inr ⟨kk,hk,by simp⟩
    simp [Wy,hw]
 refine rec_step ho hk hrec q3 ?_
 rw [← yq hi hD' (Nat.zero_le i) (by simpa using hr) fun j r' hj hlt' hDj=>?_]
 · exact hg
 · simp only [Nat.zero_add] at hlt' hDj
   cases hw:wr2 r r' with
   | false=>rfl
   | true =>
    have:=(clsh j r' hj (by rw [WQ]; simp [Wy,hw])).2 hlt'
    rw [this] at hDj; cases hDj
def unl (n:Nat) (listed:Array Bool):List Nat:=(List.range n).filter fun i=>!listed.getD i true
theorem draw_go {ops:Array Oper} {st0:St} {rs:List Rec} {ms:List Nat} (h:Draw P ops st0 rs ms) {HK:Prop} (hk:HK) {k:List Item} (hg:G P E k (rs.foldl app1 st0)) :
 ∀ (fuel t:Nat) (listed:Array Bool),listed.size=ops.size→(unl ops.size listed).length≤fuel→Down ops (fun i=>listed.getD i false) →
  G P E (.inRegion ops (Region.linearise.go .any ops fuel t listed []) :: k) (mix (fun i=>listed.getD i false) 0 rs st0):=by
 have fin:∀ listed:Array Bool,listed.size=ops.size→(∀ i,i<ops.size→listed.getD i false=true)→G P E (.inRegion ops [] :: k) (mix (fun i=>listed.getD i false) 0 rs st0):=by
  intro listed hs hall
  rw [Qcc fun j hj=>by rw [Nat.zero_add]; exact hall j (by rw [← h.len]; exact hj)]
  exact .of_step (fun a w=>stepR_region_end) hg
 have gd:∀ (listed:Array Bool) (i:Nat),listed.size=ops.size→i<ops.size→listed.getD i true=listed.getD i false:=by
  intro listed i hs hi
  have:i<listed.size:=by omega
  simp [Array.getD,this]
 intro fuel
 induction fuel with
 | zero =>
  intro t listed hs hf hd
  simp only [Region.linearise.go,List.reverse_nil]
  refine fin listed hs fun i hi=>?_
  have h0:unl ops.size listed=[]:=List.length_eq_zero_iff.1 (by omega)
  cases hc:listed.getD i false with
  | true=>rfl
  | false =>
   have:i ∈ unl ops.size listed:=by
    unfold unl; rw [List.mem_filter,List.mem_range]
    exact ⟨hi,by rw [gd listed i hs hi,hc]; rfl⟩
   rw [h0] at this; cases this
 | succ fuel ih =>
  intro t listed hs hf hd
  simp only [Region.linearise.go]
  change G P E (.inRegion ops (match (Region.ready .any ops listed)[t % (Region.ready .any ops listed).length]? with
   | some i=>Region.linearise.go .any ops fuel (t / (Region.ready .any ops listed).length) (listed.setIfInBounds i true) [i]
   | none=>[].reverse) :: k) _
  cases hi:(Region.ready .any ops listed)[t % (Region.ready .any ops listed).length]? with
  | none =>
   have hnil:Region.ready .any ops listed=[]:=by
    cases hr:Region.ready .any ops listed with
    | nil=>rfl
    | cons x xs =>
     rw [hr] at hi
     have hlt:t % (x :: xs).length<(x :: xs).length:=Nat.mod_lt _ (by simp)
     simp at hi
     simp at hlt
     omega
   simp only [List.reverse_nil]
   refine fin listed hs fun i=>?_
   induction i using Nat.strongRecOn with
   | ind i ihi =>
    intro hi'
    cases hc:listed.getD i false with
    | true=>rfl
    | false =>
     have hop:ops[i]?=some ops[i]:=by simp [hi']
     have:i ∈ Region.ready .any ops listed:=by
      rw [mem_ready]
      refine ⟨by rw [gd listed i hs hi',hc],ops[i],hop,fun e he hb=>?_⟩
      rw [VP] at hb
      obtain ⟨m,m1,m2,m3⟩:=h.anc i _ hop
      have:=m2 e he hb
      exact ihi e.on this (by omega)
     rw [hnil] at this; cases this
  | some i =>
   simp only
   rw [linearise_go_acc,List.reverse_singleton,List.singleton_append]
   have hmem:=List.mem_of_getElem? hi
   obtain ⟨h0,o,ho,hpre⟩:=mem_ready.1 hmem
   have his:i<ops.size:=(Array.getElem?_eq_some_iff.1 ho).1
   have h0':listed.getD i false=false:=by rw [← gd listed i hs his]; exact h0
   have hset:∀ j,(listed.setIfInBounds i true).getD j false=(listed.getD j false || Nat.beq j i):=by
    intro j
    by_cases e:j=i
    · subst e
      have:j<listed.size:=by omega
      simp [Array.getD,this]
    · have:Nat.beq j i=false:=by rw [← Bool.not_eq_true,Nat.beq_eq]; exact e
      rw [getD_set_ne false (Ne.symm e),this,Bool.or_false]
   refine draw_one h hk hd ho h0' (fun e he hh=>hpre e he (by rw [VP]; exact hh)) hset (fun j hj=>?_) ?_
   · rcases Nat.lt_or_ge j ops.size with h1 | h1
     · exact h1
     · have h1':listed.size≤j:=by omega
       simp [Array.getD,Nat.not_lt.2 h1'] at hj
   · refine ih _ _ (by simpa using hs) ?_ ?_
     · have hsub:(unl ops.size (listed.setIfInBounds i true))=(unl ops.size listed).filter fun j=>!Nat.beq j i:=by
        unfold unl
        rw [List.filter_filter]
        refine List.filter_congr fun j hj=>?_
        have hj':=List.mem_range.1 hj
        rw [gd _ j (by simpa using hs) hj',hset j,gd listed j hs hj']
        cases listed.getD j false <;> cases Nat.beq j i <;> rfl
       have hlt:((unl ops.size listed).filter fun j=>!Nat.beq j i).length<(unl ops.size listed).length:=by
        rw [List.length_filter_lt_length_iff_exists]
        refine ⟨i,?_,by simp⟩
        unfold unl; rw [List.mem_filter,List.mem_range]
        exact ⟨his,by rw [h0]; rfl⟩
       rw [hsub]; omega
     · intro j oj hoj hDj e he hh
       simp only [hset] at hDj ⊢
       rw [Bool.or_eq_true] at hDj ⊢
       rcases hDj with hDj | hDj
       · exact .inl (hd j oj hoj hDj e he hh)
       · rw [Nat.beq_eq] at hDj; subst hDj
         rw [ho] at hoj; cases hoj
         exact .inl (hpre e he (by rw [VP]; exact hh))
/-- A region whose order is drawn. -/
theorem draw_step {ops:Array Oper} {id:Nat} {k:List Item} {evs evs':List EV} {obs:List Prop} {HK:Prop} (hk:HK) (hmx:P.follows .mixedOrders=true)
 (h:drawA P ops st evs=some (st',evs',obs)) (ho:AllP obs) (hg:G P E k st'):G P E (.code (.region id ops true) :: k) st:=by
 unfold drawA at h
 split at h
 · cases h
 · rename_i rs st1 evs1 obs1 h1
   split at h
   · cases h
   · rename_i ms hms
     cases hp:YU 0 rs ms with
     | false=>simp [hp] at h
     | true =>
      simp only [hp,cond_true,Option.some.injEq,Prod.mk.injEq] at h
      obtain ⟨rfl,-,rfl⟩:=h
      obtain ⟨l,e,f⟩:=WI h1 ho
      obtain ⟨a1,a2,a3⟩:=WR (i:=0) (acc:=[]) rfl hms
      have hD:Draw P ops ⟨st.tmps,st.blks++List.replicate (ops.toList.countP Wm) dead⟩ rs ms :=
       ⟨l,by simpa using a2,fun j r hj=>by simpa using f j r hj,fun j o hj=>by simpa using a3 j o (by simpa using hj),hp⟩
      have hg2:G P E k (rs.foldl app1 ⟨st.tmps,st.blks++List.replicate (ops.toList.countP Wm) dead⟩):=by
       rw [← e]
       obtain ⟨m,hm⟩:=qC st1.blks
       have:st1=⟨st1.tmps,trim st1.blks++List.replicate m dead⟩:=by cases st1; simp only at hm ⊢; rw [← hm]
       rw [this]; exact G_pop hg
      intro C Z a w hr
      have hstep:=stepR_region_draw (P:=P) (b:=E.b) (a:=a) (k:=k) (cs:=E.cs) (w:=w) (ops:=ops) (id:=id)
      refine .step (.one hstep) ?_
      have hrep:∀ j,(Array.replicate ops.size false).getD j false=false:=by
       intro j
       by_cases hj:j<ops.size <;> simp [Array.getD,hj]
      have hgo:=draw_go hD hk hg2 ops.size (w.tape w.drawn (.order E.b.fn id)) (Array.replicate ops.size false) (by simp) (by
       unfold unl; exact Nat.le_trans (List.length_filter_le _ _) (by simp)) (by intro i o hio hDi; have:=(hrep i).symm.trans hDi; cases this)
      simp only [Region.schedule,hmx,Bool.true_or,if_true]
      rw [Qca (fun j=>hrep j)] at hgo
      have ev:EvoC w { w with drawn:=w.drawn+1 }:=⟨fun _ _ _ h=>h,rfl⟩
      have hfr:=hr.mem.frame
      exact hgo C Z a { w with drawn:=w.drawn+1 } ⟨⟨hr.tmp.1,fun i c v p q=>(hr.tmp.2 i c v p q).evoC ev⟩,
       (hr.mem.evoC ev ⟨hfr.os,hfr.tape,hfr.output,hfr.size,Nat.le_succ_of_le hfr.dr,hfr.same⟩).pushN _,hr.marks,⟨hr.gh.1,fun i c v p q=>(hr.gh.2 i c v p q).evoC ev⟩,hr.base.evoC ev⟩
end
end Ax
namespace Ax
open Go
/-! ### Calls that turn blocks of the caller -/
def Own (C:Ctx) (b:Nat):Prop:=∃ k o,C.β k=.loc b o
mutual
def ren (f:Nat→Nat):AV→AV
 | .ptr k g off=>.ptr (f k) g off
 | .sl k g off len sz=>.sl (f k) g off len sz
 | .mp k g it=>.mp (f k) g it
 | .pm row k g off=>.pm row (f k) g off
 | .agg cs=>.agg (rens f cs)
 | .tup cs=>.tup (rens f cs)
 | .clos g a b=>.clos g (rens f a) (rens f b)
 | .ifc t v=>.ifc t (ren f v)
 | v=>v
def rens (f:Nat→Nat):List AV→List AV
 | []=>[]
 | c :: cs=>ren f c :: rens f cs
end
mutual
def Ya (p:Nat→Bool):AV→Bool
 | .ptr k _ _=>p k
 | .sl k _ _ _ _=>p k
 | .mp k _ _=>p k
 | .pm _ k _ _=>p k
 | .agg cs=>refsIns p cs
 | .tup cs=>refsIns p cs
 | .clos _ a b=>refsIns p a && refsIns p b
 | .ifc _ v=>Ya p v
 | _=>true
def refsIns (p:Nat→Bool):List AV→Bool
 | []=>true
 | c :: cs=>Ya p c && refsIns p cs
end
theorem YZ {f:Nat→Nat}:∀ {cs:List AV} {i:Nat},(rens f cs)[i]?=(cs[i]?).map (ren f)
 | [],i=>by simp [rens]
 | c :: cs,0=>by simp [rens]
 | c :: cs,i+1=>by simp [rens,YZ (cs:=cs)]
theorem XG {f:Nat→Nat}:∀ {cs:List AV},(rens f cs).length=cs.length
 | []=>rfl
 | c :: cs=>by simp [rens,XG (cs:=cs)]
theorem YF {p:Nat→Bool}:∀ {cs:List AV} {i:Nat} {c:AV},refsIns p cs=true→cs[i]?=some c→Ya p c=true
 | [],_,_,_,h=>by simp at h
 | d :: cs,0,c,hn,h=>by simp [refsIns] at hn h; rw [← h]; exact hn.1
 | d :: cs,i+1,c,hn,h=>by simp [refsIns] at hn h; exact YF hn.2 h
mutual
theorem WH (v:AV):Ya (fun _=>true) v=true:=by
 cases v <;> simp only [Ya]
 case agg cs=>exact refsIns_all cs
 case tup cs=>exact refsIns_all cs
 case clos f a b=>rw [refsIns_all a,refsIns_all b]; rfl
 case ifc t v=>exact WH v
theorem refsIns_all (cs:List AV):refsIns (fun _=>true) cs=true:=by
 cases cs with
 | nil=>rfl
 | cons c cs=>simp only [refsIns]; rw [WH c,refsIns_all cs]; rfl
end
theorem isCell_ren {f:Nat→Nat} (v:AV):Xd (ren f v)=Xd v:=by
 cases v <;> rfl
theorem VR.ren {f:Nat→Nat} {p:Nat→Bool} {C C':Ctx} {Z:Nat→Prop} {w:World} {v:AV} {c:Value} (hf:∀ k,p k=true→C'.β (f k)=C.β k∧C'.γ (f k)=C.γ k)
 (h:VR Z w C v c) (hp:Ya p v=true):VR Z w C' (Ax.ren f v) c:=by
 have key:∀ {C₁ v c},VR Z w C₁ v c→C₁=C→Ya p v=true→VR Z w C' (Ax.ren f v) c:=by
  intro C₁ v c h
  have lst:∀ {cs:List AV} {arr:Array Value},(∀ (i:Nat) (c:AV) (v:Value),cs[i]?=some c→arr[i]?=some v→Ya p c=true→VR Z w C' (Ax.ren f c) v)→refsIns p cs=true →
   ∀ (i:Nat) (c:AV) (v:Value),(rens f cs)[i]?=some c→arr[i]?=some v→VR Z w C' c v:=by
   intro cs arr h hp i c v h1 h2
   rw [YZ,Option.map_eq_some_iff] at h1
   obtain ⟨c0,h1,rfl⟩:=h1
   exact h i c0 v h1 h2 (YF hp h1)
  induction h with
  | bool b=>exact fun _ _=>.bool b
  | int k n=>exact fun _ _=>.int k n
  | nilPtr=>exact fun _ _=>.nilPtr
  | @ptr C₁ k g off c hg ho hh =>
   rintro rfl hp
   obtain ⟨e1,e2⟩:=hf k (by simpa [Ya] using hp)
   exact .ptr (by rw [e2]; exact hg) ho (by rw [e1,e2]; exact hh)
  | rptr cv hz hc hk hr ih=>exact fun _ _=>.rptr cv hz hc hk hr
  | nilSl=>exact fun _ _=>.nilSl
  | @sl C₁ k g off len sz c hg ho hh =>
   rintro rfl hp
   obtain ⟨e1,e2⟩:=hf k (by simpa [Ya] using hp)
   exact .sl (by rw [e2]; exact hg) ho (by unfold SlOk at hh ⊢; rw [e1,e2]; exact hh)
  | rsl cv hz hl hc hk hr ih=>exact fun _ _=>.rsl cv hz hl hc hk hr
  | rsl0=>exact fun _ _=>.rsl0
  | agg hl h ih =>
   intro e hp
   exact .agg (by rw [XG]; exact hl) (lst (fun i c v h1 h2 h3=>ih i c v h1 h2 e h3) (by simpa [Ya] using hp))
  | tup hl h ih =>
   intro e hp
   exact .tup (by rw [XG]; exact hl) (lst (fun i c v h1 h2 h3=>ih i c v h1 h2 e h3) (by simpa [Ya] using hp))
  | clos hl h hl' h' ih ih' =>
   intro e hp
   simp only [Ya,Bool.and_eq_true] at hp
   exact .clos (by rw [XG]; exact hl) (lst (fun i c v h1 h2 h3=>ih i c v h1 h2 e h3) hp.1) (by rw [XG]; exact hl') (lst (fun i c v h1 h2 h3=>ih' i c v h1 h2 e h3) hp.2)
  | nilFunc=>exact fun _ _=>.nilFunc
  | opq v=>exact fun _ _=>.opq v
  | junk v=>exact fun _ _=>.junk v
  | @mp C₁ k g it c hg ho hh =>
   rintro rfl hp
   obtain ⟨e1,e2⟩:=hf k (by simpa [Ya] using hp)
   exact .mp (by rw [e2]; exact hg) ho (by rw [e1,e2]; exact hh)
  | rmap es hz hh hl hb hr ih=>exact fun _ _=>.rmap es hz hh hl hb hr
  | pm cv hz hc hk hr hcm hv ih ihv =>
   intro e hp
   exact .pm cv hz hc hk hr hcm (ihv e (by simpa [Ya] using hp))
  | ifc h ih=>exact fun e hp=>.ifc (ih e (by simpa [Ya] using hp))
 exact key h rfl hp
/-- As 'Evo' and 'CtxLe' together; a row may have turned whose generation is gone. -/
structure EvoG (C C':Ctx) (Z Z':Nat→Prop) (w w':World):Prop where
 zsub:∀ b,Z b→Z' b
 same:∀ b,Z b→w'.heap[b]?=w.heap[b]?
 le:CtxLe C C'
 rows:∀ k blk o arr e,C.β k=.loc blk o→C'.γ k=C.γ k→w.heap[blk]?=some (.cells arr e (0,0))→∃ arr',w'.heap[blk]?=some (.cells arr' e (0,0))∧arr'.size=arr.size
theorem VR.evoG {C C':Ctx} {Z Z':Nat→Prop} {w w':World} {v:AV} {c:Value} (h:VR Z w C v c) (he:EvoG C C' Z Z' w w'):VR Z' w' C' v c:=by
 have he0:Evo C0 Z Z' w w':=⟨he.zsub,he.same,fun k blk o arr e h=>by simp [C0] at h⟩
 have key:∀ {C₁ v c},VR Z w C₁ v c→C₁=C→VR Z' w' C' v c:=by
  intro C₁ v c h
  induction h with
  | bool b=>exact fun _=>.bool b
  | int k n=>exact fun _=>.int k n
  | nilPtr=>exact fun _=>.nilPtr
  | @ptr C₁ k g off c hg ho hh =>
   rintro rfl
   refine .ptr (Nat.le_trans hg (he.le.gen k)) ho fun e=>?_
   have e1:g=C₁.γ k:=by have:=he.le.gen k; omega
   obtain ⟨blk,o,hb,hv⟩:=hh e1
   exact ⟨blk,o,by rw [he.le.pos k (by rw [hb]; simp) (by omega),hb],hv⟩
  | rptr cv hz hc hk hr ih=>exact fun _=>.rptr cv (he.zsub _ hz) (fun i hi=>(Xu (he.same _ hz)).trans (hc i hi)) hk fun i c hi=>(hr i c hi).mono he0
  | nilSl=>exact fun _=>.nilSl
  | @sl C₁ k g off len sz c hg ho hh =>
   rintro rfl
   refine .sl (Nat.le_trans hg (he.le.gen k)) ho fun e=>?_
   have e1:g=C₁.γ k:=by have:=he.le.gen k; omega
   have h1:=hh e1
   unfold SlOk at h1 ⊢
   rw [he.le.pos k (by intro hb; simp [hb] at h1) (by omega)]
   cases hb:C₁.β k with
   | absent=>simp [hb] at h1
   | unborn=>simp only [hb] at h1 ⊢; exact h1
   | loc blk o =>
    simp only [hb] at h1 ⊢
    obtain ⟨a,cap,h2,h3,h4,arr,e',h5,h6⟩:=h1
    obtain ⟨arr',h7,h8⟩:=he.rows k blk o arr e' hb (by omega) h5
    exact ⟨a,cap,h2,h3,h4,arr',e',h7,by omega⟩
  | rsl cv hz hl hc hk hr ih=>exact fun _=>.rsl cv (he.zsub _ hz) hl (fun i hi=>(Xu (he.same _ hz)).trans (hc i hi)) hk fun i c hi=>(hr i c hi).mono he0
  | rsl0=>exact fun _=>.rsl0
  | agg hl h ih=>exact fun e=>.agg hl fun i c v h1 h2=>ih i c v h1 h2 e
  | tup hl h ih=>exact fun e=>.tup hl fun i c v h1 h2=>ih i c v h1 h2 e
  | clos hl h hl' h' ih ih'=>exact fun e=>.clos hl (fun i c v h1 h2=>ih i c v h1 h2 e) hl' (fun i c v h1 h2=>ih' i c v h1 h2 e)
  | nilFunc=>exact fun _=>.nilFunc
  | opq v=>exact fun _=>.opq v
  | junk v=>exact fun _=>.junk v
  | @mp C₁ k g it c hg ho hh =>
   rintro rfl
   refine .mp (Nat.le_trans hg (he.le.gen k)) ho fun e=>?_
   have e1:g=C₁.γ k:=by have:=he.le.gen k; omega
   obtain ⟨blk,o,hb,hv⟩:=hh e1
   exact ⟨blk,o,by rw [he.le.pos k (by rw [hb]; simp) (by omega),hb],hv⟩
  | rmap es hz hh hl hb hr ih=>exact fun _=>.rmap es (he.zsub _ hz) ((he.same _ hz).trans hh) hl hb fun i c e h1 h2=>(hr i c e h1 h2).mono he0
  | pm cv hz hc hk hr hcm hv ih ihv=>exact fun e=>.pm cv (he.zsub _ hz) (fun i hi=>(Xu (he.same _ hz)).trans (hc i hi)) hk (fun i c hi=>(hr i c hi).mono he0) ((Xu (he.same _ hz)).trans hcm) (ihv e)
  | ifc h ih=>exact fun e=>.ifc (ih e)
 exact key h rfl
theorem VRs.evoG {C C':Ctx} {Z Z':Nat→Prop} {w w':World} {cs:List AV} {vs:List Value} (h:VRs Z w C cs vs) (he:EvoG C C' Z Z' w w'):VRs Z' w' C' cs vs :=
 ⟨h.1,fun i c v a b=>(h.2 i c v a b).evoG he⟩
theorem Marks.evoG {C C':Ctx} {Z Z' M:Nat→Prop} {w0 w w':World} {df ds:List Deferred} (h:Marks df Z M w0 ds w) (he:EvoG C C' Z Z' w w'):Marks df Z' M w0 ds w':=by
 obtain ⟨Ds,h1,h2,h3⟩:=h
 exact ⟨Ds,h1,h2,fun D hD=>⟨he.zsub D (h3 D hD).1,(h3 D hD).2.1,by rw [he.same D (h3 D hD).1]; exact (h3 D hD).2.2⟩⟩
theorem Base.nextG {Cb C C':Ctx} {w0 w w':World} {Z Z':Nat→Prop} (h:Base Cb w0 C w) (he:EvoG C C' Z Z' w w'):Base Cb w0 C' w':=by
 refine ⟨⟨fun k=>Nat.le_trans (h.le.gen k) (he.le.gen k),fun k p q=>?_⟩,fun k blk o arr e p q r=>?_⟩
 · have e1:=h.le.gen k
   have e2:=he.le.gen k
   have e3:C.γ k=Cb.γ k:=by omega
   rw [he.le.pos k (by rw [h.le.pos k p e3]; exact p) (by omega),h.le.pos k p e3]
 · have e1:=h.le.gen k
   have e2:=he.le.gen k
   have e3:C.γ k=Cb.γ k:=by omega
   obtain ⟨arr1,a1,a2⟩:=h.rows k blk o arr e p e3 r
   have hb:C.β k=.loc blk o:=by rw [h.le.pos k (by rw [p]; simp) e3,p]
   obtain ⟨arr2,b1,b2⟩:=he.rows k blk o arr1 e hb (by omega) a1
   exact ⟨arr2,b1,by omega⟩
/-- A function value that turns what it is handed: blocks 'bs' become 'bs2' (and what is new lies behind them). -/
def Yk (P:Program) (fv:AV) (args:List AV) (bs:List Blk) (res:AV) (bs2:List Blk):Prop :=
 ∀ (Z:Nat→Prop) (w:World) (C:Ctx) (cf:Value) (cargs:Array Value),Mem Z (Own C) w C Z bs w→VR Z w C fv cf→VRs Z w C args cargs.toList →
  ∃ (d:Deferred) (f:FuncId) (args':Array Value),(Deferred.ofValue cf cargs).run P w=.ok d w∧(invoke d.target d.args).run P w=.ok (.enter f args') w ∧
   Calls P f args' w fun e w'=>∃ v C' Z',e=.returned v∧Base C w C' w'∧Mem Z (Own C) w C' Z' bs2 w'∧VR Z' w' C' res v
def renB (f:Nat→Nat) (b:Blk):Blk:=bif b.flat then b else { b with cells:=rens f b.cells }
def YB:List Nat→Bool
 | []=>true
 | j :: js=>!js.contains j && YB js
def lend (f:Nat→Nat) (p:Nat→Bool) (blks:List Blk):List Nat→Option (List Blk)
 | []=>some []
 | j :: js=>match blks[j]?,lend f p blks js with
  | some b,some bs=>bif b.flat || refsIns p b.cells then some (renB f b :: bs) else none
  | _,_=>none
def Xm (blks:List Blk):List Nat→List Blk→List Blk
 | j :: js,b :: bs=>Xm (blks.set j b) js bs
 | _,_=>blks
/-- From the callee's numbers to the caller's. -/
def outN (N:Nat) (ρ:List Nat) (k:Nat):Nat:=bif Nat.ble ρ.length k then N+(k - ρ.length) else ρ.getD k 0
def lentA (P:Program) (fv:AV) (args:List AV) (blks:List Blk) (ρ:List Nat) (res:AV) (bs2:List Blk):Option (AV × List Blk × List Prop) :=
 bif YB ρ && Nat.ble ρ.length bs2.length && Ya (fun j=>ρ.contains j) fv && refsIns (fun j=>ρ.contains j) args then
  match lend (fun j=>ρ.idxOf j) (fun j=>ρ.contains j) blks ρ with
  | some bs=>some (ren (outN blks.length ρ) res,Xm blks ρ (bs2.map (renB (outN blks.length ρ)))++(bs2.drop ρ.length).map (renB (outN blks.length ρ)),
   [Yk P (ren (fun j=>ρ.idxOf j) fv) (rens (fun j=>ρ.idxOf j) args) bs res bs2])
  | none=>none
 else none
theorem Fr.trans {w0 w w':World} {M F:Nat→Prop} (h:Fr w0 M w) (h':Fr w F w') (hF:∀ b,b<w0.heap.size→¬ M b→¬ F b):Fr w0 M w' :=
 ⟨h'.os.trans h.os,h'.tape.trans h.tape,h'.output.trans h.output,Nat.le_trans h.size h'.size,Nat.le_trans h.dr h'.dr,fun b hb hM=>by
  rw [h'.same b (Nat.lt_of_lt_of_le hb h.size) (hF b hb hM)]; exact h.same b hb hM⟩
theorem lend_get {f:Nat→Nat} {p:Nat→Bool} {blks:List Blk}:∀ {ρ:List Nat} {bs:List Blk},lend f p blks ρ=some bs→bs.length=ρ.length ∧
 ∀ (k:Nat) (b':Blk),bs[k]?=some b'→∃ j b,ρ[k]?=some j∧blks[j]?=some b∧b'=renB f b∧(b.flat=true ∨ refsIns p b.cells=true)
 | [],bs,h=>by simp only [lend,Option.some.injEq] at h; subst h; exact ⟨rfl,by simp⟩
 | j :: js,bs,h=>by
  simp only [lend] at h
  split at h
  · rename_i b bs1 hb hl
    obtain ⟨q1,q2⟩:=lend_get hl
    cases hc:(b.flat || refsIns p b.cells) with
    | false=>simp [hc] at h
    | true =>
     simp only [hc,cond_true,Option.some.injEq] at h
     subst h
     refine ⟨by simp [q1],fun k b' hk=>?_⟩
     cases k with
     | zero=>simp only [List.getElem?_cons_zero,Option.some.injEq] at hk; exact ⟨j,b,rfl,hb,hk.symm,by simpa using hc⟩
     | succ k=>exact q2 k b' (by simpa using hk)
  · cases h
theorem XS:∀ {ρ:List Nat} {bs blks:List Blk},(Xm blks ρ bs).length=blks.length
 | [],_,_=>by simp [Xm]
 | j :: js,[],_=>by simp [Xm]
 | j :: js,b :: bs,blks=>by simp [Xm,XS (ρ:=js)]
theorem Wq:∀ {ρ:List Nat} {bs blks:List Blk} {j:Nat},j ∉ ρ→(Xm blks ρ bs)[j]?=blks[j]?
 | [],_,_,_,_=>by simp [Xm]
 | i :: js,[],_,_,_=>by simp [Xm]
 | i :: js,b :: bs,blks,j,h=>by
  simp only [List.mem_cons,not_or] at h
  simp only [Xm]
  rw [Wq h.2,List.getElem?_set_ne (by omega)]
theorem Qaf:∀ {ρ:List Nat} {bs blks:List Blk} {j k:Nat} {b:Blk},YB ρ=true→ρ[k]?=some j→bs[k]?=some b→j<blks.length→(Xm blks ρ bs)[j]?=some b
 | [],_,_,_,_,_,_,h,_,_=>by simp at h
 | i :: js,[],_,_,_,_,_,_,h,_=>by simp at h
 | i :: js,b0 :: bs,blks,j,0,b,hn,h1,h2,h3=>by
  simp only [List.getElem?_cons_zero,Option.some.injEq] at h1 h2
  subst h1; subst h2
  simp only [YB,Bool.and_eq_true,Bool.not_eq_true',List.contains_eq_mem,decide_eq_false_iff_not] at hn
  simp only [Xm]
  rw [Wq hn.1]; simp [h3]
 | i :: js,b0 :: bs,blks,j,k+1,b,hn,h1,h2,h3=>by
  simp only [YB,Bool.and_eq_true] at hn
  simp only [Xm]
  exact Qaf hn.2 (by simpa using h1) (by simpa using h2) (by simpa using h3)
theorem KO:∀ {ρ:List Nat} {k k' j:Nat},YB ρ=true→ρ[k]?=some j→ρ[k']?=some j→k=k'
 | [],_,_,_,_,h,_=>by simp at h
 | i :: js,0,0,_,_,_,_=>rfl
 | i :: js,0,k'+1,j,hn,h1,h2=>by
  simp only [YB,Bool.and_eq_true,Bool.not_eq_true',List.contains_eq_mem,decide_eq_false_iff_not] at hn
  simp only [List.getElem?_cons_zero,Option.some.injEq,List.getElem?_cons_succ] at h1 h2
  exact absurd (h1 ▸ List.mem_of_getElem? h2) hn.1
 | i :: js,k+1,0,j,hn,h1,h2=>by
  simp only [YB,Bool.and_eq_true,Bool.not_eq_true',List.contains_eq_mem,decide_eq_false_iff_not] at hn
  simp only [List.getElem?_cons_zero,Option.some.injEq,List.getElem?_cons_succ] at h1 h2
  exact absurd (h2 ▸ List.mem_of_getElem? h1) hn.1
 | i :: js,k+1,k'+1,j,hn,h1,h2=>by
  simp only [YB,Bool.and_eq_true] at hn
  have e:=KO (k:=k) (k':=k') (j:=j) hn.2 (by simpa using h1) (by simpa using h2)
  rw [e]
theorem idx_get {ρ:List Nat} {k j:Nat} (hn:YB ρ=true) (h:ρ[k]?=some j):ρ.idxOf j=k:=by
 have hm:j ∈ ρ:=List.mem_of_getElem? h
 have hlt:ρ.idxOf j<ρ.length:=List.idxOf_lt_length_iff.2 hm
 refine KO hn (j:=j) ?_ h
 rw [List.getElem?_eq_getElem hlt,List.getElem_idxOf hlt]
/-- From the caller's numbers to the callee's. -/
def inN (N:Nat) (ρ:List Nat) (j:Nat):Option Nat:=if j<N then (if j ∈ ρ then some (ρ.idxOf j) else none) else some (j - N+ρ.length)
def subC (C:Ctx) (ρ:List Nat):Ctx:=⟨fun k=>match ρ[k]? with | some j=>C.β j | none=>.absent,fun k=>match ρ[k]? with | some j=>C.γ j | none=>0⟩
def YW (C C1:Ctx) (N:Nat) (ρ:List Nat):Ctx :=
 ⟨fun j=>match inN N ρ j with | some k=>C1.β k | none=>C.β j,fun j=>match inN N ρ j with | some k=>C1.γ k | none=>C.γ j⟩
theorem inN_out {N:Nat} {ρ:List Nat} {k:Nat} (hn:YB ρ=true) (hρ:∀ j ∈ ρ,j<N):inN N ρ (outN N ρ k)=some k:=by
 unfold inN outN
 by_cases hk:ρ.length≤k
 · rw [Nat.ble_eq_true_of_le hk]
   simp only [cond_true]
   rw [if_neg (by omega)]
   congr 1; omega
 · have hb:Nat.ble ρ.length k=false:=by
    cases h:Nat.ble ρ.length k with
    | false=>rfl
    | true=>exact absurd (Nat.le_of_ble_eq_true h) hk
   have hg:ρ[k]?=some ρ[k]:=List.getElem?_eq_getElem (by omega)
   have hgd:ρ.getD k 0=ρ[k]:=by simp [List.getD,hg]
   rw [hb]
   simp only [cond_false]
   rw [hgd,if_pos (hρ _ (List.getElem_mem _)),if_pos (List.getElem_mem _),idx_get hn hg]
theorem KN {N:Nat} {ρ:List Nat} {j k:Nat} (h:inN N ρ j=some k):outN N ρ k=j∧(j<N→ρ[k]?=some j)∧(N≤j→ρ.length≤k):=by
 unfold inN at h
 unfold outN
 split at h
 · rename_i hj
   split at h
   · rename_i hm
     simp only [Option.some.injEq] at h
     subst h
     have hlt:ρ.idxOf j<ρ.length:=List.idxOf_lt_length_iff.2 hm
     have hg:ρ[ρ.idxOf j]?=some j:=by rw [List.getElem?_eq_getElem hlt,List.getElem_idxOf hlt]
     have hb:Nat.ble ρ.length (ρ.idxOf j)=false:=by
      cases h:Nat.ble ρ.length (ρ.idxOf j) with
      | false=>rfl
      | true=>exact absurd (Nat.le_of_ble_eq_true h) (by omega)
     exact ⟨by rw [hb]; simp [List.getD,hg],fun _=>hg,fun h=>by omega⟩
   · cases h
 · rename_i hj
   simp only [Option.some.injEq] at h
   subst h
   exact ⟨by rw [Nat.ble_eq_true_of_le (by omega)]; simp only [cond_true]; omega,fun h=>by omega,fun _=>by omega⟩
theorem yL.ren {C C':Ctx} {Z:Nat→Prop} {w:World} {k k':Nat} {b:Blk} {f:Nat→Nat} {p:Nat→Bool} (hf:∀ k,p k=true→C'.β (f k)=C.β k∧C'.γ (f k)=C.γ k)
 (hk:C'.β k'=C.β k) (hp:b.flat=true ∨ refsIns p b.cells=true) (h:yL C Z w k b):yL C' Z w k' (renB f b):=by
 intro hl
 unfold renB at hl ⊢
 cases hfl:b.flat with
 | true =>
  rw [hfl] at hl
  simp only [cond_true] at hl ⊢
  obtain ⟨q1,q2⟩:=h hl
  refine ⟨q1,?_⟩
  rw [hk]
  cases hs:C.β k with
  | absent=>simp [hs] at q2
  | unborn=>simp only [hs] at q2 ⊢; exact q2
  | loc blk o=>simp only [hs] at q2 ⊢; exact q2.next rfl (fun _ _ h=>h) (fun hf=>by rw [hfl] at hf; cases hf)
 | false =>
  rw [hfl] at hl
  simp only [cond_false] at hl ⊢
  have hp:=hp.resolve_left (by rw [hfl]; simp)
  obtain ⟨q1,q2⟩:=h hl
  refine ⟨fun i c hi=>?_,?_⟩
  · rw [YZ,Option.map_eq_some_iff] at hi
    obtain ⟨c0,hi,rfl⟩:=hi
    rw [isCell_ren]; exact q1 i c0 hi
  rw [hk]
  cases hs:C.β k with
  | absent=>simp [hs] at q2
  | unborn=>simp only [hs] at q2 ⊢; rw [q2]; rfl
  | loc blk o =>
   simp only [hs] at q2 ⊢
   rcases q2 with ⟨hz,arr,e,r1,r2,r3⟩ | ⟨hz,ob,r1,r2⟩
   · refine .inl ⟨hz,arr,e,r1,by rw [XG]; exact r2,fun i c hi=>?_⟩
     rw [YZ,Option.map_eq_some_iff] at hi
     obtain ⟨c0,hi,rfl⟩:=hi
     obtain ⟨v,s1,s2⟩:=r3 i c0 hi
     simp only [hfl,Bool.false_eq_true,if_false] at s2 ⊢
     exact ⟨v,s1,s2.ren hf (YF hp hi)⟩
   · refine .inr ⟨hz,ob,r1,?_⟩
     rw [hfl] at r2
     simp only [hfl,XK,Bool.false_eq_true,if_false] at r2 ⊢
     obtain ⟨m,n,seen,a,b',⟨c,c1,c2⟩,d,e⟩:=r2
     refine ⟨m,n,seen,a,by rw [XG]; exact b',⟨Ax.ren f c,by rw [YZ,c1]; rfl,c2.ren hf (YF hp c1)⟩,by rw [YZ,d]; rfl,fun i s hs=>by rw [YZ,e i s hs]; rfl⟩
theorem yL.evoG {C C':Ctx} {Z Z':Nat→Prop} {w w':World} {k:Nat} {b:Blk} (h:yL C Z w k b) (he:EvoG C C' Z Z' w w') (hk:C'.β k=C.β k) (hh:∀ blk o,C.β k=.loc blk o→w'.heap[blk]?=w.heap[blk]?):yL C' Z' w' k b:=by
 intro hl
 obtain ⟨q1,q2⟩:=h hl
 refine ⟨q1,?_⟩
 rw [hk]
 cases hs:C.β k with
 | absent=>simp [hs] at q2
 | unborn=>simp only [hs] at q2 ⊢; exact q2
 | loc blk o =>
  simp only [hs] at q2 ⊢
  exact q2.next (hh blk o hs) (fun c v h=>h.mono ⟨he.zsub,he.same,fun k blk o arr e h=>by simp [C0] at h⟩) (fun _ c v _ h=>h.evoG he)
section
variable {P:Program} {Z0 M Z Z1:Nat→Prop} {w0 w w1:World} {C C1:Ctx} {blks bs bs2:List Blk} {ρ:List Nat}
/-- The memory that is lent. -/
theorem Mem.lend (hm:Mem Z0 M w0 C Z blks w) (hn:YB ρ=true) (h:Ax.lend (fun j=>ρ.idxOf j) (fun j=>ρ.contains j) blks ρ=some bs) :
 Mem Z (Own (subC C ρ)) w (subC C ρ) Z bs w∧(∀ j ∈ ρ,j<blks.length)∧∀ j,ρ.contains j=true→(subC C ρ).β (ρ.idxOf j)=C.β j∧(subC C ρ).γ (ρ.idxOf j)=C.γ j:=by
 obtain ⟨hlen,hget⟩:=lend_get h
 have hcon:∀ j,ρ.contains j=true→(subC C ρ).β (ρ.idxOf j)=C.β j∧(subC C ρ).γ (ρ.idxOf j)=C.γ j:=by
  intro j hj
  have hm:j ∈ ρ:=by simpa using hj
  have hlt:ρ.idxOf j<ρ.length:=List.idxOf_lt_length_iff.2 hm
  have hg:ρ[ρ.idxOf j]?=some j:=by rw [List.getElem?_eq_getElem hlt,List.getElem_idxOf hlt]
  simp only [subC,hg,and_self]
 have hρ:∀ j ∈ ρ,j<blks.length:=by
  intro j hj
  obtain ⟨k,hk⟩:=List.getElem?_of_mem hj
  have hkl:k<bs.length:=by rw [hlen]; exact (List.getElem?_eq_some_iff.1 hk).1
  obtain ⟨j',b,e1,e2,-⟩:=hget k bs[k] (List.getElem?_eq_getElem hkl)
  rw [hk] at e1; cases e1
  exact (List.getElem?_eq_some_iff.1 e2).1
 have hβ:∀ {k b o},(subC C ρ).β k=.loc b o→∃ j,ρ[k]?=some j∧C.β j=.loc b o:=by
  intro k b o h
  simp only [subC] at h
  cases hk:ρ[k]? with
  | none=>simp [hk] at h
  | some j=>simp only [hk] at h; exact ⟨j,rfl,h⟩
 have renB_eq:∀ (f:Nat→Nat) (b:Blk),(renB f b).gen=b.gen∧(renB f b).live=b.live:=by
  intro f b; unfold renB; cases b.flat <;> exact ⟨rfl,rfl⟩
 refine ⟨⟨fun k b' hb=>?_,fun k b' hb=>?_,fun k b' hb hd=>?_,fun k hk=>?_,fun k k' b o o' h1 h2=>?_,fun k b o h1=>?_,hm.zlt,fun _ h=>h,fun _ h=>.inl h,Fr.refl _ _⟩,hρ,hcon⟩
 · obtain ⟨j,b,e1,e2,rfl,e4⟩:=hget k b' hb
   exact (hm.blk j b e2).ren hcon (by simp only [subC,e1]) e4
 · obtain ⟨j,b,e1,e2,rfl,e4⟩:=hget k b' hb
   rw [(renB_eq _ b).1,← hm.gen j b e2]; simp only [subC,e1]
 · obtain ⟨j,b,e1,e2,rfl,e4⟩:=hget k b' hb
   rw [(renB_eq _ b).2] at hd
   have:=hm.dd j b e2 hd
   simp only [subC,e1]; exact this
 · have:ρ[k]?=none:=List.getElem?_eq_none (by omega)
   simp only [subC,this,and_self]
 · obtain ⟨j,e1,e2⟩:=hβ h1
   obtain ⟨j',e3,e4⟩:=hβ h2
   have:=hm.inj j j' b o o' e2 e4
   subst this
   exact KO hn e1 e3
 · obtain ⟨j,e1,e2⟩:=hβ h1
   obtain ⟨a,b',c⟩:=hm.own j b o e2
   exact ⟨a,b',.inl ⟨k,o,h1⟩⟩
/-- The memory behind the call. -/
theorem Mem.given (hm:Mem Z0 M w0 C Z blks w) (hn:YB ρ=true) (hρ:∀ j ∈ ρ,j<blks.length) (hl:ρ.length≤bs2.length) (hb:Base (subC C ρ) w C1 w1) (h1:Mem Z (Own (subC C ρ)) w C1 Z1 bs2 w1) :
 Mem Z0 M w0 (YW C C1 blks.length ρ) Z1 (Xm blks ρ (bs2.map (renB (outN blks.length ρ)))++(bs2.drop ρ.length).map (renB (outN blks.length ρ))) w1 ∧
 EvoG C (YW C C1 blks.length ρ) Z Z1 w w1∧∀ k,(YW C C1 blks.length ρ).β (outN blks.length ρ k)=C1.β k∧(YW C C1 blks.length ρ).γ (outN blks.length ρ k)=C1.γ k:=by
 have hout:∀ k,(YW C C1 blks.length ρ).β (outN blks.length ρ k)=C1.β k∧(YW C C1 blks.length ρ).γ (outN blks.length ρ k)=C1.γ k:=by
  intro k; simp only [YW,inN_out hn hρ,and_self]
 have hout':∀ k,(fun _:Nat=>true) k=true→(YW C C1 blks.length ρ).β (outN blks.length ρ k)=C1.β k∧(YW C C1 blks.length ρ).γ (outN blks.length ρ k)=C1.γ k:=fun k _=>hout k
 have hβ:∀ {k b o},(subC C ρ).β k=.loc b o→∃ j,ρ[k]?=some j∧C.β j=.loc b o:=by
  intro k b o h
  simp only [subC] at h
  cases hk:ρ[k]? with
  | none=>simp [hk] at h
  | some j=>simp only [hk] at h; exact ⟨j,rfl,h⟩
 have hOwn:∀ b,Own (subC C ρ) b→∃ j o,j ∈ ρ∧C.β j=.loc b o:=fun b ⟨k,o,h⟩=>by
  obtain ⟨j,e1,e2⟩:=hβ h
  exact ⟨j,o,List.mem_of_getElem? e1,e2⟩
 have hfs:=h1.frame.size
 have hs0:=hm.frame.size
 -- an old block that is not lent
 have hfree:∀ j b o,j ∉ ρ→C.β j=.loc b o→¬ Own (subC C ρ) b:=fun j b o hj h ho=>by
  obtain ⟨j',o',e1,e2⟩:=hOwn b ho
  exact hj (hm.inj j j' b o o' h e2 ▸ e1)
 have hnone:∀ j,inN blks.length ρ j=none→j<blks.length∧j ∉ ρ:=by
  intro j h
  unfold inN at h
  split at h
  · split at h
    · cases h
    · exact ⟨‹_›,‹_›⟩
  · cases h
 have hle:CtxLe C (YW C C1 blks.length ρ):=by
  refine ⟨fun j=>?_,fun j hp hg=>?_⟩
  · simp only [YW]
    cases hi:inN blks.length ρ j with
    | none=>exact Nat.le_refl _
    | some k =>
     obtain ⟨a,b,c⟩:=KN hi
     by_cases hj:j<blks.length
     · have:=hb.le.gen k
       simp only [subC,b hj] at this
       exact this
     · rw [(hm.dom j (by omega)).2]; exact Nat.zero_le _
  · simp only [YW] at hg ⊢
    cases hi:inN blks.length ρ j with
    | none=>rfl
    | some k =>
     rw [hi] at hg
     simp only at hg ⊢
     obtain ⟨a,b,c⟩:=KN hi
     by_cases hj:j<blks.length
     · have:=hb.le.pos k
       simp only [subC,b hj] at this
       exact this hp hg
     · exact absurd (hm.dom j (by omega)).1 hp
 have hevo:EvoG C (YW C C1 blks.length ρ) Z Z1 w w1:=by
  refine ⟨fun b hz=>h1.z0 b hz,fun b hz=>h1.frame.same b (hm.zlt b hz) fun ho=>?_,hle,fun j blk o arr e hj hg hw=>?_⟩
  · obtain ⟨j,o,-,e2⟩:=hOwn b ho
    exact (hm.own j b o e2).2.1 hz
  · simp only [YW] at hg
    cases hi:inN blks.length ρ j with
    | none =>
     exact ⟨arr,by rw [h1.frame.same blk (hm.own j blk o hj).1 (hfree j blk o (hnone j hi).2 hj)]; exact hw,rfl⟩
    | some k =>
     rw [hi] at hg
     simp only at hg
     obtain ⟨a,b,c⟩:=KN hi
     by_cases hjl:j<blks.length
     · have h2:=hb.rows k blk o arr e
       simp only [subC,b hjl] at h2
       exact h2 hj hg hw
     · have:=(hm.dom j (by omega)).1
       rw [this] at hj; cases hj
 have hget:∀ (j:Nat) (b:Blk),(Xm blks ρ (bs2.map (renB (outN blks.length ρ)))++(bs2.drop ρ.length).map (renB (outN blks.length ρ)))[j]?=some b →
  (∃ k b0,inN blks.length ρ j=some k∧bs2[k]?=some b0∧b=renB (outN blks.length ρ) b0) ∨ (inN blks.length ρ j=none∧blks[j]?=some b):=by
  intro j b h
  by_cases hj:j<blks.length
  · rw [List.getElem?_append_left (by rw [XS]; exact hj)] at h
    by_cases hm':j ∈ ρ
    · have hlt:ρ.idxOf j<ρ.length:=List.idxOf_lt_length_iff.2 hm'
      have hg:ρ[ρ.idxOf j]?=some j:=by rw [List.getElem?_eq_getElem hlt,List.getElem_idxOf hlt]
      have hb2:bs2[ρ.idxOf j]?=some bs2[ρ.idxOf j]:=List.getElem?_eq_getElem (by omega)
      rw [Qaf (b:=renB (outN blks.length ρ) bs2[ρ.idxOf j]) hn hg (by rw [List.getElem?_map,hb2]; rfl) hj] at h
      simp only [Option.some.injEq] at h
      exact .inl ⟨ρ.idxOf j,_,by simp only [inN,if_pos hj,if_pos hm'],hb2,h.symm⟩
    · rw [Wq hm'] at h
      exact .inr ⟨by simp only [inN,if_pos hj,if_neg hm'],h⟩
  · rw [List.getElem?_append_right (by rw [XS]; omega),XS,List.getElem?_map,List.getElem?_drop,Option.map_eq_some_iff] at h
    obtain ⟨b0,h2,h3⟩:=h
    exact .inl ⟨j - blks.length+ρ.length,b0,by simp only [inN,if_neg hj],by rw [← h2]; congr 1; omega,h3.symm⟩
 have renB_eq:∀ (f:Nat→Nat) (b:Blk),(renB f b).gen=b.gen∧(renB f b).live=b.live:=by
  intro f b; unfold renB; cases b.flat <;> exact ⟨rfl,rfl⟩
 refine ⟨⟨fun j b hj=>?_,fun j b hj=>?_,fun j b hj hd=>?_,fun j hj=>?_,fun j j' b o o' e1 e2=>?_,fun j b o e1=>?_,h1.zlt,fun b hz=>h1.z0 b (hm.z0 b hz),fun b hz=>?_,?_⟩,hevo,hout⟩
 · rcases hget j b hj with ⟨k,b0,q1,q2,rfl⟩ | ⟨q1,q2⟩
   · exact (h1.blk k b0 q2).ren hout' (by simp only [YW,q1]) (.inr (refsIns_all _))
   · refine (hm.blk j b q2).evoG hevo (by simp only [YW,q1]) fun blk o hbl=>?_
     exact h1.frame.same blk (hm.own j blk o hbl).1 (hfree j blk o (hnone j q1).2 hbl)
 · rcases hget j b hj with ⟨k,b0,q1,q2,rfl⟩ | ⟨q1,q2⟩
   · rw [(renB_eq _ b0).1,← h1.gen k b0 q2]; simp only [YW,q1]
   · rw [← hm.gen j b q2]; simp only [YW,q1]
 · rcases hget j b hj with ⟨k,b0,q1,q2,rfl⟩ | ⟨q1,q2⟩
   · rw [(renB_eq _ b0).2] at hd
     have:=h1.dd k b0 q2 hd
     simp only [YW,q1]; exact this
   · have:=hm.dd j b q2 hd
     simp only [YW,q1]; exact this
 · simp only [List.length_append,XS,List.length_map,List.length_drop] at hj
   have e:inN blks.length ρ j=some (j - blks.length+ρ.length):=by simp only [inN,if_neg (show ¬ j<blks.length by omega)]
   simp only [YW,e]
   exact h1.dom _ (by omega)
 · simp only [YW] at e1 e2
   have mix:∀ {i k c o1 i' o2},inN blks.length ρ i=some k→C1.β k=.loc c o1→inN blks.length ρ i'=none→C.β i'=.loc c o2→False:=by
    intro i k c o1 i' o2 q1 q2 q3 q4
    rcases (h1.own k c o1 q2).2.2 with h | h
    · exact hfree i' c o2 (hnone i' q3).2 q4 h
    · have:=(hm.own i' c o2 q4).1; omega
   cases hi:inN blks.length ρ j with
   | none =>
    cases hi':inN blks.length ρ j' with
    | none=>rw [hi] at e1; rw [hi'] at e2; exact hm.inj j j' b o o' e1 e2
    | some k'=>rw [hi] at e1; rw [hi'] at e2; exact (mix hi' e2 hi e1).elim
   | some k =>
    cases hi':inN blks.length ρ j' with
    | none=>rw [hi] at e1; rw [hi'] at e2; exact (mix hi e1 hi' e2).elim
    | some k' =>
     rw [hi] at e1; rw [hi'] at e2
     have:=h1.inj k k' b o o' e1 e2
     subst this
     rw [← (KN hi).1,← (KN hi').1]
 · simp only [YW] at e1
   cases hi:inN blks.length ρ j with
   | none =>
    rw [hi] at e1
    obtain ⟨a,b',c⟩:=hm.own j b o e1
    refine ⟨by omega,fun hz=>?_,c⟩
    rcases h1.zsub b hz with h | h | h
    · exact b' h
    · exact hfree j b o (hnone j hi).2 e1 h
    · omega
   | some k =>
    rw [hi] at e1
    obtain ⟨a,b',c⟩:=h1.own k b o e1
    refine ⟨a,b',?_⟩
    rcases c with c | c
    · obtain ⟨j',o',-,e2⟩:=hOwn b c
      exact (hm.own j' b o' e2).2.2
    · exact .inr (by omega)
 · rcases h1.zsub b hz with h | h | h
   · exact hm.zsub b h
   · obtain ⟨j',o',-,e2⟩:=hOwn b h
     exact .inr (hm.own j' b o' e2).2.2
   · exact .inr (.inr (by omega))
 · refine hm.frame.trans h1.frame fun b hb hnM ho=>?_
   obtain ⟨j',o',-,e2⟩:=hOwn b ho
   rcases (hm.own j' b o' e2).2.2 with h | h
   · exact hnM h
   · omega
variable {E:Env} {K K':List Item} {st st':St}
/-- Whom a call through an interface comes to,and the receiver. -/
def calleeA (P:Program) (st:St) (rop:Operand) (name:String) (args:Array Operand):Option (FuncId × AV) :=
 match XU st.tmps rop with
 | .ifc t v=>(match methA P t name with
  | some (f,p)=>((recvA P t p v).run (st.blks[·]?)).map fun v'=>(f,v')
  | none=>none)
 | _=>none
/-- One operation: as 'opA',or a call that turns blocks. -/
def opL (P:Program) (ops:Array Oper) (i:Nat) (o:Oper) (st:St) (evs:List EV):Option (St × List EV × List Prop) :=
 match evs with
 | .lent ρ res bs2 :: evs =>
  (match o.op,Yh ops st.tmps o with
  | .call ⟨.value fop,args,_⟩,some true =>
   (match lentA P (XU st.tmps fop) (args.toList.map (XU st.tmps)) st.blks ρ res bs2 with
   | none=>none
   | some (v,blks,obs)=>(match conc (putA st.tmps o.dst v) (Qab ops i) o.dst evs with
    | none=>none
    | some (tmps,evs,obs2)=>some (⟨tmps,blks⟩,evs,obs++obs2)))
  | .call ⟨.invoke rop name,args,_⟩,some true =>
   (match calleeA P st rop name args with
   | none=>none
   | some (f,v')=>(match lentA P (.clos f [] []) (v' :: args.toList.map (XU st.tmps)) st.blks ρ res bs2 with
    | none=>none
    | some (v,blks,obs)=>(match conc (putA st.tmps o.dst v) (Qab ops i) o.dst evs with
     | none=>none
     | some (tmps,evs,obs2)=>some (⟨tmps,blks⟩,evs,obs++obs2))))
  | _,_=>opA P ops i o st (.lent ρ res bs2 :: evs))
 | evs=>opA P ops i o st evs
theorem lent_core {ops:Array Oper} {i:Nat} {o:Oper} {rest:List Nat} {k:List Item} {evs0 evs2:List EV} {obs1 obs2:List Prop} {fv v:AV} {avs:List AV} {ρ:List Nat} {res:AV} {bs2 blks:List Blk} {tmps:List AV} (ho:ops[i]?=some o) (hw:Yh ops st.tmps o=some true) (hnd:∀ c,o.op ≠ .defer c)
 (hl:lentA P fv avs st.blks ρ res bs2=some (v,blks,obs1)) (hc:conc (putA st.tmps o.dst v) (Qab ops i) o.dst evs0=some (tmps,evs2,obs2)) (ob1:AllP obs1) (ob2:AllP obs2)
 (hcall:∀ (C:Ctx) (Z:Nat→Prop) (a:Act) (w:World),Rel E.df E.Z0 E.M E.w0 E.gA E.gV E.Cb E.wb C Z st a w→∃ (cf:Value) (cargs:Array Value),VR Z w C fv cf∧VRs Z w C avs cargs.toList ∧
   ∀ (d:Deferred) (f:FuncId) (args':Array Value),(Deferred.ofValue cf cargs).run P w=.ok d w→(invoke d.target d.args).run P w=.ok (.enter f args') w→(execOp a.eval o).run P w=.ok (.enter f args') w)
 (hg:G P E (.inRegion ops rest :: k) ⟨tmps,blks⟩):G P E (.inRegion ops (i :: rest) :: k) st:=by
 unfold lentA at hl
 cases hcd:(YB ρ && Nat.ble ρ.length bs2.length && Ya (fun j=>ρ.contains j) fv && refsIns (fun j=>ρ.contains j) avs) with
 | false=>rw [hcd] at hl; simp only [cond_false] at hl; cases hl
 | true =>
  rw [hcd] at hl
  simp only [cond_true] at hl
  simp only [Bool.and_eq_true] at hcd
  obtain ⟨⟨⟨hn,hle⟩,hrf⟩,hra⟩:=hcd
  have hle:=Nat.le_of_ble_eq_true hle
  split at hl
  · rename_i bs hlend
    simp only [Option.some.injEq,Prod.mk.injEq] at hl
    obtain ⟨rfl,rfl,rfl⟩:=hl
    intro C Z a w hr
    have hwc:=XF hr.tmp hw
    have hgo:=stepGR_op (P:=P) (b:=E.b) (k:=k) (cs:=E.cs) (w:=w) (rest:=rest) ho hwc
    rw [Oper.semAt_eq _ _ _ hnd] at hgo
    have hfin:∀ v,(E.b.atR a (.inRegion ops (i :: rest) :: k)).finish v=E.b.atR (a.put o.dst v) (.inRegion ops rest :: k):=by
     intro v; rw [Frame.finish_atR,ho]; rfl
    obtain ⟨cf,cargs,hcf,hca,hex⟩:=hcall C Z a w hr
    obtain ⟨hm1,hρ,hcon⟩:=hr.mem.lend hn hlend
    have hfv:=hcf.ren hcon hrf
    have hargs:VRs Z w (subC C ρ) (rens (fun j=>ρ.idxOf j) avs) cargs.toList:=by
     refine ⟨by rw [XG]; exact hca.1,fun j c v p q=>?_⟩
     rw [YZ,Option.map_eq_some_iff] at p
     obtain ⟨c0,p,rfl⟩:=p
     exact (hca.2 j c0 v p q).ren hcon (YF hra p)
    obtain ⟨d,f,args',r1,r2,r3⟩:=ob1.1 Z w (subC C ρ) cf cargs hm1 hfv hargs
    obtain ⟨e,w1,fr,⟨v,C1,Z1,rfl,hb,hm2,hv⟩,hsteps,-,hleave⟩:=r3 (E.b.atR a (.inRegion ops (i :: rest) :: k) :: E.cs)
    have hexec:=hex d f args' r1 r2
    have henter:step P (lone (E.b.atR a (.inRegion ops (i :: rest) :: k)) E.cs w) =
     .next (lone (Frame.enter P f args' .normal) (E.b.atR a (.inRegion ops (i :: rest) :: k) :: E.cs) w) :=
     step_lone_go (by rw [hgo]; simp [stepG.apply,hexec,Frame.atR])
    obtain ⟨hm3,hevo,hout⟩:=hr.mem.given hn hρ hle hb hm2
    refine .step (Steps.head henter (hsteps.trans (.one ?_))) (hg _ Z1 (a.put o.dst v) w1 ⟨Qbv ((hr.tmp.evoG hevo).put (hv.ren (p:=fun _=>true) (fun k _=>hout k) (WH _)) o.dst) hc ob2,hm3,?_,hr.gh.evoG hevo,hr.base.nextG hevo⟩)
    · rw [← hfin]; exact step_leave_returned hleave
    · have:(a.put o.dst v).defers=a.defers:=by cases o.dst <;> rfl
      rw [this]; exact hr.marks.evoG hevo
  · cases hl
theorem opL_step {ops:Array Oper} {i:Nat} {o:Oper} {rest:List Nat} {k:List Item} {evs evs':List EV} {obs:List Prop} (ho:ops[i]?=some o) {HK:Prop} (hk:HK)
 (h:opL P ops i o st evs=some (st',evs',obs)) (hob:AllP obs) (hg:G P E (.inRegion ops rest :: k) st'):G P E (.inRegion ops (i :: rest) :: k) st:=by
 unfold opL at h
 split at h
 · rename_i ρ res bs2 evs0
   split at h
   · rename_i fop args ats hop hw
     split at h
     · cases h
     · rename_i v blks obs1 hl
       split at h
       · cases h
       · rename_i tmps evs2 obs2 hc
         simp only [Option.some.injEq,Prod.mk.injEq] at h
         obtain ⟨rfl,-,rfl⟩:=h
         obtain ⟨ob1,ob2⟩:=Qj.1 hob
         refine lent_core ho hw (by intro c hc; rw [hop] at hc; cases hc) hl hc ob1 ob2 (fun C Z a w hr=>⟨a.eval fop,args.map a.eval,QV hr.tmp fop,VRs.map (QV hr.tmp) args,fun d f args' r1 r2=>?_⟩) hg
         obtain ⟨dst,op,ty,pos,after,guard⟩:=o
         simp only at hop
         subst hop
         simp only [execOp,resolve,Sem.run_bind,r1,Result.andThen_ok,r2]
   · rename_i rop name args ats hop hw
     split at h
     · cases h
     · rename_i f v' hcal
       split at h
       · cases h
       · rename_i v blks obs1 hl
         split at h
         · cases h
         · rename_i tmps evs2 obs2 hc
           simp only [Option.some.injEq,Prod.mk.injEq] at h
           obtain ⟨rfl,-,rfl⟩:=h
           obtain ⟨ob1,ob2⟩:=Qj.1 hob
           refine lent_core ho hw (by intro c hc; rw [hop] at hc; cases hc) hl hc ob1 ob2 (fun C Z a w hr=>?_) hg
           unfold calleeA at hcal
           have hvr:=QV hr.tmp rop
           split at hcal
           · rename_i t u hru
             rw [hru] at hvr
             generalize hρ:a.eval rop=vr at hvr
             cases hvr with
             | ifc hvr =>
              rename_i c
              split at hcal
              · rename_i f1 p hme
                rw [Option.map_eq_some_iff] at hcal
                obtain ⟨v1,h1,h2⟩:=hcal
                simp only [Prod.mk.injEq] at h2
                obtain ⟨rfl,rfl⟩:=h2
                obtain ⟨c',q1,q2⟩:=KE hr.mem hvr h1
                have hargs:=VRs.map (QV hr.tmp) args
                refine ⟨.func (.func f1) #[] #[],#[c']++args.map a.eval,.clos rfl (fun i c v p q=>by simp at p) rfl (fun i c v p q=>by simp at p),⟨by have:=hargs.1; simp at this ⊢,fun i c v p q=>?_⟩,fun d f args' r1 r2=>?_⟩
                · cases i with
                  | zero=>simp at p q; subst p; subst q; exact q1
                  | succ i =>
                   simp only [List.getElem?_cons_succ] at p
                   have q':(args.map a.eval).toList[i]?=some v:=by simpa using q
                   exact hargs.2 i c v p q'
                · obtain ⟨dst,op,ty,pos,after,guard⟩:=o
                  simp only at hop
                  subst hop
                  simp only [execOp,resolve,Sem.run_bind,Sem.run_pure,Result.andThen_ok,hρ]
                  exact Qbj hme q2 r1 r2
              · cases hcal
           · cases hcal
   · exact op_step ho hk h hob hg
 · exact op_step ho hk h hob hg
end
end Ax
namespace Ax
open Go
def killB (b:Blk):Blk:=⟨false,b.gen+1,b.sz,true,[],false⟩
section
variable {P:Program} {E:Env} {K:List Item} {st st':St} {Z0 M Z:Nat→Prop} {w0 w:World} {C:Ctx} {blks:List Blk}
theorem Ctx.put_id {k:Nat}:C.put k (C.β k) (C.γ k)=C:=by
 cases C with
 | mk β γ =>
  simp only [Ctx.put,Ctx.mk.injEq]
  constructor <;> (funext j; by_cases e:j=k <;> simp [e])
/-- A block whose cells hold no reference. -/
theorem Mem.flatten (hm:Mem Z0 M w0 C Z blks w) {j:Nat} {bj:Blk} (hb:blks[j]?=some bj) (hl:bj.live=true) (hz:bj.sz ≠ 0) (hn:noRefs bj.cells=true):Mem Z0 M w0 C Z (blks.set j { bj with flat:=true }) w:=by
 obtain ⟨q1,q2⟩:=hm.blk j bj hb hl
 have hg:=hm.gen j bj hb
 have:=hm.change (b':={ bj with flat:=true }) (w':=w) (s:=C.β j) (g:=C.γ j) hb rfl rfl rfl (Nat.le_refl _) (fun _ _ _=>rfl)
  (fun blk o arr e _ h=>⟨arr,h,rfl⟩) (Nat.le_refl _) (fun _ _=>rfl) hl hg.symm (fun blk o h=>.inl ⟨o,h⟩) (fun hle hevo _=>by
    refine ⟨q1,?_⟩
    rw [Ctx.put_id]
    cases hs:C.β j with
    | absent=>simp [hs] at q2
    | unborn=>simp only [hs] at q2 ⊢; exact q2
    | loc blk o =>
     simp only [hs] at q2 ⊢
     obtain ⟨arr,te,r1,r2,r3⟩:=q2.cells hz
     refine .inl ⟨hz,arr,te,r1,r2,fun i x hi=>?_⟩
     obtain ⟨y,s1,s2⟩:=r3 i x hi
     refine ⟨y,s1,?_⟩
     simp only [if_true]
     cases hf:bj.flat with
     | true=>rw [hf] at s2; simpa using s2
     | false=>rw [hf] at s2; exact VR.ctx (by simpa using s2) (QQ hn hi))
 rw [Ctx.put_id] at this
 exact this.1
/-- The end of a block's row is forgotten. -/
theorem Mem.cutr (hm:Mem Z0 M w0 C Z blks w) {j:Nat} {bj:Blk} {S T:List AV} (hb:blks[j]?=some bj) (hl:bj.live=true) (hz:bj.sz ≠ 0) (hn:bj.cells=S++T):Mem Z0 M w0 C Z (blks.set j { bj with cells:=S }) w:=by
 obtain ⟨q1,q2⟩:=hm.blk j bj hb hl
 have hg:=hm.gen j bj hb
 have pre:∀ {i:Nat} {x:AV},S[i]?=some x→bj.cells[i]?=some x:=fun {i x} h=>by
  rw [hn,List.getElem?_append_left (List.getElem?_eq_some_iff.1 h).1]; exact h
 have:=hm.change (b':={ bj with cells:=S }) (w':=w) (s:=C.β j) (g:=C.γ j) hb rfl rfl rfl (Nat.le_refl _) (fun _ _ _=>rfl)
  (fun blk o arr e _ h=>⟨arr,h,rfl⟩) (Nat.le_refl _) (fun _ _=>rfl) hl hg.symm (fun blk o h=>.inl ⟨o,h⟩) (fun hle hevo _=>by
    refine ⟨fun i x h=>q1 i x (pre h),?_⟩
    rw [Ctx.put_id]
    cases hs:C.β j with
    | absent=>simp [hs] at q2
    | unborn =>
     simp only [hs] at q2 ⊢
     rw [q2] at hn
     exact (List.append_eq_nil_iff.1 hn.symm).1
    | loc blk o =>
     simp only [hs] at q2 ⊢
     obtain ⟨arr,te,r1,r2,r3⟩:=q2.cells hz
     exact .inl ⟨hz,arr,te,r1,by rw [hn,List.length_append] at r2; simp only; omega,fun i x hi=>r3 i x (pre hi)⟩)
 rw [Ctx.put_id] at this
 exact this.1
def cutA (st:St) (j:Nat) (S T:List AV):Option (St × Prop):=match st.blks[j]? with
 | some bj=>if bj.live && bj.sz != 0 then some (⟨st.tmps,st.blks.set j { bj with cells:=S }⟩,bj.cells=S++T) else none
 | none=>none
theorem cutA_step {j:Nat} {S T:List AV} {o:Prop} (h:cutA st j S T=some (st',o)) (ho:o) (hg:G P E K st'):G P E K st:=by
 intro C Z a w hr
 unfold cutA at h
 split at h
 · rename_i bj hbj
   split at h
   · rename_i hc
     simp only [Option.some.injEq,Prod.mk.injEq] at h
     obtain ⟨rfl,rfl⟩:=h
     simp only [Bool.and_eq_true,bne_iff_ne,ne_eq] at hc
     exact hg C Z a w ⟨hr.tmp,hr.mem.cutr hbj hc.1 hc.2 ho,hr.marks,hr.gh,hr.base⟩
   · cases h
 · cases h
/-- A value without its nil slices: they are seen as empty ones. -/
def dnl1:AV→AV
 | .nilSl=>.rsl [] 0 0
 | v=>v
theorem dnl1_ok {Z:Nat→Prop} {w:World} {C:Ctx} {v:AV} {c:Value} (h:VR Z w C v c):VR Z w C (dnl1 v) c:=by
 cases h <;> first | exact .rsl0 | (simp only [dnl1]; constructor <;> assumption)
/-- Told 'wt t': a value loses its nil slices; a pointer's block is laid down as it lies. -/
def wtA (st:St) (t:Nat):Option (St × List Prop):=match st.tmps[t]? with
 | some (.agg cs)=>some (⟨st.tmps.set t (.agg (cs.map dnl1)),st.blks⟩,[])
 | some (.ptr k g off)=>(match st.blks[k]? with
  | some bk=>(match bk.live && bk.flat && bk.sz != 0,g == bk.gen with
   | true,true=>some (⟨st.tmps.set t (.rptr bk.cells off),st.blks.set k (killB bk)⟩,[])
   | _,_=>none)
  | none=>none)
 | some (.sl k g off len _)=>(match st.blks[k]? with
  | some bk=>(match bk.live && bk.flat && bk.sz != 0 with
   | true=>some (⟨st.tmps.set t (.rsl bk.cells off len),st.blks.set k (killB bk)⟩,[g=bk.gen])
   | _=>none)
  | none=>none)
 | _=>none
theorem wtA_step {t:Nat} {o1:List Prop} (h:wtA st t=some (st',o1)) (ho:AllP o1) (hg:G P E K st'):G P E K st:=by
 intro C Z a w hr
 unfold wtA at h
 split at h
 · rename_i cs hc
   simp only [Option.some.injEq,Prod.mk.injEq] at h
   obtain ⟨rfl,rfl⟩:=h
   refine hg C Z a w ⟨⟨by rw [List.length_set]; exact hr.tmp.1,fun i c v hi hv=>?_⟩,hr.mem,hr.marks,hr.gh,hr.base⟩
   rw [List.getElem?_set] at hi
   split at hi
   · rename_i e
     subst e
     split at hi
     · cases hi
       have:=hr.tmp.2 t _ v hc hv
       cases this with
       | @agg _ _ arr hl hh =>
        refine .agg (by simpa using hl) fun i c v p q=>?_
        rw [List.getElem?_map] at p
        cases hci:cs[i]? with
        | none=>rw [hci] at p; simp at p
        | some y =>
         rw [hci] at p
         simp only [Option.map_some,Option.some.injEq] at p
         subst p
         exact dnl1_ok (hh i y v hci q)
     · cases hi
   · exact hr.tmp.2 i c v hi hv
 · rename_i k g off hc
   split at h
   · rename_i bk hbk
     split at h
     · rename_i hk1 hk2
       simp only [Option.some.injEq,Prod.mk.injEq] at h
       obtain ⟨rfl,rfl⟩:=h
       simp only [Bool.and_eq_true,bne_iff_ne,ne_eq] at hk1
       have hgk:g=bk.gen:=by simpa using hk2
       obtain ⟨m1,le1,ev1⟩:=hr.mem.kill hbk
       have ht:=hr.tmp.next le1 ev1
       refine hg _ _ a w ⟨⟨by rw [List.length_set]; exact ht.1,fun i c v hi hv=>?_⟩,m1,hr.marks.evo ev1,hr.gh.next le1 ev1,hr.base.next le1 ev1⟩
       rw [List.getElem?_set] at hi
       split at hi
       · rename_i e
         subst e
         split at hi
         · cases hi
           exact VR.layP hr.mem hbk hk1.1.1 hk1.2 hk1.1.2 hgk (hr.tmp.2 t _ v hc hv)
         · cases hi
       · exact ht.2 i c v hi hv
     · cases h
   · cases h
 · rename_i k g off len sz hc
   split at h
   · rename_i bk hbk
     split at h
     · rename_i hk1
       simp only [Option.some.injEq,Prod.mk.injEq] at h
       obtain ⟨rfl,rfl⟩:=h
       simp only [Bool.and_eq_true,bne_iff_ne,ne_eq] at hk1
       have hgk:g=bk.gen:=ho.1
       obtain ⟨m1,le1,ev1⟩:=hr.mem.kill hbk
       have ht:=hr.tmp.next le1 ev1
       refine hg _ _ a w ⟨⟨by rw [List.length_set]; exact ht.1,fun i c v hi hv=>?_⟩,m1,hr.marks.evo ev1,hr.gh.next le1 ev1,hr.base.next le1 ev1⟩
       rw [List.getElem?_set] at hi
       split at hi
       · rename_i e
         subst e
         split at hi
         · cases hi
           exact VR.lay hr.mem hbk hk1.1.1 hk1.2 hk1.1.2 hgk (hr.tmp.2 t _ v hc hv)
         · cases hi
       · exact ht.2 i c v hi hv
     · cases h
   · cases h
 · cases h
end
end Ax
namespace Ax
open Go
section
variable {P:Program} {E:Env} {K K':List Item} {st st':St}
structure DrawT (P:Program) (ops:Array Oper) (st0:St) (rs:List Rec) (ms:List Nat):Prop where
 len:rs.length+1=ops.size
 mlen:ms.length=ops.size
 rec':∀ j r,rs[j]?=some r→∃ o idx' evs1 evs2 obs1,ops[j]?=some o∧recA P ops idx' j o ((rs.take j).foldl app1 st0) evs1=some (r,evs2,obs1)∧AllP obs1
 anc:∀ j o,ops[j]?=some o→∃ m,ms[j]?=some m∧(∀ e ∈ o.after,hard e=true→e.on<j)∧∀ p,m.testBit p=true→∃ e ∈ o.after,hard e=true∧(p=e.on ∨ (ms.getD e.on 0).testBit p=true)
 pairs:YU 0 rs ms=true
 last:∀ p,p<rs.length→(ms.getD rs.length 0).testBit p=true
theorem DrawT.down {ops:Array Oper} {st0:St} {rs:List Rec} {ms:List Nat} (h:DrawT P ops st0 rs ms) {D:Nat→Bool} (hd:Down ops D) :
 ∀ (i:Nat) (o:Oper) (m:Nat),ops[i]?=some o→ms[i]?=some m→D i=true→∀ p,m.testBit p=true→D p=true:=by
 intro i
 induction i using Nat.strongRecOn with
 | ind i ih =>
  intro o m ho hm hD p hp
  obtain ⟨m',q1,q2,q3⟩:=h.anc i o ho
  rw [hm] at q1; cases q1
  obtain ⟨e,e1,e2,e3⟩:=q3 p hp
  have hDe:=hd i o ho hD e e1 e2
  rcases e3 with rfl | e3
  · exact hDe
  · have hlt:=q2 e e1 e2
    have hs:i<ops.size:=(Array.getElem?_eq_some_iff.1 ho).1
    have ho':ops[e.on]?=some ops[e.on]:=by simp
    have hm':ms[e.on]?=some (ms.getD e.on 0):=by
     have:e.on<ms.length:=by rw [h.mlen]; omega
     simp [List.getD,List.getElem?_eq_getElem this]
    exact ih e.on hlt _ _ ho' hm' hDe p e3
def lastOk (n m:Nat):Bool:=(List.range n).all fun p=>m.testBit p
end
end Ax
namespace Ax
open Go
section
variable {P:Program} {E:Env} {K K':List Item} {st st':St}
def laterS (si sj i:Nat) (r:Rec):Nat→List Rec→List Nat→Bool
 | j,r' :: rs,m :: ms=>((Nat.beq i si && Nat.beq j sj) || (!Wy r r' || m.testBit i)) && laterS si sj i r (j+1) rs ms
 | _,_,_=>true
def pairsS (si sj:Nat):Nat→List Rec→List Nat→Bool
 | i,r :: rs,_ :: ms=>laterS si sj i r (i+1) rs ms && pairsS si sj (i+1) rs ms
 | _,_,_=>true
/-- The look 'ri',and what it gives behind the turn 'rj' ('r2'). -/
def softOk (ri rj r2:Rec):Bool :=
 (match ri.blk,r2.blk with | none,none=>true | _,_=>false) && !wrd ri rj && !wr2 ri rj && (match rj.dst with | some d=>!ri.rt.any (Nat.beq d) | none=>true) &&
   (match ri.dst,r2.dst with | some a,some b=>Nat.beq a b | none,none=>true | _,_=>false) && r2.rb.all fun k=>ri.rb.any (Nat.beq k)
structure DrawS (P:Program) (ops:Array Oper) (st0:St) (rs:List Rec) (ms:List Nat) (si sj:Nat) (ri rj r2:Rec):Prop where
 len:rs.length=ops.size
 mlen:ms.length=ops.size
 rec':∀ j r,rs[j]?=some r→∃ o idx' evs1 evs2 obs1,ops[j]?=some o∧recA P ops idx' j o ((rs.take j).foldl app1 st0) evs1=some (r,evs2,obs1)∧AllP obs1
 anc:∀ j o,ops[j]?=some o→∃ m,ms[j]?=some m∧(∀ e ∈ o.after,hard e=true→e.on<j)∧∀ p,m.testBit p=true→∃ e ∈ o.after,hard e=true∧(p=e.on ∨ (ms.getD e.on 0).testBit p=true)
 pairs:pairsS si sj 0 rs ms=true
 lt:si<sj
 hi:rs[si]?=some ri
 hj:rs[sj]?=some rj
 soft:softOk ri rj r2=true
 tv:r2.tv=ri.tv
 alt:∃ o idx' evs1 evs2 obs1,ops[si]?=some o∧recA P ops idx' si o ⟨((rs.take si).foldl app1 st0).tmps,(app1 ((rs.take si).foldl app1 st0) rj).blks⟩ evs1=some (r2,evs2,obs1)∧AllP obs1
theorem DrawS.down {ops:Array Oper} {st0:St} {rs:List Rec} {ms:List Nat} {si sj:Nat} {ri rj r2:Rec} (h:DrawS P ops st0 rs ms si sj ri rj r2) {D:Nat→Bool} (hd:Down ops D) :
 ∀ (i:Nat) (o:Oper) (m:Nat),ops[i]?=some o→ms[i]?=some m→D i=true→∀ p,m.testBit p=true→D p=true:=by
 intro i
 induction i using Nat.strongRecOn with
 | ind i ih =>
  intro o m ho hm hD p hp
  obtain ⟨m',q1,q2,q3⟩:=h.anc i o ho
  rw [hm] at q1; cases q1
  obtain ⟨e,e1,e2,e3⟩:=q3 p hp
  have hDe:=hd i o ho hD e e1 e2
  rcases e3 with rfl | e3
  · exact hDe
  · have hlt:=q2 e e1 e2
    have hs:i<ops.size:=(Array.getElem?_eq_some_iff.1 ho).1
    have ho':ops[e.on]?=some ops[e.on]:=by simp
    have hm':ms[e.on]?=some (ms.getD e.on 0):=by
     have:e.on<ms.length:=by rw [h.mlen]; omega
     simp [List.getD,List.getElem?_eq_getElem this]
    exact ih e.on hlt _ _ ho' hm' hDe p e3
end
end Ax
namespace Ax
open Go
section
variable {P:Program} {E:Env} {K K':List Item} {st st':St}
def tick:List EV→List EV
 | .hold (j+1) :: evs=>.hold j :: evs
 | evs=>evs
/-- What comes next,in text order,up to where 'stop' is told: a loop's body,a range over a function,a return,a jump out of a round,or the end. -/
def walk (P:Program):Nat→List Item→St→List EV→Option (List Item × St × List EV × List Prop)
 | 0,K,st,evs=>some (K,st,evs,[])
 | n+1,K,st,evs =>
  match K with
  | .code .skip :: k=>walk P n k st evs
  | .inBlock _ :: k=>walk P n k st evs
  | .code (.seq x y) :: k=>walk P n (.code x :: .code y :: k) st evs
  | .code (.block id body) :: k=>walk P n (.code body :: .inBlock id :: k) st evs
  | .code (.cond c x y) :: k =>
   (match XU st.tmps c,evs with
   | .bool t,.b u :: evs=>(match walk P n (.code (bif u then x else y) :: k) st evs with
    | some (K',st',evs',obs)=>some (K',st',evs',(t=u) :: obs)
    | none=>none)
   | _,_=>none)
  | .code (.region _ ops false) :: k=>walk P n (.inRegion ops (List.range' 0 ops.size) :: k) st evs
  | .code (.region _ ops true) :: k =>
   (match drawA P ops st evs with
   | some (st1,evs1,o1)=>(match walk P n k st1 evs1 with
    | some (K',st',evs',obs)=>some (K',st',evs',o1++obs)
    | none=>none)
   | none=>none)
  | .inRegion ops [] :: k=>walk P n k st evs
  | .inRegion ops (i :: is) :: k =>
   (match evs with
   | .hold 0 :: evs=>some (.inRegion ops (i :: is) :: k,st,evs,[])
   | .cutr j S T :: evs=>(match cutA st j S T with
    | some (st1,o1)=>(match walk P n (.inRegion ops (i :: is) :: k) st1 evs with
     | some (K',st',evs',obs)=>some (K',st',evs',o1 :: obs)
     | none=>none)
    | none=>none)
   | .wt t :: evs1=>(match wtA st t with
    | some (st1,o1)=>(match walk P n (.inRegion ops (i :: is) :: k) st1 evs1 with
     | some (K',st',evs',obs)=>some (K',st',evs',o1++obs)
     | none=>none)
    | none=>(match ops[i]? with
     | none=>none
     | some o=>(match opL P ops i o st (.wt t :: evs1) with
      | none=>none
      | some (st1,evs1,o1)=>(match walk P n (.inRegion ops is :: k) st1 evs1 with
       | some (K',st',evs',obs)=>some (K',st',evs',o1++obs)
       | none=>none))))
   | evs=>(match ops[i]? with
    | none=>none
    | some o=>(match opL P ops i o st (tick evs) with
     | none=>none
     | some (st1,evs1,o1)=>(match walk P n (.inRegion ops is :: k) st1 evs1 with
      | some (K',st',evs',obs)=>some (K',st',evs',o1++obs)
      | none=>none))))
  | .code (.exit id) :: k=>(match exitTo id k with
   | some k'=>walk P n k' st evs
   | none=>some (.code (.exit id) :: k,st,evs,[]))
  | .code (.loop body) :: k=>(match evs with
   | .stop :: evs=>some (.code body :: .inLoop body :: k,st,evs,[])
   | evs=>walk P n (.code body :: .inLoop body :: k) st evs)
  | .inLoop body :: k=>(match evs with
   | .stop :: evs=>some (.code body :: .inLoop body :: k,st,evs,[])
   | evs=>walk P n (.code body :: .inLoop body :: k) st evs)
  | K=>some (K,st,evs,[])
theorem QL {HK:Prop} (hk:HK) (hmx:P.follows .mixedOrders=true):∀ {n:Nat} {K K':List Item} {st st':St} {evs evs':List EV} {obs:List Prop},
 walk P n K st evs=some (K',st',evs',obs)→AllP obs→G P E K' st'→G P E K st
 | 0,K,K',st,st',evs,evs',obs,h,ho,hg=>by
  simp only [walk,Option.some.injEq,Prod.mk.injEq] at h
  obtain ⟨rfl,rfl,-,-⟩:=h
  exact hg
 | n+1,K,K',st,st',evs,evs',obs,h,ho,hg=>by
  unfold walk at h
  split at h
  · exact .of_step (fun a w=>stepR_skip) (QL hk hmx h ho hg)
  · exact .of_step (fun a w=>stepR_inBlock) (QL hk hmx h ho hg)
  · exact .of_step (fun a w=>stepR_seq) (QL hk hmx h ho hg)
  · exact .of_step (fun a w=>stepR_block) (QL hk hmx h ho hg)
  · rename_i c x y k
    split at h
    · rename_i t u evs1 hc
      split at h
      · rename_i K1 st1 evs2 obs1 h1
        simp only [Option.some.injEq,Prod.mk.injEq] at h
        obtain ⟨rfl,rfl,rfl,rfl⟩:=h
        obtain ⟨rfl,ho⟩:=ho
        have h2:=QL hk hmx h1 ho hg
        intro C Z a w hr
        have hv:=QV hr.tmp c
        rw [hc] at hv
        generalize hcv:a.eval c=cv at hv
        cases hv
        refine .step (.one (stepR_cond hcv)) ?_
        have:=h2 C Z a w hr
        cases t <;> exact this
      · cases h
    · cases h
  · rename_i id ops k
    have:=QL hk hmx h ho hg
    rw [← List.range_eq_range'] at this
    exact .of_step (fun a w=>stepR_region) this
  · rename_i id ops k
    split at h
    · rename_i st1 evs1 o1 h1
      split at h
      · rename_i K2 st2 evs2 obs2 h2
        simp only [Option.some.injEq,Prod.mk.injEq] at h
        obtain ⟨rfl,rfl,rfl,rfl⟩:=h
        obtain ⟨a1,a2⟩:=Qj.1 ho
        exact draw_step hk hmx h1 a1 (QL hk hmx h2 a2 hg)
      · cases h
    · cases h
  · exact .of_step (fun a w=>stepR_region_end) (QL hk hmx h ho hg)
  · rename_i ops i is k
    split at h
    · simp only [Option.some.injEq,Prod.mk.injEq] at h
      obtain ⟨rfl,rfl,-,-⟩:=h
      exact hg
    · split at h
      · rename_i st1 o1 h1
        split at h
        · rename_i K2 st2 evs2 obs2 h2
          simp only [Option.some.injEq,Prod.mk.injEq] at h
          obtain ⟨rfl,rfl,rfl,rfl⟩:=h
          exact cutA_step h1 ho.1 (QL hk hmx h2 ho.2 hg)
        · cases h
      · cases h
    · split at h
      · rename_i st1 o1 h1
        split at h
        · rename_i K2 st2 evs2 obs2 h2
          simp only [Option.some.injEq,Prod.mk.injEq] at h
          obtain ⟨rfl,rfl,rfl,rfl⟩:=h
          obtain ⟨a1,a2⟩:=Qj.1 ho
          exact wtA_step h1 a1 (QL hk hmx h2 a2 hg)
        · cases h
      · split at h
        · cases h
        · rename_i o hoi
          split at h
          · cases h
          · rename_i st1 evs1 o1 h1
            split at h
            · rename_i K2 st2 evs2 obs2 h2
              simp only [Option.some.injEq,Prod.mk.injEq] at h
              obtain ⟨rfl,rfl,rfl,rfl⟩:=h
              obtain ⟨a1,a2⟩:=Qj.1 ho
              exact opL_step hoi hk h1 a1 (QL hk hmx h2 a2 hg)
            · cases h
    · split at h
      · cases h
      · rename_i o hoi
        split at h
        · cases h
        · rename_i st1 evs1 o1 h1
          split at h
          · rename_i K2 st2 evs2 obs2 h2
            simp only [Option.some.injEq,Prod.mk.injEq] at h
            obtain ⟨rfl,rfl,rfl,rfl⟩:=h
            obtain ⟨a1,a2⟩:=Qj.1 ho
            exact opL_step hoi hk h1 a1 (QL hk hmx h2 a2 hg)
          · cases h
  · rename_i id k
    split at h
    · rename_i k' hx
      exact .of_step (fun a w=>stepR_exit hx) (QL hk hmx h ho hg)
    · simp only [Option.some.injEq,Prod.mk.injEq] at h
      obtain ⟨rfl,rfl,-,-⟩:=h
      exact hg
  · split at h
    · simp only [Option.some.injEq,Prod.mk.injEq] at h
      obtain ⟨rfl,rfl,-,-⟩:=h
      exact .of_step (fun a w=>stepR_loop) hg
    · exact .of_step (fun a w=>stepR_loop) (QL hk hmx h ho hg)
  · split at h
    · simp only [Option.some.injEq,Prod.mk.injEq] at h
      obtain ⟨rfl,rfl,-,-⟩:=h
      exact .of_step (fun a w=>stepR_inLoop) hg
    · exact .of_step (fun a w=>stepR_inLoop) (QL hk hmx h ho hg)
  · simp only [Option.some.injEq,Prod.mk.injEq] at h
    obtain ⟨rfl,rfl,-,-⟩:=h
    exact hg
/-- A function that only reads, called by its value. -/
theorem Qk {f : FuncId} {fn : Func} {c : Code} {first args cap : List AV} {res : AV} (hf : P.funcs[f]? = some fn) (hname : (fn.name == "runtime.NumGoroutine") = false) (hb : fn.body = some c)
    (h : Pure P f (first ++ args ++ cap) res) : Qc P (.clos f first cap) args res := by
  intro Z w cf cargs hz hcf ha
  cases hcf with
  | @clos _ _ _ _ fa ca hl h1 hl' h2 =>
    refine ⟨{ target := .fn (.func f) ca, args := fa ++ cargs }, f, fa ++ cargs ++ ca, rfl, ?_, ?_⟩
    · have := Go.Proofs.enters_of (P := P) hf hname hb (fa ++ cargs ++ ca) w
      simpa [invoke] using this
    · refine h Z w _ hz ⟨by have := ha.1; simp at this; simp [hl, hl', this], fun i x y p q => ?_⟩
      have hal : args.length = cargs.size := by simpa using ha.1
      simp only [Array.toList_append] at q
      rw [List.append_assoc] at p q
      by_cases i1 : i < first.length
      · rw [List.getElem?_append_left i1] at p
        rw [List.getElem?_append_left (by simpa [← hl] using i1)] at q
        exact h1 i x y p (by simpa using q)
      · rw [List.getElem?_append_right (by omega)] at p
        rw [List.getElem?_append_right (by simp; omega)] at q
        have e1 : fa.toList.length = first.length := by simp [hl]
        rw [e1] at q
        by_cases i2 : i - first.length < args.length
        · rw [List.getElem?_append_left i2] at p
          rw [List.getElem?_append_left (by simpa [← hal] using i2)] at q
          exact ha.2 _ x y p q
        · rw [List.getElem?_append_right (by omega)] at p
          rw [List.getElem?_append_right (by simp; omega)] at q
          have e2 : cargs.toList.length = args.length := by simp [hal]
          rw [e2] at q
          exact h2 _ x y p (by simpa using q)

end
end Ax
namespace Ax
open Go
/-- The place in the code,by the tests' outcomes. -/
def kAt:Nat→List Item→List EV→List Item
 | 0,K,_=>K
 | n+1,K,evs =>
  match K with
  | .code .skip :: k=>kAt n k evs
  | .inBlock _ :: k=>kAt n k evs
  | .code (.seq x y) :: k=>kAt n (.code x :: .code y :: k) evs
  | .code (.block id body) :: k=>kAt n (.code body :: .inBlock id :: k) evs
  | .code (.cond _ x y) :: k=>(match evs with
   | .b u :: evs=>kAt n (.code (bif u then x else y) :: k) evs
   | _=>K)
  | .code (.region ..) :: k=>kAt n k evs
  | .inRegion .. :: k=>kAt n k evs
  | .code (.exit id) :: k=>(match exitTo id k with
   | some k'=>kAt n k' evs
   | none=>K)
  | .code (.loop body) :: k=>(match evs with
   | .stop :: _=>.code body :: .inLoop body :: k
   | evs=>kAt n (.code body :: .inLoop body :: k) evs)
  | .inLoop body :: k=>(match evs with
   | .stop :: _=>.code body :: .inLoop body :: k
   | evs=>kAt n (.code body :: .inLoop body :: k) evs)
  | K=>K
def Qf (P:Program) (f:FuncId):Code:=((P.funcs[f]?).bind (·.body)).getD .skip
section
variable {P:Program} {E:Env} {K K':List Item} {st st':St}
def isEnd:List Item→Bool
 | []=>true
 | .code .ret :: _=>true
 | _=>false
theorem VK {K:List Item} (h:isEnd K=true):K=[] ∨ ∃ k,K=.code .ret :: k:=by
 unfold isEnd at h
 split at h
 · exact .inl rfl
 · exact .inr ⟨_,rfl⟩
 · cases h
/-- To the end: the result,laid down. -/
def endA (P:Program) (fn:Func) (n:Nat) (K:List Item) (st:St) (evs:List EV):Option (AV × List Prop) :=
 match walk P n K st evs with
 | some (K',st',evs',o1) =>
  (match isEnd K',resA P st' fn.results.toList evs' with
  | true,some (vs,_,o2) =>
   (match (frz 8 (tupA vs)).run (st'.blks[·]?) with
   | some (r,o3)=>some (r,o1++(o2++o3))
   | none=>none)
  | _,_=>none)
 | none=>none
theorem end_step {n:Nat} {f:FuncId} {fn:Func} {evs:List EV} {r res:AV} {obs:List Prop} (hE:Qr P f res E) (hf:P.funcs[f]?=some fn) (hmx:P.follows .mixedOrders=true)
 (h:endA P fn n K st evs=some (r,obs)) (ho:AllP obs) (hr:r=res):G P E K st:=by
 subst hr
 unfold endA at h
 split at h
 · rename_i K' st' evs' o1 h1
   split at h
   · rename_i vs evs2 o2 hK h2
     split at h
     · rename_i r' o3 h3
       simp only [Option.some.injEq,Prod.mk.injEq] at h
       obtain ⟨rfl,rfl⟩:=h
       obtain ⟨a1,a2⟩:=Qj.1 ho
       obtain ⟨a2,a3⟩:=Qj.1 a2
       exact QL hE.2.1 hmx h1 a1 (G_pure hE hf h2 a2 h3 a3 (VK hK))
     · cases h
   · cases h
 · cases h
end
end Ax
namespace Ax
open Go
section
variable {P:Program} {Z0 M Z F M':Nat→Prop} {w0 w w':World} {C C':Ctx} {blks blks':List Blk}
theorem Mem.apart (hm:Mem Z0 M w0 C Z blks w) (hf:Fr w F w') (h1:∀ b,Own C b→¬ F b) (h2:∀ b,Z b→¬ F b) (hM':∀ b,Own C b→M' b):Mem Z M' w' C Z blks w'∧Evo C Z Z w w':=by
 have hevo:Evo C Z Z w w':=⟨fun b h=>h,fun b hz=>hf.same b (hm.zlt b hz) (h2 b hz),fun k blk o arr e hb h=>⟨arr,by rw [hf.same blk (hm.own k blk o hb).1 (h1 blk ⟨k,o,hb⟩)]; exact h,rfl⟩⟩
 refine ⟨⟨fun k b hb hl=>?_,hm.gen,hm.dd,hm.dom,hm.inj,fun k b o h=>⟨Nat.lt_of_lt_of_le (hm.own k b o h).1 hf.size,(hm.own k b o h).2.1,.inl (hM' b ⟨k,o,h⟩)⟩,
  fun b hz=>Nat.lt_of_lt_of_le (hm.zlt b hz) hf.size,fun b hz=>hz,fun b hz=>.inl hz,Fr.refl _ _⟩,hevo⟩
 obtain ⟨q1,q2⟩:=hm.blk k b hb hl
 refine ⟨q1,?_⟩
 cases hs:C.β k with
 | absent=>simp [hs] at q2
 | unborn=>simp only [hs] at q2 ⊢; exact q2
 | loc blk o =>
  simp only [hs] at q2 ⊢
  exact q2.next (hf.same blk (hm.own k blk o hs).1 (h1 blk ⟨k,o,hs⟩)) (fun c v h=>h.mono hevo.zero) (fun _ c v _ h=>h.mono hevo)
theorem Mem.keep (hm:Mem Z0 M w0 C Z blks w) (hf:Fr w F w') (h1:∀ b,Own C b→¬ F b) (h2:∀ b,Z b→¬ F b) (h3:∀ b,b<w0.heap.size→¬ M b→¬ F b):Mem Z0 M w0 C Z blks w'∧Evo C Z Z w w':=by
 obtain ⟨a,e⟩:=hm.apart (M':=Own C) hf h1 h2 (fun _ h=>h)
 exact ⟨⟨a.blk,hm.gen,hm.dd,hm.dom,hm.inj,fun k b o h=>⟨(a.own k b o h).1,(hm.own k b o h).2⟩,a.zlt,hm.z0,hm.zsub,hm.frame.trans hf h3⟩,e⟩
theorem Mem.rebase (hm:Mem Z0 M w0 C Z blks w) (hM':∀ b,Own C b→M' b):Mem Z M' w C Z blks w :=
 ⟨hm.blk,hm.gen,hm.dd,hm.dom,hm.inj,fun k b o h=>⟨(hm.own k b o h).1,(hm.own k b o h).2.1,.inl (hM' b ⟨k,o,h⟩)⟩,hm.zlt,fun _ h=>h,fun _ h=>.inl h,Fr.refl _ _⟩
theorem Mem.back {Z':Nat→Prop} (hm:Mem Z0 M w0 C Z blks w) (h:Mem Z M' w C' Z' blks' w') (hM:∀ b,M' b→M b ∨ w0.heap.size≤b):Mem Z0 M w0 C' Z' blks' w':=by
 have hs:=hm.frame.size
 refine ⟨h.blk,h.gen,h.dd,h.dom,h.inj,fun k b o ho=>?_,h.zlt,fun b hz=>h.z0 b (hm.z0 b hz),fun b hz=>?_,?_⟩
 · obtain ⟨a,b',c⟩:=h.own k b o ho
   refine ⟨a,b',?_⟩
   rcases c with c | c
   · exact hM b c
   · exact .inr (by omega)
 · rcases h.zsub b hz with h1 | h1 | h1
   · exact hm.zsub b h1
   · exact .inr (hM b h1)
   · exact .inr (.inr (by omega))
 · exact hm.frame.trans h.frame fun b hb hnM hm'=>by
    rcases hM b hm' with h1 | h1
    · exact hnM h1
    · omega
/-! ### Whoever ranges: 'F' is what a round may turn,'Kp' what it must find again -/
abbrev Sd:=(Nat→Prop)→(Nat→Prop)→World→Prop
structure Stable (Y:Sd):Prop where
 lt:∀ F Kp w,Y F Kp w→∀ b,F b ∨ Kp b→b<w.heap.size
 mv:∀ F Kp w Mi w',Y F Kp w→Fr w Mi w'→(∀ b,Mi b→¬ F b∧¬ Kp b)→Y F Kp w'
def YCall (P:Program) (yv:Value) (cargs:Array Value) (w:World) (Q:Bool→World→Prop):Prop :=
 ∃ l fn tm asg bd,yv=.func (.yield l) #[] #[]∧(Instr.yield l cargs).run P w=.ok (.round l fn tm asg bd) w ∧
  ∀ (c:Frame) (cs:List Frame),∃ t w',Q t w'∧Steps P (lone (Frame.round l fn tm asg bd .normal) (c :: cs) w) (lone (c.finish (.bool t)) cs w')
def nxt (cont:Nat→Bool) (n:Nat):Option Nat:=bif cont n then some (n+1) else none
def Yields (P:Program) (yv:Value) (Y:Option Nat→Sd) (cont:Nat→Bool) (xs:List (List AV)):Prop :=
 ∀ i x,xs[i]?=some x→∀ F Kp w,Y (some i) F Kp w→∀ cargs:Array Value,VRs (fun _=>False) w C0 x cargs.toList →
  YCall P yv cargs w fun t w'=>t=cont i∧∃ F' Kp',Y (nxt cont i) F' Kp' w'∧Fr w F w'∧(∀ b,F' b→F b ∨ w.heap.size≤b)∧(∀ b,Kp' b→F b ∨ Kp b ∨ w.heap.size≤b)
def Xp (cont:Nat→Bool):Nat→Nat→Option Nat
 | i,0=>some i
 | i,n+1=>bif cont i then Xp cont (i+1) n else none
/-- The function that a range hands to an iterator. -/
abbrev yld (l:Nat):Value:=.func (.yield l) #[] #[]
/-- A function value that yields these,one after the other. -/
def IterF (P:Program) (fv:AV) (xs:List (List AV)):Prop :=
 ∀ (Z:Nat→Prop) (w:World) (cf:Value) (ly:Nat) (Y:Option Nat→Sd) (cont:Nat→Bool),(∀ o,Stable (Y o))→Yields P (yld ly) Y cont xs→∀ F Kp,(∀ b,Z b→b<w.heap.size∧¬ F b)→VR Z w C0 fv cf→Y (some 0) F Kp w →
  ∃ (d:Deferred) (f:FuncId) (args':Array Value),(Deferred.ofValue cf #[yld ly]).run P w=.ok d w∧(invoke d.target d.args).run P w=.ok (.enter f args') w ∧
   Calls P f args' w fun e w'=>∃ v,e=.returned v∧∃ F' Kp',Y (Xp cont 0 xs.length) F' Kp' w'
def At (Y:Sd) (E:Env):Prop:=∃ F Kp,Y F Kp E.w0∧(∀ b,E.M b→¬ F b∧¬ Kp b)∧(∀ b,E.Z0 b→¬ F b)
/-- The iterator's own frame,'o' the side's state. -/
structure IterE (P:Program) (f:FuncId) (xs:List (List AV)) (yv:Value) (Y:Option Nat→Sd) (cont:Nat→Bool) (e o:Option Nat) (E:Env):Prop where
 ro:E.b.roundOf=none
 kind:E.b.kind=.normal
 fn:E.b.fn=f
 gA:E.gA=[]
 cb:E.Cb=C0
 df:E.df=[]
 stab:∀ o,Stable (Y o)
 ylds:Yields P yv Y cont xs
 at':At (Y o) E
 fin:E.Fin=VA P f E.cs fun _ w'=>∃ F Kp,Y e F Kp w'
variable {E:Env} {K K':List Item} {st st':St}
theorem scalars_nil {Z:Nat→Prop} {w:World} {C:Ctx} {x:List AV} {cs:List Value} (hs:scalars x=true) (h:VRs Z w C x cs):VRs (fun _=>False) w C0 x cs :=
 ⟨h.1,fun i c v a b=>scalars_any (arr:=cs.toArray) hs (fun i c v a b=>h.2 i c v a (by simpa using b)) i c v a (by simpa using b)⟩
theorem yield_step {f:FuncId} {xs:List (List AV)} {yv:Value} {Y:Option Nat→Sd} {cont:Nat→Bool} {e:Option Nat} {n:Nat} {x:List AV} {ops:Array Oper} {i:Nat} {o:Oper} {rest:List Nat} {k:List Item}
 {fop:Operand} {args:Array Operand} {ats:Array TypeId} (hE:IterE P f xs yv Y cont e (some n) E) (hx:xs[n]?=some x) (ho:ops[i]?=some o) (hop:o.op=.call ⟨.value fop,args,ats⟩)
 (hw:Yh ops st.tmps o=some true) (hf:XU st.tmps fop=.opq yv) (ha:args.toList.map (XU st.tmps)=x) (hs:scalars x=true)
 (hg:∀ E',IterE P f xs yv Y cont e (nxt cont n) E'→G P E' (.inRegion ops rest :: k) ⟨putA st.tmps o.dst (.bool (cont n)),st.blks⟩):G P E (.inRegion ops (i :: rest) :: k) st:=by
 intro C Z a w hr
 have hwc:=XF hr.tmp hw
 have hgo:=stepGR_op (P:=P) (b:=E.b) (k:=k) (cs:=E.cs) (w:=w) (rest:=rest) ho hwc
 rw [Oper.semAt_eq _ _ _ (by intro c hc; rw [hop] at hc; cases hc)] at hgo
 have hfin:∀ v,(E.b.atR a (.inRegion ops (i :: rest) :: k)).finish v=E.b.atR (a.put o.dst v) (.inRegion ops rest :: k):=by
  intro v; rw [Frame.finish_atR,ho]; rfl
 have hfv:=QV hr.tmp fop
 rw [hf] at hfv
 generalize hyv:a.eval fop=yv' at hfv
 cases hfv
 obtain ⟨F,Kp,hY,hM,hZ⟩:=hE.at'
 have hlt:=(hE.stab _).lt F Kp E.w0 hY
 have hYw:=(hE.stab _).mv F Kp E.w0 E.M w hY hr.mem.frame hM
 have hargs:VRs Z w C x (args.map a.eval).toList:=by
  rw [← ha]
  refine ⟨by simp,fun j c v p q=>?_⟩
  simp only [List.getElem?_map,Option.map_eq_some_iff] at p
  obtain ⟨y,p1,p2⟩:=p
  simp only [Array.toList_map,List.getElem?_map,p1,Option.map_some,Option.some.injEq] at q
  rw [← p2,← q]
  exact QV hr.tmp y
 obtain ⟨l,fn,tm,asg,bd,hyl,hrun,hst⟩:=hE.ylds n x hx F Kp w hYw _ (scalars_nil hs hargs)
 obtain ⟨t,w',⟨rfl,F',Kp',hY',hfr,hF',hKp'⟩,hsteps⟩:=hst (E.b.atR a (.inRegion ops (i :: rest) :: k)) E.cs
 have hexec:(execOp a.eval o).run P w=.ok (.round l fn tm asg bd) w:=by
  obtain ⟨dst,op,ty,pos,after,guard⟩:=o
  simp only at hop
  subst hop
  simp only [execOp,resolve,hyv,hyl,Deferred.ofValue,Sem.run_bind,Sem.run_pure,Result.andThen_ok,invoke]
  simpa using hrun
 have henter:step P (lone (E.b.atR a (.inRegion ops (i :: rest) :: k)) E.cs w) =
  .next (lone (Frame.round l fn tm asg bd .normal) (E.b.atR a (.inRegion ops (i :: rest) :: k) :: E.cs) w) :=
  step_lone_go (by rw [hgo]; simp [stepG.apply,hexec])
 refine .step (Steps.head henter hsteps) ?_
 rw [hfin]
 -- behind the round
 have ownF:∀ b,Own C b→¬ F b∧¬ Kp b:=by
  rintro b ⟨k',o',hb⟩
  rcases (hr.mem.own k' b o' hb).2.2 with h | h
  · exact hM b h
  · exact ⟨fun h'=>by have:=hlt b (.inl h'); omega,fun h'=>by have:=hlt b (.inr h'); omega⟩
 have zF:∀ b,Z b→¬ F b:=by
  intro b hb hF
  rcases hr.mem.zsub b hb with h | h | h
  · exact hZ b h hF
  · exact (hM b h).1 hF
  · have:=hlt b (.inl hF); omega
 obtain ⟨Ds,d1,d2,d3⟩:=hr.marks
 have mkF:∀ D ∈ Ds,¬ F D∧¬ Kp D:=by
  intro D hD
  rcases (d3 D hD).2.1 with h | h
  · exact hM D h
  · exact ⟨fun h'=>by have:=hlt D (.inl h'); omega,fun h'=>by have:=hlt D (.inr h'); omega⟩
 obtain ⟨hmem,hevo⟩:=hr.mem.apart (M':=fun b=>Own C b ∨ b ∈ Ds) hfr (fun b hb=>(ownF b hb).1) zF (fun b hb=>.inl hb)
 have hM':∀ b,Own C b ∨ b ∈ Ds→b<w.heap.size∧¬ F b∧¬ Kp b:=by
  rintro b (h | h)
  · obtain ⟨k',o',hb⟩:=h
    exact ⟨(hr.mem.own k' b o' hb).1,ownF b ⟨k',o',hb⟩⟩
  · exact ⟨hr.mem.zlt b (d3 b h).1,mkF b h⟩
 refine hg { E with Z0:=Z,M:=fun b=>Own C b ∨ b ∈ Ds,w0:=w' } ⟨hE.ro,hE.kind,hE.fn,hE.gA,hE.cb,hE.df,hE.stab,hE.ylds,⟨F',Kp',hY',fun b hb=>?_,fun b hb=>?_⟩,hE.fin⟩ C Z _ w' ⟨?_,hmem,?_,?_,(by rw [hE.cb]; exact .bot:Base E.Cb E.wb C w')⟩
 · obtain ⟨h1,h2,h3⟩:=hM' b hb
   exact ⟨fun h=>by rcases hF' b h with h | h; exact h2 h; omega,fun h=>by rcases hKp' b h with h | h | h; exact h2 h; exact h3 h; omega⟩
 · intro h
   have:=hr.mem.zlt b hb
   rcases hF' b h with h | h
   · exact zF b hb h
   · omega
 · refine VRs.put ⟨hr.tmp.1,fun j c v p q=>(hr.tmp.2 j c v p q).mono hevo⟩ (.bool _) o.dst
 · have:(a.put o.dst (.bool (cont n))).defers=a.defers:=by cases o.dst <;> rfl
   rw [this]
   refine ⟨Ds,d1,d2,fun D hD=>⟨(d3 D hD).1,.inl (.inr hD),?_⟩⟩
   rw [hfr.same D (hr.mem.zlt D (d3 D hD).1) (mkF D hD).1]; exact (d3 D hD).2.2
 · show VRs Z w' C E.gA E.gV
   exact ⟨hr.gh.1,fun j c v p q=>(hr.gh.2 j c v p q).mono hevo⟩
/-- The iterator's end. -/
theorem qP {f:FuncId} {fn:Func} {xs:List (List AV)} {yv:Value} {Y:Option Nat→Sd} {cont:Nat→Bool} {e:Option Nat} {n:Nat} {evs:List EV} {obs:List Prop} (hE:IterE P f xs yv Y cont e e E) (hf:P.funcs[f]?=some fn)
 (hres:fn.results=#[]) (hmx:P.follows .mixedOrders=true)
 (h:(walk P n K st evs).map (fun r=>(isEnd r.1,r.2.2.2))=some (true,obs)) (ho:AllP obs):G P E K st:=by
 cases hw:walk P n K st evs with
 | none=>simp [hw] at h
 | some r =>
  obtain ⟨K',st',evs',o1⟩:=r
  simp only [hw,Option.map_some,Option.some.injEq,Prod.mk.injEq] at h
  obtain ⟨hK,rfl⟩:=h
  obtain ⟨F,Kp,hY,hM,hZ⟩:=hE.at'
  have hfn:=hE.fn
  refine QL hE.kind hmx hw ho (G_end (vs:=[]) (evs:=[]) (evs':=[]) (obs:=[]) (Post:=fun _ w'=>∃ F Kp,Y e F Kp w') hE.ro hE.kind hE.df (by rw [hfn]; exact hf) (by rw [hE.fin,hfn]) (by rw [hres]; rfl) trivial (fun C Z w v hm hv _=>?_) (VK hK))
  exact ⟨F,Kp,(hE.stab _).mv F Kp E.w0 E.M w hY hm.frame hM⟩
theorem iterF_ofy {f : FuncId} {fn : Func} {c : Code} {first cap : List AV} {xs : List (List AV)} (hf : P.funcs[f]? = some fn) (hname : (fn.name == "runtime.NumGoroutine") = false) (hb : fn.body = some c)
    (h : ∀ E ly Y cont, IterE P f xs (yld ly) Y cont (Xp cont 0 xs.length) (some 0) E → G P E [.code c] ⟨first ++ [.opq (yld ly)] ++ cap ++ unds (fn.ntmps - (first ++ [AV.opq (yld ly)] ++ cap).length), []⟩) : IterF P (.clos f first cap) xs := by
  intro Z w cf ly Y cont hst hy F Kp hZ hcf hY
  replace h := fun E => h E ly
  generalize yld ly = yv at *
  cases hcf with
  | @clos _ _ _ _ fa ca hl h1 hl' h2 =>
    refine ⟨{ target := .fn (.func f) ca, args := fa ++ #[yv] }, f, fa ++ #[yv] ++ ca, rfl, ?_, fun cs => ?_⟩
    · have := Go.Proofs.enters_of (P := P) hf hname hb (fa ++ #[yv] ++ ca) w
      simpa [invoke] using this
    · let E : Env := { Z0 := Z, M := fun _ => False, w0 := w, b := { (default : Frame) with fn := f, kind := .normal }, cs := cs, Fin := VA P f cs fun _ w' => ∃ F Kp, Y (Xp cont 0 xs.length) F Kp w' }
      have hE : IterE P f xs yv Y cont (Xp cont 0 xs.length) (some 0) E := ⟨rfl, rfl, rfl, rfl, rfl, rfl, hst, hy, ⟨F, Kp, hY, fun _ h => h.elim, fun b hb => (hZ b hb).2⟩, rfl⟩
      have hargs : VRs Z w C0 (first ++ [.opq yv] ++ cap) (fa ++ #[yv] ++ ca).toList := by
        refine ⟨by simp [hl, hl'], fun i x y p q => ?_⟩
        simp only [Array.toList_append] at q
        rw [List.append_assoc] at p q
        by_cases i1 : i < first.length
        · rw [List.getElem?_append_left i1] at p
          rw [List.getElem?_append_left (by simpa [← hl] using i1)] at q
          exact h1 i x y p (by simpa using q)
        · rw [List.getElem?_append_right (by omega)] at p
          rw [List.getElem?_append_right (by simp; omega)] at q
          have e1 : fa.toList.length = first.length := by simp [hl]
          rw [e1] at q
          by_cases i2 : i - first.length = 0
          · rw [i2] at p q; simp at p q; rw [← p, ← q]; exact .opq _
          · obtain ⟨j, hj⟩ : ∃ j, i - first.length = j + 1 := ⟨i - first.length - 1, by omega⟩
            rw [hj] at p q
            simp at p q
            exact h2 _ x y p (by simpa using q)
      have henter : Frame.enter P f (fa ++ #[yv] ++ ca) .normal = ({ (default : Frame) with fn := f, kind := .normal } : Frame).atR { tmps := (fa ++ #[yv] ++ ca) ++ Array.replicate (fn.ntmps - (fa ++ #[yv] ++ ca).size) undef, defers := [] } [.code c] := by
        simp only [Frame.enter, Frame.atR, hf, hb, Option.map_some, Option.getD_some, Option.bind_some]; rfl
      have hl2 : (first ++ [AV.opq yv] ++ cap).length = (fa ++ #[yv] ++ ca).size := by simp [hl, hl']; omega
      obtain ⟨m', s, v, w', fr, rfl, r1, r2, r3⟩ := h E Y cont hE C0 Z { tmps := (fa ++ #[yv] ++ ca) ++ Array.replicate (fn.ntmps - (fa ++ #[yv] ++ ca).size) undef, defers := [] } w
        ⟨⟨by rw [Yi, List.length_append, hl2]; simp; omega, fun i x y p q => by
            simp only [Array.toList_append (xs := fa ++ #[yv] ++ ca), Array.toList_replicate] at q
            rw [Yi] at p
            by_cases hi : i < (first ++ [AV.opq yv] ++ cap).length
            · rw [List.getElem?_append_left hi] at p
              rw [List.getElem?_append_left (by rw [Array.length_toList, ← hl2]; exact hi)] at q
              exact hargs.2 i x y p q
            · rw [List.getElem?_append_right (by omega)] at p
              rw [List.getElem?_append_right (by rw [Array.length_toList, ← hl2]; omega)] at q
              have p' := List.mem_replicate.1 (List.mem_of_getElem? p)
              have q' := List.mem_replicate.1 (List.mem_of_getElem? q)
              rw [p'.2, q'.2]
              exact .tup rfl (by simp)⟩, KS (fun b hb => (hZ b hb).1), ⟨[], .nil, .nil, by simp⟩, ⟨rfl, fun _ _ _ h _ => by cases h⟩, .bot⟩
      rw [henter]
      exact ⟨.returned v, w', fr, ⟨v, rfl, r3⟩, s, r1, r2⟩

theorem iterF_of {f : FuncId} {fn : Func} {c : Code} {first cap : List AV} {xs : List (List AV)} (hf : P.funcs[f]? = some fn) (hname : (fn.name == "runtime.NumGoroutine") = false) (hb : fn.body = some c)
    (h : ∀ E yv Y cont, IterE P f xs yv Y cont (Xp cont 0 xs.length) (some 0) E → G P E [.code c] ⟨first ++ [.opq yv] ++ cap ++ unds (fn.ntmps - (first ++ [AV.opq yv] ++ cap).length), []⟩) : IterF P (.clos f first cap) xs :=
  iterF_ofy hf hname hb fun E ly Y cont hE => h E (yld ly) Y cont hE

end
end Ax
namespace Ax
open Go
theorem YT {n:Nat}:∀ {a b:List AV},refsBelows n (a++b)=true→refsBelows n b=true
 | [],b,h=>h
 | x :: a,b,h=>by
  simp only [List.cons_append,refsBelows,Bool.and_eq_true] at h
  exact YT h.2
structure RoundE (gA:List AV) (E:Env):Prop where
 ro:∃ l,E.b.roundOf=some l
 kind:E.b.kind=.normal
 gA:E.gA=gA
 df:E.df=[]
/-- To have come to a place. -/
def QaM (KP:List Item→Prop) (SP:St→Prop) (E:Env) (m:Machine):Prop :=
 ∃ C Z a w K st,KP K∧SP st∧Rel E.df E.Z0 E.M E.w0 E.gA E.gV E.Cb E.wb C Z st a w∧m=lone (E.b.atR a K) E.cs w
def Qbi (jump:Code) (K:List Item):Prop:=∃ k,K=.code jump :: k∧(jump=.ret ∨ ∃ id,jump=.exit id∧exitTo id k=none)
def WS:List AV→List Nat→List AV→List AV
 | T,p :: ps,x :: xs=>WS (T.set p x) ps xs
 | T,_,_=>T
section
variable {P:Program} {E:Env} {K K':List Item} {st st':St}
theorem G_here {KP:List Item→Prop} {SP:St→Prop} (h:E.Fin=QaM KP SP E) (hK:KP K) (hS:SP st):G P E K st :=
 fun C Z a w hr=>⟨_,.refl _ _,by rw [h]; exact ⟨C,Z,a,w,K,st,hK,hS,hr,rfl⟩⟩
theorem KF {Z:Nat→Prop} {w:World} {C:Ctx}:∀ {ps:List Nat} {T x:List AV} {us:List Value} {tm:Array Value},VRs Z w C T tm.toList→VRs Z w C x us →
 VRs Z w C (WS T ps x) ((ps.zip us).foldl (fun tm p=>tm.setIfInBounds p.1 p.2) tm).toList
 | [],T,x,us,tm,h,hx=>by simpa [WS] using h
 | p :: ps,T,[],[],tm,h,hx=>by simpa [WS] using h
 | p :: ps,T,[],a :: us,tm,h,hx=>by have:=hx.1; simp at this
 | p :: ps,T,b :: x,[],tm,h,hx=>by have:=hx.1; simp at this
 | p :: ps,T,b :: x,a :: us,tm,h,hx=>by
  simp only [WS,List.zip_cons_cons,List.foldl_cons]
  refine KF ?_ ⟨by have:=hx.1; simpa using this,fun i c v p q=>hx.2 (i+1) c v (by simpa using p) (by simpa using q)⟩
  exact VRs.put (a:=⟨tm,[]⟩) h (hx.2 0 b a rfl rfl) (some p)
theorem VRs.app {Z:Nat→Prop} {w:World} {C:Ctx} {a b:List AV} {c d:List Value} (h:VRs Z w C a c) (h':VRs Z w C b d):VRs Z w C (a++b) (c++d):=by
 refine ⟨by simp [h.1,h'.1],fun i x y p q=>?_⟩
 by_cases hi:i<a.length
 · rw [List.getElem?_append_left hi] at p
   rw [List.getElem?_append_left (by rw [← h.1]; exact hi)] at q
   exact h.2 i x y p q
 · rw [List.getElem?_append_right (by omega)] at p
   rw [List.getElem?_append_right (by rw [← h.1]; omega),← h.1] at q
   exact h'.2 _ x y p q
theorem VRs.unapp {Z:Nat→Prop} {w:World} {C:Ctx} {a b:List AV} {c d:List Value} (hl:a.length=c.length) (h:VRs Z w C (a++b) (c++d)):VRs Z w C a c∧VRs Z w C b d:=by
 have h1:=h.1
 simp only [List.length_append] at h1
 refine ⟨⟨hl,fun i x y p q=>?_⟩,⟨by omega,fun i x y p q=>?_⟩⟩
 · exact h.2 i x y (by rw [List.getElem?_append_left (List.getElem?_eq_some_iff.1 p).1]; exact p) (by rw [List.getElem?_append_left (List.getElem?_eq_some_iff.1 q).1]; exact q)
 · exact h.2 (a.length+i) x y (by rw [List.getElem?_append_right (by omega)]; simpa using p) (by rw [List.getElem?_append_right (by omega),hl]; simpa using q)
theorem VRs.mono {Z Z':Nat→Prop} {w w':World} {C:Ctx} {a:List AV} {c:List Value} (h:VRs Z w C a c) (he:Evo C Z Z' w w'):VRs Z' w' C a c :=
 ⟨h.1,fun i x y p q=>(h.2 i x y p q).mono he⟩
theorem fr_put {w:World} {l:Nat} {o:Obj}:Fr w (·=l) (w.putObj l o) :=
 ⟨rfl,rfl,rfl,by simp,Nat.le_refl _,fun b hb h=>World.putObj_heap_other h⟩
theorem fr_alloc {w:World} {o:Obj} {M:Nat→Prop}:Fr w M (w.alloc o) :=
 ⟨rfl,rfl,rfl,by simp,Nat.le_refl _,fun b hb _=>by
  show (w.heap.push o)[b]?=_
  rw [Array.getElem?_push]; rw [if_neg (by omega)]⟩
theorem Fr.weaken {w0 w:World} {M M':Nat→Prop} (h:Fr w0 M w) (hM:∀ b,M b→M' b):Fr w0 M' w :=
 ⟨h.os,h.tape,h.output,h.size,h.dr,fun b hb hn=>h.same b hb fun hm=>hn (hM b hm)⟩
/-- The side of whoever ranges: its memory,its temporaries and marks,the loop's record. -/
def RY (E:Env) (l:Nat) (tv:Array Value) (ds:List Deferred) (T:List AV) (rec:Option Nat→Loop) (Bl:Option Nat→List Blk) (o:Option Nat):Sd:=fun F Kp w =>
 ∃ C Z,Mem E.Z0 E.M E.w0 C Z (Bl o) w∧VRs Z w C (T++E.gA) (tv.toList++E.gV)∧Marks E.df Z E.M E.w0 ds w∧Base E.Cb E.wb C w∧w.heap[l]?=some (.loop (rec o))∧¬ Z l∧¬ Own C l∧E.w0.heap.size≤l ∧
  (∀ b,F b ↔ (Own C b ∨ b=l))∧∀ b,Kp b ↔ (Z b ∨ b<E.w0.heap.size)
theorem VI {w:World} {l:Nat} {o:Obj} (h:w.heap[l]?=some o):l<w.heap.size:=(Array.getElem?_eq_some_iff.1 h).1
theorem RY.stable {E:Env} {l:Nat} {tv:Array Value} {ds:List Deferred} {T:List AV} {rec:Option Nat→Loop} {Bl:Option Nat→List Blk} {o:Option Nat}:Stable (RY E l tv ds T rec Bl o):=by
 constructor
 · rintro F Kp w ⟨C,Z,hm,hv,hd,hbs,hl,hzl,hol,hwl,hF,hK⟩ b hb
   rw [hF,hK] at hb
   rcases hb with (⟨k,o',hb⟩ | rfl) | hb | hb
   · exact (hm.own k b o' hb).1
   · exact VI hl
   · exact hm.zlt b hb
   · exact Nat.lt_of_lt_of_le hb hm.frame.size
 · rintro F Kp w Mi w' ⟨C,Z,hm,hv,hd,hbs,hl,hzl,hol,hwl,hF,hK⟩ hf hMi
   have h1:∀ b,Own C b→¬ Mi b:=fun b hb h=>(hMi b h).1 ((hF b).2 (.inl hb))
   have h2:∀ b,Z b→¬ Mi b:=fun b hb h=>(hMi b h).2 ((hK b).2 (.inl hb))
   obtain ⟨hm',he⟩:=hm.keep hf h1 h2 (fun b hb _ h=>(hMi b h).2 ((hK b).2 (.inr hb)))
   exact ⟨C,Z,hm',hv.mono he,hd.evo he,hbs.next (.refl C) he,by rw [hf.same l (VI hl) (fun h=>(hMi l h).1 ((hF l).2 (.inr rfl)))]; exact hl,hzl,hol,hwl,hF,hK⟩
/-- One round. -/
theorem round_ok {fn:FuncId} {l:Nat} {tv:Array Value} {ds:List Deferred} {T:List AV} {rec:Option Nat→Loop} {Bl:Option Nat→List Blk} {ps:Array Tmp} {assign body:Code} {D:Nat} {jump:Code} {cont:Nat→Bool}
 {i:Nat} {x:List AV} {S1:St} (hT:T.length=tv.size) (hps:x.length=ps.size)
 (hrec:∀ n,rec (some n)={ state:=.ready,pending:=none,fn,tmps:=tv,params:=ps,assign,body,defers:=D })
 (hrecN:rec none={ state:=.done,pending:=some jump,fn,tmps:=tv,params:=ps,assign,body,defers:=D })
 (hA:∀ E',RoundE (T++E.gA) E'→E'.Fin=QaM (·=[.beginRound,.code body]) (·=S1) E'→G P E' [.code assign,.beginRound,.code body] ⟨WS T ps.toList x,Bl (some i)⟩)
 (hB:∀ E',RoundE (T++E.gA) E'→E'.Fin=QaM (fun K=>if cont i=true then K=[] else Qbi jump K) (fun st=>st.blks=Bl (nxt cont i)) E'→G P E' [.code body] S1)
 {F Kp:Nat→Prop} {w:World} (hY:RY E l tv ds T rec Bl (some i) F Kp w) {cargs:Array Value} (hx:VRs (fun _=>False) w C0 x cargs.toList) :
 YCall P (.func (.yield l) #[] #[]) cargs w fun t w'=>t=cont i∧∃ F' Kp',RY E l tv ds T rec Bl (nxt cont i) F' Kp' w'∧Fr w F w'∧(∀ b,F' b→F b ∨ w.heap.size≤b)∧(∀ b,Kp' b→F b ∨ Kp b ∨ w.heap.size≤b):=by
 obtain ⟨C,Z,hm,hv,hd,hbs,hl,hzl,hol,hwl,hF,hK⟩:=hY
 have hcs:cargs.size=ps.size:=by have:=hx.1; simp at this; omega
 rw [hrec] at hl
 have hlw:=VI hl
 refine ⟨l,fn,_,assign,body,rfl,run_yield hl hcs,fun c cs=>?_⟩
 have hv2:=hv.unapp (by simpa using hT)
 -- the frame of the round
 let br:Frame:={ (default:Frame) with fn:=fn,kind:=.normal,roundOf:=some l }
 let tm:Array Value:=(ps.zip cargs).foldl (fun tmps (t,a)=>tmps.setIfInBounds t a) tv
 have hround:Frame.round l fn tm assign body .normal=br.atR { tmps:=tm,defers:=[] } [.code assign,.beginRound,.code body]:=by
  simp [Frame.round,Frame.atR,br]
 have htm:VRs Z w C (WS T ps.toList x) tm.toList:=by
  have:=KF (ps:=ps.toList) (T:=T) (x:=x) (us:=cargs.toList) (tm:=tv) hv2.1 ⟨hx.1,fun i c v p q=>((hx.2 i c v p q).zmono (fun b h=>h.elim)).of0⟩
  have e:tm=(ps.toList.zip cargs.toList).foldl (fun tm p=>tm.setIfInBounds p.1 p.2) tv:=by
   show (ps.zip cargs).foldl _ tv=_
   rw [← Array.foldl_toList,Array.toList_zip]
  rw [e]; exact this
 -- the assignment
 let E1b:Env:={ Z0:=Z,M:=Own C,w0:=w,b:=br,cs:=c :: cs,Fin:=fun _=>True,gA:=T++E.gA,gV:=tv.toList++E.gV,Cb:=E.Cb,low:=fun n h=>E.low n (YT h),wb:=E.wb }
 let E1:Env:={ E1b with Fin:=QaM (·=[.beginRound,.code body]) (·=S1) E1b }
 obtain ⟨m1,s1,C1,Z1,a1,w1,K1,st1,rfl,rfl,hr1,rfl⟩:=hA E1 ⟨⟨l,rfl⟩,rfl,rfl,rfl⟩ rfl C Z { tmps:=tm,defers:=[] } w ⟨htm,hm.rebase (fun _ h=>h),⟨[],.nil,.nil,by simp⟩,hv,hbs⟩
 have f1:Fr w (Own C) w1:=hr1.mem.frame
 have ownM:∀ b,Own C b→E.M b ∨ E.w0.heap.size≤b:=fun b ⟨k,o,h⟩=>(hm.own k b o h).2.2
 have hm1:=hm.back hr1.mem ownM
 have own1:∀ b,Own C1 b→Own C b ∨ w.heap.size≤b:=fun b ⟨k,o,h⟩=>(hr1.mem.own k b o h).2.2
 have z1:∀ b,Z1 b→Z b ∨ Own C b ∨ w.heap.size≤b:=fun b h=>hr1.mem.zsub b h
 have hol1:¬ Own C1 l:=fun h=>by rcases own1 l h with h | h; exact hol h; omega
 have hzl1:¬ Z1 l:=fun h=>by rcases z1 l h with h | h | h; exact hzl h; exact hol h; omega
 have hl1:w1.heap[l]?=some (.loop { state:=.ready,pending:=none,fn,tmps:=tv,params:=ps,assign,body,defers:=D }):=by rw [f1.same l hlw hol]; exact hl
 -- the round begins
 have hbeg:=stepR_beginRound (P:=P) (b:=br) (a:=a1) (k:=[.code body]) (cs:=c :: cs) (w:=w1) (l:=l) rfl (run_beginRound hl1 rfl)
 obtain ⟨hm2,he2⟩:=hm1.keep (fr_put (w:=w1) (l:=l) (o:=.loop { state:=.busy,pending:=none,fn,tmps:=tv,params:=ps,assign,body,defers:=D })) (fun b hb e=>hol1 (e ▸ hb)) (fun b hb e=>hzl1 (e ▸ hb)) (fun b hb _ e=>by omega)
 generalize hw2:w1.putObj l (.loop { state:=.busy,pending:=none,fn,tmps:=tv,params:=ps,assign,body,defers:=D })=w2 at hbeg hm2 he2
 have f2:Fr w1 (·=l) w2:=hw2 ▸ fr_put
 have hl2:w2.heap[l]?=some (.loop { state:=.busy,pending:=none,fn,tmps:=tv,params:=ps,assign,body,defers:=D }):=by rw [← hw2]; exact World.putObj_heap_same (Nat.lt_of_lt_of_le hlw f1.size)
 obtain ⟨Ds,d1,d2,d3⟩:=hr1.marks
 let E2b:Env:={ Z0:=Z1,M:=fun b=>Own C1 b ∨ b ∈ Ds,w0:=w2,b:=br,cs:=c :: cs,Fin:=fun _=>True,gA:=T++E.gA,gV:=tv.toList++E.gV,Cb:=E.Cb,low:=fun n h=>E.low n (YT h),wb:=E.wb }
 let E2:Env:={ E2b with Fin:=QaM (fun K=>if cont i=true then K=[] else Qbi jump K) (fun st=>st.blks=Bl (nxt cont i)) E2b }
 obtain ⟨m2,s2,C2,Z2,a2,w3,K2,st2,hK2,hS2,hr2,rfl⟩:=hB E2 ⟨⟨l,rfl⟩,rfl,rfl,rfl⟩ rfl C1 Z1 a1 w2
  ⟨hr1.tmp.mono he2,hm2.rebase (fun _ h=>.inl h),⟨Ds,d1,d2,fun D' hD=>⟨(d3 D' hD).1,.inl (.inr hD),by rw [he2.same D' (d3 D' hD).1]; exact (d3 D' hD).2.2⟩⟩,hr1.gh.mono he2,hr1.base.next (.refl C1) he2⟩
 have f3:Fr w2 (fun b=>Own C1 b ∨ b ∈ Ds) w3:=hr2.mem.frame
 have dsM:∀ b,b ∈ Ds→Own C b ∨ w.heap.size≤b:=fun b h=>(d3 b h).2.1
 have m2M:∀ b,(Own C1 b ∨ b ∈ Ds)→Own C b ∨ w.heap.size≤b:=fun b h=>h.elim (own1 b) (dsM b)
 have hs0:=hm.frame.size
 have hm3:=hm2.back hr2.mem fun b h=>by
  rcases m2M b h with h | h
  · exact ownM b h
  · exact .inr (by omega)
 have own2:∀ b,Own C2 b→Own C b ∨ w.heap.size≤b:=fun b ⟨k,o,h⟩=>by
  rcases (hr2.mem.own k b o h).2.2 with h | h
  · exact m2M b h
  · have e1:=f1.size; have e2:=f2.size; exact .inr (Nat.le_trans (Nat.le_trans e1 e2) h)
 have z2:∀ b,Z2 b→Z b ∨ Own C b ∨ w.heap.size≤b:=fun b h=>by
  rcases hr2.mem.zsub b h with h | h | h
  · exact z1 b h
  · exact .inr (m2M b h)
  · have e1:=f1.size; have e2:=f2.size; exact .inr (.inr (Nat.le_trans (Nat.le_trans e1 e2) h))
 have hol2:¬ Own C2 l:=fun h=>by rcases own2 l h with h | h; exact hol h; omega
 have hzl2:¬ Z2 l:=fun h=>by rcases z2 l h with h | h | h; exact hzl h; exact hol h; omega
 have hlw2:l<w2.heap.size:=VI hl2
 have hl3:w3.heap[l]?=some (.loop { state:=.busy,pending:=none,fn,tmps:=tv,params:=ps,assign,body,defers:=D }):=by
  rw [f3.same l hlw2 (fun h=>by rcases m2M l h with h | h; exact hol h; omega)]; exact hl2
 have hds2:Marks E.df Z2 E.M E.w0 ds w3:=by
  obtain ⟨Ds0,q1,q2,q3⟩:=hd
  refine ⟨Ds0,q1,q2,fun D' hD=>⟨hr2.mem.z0 D' (hr1.mem.z0 D' (q3 D' hD).1),(q3 D' hD).2.1,?_⟩⟩
  have hz:=(q3 D' hD).1
  have hlt:=hm.zlt D' hz
  have hno:¬ Own C D':=fun ⟨k,o,h⟩=>(hm.own k D' o h).2.1 hz
  have hne:D' ≠ l:=fun e=>hzl (e ▸ hz)
  have e1:=f1.size; have e2:=f2.size
  rw [f3.same D' (by omega) (fun h=>by rcases m2M D' h with h | h; exact hno h; omega),f2.same D' (by omega) hne,f1.same D' hlt hno]
  exact (q3 D' hD).2.2
 -- the round ends
 have fin:∀ (r':Loop) (t:Bool),(∃ v,step P (lone (br.atR a2 K2) (c :: cs) w3)=.next (lone (c.finish v) cs (w3.putObj l (.loop r')))∧v=.bool t)→t=cont i→r'=rec (nxt cont i) →
  ∃ t w',(t=cont i∧∃ F' Kp',RY E l tv ds T rec Bl (nxt cont i) F' Kp' w'∧Fr w F w'∧(∀ b,F' b→F b ∨ w.heap.size≤b)∧(∀ b,Kp' b→F b ∨ Kp b ∨ w.heap.size≤b)) ∧
   Steps P (lone (Frame.round l fn tm assign body .normal) (c :: cs) w) (lone (c.finish (.bool t)) cs w'):=by
  rintro r' t ⟨v,hstep,rfl⟩ ht hr'
  obtain ⟨hm4,he4⟩:=hm3.keep (fr_put (w:=w3) (l:=l) (o:=.loop r')) (fun b hb e=>hol2 (e ▸ hb)) (fun b hb e=>hzl2 (e ▸ hb)) (fun b hb _ e=>by omega)
  refine ⟨t,w3.putObj l (.loop r'),⟨ht,fun b=>Own C2 b ∨ b=l,fun b=>Z2 b ∨ b<E.w0.heap.size,⟨C2,Z2,by rw [← hS2]; exact hm4,hr2.gh.mono he4,hds2.evo he4,hr2.base.next (.refl C2) he4,by rw [← hr']; exact World.putObj_heap_same (VI hl3),hzl2,hol2,hwl,fun _=>.rfl,fun _=>.rfl⟩,?_,?_,?_⟩,?_⟩
  · have g1:Fr w F w1:=f1.weaken fun b h=>(hF b).2 (.inl h)
    have g2:Fr w F w2:=g1.trans f2 fun b _ hn e=>hn ((hF b).2 (.inr e))
    have g3:Fr w F w3:=g2.trans f3 fun b hb hn h=>by
     rcases m2M b h with h | h
     · exact hn ((hF b).2 (.inl h))
     · omega
    exact g3.trans fr_put fun b _ hn e=>hn ((hF b).2 (.inr e))
  · rintro b (h | h)
    · rcases own2 b h with h | h
      · exact .inl ((hF b).2 (.inl h))
      · exact .inr h
    · exact .inl ((hF b).2 (.inr h))
  · rintro b (h | h)
    · rcases z2 b h with h | h | h
      · exact .inr (.inl ((hK b).2 (.inl h)))
      · exact .inl ((hF b).2 (.inl h))
      · exact .inr (.inr h)
    · exact .inr (.inl ((hK b).2 (.inr h)))
  · rw [hround]
    exact s1.trans (Steps.head hbeg (s2.trans (.one hstep)))
 cases hc:cont i with
 | true =>
  simp only [hc,if_true] at hK2
  subst hK2
  exact hc ▸ fin _ true ⟨_,stepR_round_end (P:=P) (b:=br) (a:=a2) (cs:=cs) (w:=w3) (c:=c) (l:=l) rfl rfl (run_endRound none hl3),rfl⟩ hc.symm (by simp [nxt,hc,hrec])
 | false =>
  simp only [hc,Bool.false_eq_true,if_false] at hK2
  obtain ⟨k2,rfl,hj⟩:=hK2
  refine hc ▸ fin _ false ⟨_,?_,rfl⟩ hc.symm (by simp only [nxt,hc,cond_false,hrecN]; rfl)
  rcases hj with rfl | ⟨id,rfl,hx⟩
  · exact stepR_round_ret (P:=P) (b:=br) (a:=a2) (cs:=cs) (w:=w3) (c:=c) (l:=l) rfl rfl (run_endRound (some .ret) hl3)
  · exact stepR_round_exit (P:=P) (b:=br) (a:=a2) (cs:=cs) (w:=w3) (c:=c) (l:=l) rfl rfl hx (run_endRound (some (.exit id)) hl3)
end
end Ax
namespace Ax
open Go
section
variable {P:Program} {E:Env} {K K':List Item} {st st':St}
theorem qn {cont:Nat→Bool}:∀ {n i:Nat},Xp cont i n=none ∨ Xp cont i n=some (i+n)
 | 0,i=>.inr rfl
 | n+1,i=>by
  simp only [Xp]
  cases cont i with
  | true=>simpa [Nat.add_comm 1 n,Nat.add_assoc] using qn (cont:=cont) (n:=n) (i:=i+1)
  | false=>exact .inl rfl
/-- To come to the end where something holds besides. -/
def GX (P:Program) (E:Env) (X:(Nat→Prop)→Ctx→Act→World→Prop) (K:List Item) (st:St):Prop :=
 ∀ (C:Ctx) (Z:Nat→Prop) (a:Act) (w:World),Rel E.df E.Z0 E.M E.w0 E.gA E.gV E.Cb E.wb C Z st a w→X Z C a w→Reach P (lone (E.b.atR a K) E.cs w) E.Fin
/-- What lies there can be ranged over,now and as long as nothing is turned. -/
def Ks (P:Program) (E:Env) (xs:List (List AV)) (g:Operand) (Z:Nat→Prop) (C:Ctx) (a:Act) (w:World):Prop :=
 ∀ wb,Fr w (fun _=>False) wb→∀ (ly:Nat) (Y:Option Nat→Sd) (cont:Nat→Bool),(∀ o,Stable (Y o))→Yields P (yld ly) Y cont xs→∀ F Kp:Nat→Prop,
  (∀ b,F b→Own C b ∨ w.heap.size≤b)→(∀ b,Kp b→Z b ∨ b<E.w0.heap.size ∨ w.heap.size≤b)→(∀ b,Z b→¬ F b)→Y (some 0) F Kp wb →
  ∃ (d:Deferred) (f:FuncId) (args':Array Value),(Deferred.ofValue (a.eval g) #[yld ly]).run P wb=.ok d wb∧(invoke d.target d.args).run P wb=.ok (.enter f args') wb ∧
   Calls P f args' wb fun e w'=>∃ v,e=.returned v∧∃ F' Kp',Y (Xp cont 0 xs.length) F' Kp' w'
theorem hit_of {xs:List (List AV)} {g:Operand} {fv:AV} (hfv:XU st.tmps g=fv) (hnr:Xf fv=true) (hit:IterF P fv xs) {C:Ctx} {Z:Nat→Prop} {a:Act} {w:World}
 (hr:Rel E.df E.Z0 E.M E.w0 E.gA E.gV E.Cb E.wb C Z st a w):Ks P E xs g Z C a w:=by
 intro wb hf yv Y cont hst hy F Kp h1 h2 h3 hY
 have hcf:=QV hr.tmp g
 rw [hfv] at hcf
 obtain ⟨-,he⟩:=hr.mem.keep hf (fun _ _ h=>h) (fun _ _ h=>h) (fun _ _ _ h=>h)
 exact hit Z wb _ yv Y cont hst hy F Kp (fun b hb=>⟨Nat.lt_of_lt_of_le (hr.mem.zlt b hb) hf.size,h3 b hb⟩) ((hcf.mono he).ctx hnr) hY
theorem range_stepX {g:Operand} {ps:Array Tmp} {assign body:Code} {k:List Item} {xs:List (List AV)} {cont:Nat→Bool} {jump:Code} (Bl:Option Nat→List Blk) (S1:Nat→St)
 (hro:E.b.roundOf=none) (hk:E.b.kind=.normal) (hB0:Bl (some 0)=st.blks) (hps:∀ (i:Nat) x,xs[i]?=some x→x.length=ps.size)
 (hA:∀ i x,xs[i]?=some x→(∀ j,j<i→cont j=true)→∀ E',RoundE (st.tmps++E.gA) E'→E'.Fin=QaM (·=[.beginRound,.code body]) (·=S1 i) E'→G P E' [.code assign,.beginRound,.code body] ⟨WS st.tmps ps.toList x,Bl (some i)⟩)
 (hB:∀ i x,xs[i]?=some x→(∀ j,j<i→cont j=true)→∀ E',RoundE (st.tmps++E.gA) E'→E'.Fin=QaM (fun K=>if cont i=true then K=[] else Qbi jump K) (fun st=>st.blks=Bl (nxt cont i)) E'→G P E' [.code body] (S1 i))
 (hend:G P E (match Xp cont 0 xs.length with | some _=>k | none=>.code jump :: k) ⟨st.tmps,Bl (Xp cont 0 xs.length)⟩):GX P E (Ks P E xs g) (.code (.rangeFunc g ps assign body) :: k) st:=by
 intro C Z a w hr hX
 have hTl:st.tmps.length=a.tmps.size:=by simpa using hr.tmp.1
 obtain ⟨Ds,d1,d2,d3⟩:=hr.marks
 have hs0:=hr.mem.frame.size
 -- the record is laid
 have hen:=run_enterLoop_outer (P:=P) (w:=w) E.b.fn a.tmps ps assign body
 generalize hW:(w.alloc (.deferred (some [])))=wa at hen
 have fa:Fr w (fun _=>False) wa:=hW ▸ fr_alloc
 have sza:wa.heap.size=w.heap.size+1:=by rw [← hW]; simp
 have hDa:wa.heap[w.heap.size]?=some (.deferred (some [])):=by rw [← hW]; exact World.alloc_heap_new w _
 obtain ⟨hma,hea⟩:=hr.mem.call fa
 generalize hL:({ state:=.ready,pending:=none,fn:=E.b.fn,tmps:=a.tmps,params:=ps,assign,body,defers:=w.heap.size }:Loop)=r0 at hen
 generalize hWb:wa.alloc (.loop r0)=wb at hen
 have fb:Fr wa (fun _=>False) wb:=hWb ▸ fr_alloc
 have hlb:wb.heap[w.heap.size+1]?=some (.loop r0):=by rw [← hWb,← sza]; exact World.alloc_heap_new wa _
 obtain ⟨hmb,heb⟩:=hma.keep fb (fun _ _ h=>h) (fun _ _ h=>h) (fun _ _ _ h=>h)
 have zx:∀ b,Zx Z w wa b ↔ (Z b ∨ b=w.heap.size):=fun b=>by
  unfold Zx; rw [sza]
  exact ⟨fun h=>h.imp id (fun h=>by omega),fun h=>h.imp id (fun h=>by omega)⟩
 have hlo:∀ b,Own C b→b<w.heap.size:=fun b ⟨k',o,h⟩=>(hr.mem.own k' b o h).1
 -- the sides
 let rec':Option Nat→Loop:=fun o=>match o with
  | some _=>r0
  | none=>{ state:=.done,pending:=some jump,fn:=E.b.fn,tmps:=a.tmps,params:=ps,assign,body,defers:=w.heap.size }
 let ds:List Deferred:=mark w.heap.size :: a.defers
 let Y:Option Nat→Sd:=fun o F Kp w1=>RY E (w.heap.size+1) a.tmps ds st.tmps rec' Bl o F Kp w1∧∀ i,o=some i→∀ j,j<i→cont j=true
 have hY0:Y (some 0) (fun b=>Own C b ∨ b=w.heap.size+1) (fun b=>Zx Z w wa b ∨ b<E.w0.heap.size) wb:=by
  refine ⟨⟨C,Zx Z w wa,by rw [hB0]; exact hmb,((hr.tmp.app hr.gh).mono hea).mono heb,⟨w.heap.size :: Ds,?_,?_,?_⟩,(hr.base.next (.refl C) hea).next (.refl C) heb,hlb,?_,?_,by omega,fun _=>.rfl,fun _=>.rfl⟩,fun i hi j hj=>by cases hi; omega⟩
  · refine List.nodup_cons.2 ⟨fun h=>?_,d1⟩
    have:=hr.mem.zlt _ (d3 _ h).1
    omega
  · exact .mk _ d2
  · intro D hD
    rcases List.mem_cons.1 hD with rfl | hD
    · exact ⟨(zx _).2 (.inr rfl),.inr hs0,by rw [fb.same _ (by omega) (fun h=>h)]; exact hDa⟩
    · have hlt:=hr.mem.zlt _ (d3 _ hD).1
      exact ⟨(zx _).2 (.inl (d3 _ hD).1),(d3 _ hD).2.1,by rw [fb.same _ (by omega) (fun h=>h),fa.same _ hlt (fun h=>h)]; exact (d3 _ hD).2.2⟩
  · rw [zx]; rintro (h | h)
    · have:=hr.mem.zlt _ h; omega
    · omega
  · intro h; have:=hlo _ h; omega
 have hyl:Yields P (.func (.yield (w.heap.size+1)) #[] #[]) Y cont xs:=by
  intro i x hx F Kp w' hY cargs hca
  obtain ⟨hY,hpre⟩:=hY
  have hpre:=hpre i rfl
  obtain ⟨l',fn',tm',asg',bd',q1,q2,q3⟩:=round_ok (E:=E) (fn:=E.b.fn) (tv:=a.tmps) (T:=st.tmps) (ps:=ps) (assign:=assign) (body:=body) (D:=w.heap.size) (jump:=jump) (S1:=S1 i) hTl (hps i x hx) (fun _=>hL.symm) rfl (hA i x hx hpre) (hB i x hx hpre) hY hca
  refine ⟨l',fn',tm',asg',bd',q1,q2,fun c cs=>?_⟩
  obtain ⟨t,w2,⟨h1,F',Kp',h2,h3⟩,h4⟩:=q3 c cs
  refine ⟨t,w2,⟨h1,F',Kp',⟨h2,fun i' hi' j hj=>?_⟩,h3⟩,h4⟩
  unfold nxt at hi'
  cases hc:cont i with
  | true =>
   rw [hc] at hi'; simp only [cond_true,Option.some.injEq] at hi'
   rcases Nat.lt_or_ge j i with h | h
   · exact hpre j h
   · have:j=i:=by omega
     rw [this]; exact hc
  | false=>rw [hc] at hi'; cases hi'
 -- the call
 obtain ⟨d,f,args',hd1,hd2,hcalls⟩:=hX wb (fa.trans fb fun _ _ h=>h) (w.heap.size+1) Y cont (fun _=>⟨fun F Kp w h=>RY.stable.lt F Kp w h.1,fun F Kp w Mi w' h h2 h3=>⟨RY.stable.mv F Kp w Mi w' h.1 h2 h3,h.2⟩⟩) hyl (fun b=>Own C b ∨ b=w.heap.size+1) (fun b=>Zx Z w wa b ∨ b<E.w0.heap.size)
  (fun b hb=>hb.imp id (fun h=>by omega)) (fun b hb=>by
    rcases hb with hb | hb
    · rw [zx] at hb; rcases hb with hb | hb
      · exact .inl hb
      · exact .inr (.inr (by omega))
    · exact .inr (.inl hb))
  (fun b hb=>by
    rintro (⟨k',o,h⟩ | h)
    · exact (hr.mem.own k' b o h).2.1 hb
    · have:=hr.mem.zlt b hb; omega) hY0
 have hstep:=stepR_rangeFunc (P:=P) (b:=E.b) (a:=a) (k:=k) (cs:=E.cs) (w:=w) (g:=g) (ps:=ps) (assign:=assign) (body:=body) (l:=w.heap.size+1) (mark:=[{ target:=.collected w.heap.size,args:=#[] }]) (w₁:=wb) (w₁':=wb) (w₂:=wb) (d:=d) (f:=f) (args:=args')
  (by rw [hro]; exact hen) (by
    have:a.eval (.const (.func (.yield (w.heap.size+1)) #[] #[]))=.func (.yield (w.heap.size+1)) #[] #[]:=rfl
    simp only [rangeCall,resolve,List.map_toArray,List.map_cons,List.map_nil,this]; exact hd1) hd2
 obtain ⟨e,w',fr,⟨v,rfl,F',Kp',⟨C',Z',hm',hv',hds',hbs',hl',hzl',hol',hwl',hF',hK'⟩,-⟩,hsteps,-,hleave⟩:=hcalls (E.b.atR { a with defers:=[{ target:=.collected w.heap.size,args:=#[] }]++a.defers } (.inRangeFunc (w.heap.size+1) :: k) :: E.cs)
 refine .step (Steps.head hstep (hsteps.trans (.one (step_leave_returned hleave)))) ?_
 rw [finish_atR_inRangeFunc]
 -- the loop is left
 obtain ⟨hm2,he2⟩:=hm'.keep (fr_put (w:=w') (l:=w.heap.size+1) (o:=.loop { rec' (Xp cont 0 xs.length) with state:=.exhausted })) (fun b hb e=>hol' (e ▸ hb)) (fun b hb e=>hzl' (e ▸ hb)) (fun b hb _ e=>by omega)
 have hleft:=stepR_endRangeFunc (P:=P) (b:=E.b) (a:={ a with defers:=[{ target:=.collected w.heap.size,args:=#[] }]++a.defers }) (k:=k) (cs:=E.cs) (run_endLoop (P:=P) hl' (by
  rcases qn (cont:=cont) (n:=xs.length) (i:=0) with h | h
  · rw [h]; show LoopState.done ≠ _; decide
  · rw [h]; show r0.state ≠ _; rw [← hL]; show LoopState.ready ≠ _; decide))
 refine .step (.one hleft) ?_
 have hsp:=hv'.unapp (by simpa using hTl)
 have hgo:=hend C' Z' { a with defers:=[{ target:=.collected w.heap.size,args:=#[] }]++a.defers } _ ⟨hsp.1.mono he2,hm2,hds'.evo he2,hsp.2.mono he2,hbs'.next (.refl C') he2⟩
 rcases qn (cont:=cont) (n:=xs.length) (i:=0) with h | h
 · rw [h] at hgo ⊢; exact hgo
 · rw [h] at hgo ⊢
   have hpend:(rec' (some (0+xs.length))).pending=none:=by show r0.pending=none; rw [← hL]
   have hnil:((rec' (some (0+xs.length))).pending.map Item.code).toList++k=k:=by rw [hpend]; rfl
   rw [hnil]; exact hgo
end
end Ax
namespace Ax
open Go
section
variable {P:Program} {E:Env} {K K':List Item} {st st':St}
def denil (st:St):List (Nat × Nat)→Option St
 | []=>some st
 | (t,sz) :: r=>match st.tmps[t]? with
  | some .nilSl=>denil ⟨st.tmps.set t (.sl st.blks.length 0 0 0 sz),st.blks++[⟨true,0,sz,true,[],true⟩]⟩ r
  | _=>none
theorem yF:∀ {ds:List (Nat × Nat)} {st st':St},denil st ds=some st'→G P E K st'→G P E K st
 | [],st,st',h,hg=>by simp only [denil,Option.some.injEq] at h; subst h; exact hg
 | (t,sz) :: r,st,st',h,hg=>by
  simp only [denil] at h
  split at h
  · rename_i ht
    have h1:=yF h hg
    intro C Z a w hr
    have hlt:t<a.tmps.size:=by
     have:=(List.getElem?_eq_some_iff.1 ht).1
     have h2:=hr.tmp.1
     simp at h2; omega
    have hv:=hr.tmp.2 t .nilSl a.tmps[t] ht (by simp [hlt])
    generalize hc:a.tmps[t]=c at hv
    cases hv
    obtain ⟨C',Z',hle,hevo,hm,hv'⟩:=Wg (a:=none) (sz:=sz) (fl:=true) (idx:=st.blks.length) hr.mem.push (by simp)
    have e:(Eff.new ⟨true,0,sz,true,[],true⟩ (fun k=>AV.sl k 0 0 0 sz)).blks st.blks.length (st.blks++[dead])=st.blks++[⟨true,0,sz,true,[],true⟩]:=by simp [Eff.blks]
    rw [e] at hm
    have ht2:=hr.tmp.next hle hevo
    refine h1 C' Z' a w ⟨⟨by simpa using ht2.1,fun i x y p q=>?_⟩,hm,hr.marks.evo hevo,hr.gh.next hle hevo,hr.base.next hle hevo⟩
    rw [List.getElem?_set] at p
    split at p
    · rename_i e
      subst e
      split at p
      · cases p
        simp only [Array.getElem?_toList] at q
        rw [Array.getElem?_eq_getElem hlt,hc] at q
        cases q
        exact hv'
      · cases p
    · exact ht2.2 i x y p q
  · cases h
/-- To a loop's head: nil slices taken for slices,what is no more needed forgotten. -/
def segN (P:Program) (ds:List (Nat × Nat)) (live:List Nat) (m n:Nat) (K:List Item) (st:St) (evs:List EV):Option (List Item × St × List Prop) :=
 match walk P n K st evs with
 | some (K',st',_,o1)=>(match denil st' ds with
  | some st1=>(match weak live m st1 with
   | some st2=>some (K',st2,o1)
   | none=>none)
  | none=>none)
 | none=>none
theorem QT {n m:Nat} {ds:List (Nat × Nat)} {live:List Nat} {evs:List EV} {obs:List Prop} {HK:Prop} (hk:HK) (hgh:refsBelows m E.gA=true) (hmx:P.follows .mixedOrders=true)
 (h:segN P ds live m n K st evs=some (K',st',obs)) (ho:AllP obs) (hg:G P E K' st'):G P E K st:=by
 unfold segN at h
 split at h
 · rename_i K1 st1 evs1 o1 h1
   split at h
   · rename_i st2 h2
     split at h
     · rename_i st3 h3
       simp only [Option.some.injEq,Prod.mk.injEq] at h
       obtain ⟨rfl,rfl,rfl⟩:=h
       exact QL hk hmx h1 ho (yF h2 (Kt hgh h3 hg))
     · cases h
   · cases h
 · cases h
theorem Qr.nogh {f:FuncId} {res:AV} (hE:Qr P f res E) (m:Nat):refsBelows m E.gA=true:=by rw [hE.2.2.2.2.1]; rfl
theorem IterE.nogh {f:FuncId} {xs:List (List AV)} {yv:Value} {Y:Option Nat→Sd} {cont:Nat→Bool} {e o:Option Nat} (hE:IterE P f xs yv Y cont e o E) (m:Nat):refsBelows m E.gA=true:=by rw [hE.gA]; rfl
end
end Ax
namespace Ax
open Go
/-- The place at the region behind 'r' others,by the tests' outcomes. -/
def kReg:Nat→List Item→List EV→Nat→List Item
 | 0,K,_,_=>K
 | n+1,K,evs,r =>
  match K with
  | .code .skip :: k=>kReg n k evs r
  | .inBlock _ :: k=>kReg n k evs r
  | .code (.seq x y) :: k=>kReg n (.code x :: .code y :: k) evs r
  | .code (.block id body) :: k=>kReg n (.code body :: .inBlock id :: k) evs r
  | .code (.cond _ x y) :: k=>(match evs with
   | .b u :: evs=>kReg n (.code (bif u then x else y) :: k) evs r
   | _=>K)
  | .code (.region id ops d) :: k=>(match r with
   | 0=>.code (.region id ops d) :: k
   | r+1=>kReg n k evs r)
  | .inRegion .. :: k=>kReg n k evs r
  | .code (.exit id) :: k=>(match exitTo id k with
   | some k'=>kReg n k' evs r
   | none=>K)
  | .code (.loop body) :: k=>kReg n (.code body :: .inLoop body :: k) evs r
  | .inLoop body :: k=>kReg n (.code body :: .inLoop body :: k) evs r
  | K=>K
def toOp (i:Nat):List Item→List Item
 | .code (.region _ ops _) :: k=>.inRegion ops (List.range' i (ops.size - i)) :: k
 | K=>K
/-- A call of what was handed in. -/
def yieldA (K:List Item) (st:St):Option (List Item × Option Nat × Value × List AV) :=
 match K with
 | .inRegion ops (i :: rest) :: k =>
  (match ops[i]? with
  | some o=>(match o.op,Yh ops st.tmps o with
   | .call { callee:=.value f,args,argTypes:=_ },some true=>(match XU st.tmps f with
    | .opq v=>some (.inRegion ops rest :: k,o.dst,v,args.toList.map (XU st.tmps))
    | _=>none)
   | _,_=>none)
  | none=>none)
 | _=>none
section
variable {P:Program} {E:Env} {K K':List Item} {st st':St}
theorem qj {f:FuncId} {xs:List (List AV)} {yv:Value} {Y:Option Nat→Sd} {cont:Nat→Bool} {e:Option Nat} {n:Nat} {x:List AV} {dst:Option Nat}
 (hE:IterE P f xs yv Y cont e (some n) E) (hx:xs[n]?=some x) (h:yieldA K st=some (K',dst,yv,x)) (hs:scalars x=true)
 (hg:∀ E',IterE P f xs yv Y cont e (nxt cont n) E'→G P E' K' ⟨putA st.tmps dst (.bool (cont n)),st.blks⟩):G P E K st:=by
 unfold yieldA at h
 split at h
 · rename_i ops i rest k
   split at h
   · rename_i o ho
     split at h
     · rename_i fop args ats hop hw
       split at h
       · rename_i v hf
         simp only [Option.some.injEq,Prod.mk.injEq] at h
         obtain ⟨rfl,rfl,rfl,rfl⟩:=h
         exact yield_step hE hx ho hop hw hf rfl hs hg
       · cases h
     · cases h
   · cases h
 · cases h
def qo:List Item→Option (Operand × Array Tmp × Code × Code × List Item)
 | .code (.rangeFunc g ps assign body) :: k=>some (g,ps,assign,body,k)
 | _=>none
def Vp (K:List Item):Code:=match qo K with
 | some (_,_,a,_,_)=>a
 | none=>.skip
def XA (K:List Item):Code:=match qo K with
 | some (_,_,_,b,_)=>b
 | none=>.skip
def VD (K:List Item):List Item:=match qo K with
 | some (_,_,_,_,k)=>k
 | none=>[]
theorem range_stepAX {xs:List (List AV)} {cont:Nat→Bool} {jump:Code} {g:Operand} {ps:Array Tmp} (Bl:Option Nat→List Blk) (S1:Nat→St)
 (hro:E.b.roundOf=none) (hk:E.b.kind=.normal) (hK:(qo K).map (fun r=>(r.1,r.2.1))=some (g,ps)) (hB0:Bl (some 0)=st.blks)
 (hps:∀ (i:Nat) x,xs[i]?=some x→x.length=ps.size)
 (hA:∀ i x,xs[i]?=some x→(∀ j,j<i→cont j=true)→∀ E',RoundE (st.tmps++E.gA) E'→E'.Fin=QaM (·=[.beginRound,.code (XA K)]) (·=S1 i) E'→G P E' [.code (Vp K),.beginRound,.code (XA K)] ⟨WS st.tmps ps.toList x,Bl (some i)⟩)
 (hB:∀ i x,xs[i]?=some x→(∀ j,j<i→cont j=true)→∀ E',RoundE (st.tmps++E.gA) E'→E'.Fin=QaM (fun K=>if cont i=true then K=[] else Qbi jump K) (fun st=>st.blks=Bl (nxt cont i)) E'→G P E' [.code (XA K)] (S1 i))
 (hend:G P E (match Xp cont 0 xs.length with | some _=>VD K | none=>.code jump :: VD K) ⟨st.tmps,Bl (Xp cont 0 xs.length)⟩):GX P E (Ks P E xs g) K st:=by
 unfold qo at hK
 split at hK
 · rename_i g' ps' assign body k
   simp only [Option.map_some,Option.some.injEq,Prod.mk.injEq] at hK
   obtain ⟨rfl,rfl⟩:=hK
   exact range_stepX Bl S1 hro hk hB0 hps hA hB hend
 · simp at hK
end
end Ax
namespace Ax
open Go
section
variable {P:Program} {E:Env} {K K':List Item} {st st':St}
theorem Ctx.put_same (C:Ctx) (k:Nat):C.put k (C.β k) (C.γ k)=C:=by
 cases C with
 | mk β γ =>
  unfold Ctx.put
  congr 1 <;> funext j <;> by_cases e:j=k <;> simp [e]
theorem denilC_step {k j sz:Nat} {b:Blk} (hk:st.blks[k]?=some b) (hl:b.live=true) (hbz:b.sz ≠ 0) (hj:b.cells[j]?=some .nilSl)
 (hg:G P E K ⟨st.tmps,(st.blks++[(⟨true,0,sz,true,[],true⟩:Blk)]).set k { b with flat:=false,cells:=b.cells.set j (.sl st.blks.length 0 0 0 sz) }⟩):G P E K st:=by
 intro C Z a w hr
 obtain ⟨C',Z',hle,hevo,hm,hv'⟩:=Wg (a:=none) (sz:=sz) (fl:=true) (idx:=st.blks.length) hr.mem.push (by simp)
 have e:(Eff.new ⟨true,0,sz,true,[],true⟩ (fun k=>AV.sl k 0 0 0 sz)).blks st.blks.length (st.blks++[dead])=st.blks++[⟨true,0,sz,true,[],true⟩]:=by simp [Eff.blks]
 rw [e] at hm
 have hkl:k<st.blks.length:=(List.getElem?_eq_some_iff.1 hk).1
 have hk':(st.blks++[(⟨true,0,sz,true,[],true⟩:Blk)])[k]?=some b:=by rw [List.getElem?_append_left hkl]; exact hk
 have hgen:=hm.gen k b hk'
 have hbk:=hm.blk k b hk' hl
 have hc:=hm.change (b':={ b with flat:=false,cells:=b.cells.set j (.sl st.blks.length 0 0 0 sz) }) (w':=w) (s:=C'.β k) (g:=C'.γ k) hk' rfl rfl rfl (Nat.le_refl _) (fun _ _ _=>rfl)
  (fun blk o arr e _ h=>⟨arr,h,rfl⟩) (Nat.le_refl _) (fun _ _=>rfl) hl hgen.symm (fun blk o h=>.inl ⟨o,h⟩) (fun hle' hevo' _=>by
    obtain ⟨q1,q2⟩:=hbk
    refine ⟨fun i c hi=>?_,?_⟩
    · rw [List.getElem?_set] at hi
      split at hi
      · split at hi
        · cases hi; rfl
        · cases hi
      · exact q1 i c hi
    · rw [Ctx.put_same]
      cases hs:C'.β k with
      | absent=>simp [hs] at q2
      | unborn=>simp only [hs] at q2; rw [q2] at hj; simp at hj
      | loc blk o =>
       simp only [hs] at q2 ⊢
       obtain ⟨arr,te,r1,r2,r3⟩:=q2.cells hbz
       refine .inl ⟨hbz,arr,te,r1,by simpa using r2,fun i c hi=>?_⟩
       simp only [Bool.false_eq_true,if_false]
       rw [List.getElem?_set] at hi
       split at hi
       · rename_i eij
         subst eij
         split at hi
         · cases hi
           obtain ⟨v,s1,s2⟩:=r3 j .nilSl hj
           refine ⟨v,s1,?_⟩
           have:v=.slice none 0 0:=by
            cases hf:b.flat with
            | true=>rw [hf] at s2; simp only [if_true] at s2; cases s2; rfl
            | false=>rw [hf] at s2; simp only [Bool.false_eq_true,if_false] at s2; cases s2; rfl
           rw [this]
           exact hv'.mono ⟨fun _ h=>h,fun _ _=>rfl,fun _ _ _ arr _ _ h=>⟨arr,h,rfl⟩⟩
         · cases hi
       · obtain ⟨v,s1,s2⟩:=r3 i c hi
         refine ⟨v,s1,?_⟩
         cases hf:b.flat with
         | true=>rw [hf] at s2; simp only [if_true] at s2; exact s2.of0
         | false=>rw [hf] at s2; simpa using s2)
 rw [Ctx.put_same] at hc
 exact hg C' Z' a w ⟨hr.tmp.next hle hevo,hc.1,hr.marks.evo hevo,hr.gh.next hle hevo,hr.base.next hle hevo⟩
end
end Ax
namespace Ax
open Go
theorem bnT {e:Bool} (h:(!e)=true):e=false:=by cases e <;> simp_all
theorem bnF {e:Bool} (h:(!e)=false):e=true:=by cases e <;> simp_all
theorem bneT {a b:Int} (h:(a != b)=true):¬ (a=b):=by simpa using h
theorem bneF {a b:Int} (h:(a != b)=false):a=b:=by simpa using h
def cI (n:Int):List AV:=[.int .i64 n]
def cB (b:Bool):List AV:=[.bool b]
def rowI (l:List Int):List AV:=l.flatMap cI
def rowB (l:List Bool):List AV:=l.flatMap cB
def cLs {α:Type} (f:List α→List AV) (l:List α):List AV:=[.rsl (f l) 0 l.length]
def Yz {α:Type} (f:List α→List AV) (l:List (List α)):List AV:=l.flatMap (cLs f)
section
variable {α:Type} (f:α→List AV) {s:Nat}
theorem QG (hf:∀ a,(f a).length=s):∀ l:List α,(l.flatMap f).length=l.length*s
 | []=>by simp
 | a :: l=>by rw [List.flatMap_cons,List.length_append,QG hf l,hf,List.length_cons,Nat.add_mul]; omega
theorem QbP (hf:∀ a,(f a).length=s):∀ {l:List α} {i:Nat} {a:α} {k:Nat},l[i]?=some a→k≤s →
 (l.flatMap f).drop (0+i*s+k)=(f a).drop k++(l.drop (i+1)).flatMap f
 | [],i,a,k,h,_=>by simp at h
 | b :: l,0,a,k,h,hk=>by
  simp only [List.getElem?_cons_zero,Option.some.injEq] at h
  subst h
  rw [List.flatMap_cons,List.drop_append_of_le_length (by rw [hf]; omega)]
  simp
 | b :: l,i+1,a,k,h,hk=>by
  simp only [List.getElem?_cons_succ] at h
  rw [List.flatMap_cons,show 0+(i+1)*s+k=(f b).length+(0+i*s+k) by rw [hf b,Nat.add_mul]; omega,List.drop_length_add_append]
  exact QbP hf h hk
theorem Ki (hf:∀ a,(f a).length=s) {k m:Nat} (hk:k+m≤s) {l:List α} {i:Nat} {a:α} (h:l[i]?=some a) :
 ((l.flatMap f).drop (0+i*s+k)).take m=((f a).drop k).take m:=by
 rw [QbP f hf h (by omega),List.take_append_of_le_length (by rw [List.length_drop,hf]; omega)]
theorem row_fits (hf:∀ a,(f a).length=s) {k m:Nat} (hk:k+m≤s) {l:List α} {i:Nat} {a:α} (h:l[i]?=some a):0+i*s+k+m≤(l.flatMap f).length:=by
 rw [QG f hf]
 have hi:=(List.getElem?_eq_some_iff.1 h).1
 have:(i+1)*s≤l.length*s:=Nat.mul_le_mul_right s hi
 rw [Nat.add_mul] at this; omega
theorem WW:∀ {xs A B:List AV} {o:Nat},o+xs.length≤A.length→Qv (A++B) o xs=Qv A o xs++B
 | [],A,B,o,_=>rfl
 | x :: xs,A,B,o,h=>by
  simp only [List.length_cons] at h
  simp only [Qv]
  rw [List.set_append_left (h:=by omega)]
  exact WW (by simp; omega)
theorem Wi:∀ {xs A B:List AV} {o:Nat},Qv (A++B) (A.length+o) xs=A++Qv B o xs
 | [],A,B,o=>rfl
 | x :: xs,A,B,o=>by
  simp only [Qv]
  rw [List.set_append_right (h:=by omega),show A.length+o - A.length=o by omega,show A.length+o+1=A.length+(o+1) by omega]
  exact Wi
theorem QH (hf:∀ a,(f a).length=s) {k:Nat} {xs:List AV}:∀ {l:List α} {i:Nat} {a a':α},l[i]?=some a→Qv (f a) k xs=f a'→k+xs.length≤s →
 Qv (l.flatMap f) (0+i*s+k) xs=(l.set i a').flatMap f
 | [],i,a,a',h,_,_=>by simp at h
 | b :: l,0,a,a',h,he,hk=>by
  simp only [List.getElem?_cons_zero,Option.some.injEq] at h
  subst h
  rw [List.flatMap_cons,List.set_cons_zero,List.flatMap_cons,← he,show 0+0*s+k=k by omega,WW (by rw [hf]; omega)]
 | b :: l,i+1,a,a',h,he,hk=>by
  simp only [List.getElem?_cons_succ] at h
  rw [List.flatMap_cons,List.set_cons_succ,List.flatMap_cons,show 0+(i+1)*s+k=(f b).length+(0+i*s+k) by rw [hf b,Nat.add_mul]; omega,Wi]
  rw [QH hf h he hk]
theorem Xz (a b:List α):(a++b).flatMap f=a.flatMap f++b.flatMap f:=by simp
end
theorem Qm {α:Type} {l:List α} {i:Nat} {a:α} (h:l[i]?=some a):(0:Int)≤(i:Int)∧(i:Int)<(l.length:Int):=by
 have:=(List.getElem?_eq_some_iff.1 h).1; omega
theorem Qw {α:Type} {l:List α} {i:Int} {a:α} (h0:0≤i) (h:l[Int.toNat i]?=some a):0≤i∧i<(l.length:Int):=by
 have:=(List.getElem?_eq_some_iff.1 h).1; omega
section
variable {P:Program} {E:Env} {K K':List Item} {st st':St}
def denilC (st:St):List (Nat × Nat × Nat)→Option St
 | []=>some st
 | (k,j,sz) :: r=>match st.blks[k]? with
  | some b=>(match b.live && b.sz != 0,b.cells[j]? with
   | true,some .nilSl=>denilC ⟨st.tmps,(st.blks++[(⟨true,0,sz,true,[],true⟩:Blk)]).set k { b with flat:=false,cells:=b.cells.set j (.sl st.blks.length 0 0 0 sz) }⟩ r
   | _,_=>none)
  | none=>none
theorem yU:∀ {ds:List (Nat × Nat × Nat)} {st st':St},denilC st ds=some st'→G P E K st'→G P E K st
 | [],st,st',h,hg=>by simp only [denilC,Option.some.injEq] at h; subst h; exact hg
 | (k,j,sz) :: r,st,st',h,hg=>by
  simp only [denilC] at h
  split at h
  · rename_i b hb
    split at h
    · rename_i hl hj
      exact denilC_step hb (by simpa using (Bool.and_eq_true_iff.1 hl).1) (by simpa using (Bool.and_eq_true_iff.1 hl).2) hj (yU h hg)
    · cases h
  · cases h
def segC (P:Program) (ds:List (Nat × Nat)) (cs:List (Nat × Nat × Nat)) (live:List Nat) (m n:Nat) (K:List Item) (st:St) (evs:List EV):Option (List Item × St × List Prop) :=
 match walk P n K st evs with
 | some (K',st',_,o1)=>(match denil st' ds with
  | some st1=>(match denilC st1 cs with
   | some st1=>(match weak live m st1 with
    | some st2=>some (K',st2,o1)
    | none=>none)
   | none=>none)
  | none=>none)
 | none=>none
theorem QM {n m:Nat} {ds:List (Nat × Nat)} {cs:List (Nat × Nat × Nat)} {live:List Nat} {evs:List EV} {obs:List Prop} {HK:Prop} (hk:HK) (hgh:refsBelows m E.gA=true) (hmx:P.follows .mixedOrders=true)
 (h:segC P ds cs live m n K st evs=some (K',st',obs)) (ho:AllP obs) (hg:G P E K' st'):G P E K st:=by
 unfold segC at h
 split at h
 · rename_i K1 st1 evs1 o1 h1
   split at h
   · rename_i st2 h2
     split at h
     · rename_i st3 h3
       split at h
       · rename_i st4 h4
         simp only [Option.some.injEq,Prod.mk.injEq] at h
         obtain ⟨rfl,rfl,rfl⟩:=h
         exact QL hk hmx h1 ho (yF h2 (yU h3 (Kt hgh h4 hg)))
       · cases h
     · cases h
   · cases h
 · cases h
end
theorem rp {α:Type} (f:α→List AV) (s k m:Nat) {l:List α} {i:Nat} {a:α} (h:l[i]?=some a) (hf:∀ a,(f a).length=s:=by exact fun _=>rfl) (hk:k+m≤s:=by decide):((l.flatMap f).drop (0+i*s+k)).take m=((f a).drop k).take m:=Ki f hf hk h
theorem rf {α:Type} (f:α→List AV) (s k m:Nat) {l:List α} {i:Nat} {a:α} (h:l[i]?=some a) (hf:∀ a,(f a).length=s:=by exact fun _=>rfl) (hk:k+m≤s:=by decide):0+i*s+k+m≤(l.flatMap f).length:=row_fits f hf hk h
theorem bft (b:Bool):b=true∨b=false:=Bool.eq_false_or_eq_true b
theorem odt {p:Prop} [Decidable p] (h:decide p=true):p:=of_decide_eq_true h
theorem odf {p:Prop} [Decidable p] (h:decide p=false):¬p:=of_decide_eq_false h
abbrev I6 (n:Int):Prop:= -9223372036854775808≤n∧n≤9223372036854775807
end Ax
namespace Ax
open Go
/-- Goes through a list until a step says to stop. -/
def Qs {σ X:Type} (step:σ→X→σ × Bool):σ→List X→σ × Bool
 | s,[]=>(s,true)
 | s,x :: xs=>bif (step s x).2 then Qs step (step s x).1 xs else ((step s x).1,false)
section
variable {σ X:Type} (step:σ→X→σ × Bool)
theorem Vs:∀ (s:σ) (a b:List X),Qs step s (a++b)=bif (Qs step s a).2 then Qs step (Qs step s a).1 b else Qs step s a
 | s,[],b=>rfl
 | s,x :: a,b=>by
  simp only [List.cons_append,Qs]
  cases (step s x).2 with
  | true=>simpa using Vs _ a b
  | false=>rfl
theorem VV {s:σ} {L:List X} {i:Nat} {x:X} (h:L[i]?=some x):Qs step s (L.take (i+1))=bif (Qs step s (L.take i)).2 then step (Qs step s (L.take i)).1 x else Qs step s (L.take i):=by
 rw [List.take_add_one,h,Option.toList,Vs]
 cases (Qs step s (L.take i)).2 with
 | false=>rfl
 | true =>
  simp only [cond_true,Qs]
  generalize step (Qs step s (L.take i)).1 x=r
  obtain ⟨a,b⟩:=r
  cases b <;> rfl
def stAt (s:σ) (L:List X) (i:Nat):σ:=(Qs step s (L.take i)).1
def qg (s:σ) (L:List X) (i:Nat):Bool:=match L[i]? with
 | some x=>(step (stAt step s L i) x).2
 | none=>true
theorem all_cont {s:σ} {L:List X}:∀ {i:Nat},i≤L.length→(∀ j,j<i→qg step s L j=true)→(Qs step s (L.take i)).2=true
 | 0,_,_=>rfl
 | i+1,hi,h=>by
  have ih:=all_cont (i:=i) (by omega) (fun j hj=>h j (by omega))
  have hx:L[i]?=some L[i]:=by simp [show i<L.length by omega]
  rw [VV step hx,ih,cond_true]
  have:=h i (by omega)
  unfold qg at this
  rw [hx] at this
  exact this
theorem stop_fold {s:σ} {L:List X}:∀ (d i:Nat),i+d=L.length→(Qs step s (L.take i)).2=true →
 (Xp (qg step s L) i d=some L.length∧(Qs step s L).2=true) ∨ (Xp (qg step s L) i d=none∧(Qs step s L).2=false)
 | 0,i,h,h2=>.inl ⟨by simp only [Xp]; rw [show i=L.length by omega],by rw [List.take_of_length_le (by omega)] at h2; exact h2⟩
 | d+1,i,h,h2=>by
  have hx:L[i]?=some L[i]:=by simp [show i<L.length by omega]
  have h3:=VV step (s:=s) hx
  rw [h2,cond_true] at h3
  have hc:qg step s L i=(step (stAt step s L i) L[i]).2:=by unfold qg; rw [hx]
  simp only [Xp]
  cases h4:qg step s L i with
  | true =>
   simp only [cond_true]
   exact stop_fold d (i+1) (by omega) (by rw [h3]; rw [hc] at h4; exact h4)
  | false =>
   refine .inr ⟨rfl,?_⟩
   rw [hc] at h4
   have h5:Qs step s L=Qs step s (L.take (i+1)):=by
    have:L=L.take (i+1)++L.drop (i+1):=(List.take_append_drop _ _).symm
    rw [this,Vs]
    have e:(L.take (i+1)++L.drop (i+1)).take (i+1)=L.take (i+1):=by rw [List.take_append_drop]
    rw [e,h3]
    unfold stAt at h4
    rw [h4]; rfl
   rw [h5,h3]; exact h4
end
theorem Xx {σ X:Type} (f:σ→X→σ):∀ (L:List X) (s:σ),Qs (fun s x=>(f s x,true)) s L=(L.foldl f s,true)
 | [],s=>rfl
 | x :: L,s=>by simp only [Qs,cond_true,List.foldl_cons]; exact Xx f L _
/-- The end of a round: what comes of it. -/
def qi {σ:Type} (Bl:σ→List Blk) (jump:Code) (r:σ × Bool) (E:Env):Prop :=
 E.Fin=QaM (fun K=>if r.2=true then K=[] else Qbi jump K) (fun st=>st.blks=Bl r.1) E
def isJumpB:Code→List Item→Bool
 | .ret,.code .ret :: _=>true
 | .exit i,.code (.exit j) :: k=>i == j && (exitTo j k).isNone
 | _,_=>false
theorem isJumpB_ok {jump:Code} {K:List Item} (h:isJumpB jump K=true):Qbi jump K:=by
 unfold isJumpB at h
 split at h
 · exact ⟨_,rfl,.inl rfl⟩
 · simp only [Bool.and_eq_true,beq_iff_eq,Option.isNone_iff_eq_none] at h
   obtain ⟨rfl,h⟩:=h
   exact ⟨_,rfl,.inr ⟨_,rfl,h⟩⟩
 · cases h
section
variable {P:Program} {E:Env} {K K':List Item} {st st':St}
theorem XV {σ:Type} {Bl:σ→List Blk} {jump:Code} {r:σ × Bool} {s':σ} (hQ:qi Bl jump r E) (hr:r=(s',true)) (hs:st.blks=Bl s'):G P E [] st:=by
 subst hr
 exact G_here hQ (by simp) hs
theorem yh {σ:Type} {Bl:σ→List Blk} {jump:Code} {r:σ × Bool} {s':σ} (hQ:qi Bl jump r E) (hr:r=(s',false)) (hK:isJumpB jump K=true) (hs:st.blks=Bl s'):G P E K st:=by
 subst hr
 exact G_here hQ (by simpa using isJumpB_ok hK) hs
theorem range_foldX {σ X:Type} {arg:X→List AV} {L:List X} {jump:Code} {g:Operand} {ps:Array Tmp} (Bl:σ→List Blk) (S1:σ→X→St) (step:σ→X→σ × Bool) (s0:σ)
 (hro:E.b.roundOf=none) (hk:E.b.kind=.normal) (hK:(qo K).map (fun r=>(r.1,r.2.1))=some (g,ps)) (hB0:Bl s0=st.blks)
 (hps:∀ x,(arg x).length=ps.size)
 (hA:∀ s x,∀ E',RoundE (st.tmps++E.gA) E'→G P E' [.beginRound,.code (XA K)] (S1 s x)→G P E' [.code (Vp K),.beginRound,.code (XA K)] ⟨WS st.tmps ps.toList (arg x),Bl s⟩)
 (hB:∀ i x s,L[i]?=some x→Qs step s0 (L.take i)=(s,true)→∀ E',RoundE (st.tmps++E.gA) E'→qi Bl jump (step s x) E'→G P E' [.code (XA K)] (S1 s x))
 (hend:∀ s,Qs step s0 L=(s,true)→G P E (VD K) ⟨st.tmps,Bl s⟩)
 (hjmp:∀ s,Qs step s0 L=(s,false)→G P E (.code jump :: VD K) ⟨st.tmps,Bl s⟩):GX P E (Ks P E (L.map arg) g) K st:=by
 have hget:∀ {i:Nat} {a:List AV},(L.map arg)[i]?=some a→∃ x,L[i]?=some x∧a=arg x:=by
  intro i a h
  simp only [List.getElem?_map,Option.map_eq_some_iff] at h
  obtain ⟨c,h1,h2⟩:=h
  exact ⟨c,h1,h2.symm⟩
 refine range_stepAX (cont:=qg step s0 L) (jump:=jump) (g:=g) (ps:=ps) (fun o=>match o with
  | some i=>Bl (stAt step s0 L i)
  | none=>Bl (Qs step s0 L).1) (fun i=>match L[i]? with
  | some x=>S1 (stAt step s0 L i) x
  | none=>st) hro hk hK hB0 (fun i a h=>?_) (fun i a h hpre E' hR hfin=>?_) (fun i a h hpre E' hR hfin=>?_) ?_
 · obtain ⟨x,h1,rfl⟩:=hget h; exact hps x
 · obtain ⟨x,h1,rfl⟩:=hget h
   simp only [h1] at hfin
   exact hA _ x E' hR (G_here hfin rfl rfl)
 · obtain ⟨x,h1,rfl⟩:=hget h
   simp only [h1]
   have hi:i≤L.length:=Nat.le_of_lt (List.getElem?_eq_some_iff.1 h1).1
   have hall:=all_cont step hi hpre
   have hst:Qs step s0 (L.take i)=(stAt step s0 L i,true):=by
    unfold stAt
    rw [← hall]
   have hc:qg step s0 L i=(step (stAt step s0 L i) x).2:=by unfold qg; rw [h1]
   have h3:=VV step (s:=s0) h1
   rw [hall,cond_true] at h3
   refine hB i x _ h1 hst E' hR ?_
   unfold qi
   rw [hfin,hc]
   congr 1
   funext st1
   congr 1
   unfold nxt
   rw [hc]
   cases h4:(step (stAt step s0 L i) x).2 with
   | true=>simp only [cond_true]; unfold stAt; rw [h3]
   | false =>
    simp only [cond_false]
    have h5:Qs step s0 L=Qs step s0 (L.take (i+1)):=by
     have:L=L.take (i+1)++L.drop (i+1):=(List.take_append_drop _ _).symm
     rw [this,Vs]
     have e:(L.take (i+1)++L.drop (i+1)).take (i+1)=L.take (i+1):=by rw [List.take_append_drop]
     rw [e,h3]
     unfold stAt at h4
     rw [h4]; rfl
    rw [h5,h3]; rfl
 · have hlen:(L.map arg).length=L.length:=by simp
   rw [hlen]
   rcases stop_fold step (s:=s0) (L:=L) L.length 0 (by omega) rfl with ⟨h1,h2⟩ | ⟨h1,h2⟩
   · rw [h1]
     have:stAt step s0 L L.length=(Qs step s0 L).1:=by unfold stAt; rw [List.take_of_length_le (Nat.le_refl _)]
     simp only [this]
     exact hend _ (by rw [← h2])
   · rw [h1]; exact hjmp _ (by rw [← h2])
theorem VE {σ X:Type} {fv:AV} {arg:X→List AV} {L:List X} {jump:Code} {g:Operand} {ps:Array Tmp} (Bl:σ→List Blk) (S1:σ→X→St) (step:σ→X→σ × Bool) (s0:σ)
 (hro:E.b.roundOf=none) (hk:E.b.kind=.normal) (hK:(qo K).map (fun r=>(r.1,r.2.1))=some (g,ps)) (hfv:XU st.tmps g=fv) (hnr:Xf fv=true) (hit:IterF P fv (L.map arg)) (hB0:Bl s0=st.blks)
 (hps:∀ x,(arg x).length=ps.size)
 (hA:∀ s x,∀ E',RoundE (st.tmps++E.gA) E'→G P E' [.beginRound,.code (XA K)] (S1 s x)→G P E' [.code (Vp K),.beginRound,.code (XA K)] ⟨WS st.tmps ps.toList (arg x),Bl s⟩)
 (hB:∀ i x s,L[i]?=some x→Qs step s0 (L.take i)=(s,true)→∀ E',RoundE (st.tmps++E.gA) E'→qi Bl jump (step s x) E'→G P E' [.code (XA K)] (S1 s x))
 (hend:∀ s,Qs step s0 L=(s,true)→G P E (VD K) ⟨st.tmps,Bl s⟩)
 (hjmp:∀ s,Qs step s0 L=(s,false)→G P E (.code jump :: VD K) ⟨st.tmps,Bl s⟩):G P E K st :=
 fun C Z a w hr=>range_foldX Bl S1 step s0 hro hk hK hB0 hps hA hB hend hjmp C Z a w hr (hit_of hfv hnr hit hr)
end
end Ax
namespace Ax
open Go Go.ChangeShapes Go.WideShapes Go.RowKit
abbrev Old (W:World) (b:Nat):Prop:=b<W.heap.size
/-- What is read as of this type stands for typed data. -/
def Dec (P:Program) (W:World) (t:TypeId) (T:Type) (F:T→List AV) (Q:T→Prop):Prop :=
 ∀ (H:Type) (enc:TypeId × Value→H) (sp:Nat→Bool) (held:Bool) (fuel:Nat) (cs:List Value) (x:DataW H × List MemPlace),
  DataW.trod enc P W 0 sp held fuel t cs=some x→∃ a,Q a∧VRs (Old W) W C0 (F a) cs
/-- The same for the fields from one on; 'off' is where they begin. -/
def DecFs (P:Program) (W:World) (fs:List Field) (off:Nat) (T:Type) (F:T→List AV) (Q:T→Prop) (tot:Nat):Prop :=
 ∀ (H:Type) (enc:TypeId × Value→H) (sp:Nat→Bool) (held:Bool) (fuel:Nat) (cs:List Value),cs.length=tot →
  (∀ f ∈ fs,∃ x,DataW.trod enc P W 0 sp held fuel f.type ((cs.drop f.offset).take (P.cellsOf f.type))=some x)→∃ a,Q a∧VRs (Old W) W C0 (F a) (cs.drop off)
section
variable {P:Program} {W:World} {t e:TypeId}
theorem VRs.one1 {Z:Nat→Prop} {w:World} {C:Ctx} {a:AV} {c:Value} (h:VR Z w C a c):VRs Z w C [a] [c] :=
 ⟨rfl,fun i x y p q=>by
  cases i with
  | zero=>simp at p q; subst p; subst q; exact h
  | succ i=>simp at p⟩
theorem dec_int {k:IntKind} (ht:P.underlying t=some (.int k)):Dec P W t Int (fun n=>[.int k n]) (fun n=>k.min≤n∧n≤k.max):=by
 intro H enc sp held fuel cs x h
 obtain ⟨n,rfl,-,hw⟩:=DataW.trod_int ht h
 simp only [Lit.wf,Bool.and_eq_true,decide_eq_true_eq] at hw
 exact ⟨n,hw,VRs.one1 (.int _ _)⟩
theorem Yw (ht:P.underlying t=some (.int .i64)):Dec P W t Int cI (fun n=>InR .i64 n):=by
 intro H enc sp held fuel cs x h
 obtain ⟨n,hn,hv⟩:=dec_int ht H enc sp held fuel cs x h
 exact ⟨n,by simpa [InR,IntKind.min,IntKind.max,IntKind.signed,IntKind.bits] using hn,hv⟩
theorem dec_bool (ht:P.underlying t=some .bool):Dec P W t Bool cB (fun _=>True):=by
 intro H enc sp held fuel cs x h
 obtain ⟨b,rfl,-⟩:=DataW.trod_bool ht h
 exact ⟨b,trivial,VRs.one1 (.bool _)⟩
theorem Dec.map {T S:Type} {F:T→List AV} {Q:T→Prop} {F':S→List AV} {Q':S→Prop} (h:Dec P W t T F Q) (g:T→S) (hF:∀ a,F' (g a)=F a) (hQ:∀ a,Q a→Q' (g a)):Dec P W t S F' Q':=by
 intro H enc sp held fuel cs x hx
 obtain ⟨a,q,v⟩:=h H enc sp held fuel cs x hx
 exact ⟨g a,hQ a q,by rw [hF]; exact v⟩
theorem qU {tot:Nat}:DecFs P W [] tot Unit (fun _=>[]) (fun _=>True) tot:=by
 intro H enc sp held fuel cs hl _
 exact ⟨(),trivial,by rw [List.drop_of_length_le (by omega)]; exact ⟨rfl,fun i x y p q=>by simp at p⟩⟩
theorem QW {f:Field} {fs:List Field} {off n tot:Nat} {A B:Type} {FA:A→List AV} {QA:A→Prop} {FB:B→List AV} {QB:B→Prop} (hn:P.cellsOf f.type=n) (ho:f.offset=off)
 (D:Dec P W f.type A FA QA) (R:DecFs P W fs (off+n) B FB QB tot) (hle:off+n≤tot):DecFs P W (f :: fs) off (A × B) (fun p=>FA p.1++FB p.2) (fun p=>QA p.1∧QB p.2) tot:=by
 intro H enc sp held fuel cs hl h
 obtain ⟨x,hx⟩:=h f (by simp)
 obtain ⟨a,qa,va⟩:=D H enc sp held fuel _ x hx
 obtain ⟨b,qb,vb⟩:=R H enc sp held fuel cs hl fun g hg=>h g (by simp [hg])
 rw [hn,ho] at va
 refine ⟨(a,b),⟨qa,qb⟩,?_⟩
 have e:cs.drop off=(cs.drop off).take n++cs.drop (off+n):=by
  rw [← List.drop_drop]; exact (List.take_append_drop _ _).symm
 rw [e]
 exact va.app vb
theorem WP {fs:Array Field} {T:Type} {F:T→List AV} {Q:T→Prop} {l:List Field} {tot:Nat} (ht:P.underlying t=some (.struct fs)) (hl:fs.toList=l) (hc:P.cellsOf t=tot) (h:DecFs P W l 0 T F Q tot):Dec P W t T F Q:=by
 intro H enc sp held fuel cs x hx
 obtain ⟨xs,n,-,-,h1,h2,h3⟩:=DataW.trod_struct ht hx
 obtain ⟨a,q,v⟩:=h H enc sp held n cs (by rw [h1,hc]) fun f hf=>by
  rw [← hl] at hf
  obtain ⟨i,hi⟩:=List.mem_iff_getElem?.1 hf
  have:=h3 i f (by simpa using hi)
  have hlt:i<xs.length:=by rw [h2]; have:=(List.getElem?_eq_some_iff.1 hi).1; simpa using this
  exact ⟨xs[i],by rw [this]; simp [hlt]⟩
 exact ⟨a,q,by simpa using v⟩
theorem cells_get {W:World} {a:Addr} {n:Nat} {cs:List Value} (h:W.cells? 0 a n=some cs):cs.length=n∧∀ i,i<n→W.cell? (a.add i)=cs[i]?:=by
 unfold World.cells? at h
 rw [if_pos (Nat.zero_le _)] at h
 have key:∀ (n k:Nat) (cs:List Value),((List.range' k n).mapM fun i=>W.cell? (a.add i))=some cs→cs.length=n∧∀ i,i<n→W.cell? (a.add (k+i))=cs[i]?:=by
  intro n
  induction n with
  | zero=>intro k cs h; simp at h; subst h; simp
  | succ n ih =>
   intro k cs h
   rw [List.range'_succ,List.mapM_cons] at h
   simp only [Option.bind_eq_bind,Option.bind_eq_some_iff,Option.pure_def,Option.some.injEq] at h
   obtain ⟨c,h1,cs',h2,rfl⟩:=h
   obtain ⟨i1,i2⟩:=ih (k+1) cs' h2
   refine ⟨by simp [i1],fun i hi=>?_⟩
   cases i with
   | zero=>simpa using h1
   | succ i=>rw [show k+(i+1)=k+1+i by omega,i2 i (by omega)]; simp
 have:=key n 0 cs (by rw [← List.range_eq_range']; exact h)
 simpa using this
theorem list_of {T:Type} {Q:Nat→T→Prop}:∀ (n k:Nat),(∀ i,k≤i→i<k+n→∃ a,Q i a)→∃ l:List T,l.length=n∧∀ i a,l[i]?=some a→Q (k+i) a
 | 0,k,_=>⟨[],rfl,by simp⟩
 | n+1,k,h=>by
  obtain ⟨a,ha⟩:=h k (Nat.le_refl _) (by omega)
  obtain ⟨l,hl,hq⟩:=list_of n (k+1) fun i h1 h2=>h i (by omega) (by omega)
  refine ⟨a :: l,by simp [hl],fun i b hb=>?_⟩
  cases i with
  | zero=>simp at hb; subst hb; exact ha
  | succ i=>simp at hb; have:=hq i b hb; rw [show k+(i+1)=k+1+i by omega]; exact this
theorem Qau {T:Type} {F:T→List AV} {Q:T→Prop} {n:Nat} (ht:P.underlying t=some (.slice e)) (hc:P.cellsOf e=n) (hn:0<n) (hF:∀ a,(F a).length=n) (hk:∀ a,QZ (F a)=true) (D:Dec P W e T F Q) :
 Dec P W t (List T) (fun l=>[.rsl (l.flatMap F) 0 l.length]) (fun l=>l.length≤9223372036854775807∧∀ a ∈ l,Q a):=by
 intro H enc sp held fuel cs x h
 rcases DataW.trod_slice ht h with ⟨rfl,-⟩ | ⟨a,len,cap,elems,rest,m,-,rfl,-,-,h1,h2,h3,h4,-,-⟩
 · exact ⟨[],⟨by simp,by simp⟩,VRs.one1 .rsl0⟩
 have hel:∀ i,i<len→∃ b,Q b∧∃ vs,W.cells? 0 (a.add (i*n)) n=some vs∧VRs (Old W) W C0 (F b) vs:=by
  intro i hi
  have:=h4 i hi
  rw [hc,List.getElem?_eq_getElem (by omega)] at this
  obtain ⟨vs,g1,g2⟩:=Option.bind_eq_some_iff.1 this
  obtain ⟨b,qb,vb⟩:=D H enc sp held m vs _ g2
  exact ⟨b,qb,vs,g1,vb⟩
 obtain ⟨l,hl,hq⟩:=list_of (Q:=fun i b=>Q b∧∃ vs,W.cells? 0 (a.add (i*n)) n=some vs∧VRs (Old W) W C0 (F b) vs) len 0 fun i _ hi=>hel i (by omega)
 refine ⟨l,⟨by rw [hl]; unfold maxLen at h2; omega,fun b hb=>?_⟩,VRs.one1 ?_⟩
 · obtain ⟨i,hi⟩:=List.mem_iff_getElem?.1 hb
   exact (hq i b hi).1
 rcases Nat.eq_zero_or_pos len with h0 | h0
 · subst h0
   obtain rfl:l=[]:=List.length_eq_zero_iff.1 hl
   exact .rsl0
 have hcell:∀ j,j<len*n→∃ v,W.cell? ⟨a.block,a.off+j,none⟩=some v∧∃ c,(l.flatMap F)[j]?=some c∧VR (Old W) W C0 c v∧Xd c=true∧a.spot=none:=by
  intro j hj
  have hi:j / n<len:=by rw [Nat.div_lt_iff_lt_mul hn]; exact hj
  have hm:j % n<n:=Nat.mod_lt _ hn
  have hb:l[j / n]?=some l[j / n]:=by simp [hl,hi]
  obtain ⟨-,vs,g1,g2⟩:=hq _ _ hb
  rw [Nat.zero_add] at g1
  obtain ⟨g3,g4⟩:=cells_get g1
  have g5:=g4 (j % n) hm
  have hv:vs[j % n]?=some vs[j % n]:=by simp [g3,hm]
  rw [hv] at g5
  have hdm:j / n*n+j % n=j:=by rw [Nat.mul_comm]; exact Nat.div_add_mod j n
  have hspot:a.spot=none:=by
   have g6:=g4 0 hn
   rw [List.getElem?_eq_getElem (by omega)] at g6
   have hfirst:∃ v0,W.cell? a=some v0:=by
    have hb0:l[0]?=some l[0]:=by simp [hl,h0]
    obtain ⟨-,vs0,k1,-⟩:=hq _ _ hb0
    obtain ⟨k3,k4⟩:=cells_get k1
    have k5:=k4 0 hn
    rw [List.getElem?_eq_getElem (by omega)] at k5
    exact ⟨_,by simpa [Addr.add] using k5⟩
   obtain ⟨v0,hv0⟩:=hfirst
   unfold World.cell? at hv0
   split at hv0
   · split at hv0
     · cases hv0
     · rename_i hsp; simpa using hsp
   · cases hv0
  have haddr:(a.add (j / n*n)).add (j % n)=⟨a.block,a.off+j,none⟩:=by
   obtain ⟨ab,ao,asp⟩:=a
   simp only at hspot
   subst hspot
   unfold Addr.add
   split <;> split <;> simp_all <;> omega
  rw [haddr] at g5
  refine ⟨_,g5,?_⟩
  have hrow:=QbP F hF (k:=j % n) hb (by omega)
  have e1:(l.flatMap F)[j]?=(F l[j / n])[j % n]?:=by
   have:=congrArg (fun l=>l[0]?) hrow
   simp only [List.getElem?_drop,Nat.add_zero] at this
   rw [show 0+j / n*n+j % n=j by omega] at this
   rw [this,List.getElem?_append_left (by rw [List.length_drop,hF]; omega),List.getElem?_drop,Nat.add_zero]
  have hF1:(F l[j / n])[j % n]?=some ((F l[j / n])[j % n]'(by rw [hF]; exact hm)):=by simp [hF,hm]
  refine ⟨_,e1.trans hF1,g2.2 _ _ _ hF1 hv,XH (hk _) hF1,hspot⟩
 have hrl:(l.flatMap F).length=len*n:=by rw [QG F hF,hl]
 obtain ⟨v0,c0,-,-,-,-,hspot⟩:=hcell 0 (Nat.mul_pos h0 hn)
 have haa:a=⟨a.block,0+a.off,none⟩:=by
  obtain ⟨ab,ao,asp⟩:=a
  simp only at hspot ⊢
  subst hspot; simp
 have hblk:a.block<W.heap.size:=by
  unfold World.cell? at c0
  split at c0
  · rename_i heq; exact (Array.getElem?_eq_some_iff.1 heq).1
  · cases c0
 rw [← hl]
 have hval:Value.slice (some a) l.length cap=Value.slice (some ⟨a.block,a.off+0,none⟩) l.length cap:=by
  congr 2
  rw [haa]; simp
 rw [hval]
 refine .rsl (o:=a.off) (fun i=>(W.cell? ⟨a.block,a.off+i,none⟩).getD undef) hblk (by omega) (fun i hi=>?_) (fun i c hc=>?_) (fun i c hc=>?_)
 · obtain ⟨v,h5,-⟩:=hcell i (by omega)
   rw [h5]; rfl
 · obtain ⟨v,-,c',h6,-,h7,-⟩:=hcell i (by have:=(List.getElem?_eq_some_iff.1 hc).1; omega)
   rw [hc] at h6; cases h6; exact h7
 · obtain ⟨v,h5,c',h6,h7,-,-⟩:=hcell i (by have:=(List.getElem?_eq_some_iff.1 hc).1; omega)
   rw [hc] at h6; cases h6; rw [h5]; exact h7
/-! ### A law's arguments -/
/-- One argument. -/
def DecA (P:Program) (W:World) (t:TypeId) (T:Type) (F:T→AV) (Q:T→Prop):Prop :=
 ∀ (H:Type) (enc:TypeId × Value→H) (base:Nat) (v:Value) (d:DataW H) (ps:List MemPlace),Value.okWide P W .any base t v→DataW.Trod enc P W 0 (fun _=>true) true t v d ps →
  ∃ a,Q a∧VR (Old W) W C0 (F a) v
theorem VRs.one' {Z:Nat→Prop} {w:World} {C:Ctx} {a:AV} {c:Value} (h:VRs Z w C [a] [c]):VR Z w C a c:=h.2 0 a c rfl rfl
theorem decA_slice {T:Type} {F:T→AV} {Q:T→Prop} (ht:P.underlying t=some (.slice e)) (D:Dec P W t T (fun a=>[F a]) Q):DecA P W t T F Q:=by
 intro H enc base v d ps hok ⟨fuel,h⟩
 obtain ⟨a,len,cap,rfl⟩:=okWide_slice ht hok
 obtain ⟨a,q,hv⟩:=D H enc _ _ fuel _ _ h
 exact ⟨a,q,hv.one'⟩
theorem Qav {T:Type} {F:T→List AV} {Q:T→Prop} {fs:Array Field} (ht:P.underlying t=some (.struct fs)) (D:Dec P W t T F Q):DecA P W t T (fun a=>.agg (F a)) Q:=by
 intro H enc base v d ps hok ⟨fuel,h⟩
 obtain ⟨cs,rfl,-⟩:=okWide_struct ht hok
 obtain ⟨a,q,hv⟩:=D H enc _ _ fuel _ _ h
 exact ⟨a,q,.agg (by have:=hv.1; simpa [Value.cells] using this) fun i c x p r=>hv.2 i c x p (by simpa [Value.cells] using r)⟩
/-- All arguments; 'K': what holds of them together. -/
def DecAs (P:Program) (W:World) (ts:List TypeId) (K:List AV→Prop):Prop :=
 ∀ (H:Type) (enc:TypeId × Value→H) (base:Nat) (vs:List Value) (ds:List (DataW H)) (ps:List MemPlace),
  (∀ (j:Nat) t v,ts[j]?=some t→vs[j]?=some v→Value.okWide P W .any base t v)→DataW.TrodAll enc P W 0 (fun _=>true) true ts vs ds ps→∃ al,K al∧VRs (Old W) W C0 al vs
theorem decAs_nil {K:List AV→Prop} (h:K []):DecAs P W [] K:=by
 intro H enc base vs ds ps _ hT
 obtain ⟨rfl,rfl,rfl⟩:=trodAll_nil hT
 exact ⟨[],h,rfl,fun i x y p q=>by simp at p⟩
theorem yG {ts:List TypeId} {T:Type} {F:T→AV} {Q:T→Prop} {K:List AV→Prop} (D:DecA P W t T F Q) (R:∀ a,Q a→DecAs P W ts fun al=>K (F a :: al)):DecAs P W (t :: ts) K:=by
 intro H enc base vs ds ps hok hT
 obtain ⟨v,vs',d,ds',p,q,rfl,rfl,rfl,h1,h2⟩:=trodAll_cons hT
 obtain ⟨a,qa,va⟩:=D H enc base v d p (hok 0 t v rfl rfl) h1
 obtain ⟨al,ka,vas⟩:=R a qa H enc base vs' ds' q (fun j t v ht hv=>hok (j+1) t v (by simpa using ht) (by simpa using hv)) h2
 exact ⟨_,ka,by simpa using (VRs.one1 va).app vas⟩
theorem Fr.same_at {W W':World} (h:Fr W (fun _=>False) W') (p:MemPlace) (hp:p.block<W.heap.size):W.sameAt W' p:=by
 have:=h.same p.block hp (fun h=>h)
 cases p with
 | cell b off=>exact Xu this
 | map b=>exact this
theorem qB {H:Type} {enc:TypeId × Value→H} {W':World} (hl:laidOutB P=true) (h:Fr W (fun _=>False) W') {sp:Nat→Bool}:∀ {ts:List TypeId} {vs:List Value} {ds:List (DataW H)} {ps:List MemPlace},
 (∀ t ∈ ts,P.readableRec t=true∧t<P.types.size)→DataW.TrodAll enc P W 0 (fun _=>true) true ts vs ds ps→(∀ p ∈ ps,sp p.block=true)→DataW.TrodAll enc P W' 0 sp true ts vs ds ps
 | [],vs,ds,ps,_,hT,_=>by
  obtain ⟨rfl,rfl,rfl⟩:=trodAll_nil hT
  rfl
 | t :: ts,vs,ds,ps,hr,hT,hs=>by
  have hlt:=DataW.TrodAll.lt hT
  obtain ⟨v,vs',d,ds',p,q,rfl,rfl,rfl,h1,h2⟩:=trodAll_cons hT
  refine ⟨p,q,WideElems.Trod_stays hl (hr t (by simp)).1 (hr t (by simp)).2 h1 (fun x hx=>h.same_at x (hlt x (by simp [hx]))) (fun x hx=>hs x (by simp [hx])),
   qB hl h (fun t ht=>hr t (by simp [ht])) h2 (fun x hx=>hs x (by simp [hx])),rfl⟩
theorem Fr.keptBut {W W':World} (h:Fr W (fun _=>False) W') (may:MemPlace→Prop):W.keptBut W' may:=by
 refine ⟨h.os,h.output,fun i hi=>?_⟩
 rw [h.same i hi (fun h=>h)]
 cases hx:W.heap[i]? with
 | none=>simp
 | some o=>cases o <;> simp
theorem law_post {H:Type} {enc:TypeId × Value→H} {W':World} {f:Func} {s:ChangeSpec} {args:Array Value} {ds gs:List (DataW H)} {before:List MemPlace} {tb:TypeId}
 (hW:DataW.Whole enc P f.params.toList s.vars false W args.toList ds gs before) (hv:s.vars=[]) (hr:f.resultTypes=#[tb]) (hb:P.underlying tb=some .bool)
 (h1:(s.fn H (ds++gs)).results=[.lit (.bool true)]) (h2:(s.fn H (ds++gs)).args=ds) (h3:(s.fn H (ds++gs)).vars=[]) (hl:laidOutB P=true)
 (hread:∀ t ∈ f.params.toList,P.readableRec t=true∧t<P.types.size) (hf:Fr W (fun _=>False) W'):s.post enc P f false true false false W args (.bool true) W':=by
 have hW':=hW
 obtain ⟨p,q,hA,hV,hpq,-,-⟩:=hW
 refine ⟨ds,gs,before,[],p,[],hW',?_,?_,?_,hf.keptBut _,fun h=>by cases h⟩
 · rw [h1,hr]
   exact trodAll_mk1 ⟨1,by simp [DataW.trod,Value.cells,hb]⟩
 · rw [h2]
   exact qB hl hf hread hA fun x hx=>by simpa using DataW.TrodAll.lt hA x hx
 · rw [h3,hv]; rfl
theorem Fr.frozen {W W':World} (h:Fr W (fun _=>False) W') (a:Addr) (ha:a.block<W.heap.size):W'.frozen? a=W.frozen? a:=by
 unfold World.frozen?; rw [h.same a.block ha (fun h=>h)]
end
end Ax
namespace Ax
open Go
def AvLe (a b:AV):Prop:=∀ (Z:Nat→Prop) (w:World) (c:Value),VR Z w C0 a c→VR Z w C0 b c
def AvLes:List AV→List AV→Prop
 | [],[]=>True
 | a :: as',b :: bs=>AvLe a b∧AvLes as' bs
 | _,_=>False
theorem AvLe.refl (a:AV):AvLe a a:=fun _ _ _ h=>h
theorem AvLe.of_eq {a b:AV} (h:a=b):AvLe a b:=h ▸ AvLe.refl a
theorem Vq {row:List AV} {off:Nat}:AvLe .nilSl (.rsl row off 0):=fun _ _ _ h=>by cases h; exact .rsl0
theorem AvLes.vrs {Z:Nat→Prop} {w:World}:∀ {as' bs:List AV} {vs:List Value},AvLes as' bs→VRs Z w C0 as' vs→VRs Z w C0 bs vs
 | [],[],vs,_,h=>h
 | a :: as',b :: bs,[],_,h=>by have:=h.1; simp at this
 | a :: as',b :: bs,v :: vs,hl,h=>by
  have h1:VR Z w C0 a v:=h.2 0 a v rfl rfl
  have h2:VRs Z w C0 as' vs:=⟨by have:=h.1; simpa using this,fun i c v p q=>h.2 (i+1) c v (by simpa using p) (by simpa using q)⟩
  have h3:=AvLes.vrs hl.2 h2
  refine ⟨by simp [h3.1],fun i c x p q=>?_⟩
  cases i with
  | zero=>simp at p q; subst p; subst q; exact hl.1 _ _ _ h1
  | succ i=>exact h3.2 i c x (by simpa using p) (by simpa using q)
 | [],b :: bs,_,hl,_=>hl.elim
 | a :: as',[],_,hl,_=>hl.elim
theorem VB {xs ys:List AV} (h:AvLes xs ys):AvLe (.tup xs) (.tup ys):=fun Z w c hc=>by
 cases hc with
 | @tup _ _ arr hl h1 =>
  have:=h.vrs (vs:=arr.toList) ⟨by simpa using hl,fun i c v p q=>h1 i c v p (by simpa using q)⟩
  exact .tup (by simpa using this.1) fun i c v p q=>this.2 i c v p (by simpa using q)
section
variable {P:Program} {E:Env} {K K':List Item} {st st':St}
theorem Pure.le {f:FuncId} {args args':List AV} {res:AV} (h:Pure P f args res) (hl:AvLes args' args):Pure P f args' res :=
 fun Z w cargs hz ha=>h Z w cargs hz (hl.vrs ha)
theorem Qc.le {fv:AV} {args args':List AV} {res:AV} (h:Qc P fv args res) (hl:AvLes args' args):Qc P fv args' res :=
 fun Z w cf cargs hz hf ha=>h Z w cf cargs hz hf (hl.vrs ha)
theorem G.fin {F':Machine→Prop} (h:G P { E with Fin:=F' } K st) (hm:∀ m,F' m→E.Fin m):G P E K st:=fun C Z a w hr =>
 let ⟨m',hs,hf⟩:=h C Z a w hr
 ⟨m',hs,hm m' hf⟩
theorem VA.mono {f:FuncId} {cs:List Frame} {Q Q':Value→World→Prop} (hq:∀ v w,Q v w→Q' v w) {m:Machine} (h:VA P f cs Q m):VA P f cs Q' m:=by
 obtain ⟨v,w,fr,e,a,b,c⟩:=h
 exact ⟨v,w,fr,e,a,b,hq _ _ c⟩
theorem end_stepL {n:Nat} {f:FuncId} {fn:Func} {evs:List EV} {r res:AV} {obs:List Prop} (hE:Qr P f res E) (hf:P.funcs[f]?=some fn) (hmx:P.follows .mixedOrders=true)
 (h:endA P fn n K st evs=some (r,obs)) (ho:AllP obs) (hr:AvLe r res):G P E K st:=by
 obtain ⟨e1,e2,e3,e4,e5,e6,e7⟩:=hE
 refine G.fin (F':=VA P f E.cs fun v w'=>VR (Zx E.Z0 E.w0 w') w' C0 r v∧Fr E.w0 (fun _=>False) w') (end_step ⟨e1,e2,e3,e4,e5,rfl,e7⟩ hf hmx h ho rfl) fun m hm=>?_
 rw [e6]
 exact VA.mono (fun v w hq=>⟨hr _ _ _ hq.1,hq.2⟩) hm
end
end Ax
namespace Ax
open Go
theorem row_rep {α:Type} (f:α→List AV) (n:Nat) (a:α):(List.replicate n (f a)).flatten=(List.replicate n a).flatMap f:=by
 induction n with
 | zero=>rfl
 | succ n ih=>rw [List.replicate_succ,List.flatten_cons,ih,List.replicate_succ,List.flatMap_cons]
theorem XX {α:Type} (f:α→List AV) {s:Nat} (hf:∀ a,(f a).length=s) (l:List α):((l.flatMap f).drop 0).take (l.length*s)=l.flatMap f:=by
 rw [List.drop_zero,List.take_of_length_le (by rw [QG f hf]; exact Nat.le_refl _)]
theorem Qbf:∀ {a b:List AV},noRefs (a++b)=(noRefs a && noRefs b)
 | [],b=>by simp [noRefs]
 | x :: a,b=>by simp [noRefs,Qbf,Bool.and_assoc]
theorem Yo {α:Type} (f:α→List AV) (hf:∀ a,noRefs (f a)=true):∀ l:List α,noRefs (l.flatMap f)=true
 | []=>rfl
 | a :: l=>by rw [List.flatMap_cons,Qbf,hf,Yo f hf l]; rfl
end Ax
namespace Ax
open Go
section
variable {P:Program} {E:Env} {K K':List Item} {st st':St}
/-- What a call leaves: its result,and the blocks. -/
def Left (Z M:Nat→Prop) (w:World) (C:Ctx) (res:AV) (bs2:List Blk) (v:Value) (w':World):Prop :=
 ∃ C' Z',Base C w C' w'∧Mem Z M w C' Z' bs2 w'∧VR Z' w' C' res v
/-- A function that turns blocks 'bs' to 'bs2' (new ones behind them). -/
def Lent (P:Program) (f:FuncId) (args:List AV) (bs:List Blk) (res:AV) (bs2:List Blk):Prop :=
 ∀ (Z:Nat→Prop) (w:World) (C:Ctx) (cargs:Array Value),Mem Z (Own C) w C Z bs w→VRs Z w C args cargs.toList →
  Calls P f cargs w fun e w'=>∃ v,e=.returned v∧Left Z (Own C) w C res bs2 v w'
structure LentE (P:Program) (f:FuncId) (gA:List AV) (res:AV) (bs2:List Blk) (E:Env):Prop where
 ro:E.b.roundOf=none
 kind:E.b.kind=.normal
 fn:E.b.fn=f
 gA:E.gA=gA
 df:E.df=[]
 fin:E.Fin=VA P f E.cs (Left E.Z0 E.M E.w0 E.Cb res bs2)
 wb:E.wb=E.w0
theorem LentE.nogh {f:FuncId} {k g:Nat} {res:AV} {bs2:List Blk} (hE:LentE P f [.sl k g 0 0 1] res bs2 E) {m:Nat} (h:Nat.ble (k+1) m=true):refsBelows m E.gA=true:=by
 rw [hE.gA]
 have:=Nat.le_of_ble_eq_true h
 simp [refsBelows,QI]; omega
theorem qq {f:FuncId} {fn:Func} {c:Code} {args:List AV} {bs bs2:List Blk} {res:AV} (b:Blk) (hf:P.funcs[f]?=some fn) (hb:fn.body=some c) (hl:bs.getLast?=some b) (hlv:b.live=true)
 (h:∀ E,LentE P f [.sl (bs.length - 1) b.gen 0 0 1] res bs2 E→G P E [.code c] ⟨args++unds (fn.ntmps - args.length),bs⟩) (hbz:b.sz ≠ 0:=by simp):Lent P f args bs res bs2:=by
 intro Z w C cargs hm ha cs
 have hn:bs ≠ []:=by rintro rfl; simp at hl
 have hlen:0<bs.length:=List.length_pos_iff.2 hn
 have hk:bs[bs.length - 1]?=some b:=by rw [List.getLast?_eq_getElem?] at hl; exact hl
 have hgh:VR Z w C (.sl (bs.length - 1) b.gen 0 0 1) (.slice none 0 0):=by
  have hg:=hm.gen _ _ hk
  refine .sl (by rw [hg]; exact Nat.le_refl _) rfl fun _=>?_
  obtain ⟨q1,q2⟩:=hm.blk _ _ hk hlv
  unfold SlOk
  cases hs:C.β (bs.length - 1) with
  | absent=>simp [hs] at q2
  | unborn=>exact ⟨rfl,none,rfl⟩
  | loc blk o =>
   simp only [hs] at q2
   obtain ⟨arr,e,r1,r2,r3⟩:=q2.cells hbz
   exact ⟨none,0,rfl,Nat.le_refl _,fun h=>absurd rfl h,arr,e,r1,by omega⟩
 have hlow:∀ n,refsBelows n [AV.sl (bs.length - 1) b.gen 0 0 1]=true→∀ k,n≤k→C.β k=.absent∧C.γ k=0:=fun n h1 k h2=>hm.dom k (by
  simp [refsBelows,QI] at h1; omega)
 let E:Env:=⟨Z,Own C,w,{ (default:Frame) with fn:=f,kind:=.normal },cs,VA P f cs (Left Z (Own C) w C res bs2),[.sl (bs.length - 1) b.gen 0 0 1],[.slice none 0 0],[],C,hlow,w⟩
 have hE:LentE P f [.sl (bs.length - 1) b.gen 0 0 1] res bs2 E:=⟨rfl,rfl,rfl,rfl,rfl,rfl,rfl⟩
 have henter:Frame.enter P f cargs .normal=({ (default:Frame) with fn:=f,kind:=.normal }:Frame).atR { tmps:=cargs++Array.replicate (fn.ntmps - cargs.size) undef,defers:=[] } [.code c]:=by
  simp only [Frame.enter,Frame.atR,hf,hb,Option.map_some,Option.getD_some,Option.bind_some]; rfl
 have hl2:args.length=cargs.size:=by simpa using ha.1
 obtain ⟨m',s,v,w',fr,rfl,r1,r2,r3⟩:=h _ hE C Z { tmps:=cargs++Array.replicate (fn.ntmps - cargs.size) undef,defers:=[] } w
  ⟨⟨by simp [Yi,hl2],fun i x y p q=>by
   simp only [Array.toList_append,Array.toList_replicate] at q
   rw [Yi] at p
   by_cases hi:i<args.length
   · rw [List.getElem?_append_left hi] at p
     rw [List.getElem?_append_left (by simpa [← hl2] using hi)] at q
     exact ha.2 i x y p q
   · rw [List.getElem?_append_right (by omega)] at p
     rw [List.getElem?_append_right (by simp; omega)] at q
     have p':=List.mem_replicate.1 (List.mem_of_getElem? p)
     have q':=List.mem_replicate.1 (List.mem_of_getElem? q)
     rw [p'.2,q'.2]
     exact .tup rfl (by simp)⟩,hm,⟨[],.nil,.nil,by simp⟩,⟨rfl,fun i x y p q=>by
   cases i with
   | zero=>simp [E] at p q; rw [← p,← q]; exact hgh
   | succ i=>simp [E] at p⟩,.refl⟩
 rw [henter]
 exact ⟨.returned v,w',fr,⟨v,rfl,r3⟩,s,r1,r2⟩
theorem LentE.nogh0 {f:FuncId} {res:AV} {bs2:List Blk} (hE:LentE P f [] res bs2 E) (m:Nat):refsBelows m E.gA=true:=by rw [hE.gA]; rfl
/-- The same for a function that is handed no block,and gives back new ones. -/
theorem Qcf {f:FuncId} {fn:Func} {c:Code} {args:List AV} {bs2:List Blk} {res:AV} (hf:P.funcs[f]?=some fn) (hb:fn.body=some c)
 (h:∀ E,LentE P f [] res bs2 E→G P E [.code c] ⟨args++unds (fn.ntmps - args.length),[]⟩):Lent P f args [] res bs2:=by
 intro Z w C cargs hm ha cs
 have hlow:∀ n,refsBelows n ([]:List AV)=true→∀ k,n≤k→C.β k=.absent∧C.γ k=0:=fun n _ k _=>hm.dom k (by simp)
 let E:Env:=⟨Z,Own C,w,{ (default:Frame) with fn:=f,kind:=.normal },cs,VA P f cs (Left Z (Own C) w C res bs2),[],[],[],C,hlow,w⟩
 have hE:LentE P f [] res bs2 E:=⟨rfl,rfl,rfl,rfl,rfl,rfl,rfl⟩
 have henter:Frame.enter P f cargs .normal=({ (default:Frame) with fn:=f,kind:=.normal }:Frame).atR { tmps:=cargs++Array.replicate (fn.ntmps - cargs.size) undef,defers:=[] } [.code c]:=by
  simp only [Frame.enter,Frame.atR,hf,hb,Option.map_some,Option.getD_some,Option.bind_some]; rfl
 have hl2:args.length=cargs.size:=by simpa using ha.1
 obtain ⟨m',s,v,w',fr,rfl,r1,r2,r3⟩:=h _ hE C Z { tmps:=cargs++Array.replicate (fn.ntmps - cargs.size) undef,defers:=[] } w
  ⟨⟨by simp [Yi,hl2],fun i x y p q=>by
   simp only [Array.toList_append,Array.toList_replicate] at q
   rw [Yi] at p
   by_cases hi:i<args.length
   · rw [List.getElem?_append_left hi] at p
     rw [List.getElem?_append_left (by simpa [← hl2] using hi)] at q
     exact ha.2 i x y p q
   · rw [List.getElem?_append_right (by omega)] at p
     rw [List.getElem?_append_right (by simp; omega)] at q
     have p':=List.mem_replicate.1 (List.mem_of_getElem? p)
     have q':=List.mem_replicate.1 (List.mem_of_getElem? q)
     rw [p'.2,q'.2]
     exact .tup rfl (by simp)⟩,hm,⟨[],.nil,.nil,by simp⟩,⟨rfl,fun i x y p q=>by simp [E] at p⟩,.refl⟩
 rw [henter]
 exact ⟨.returned v,w',fr,⟨v,rfl,r3⟩,s,r1,r2⟩
/-- The same,with one of the arguments as the place in the caller's blocks that is kept. -/
theorem lent_ofA {f:FuncId} {fn:Func} {c:Code} {args:List AV} {bs bs2:List Blk} {res:AV} (x:AV) (j:Nat) (hx:args[j]?=some x) (hlw:∀ n,refsBelows n [x]=true→bs.length≤n) (hf:P.funcs[f]?=some fn) (hb:fn.body=some c)
 (h:∀ E,LentE P f [x] res bs2 E→G P E [.code c] ⟨args++unds (fn.ntmps - args.length),bs⟩):Lent P f args bs res bs2:=by
 intro Z w C cargs hm ha cs
 have hl2:args.length=cargs.size:=by simpa using ha.1
 obtain ⟨y,hy⟩:∃ y,cargs.toList[j]?=some y:=by
  have:=(List.getElem?_eq_some_iff.1 hx).1
  exact ⟨_,List.getElem?_eq_getElem (by simpa [← hl2] using this)⟩
 have hgh:VR Z w C x y:=ha.2 j x y hx hy
 have hlow:∀ n,refsBelows n [x]=true→∀ k,n≤k→C.β k=.absent∧C.γ k=0:=fun n h1 k h2=>hm.dom k (Nat.le_trans (hlw n h1) h2)
 let E:Env:=⟨Z,Own C,w,{ (default:Frame) with fn:=f,kind:=.normal },cs,VA P f cs (Left Z (Own C) w C res bs2),[x],[y],[],C,hlow,w⟩
 have hE:LentE P f [x] res bs2 E:=⟨rfl,rfl,rfl,rfl,rfl,rfl,rfl⟩
 have henter:Frame.enter P f cargs .normal=({ (default:Frame) with fn:=f,kind:=.normal }:Frame).atR { tmps:=cargs++Array.replicate (fn.ntmps - cargs.size) undef,defers:=[] } [.code c]:=by
  simp only [Frame.enter,Frame.atR,hf,hb,Option.map_some,Option.getD_some,Option.bind_some]; rfl
 obtain ⟨m',s,v,w',fr,rfl,r1,r2,r3⟩:=h _ hE C Z { tmps:=cargs++Array.replicate (fn.ntmps - cargs.size) undef,defers:=[] } w
  ⟨⟨by simp [Yi,hl2],fun i x y p q=>by
   simp only [Array.toList_append,Array.toList_replicate] at q
   rw [Yi] at p
   by_cases hi:i<args.length
   · rw [List.getElem?_append_left hi] at p
     rw [List.getElem?_append_left (by simpa [← hl2] using hi)] at q
     exact ha.2 i x y p q
   · rw [List.getElem?_append_right (by omega)] at p
     rw [List.getElem?_append_right (by simp; omega)] at q
     have p':=List.mem_replicate.1 (List.mem_of_getElem? p)
     have q':=List.mem_replicate.1 (List.mem_of_getElem? q)
     rw [p'.2,q'.2]
     exact .tup rfl (by simp)⟩,hm,⟨[],.nil,.nil,by simp⟩,⟨rfl,fun i x y p q=>by
   cases i with
   | zero=>simp [E] at p q; rw [← p,← q]; exact hgh
   | succ i=>simp [E] at p⟩,.refl⟩
 rw [henter]
 exact ⟨.returned v,w',fr,⟨v,rfl,r3⟩,s,r1,r2⟩
/-- Called by its value. -/
theorem QK {f : FuncId} {fn : Func} {c : Code} {first args cap : List AV} {bs bs2 : List Blk} {res : AV} (hf : P.funcs[f]? = some fn) (hname : (fn.name == "runtime.NumGoroutine") = false) (hb : fn.body = some c)
    (h : Lent P f (first ++ args ++ cap) bs res bs2) : Yk P (.clos f first cap) args bs res bs2 := by
  intro Z w C cf cargs hm hcf ha
  cases hcf with
  | @clos _ _ _ _ fa ca hl h1 hl' h2 =>
    refine ⟨{ target := .fn (.func f) ca, args := fa ++ cargs }, f, fa ++ cargs ++ ca, rfl, ?_, ?_⟩
    · have := Go.Proofs.enters_of (P := P) hf hname hb (fa ++ cargs ++ ca) w
      simpa [invoke] using this
    · refine (h Z w C _ hm ⟨by have := ha.1; simp at this; simp [hl, hl', this], fun i x y p q => ?_⟩).mono ?_
      · have hal : args.length = cargs.size := by simpa using ha.1
        simp only [Array.toList_append] at q
        rw [List.append_assoc] at p q
        by_cases i1 : i < first.length
        · rw [List.getElem?_append_left i1] at p
          rw [List.getElem?_append_left (by simpa [← hl] using i1)] at q
          exact h1 i x y p (by simpa using q)
        · rw [List.getElem?_append_right (by omega)] at p
          rw [List.getElem?_append_right (by simp; omega)] at q
          have e1 : fa.toList.length = first.length := by simp [hl]
          rw [e1] at q
          by_cases i2 : i - first.length < args.length
          · rw [List.getElem?_append_left i2] at p
            rw [List.getElem?_append_left (by simpa [← hal] using i2)] at q
            exact ha.2 _ x y p q
          · rw [List.getElem?_append_right (by omega)] at p
            rw [List.getElem?_append_right (by simp; omega)] at q
            have e2 : cargs.toList.length = args.length := by simp [hal]
            rw [e2] at q
            exact h2 _ x y p (by simpa using q)
      · rintro e w' ⟨v, rfl, C', Z', q1, q2, q3⟩
        exact ⟨v, C', Z', rfl, q1, q2, q3⟩

/-- A block that is handed over for good: it lies frozen from here on. -/
def kill (b:Blk):Blk:=⟨false,b.gen+1,b.sz,true,[],false⟩
/-- A call of what only reads: what it is handed is handed over for good. -/
theorem Ys {fv fv':AV} {args args':List AV} {bs:List Blk} {res:AV} {o1 o2:List Prop} (hf:(frz 8 fv).run (bs[·]?)=some (fv',o1)) (h1:AllP o1)
 (ha:(frzL (frz 8) args).run (bs[·]?)=some (args',o2)) (h2:AllP o2) (hp:Qc P fv' args' res):Yk P fv args bs res (bs.map kill):=by
 intro Z w C cf cargs hm hcf hca
 obtain ⟨d,f,as',r1,r2,r3⟩:=hp (ZL C Z) w cf cargs (fun b hz=>by
  rcases hz with hz | ⟨k,o,hb⟩
  · exact hm.zlt b hz
  · exact (hm.own k b o hb).1) (Yc hm hf h1 hcf) (WN hm ha h2 hca)
 refine ⟨d,f,as',r1,r2,r3.mono ?_⟩
 rintro e w' ⟨v,rfl,hv,hfr⟩
 have hs:=hfr.size
 have lt_of:∀ k,C.β k ≠ .absent→k<bs.length:=fun k h=>by
  rcases Nat.lt_or_ge k bs.length with h' | h'
  · exact h'
  · exact absurd (hm.dom k h').1 h
 refine ⟨v,⟨fun _=>.absent,fun k=>if k<bs.length then C.γ k+1 else 0⟩,Zx (ZL C Z) w w',rfl,⟨⟨fun k=>?_,fun k hb hg=>?_⟩,fun k blk o arr e hb hg=>?_⟩,
  ⟨fun k b hb hl=>?_,fun k b hb=>?_,fun k b hb hd=>rfl,fun k hk=>?_,fun k k' b o o' h=>?_,fun k b o h=>?_,fun b hz=>?_,fun b hz=>.inl (.inl hz),fun b hz=>?_,?_⟩,hv.of0⟩
 · simp only
   split
   · omega
   · rw [(hm.dom k (by omega)).2]; exact Nat.le_refl _
 · simp only at hg
   rw [if_pos (lt_of k hb)] at hg; omega
 · simp only at hg
   rw [if_pos (lt_of k (by rw [hb]; simp))] at hg; omega
 · rw [List.getElem?_map,Option.map_eq_some_iff] at hb
   obtain ⟨b0,-,rfl⟩:=hb
   simp [kill] at hl
 · rw [List.getElem?_map,Option.map_eq_some_iff] at hb
   obtain ⟨b0,hb,rfl⟩:=hb
   have:=(List.getElem?_eq_some_iff.1 hb).1
   simp only [if_pos this,kill]
   rw [hm.gen k b0 hb]
 · simp only [List.length_map] at hk
   simp only [if_neg (show ¬ k<bs.length by omega),and_self]
 · cases h
 · cases h
 · rcases hz with (hz | ⟨k,o,hb⟩) | hz
   · have:=hm.zlt b hz; omega
   · have:=(hm.own k b o hb).1; omega
   · exact hz.2
 · rcases hz with (hz | hz) | hz
   · exact .inl hz
   · exact .inr (.inl hz)
   · exact .inr (.inr hz.1)
 · exact hfr.weaken fun _ h=>h.elim
/-- To the end of a function that turns what it was handed: the first 'm' blocks are left. -/
def endB (P:Program) (fn:Func) (live:List Nat) (m n:Nat) (K:List Item) (st:St) (evs:List EV):Option (AV × List Blk × List Prop) :=
 match walk P n K st evs with
 | some (K',st1,evs1,o1) =>
  (match isEnd K',weak live m st1 with
  | true,some st2 =>
   (match resA P st2 fn.results.toList evs1 with
   | some (vs,_,o2)=>some (tupA vs,st2.blks,o1++o2)
   | none=>none)
  | _,_=>none)
 | none=>none
theorem Qat {n m:Nat} {live:List Nat} {f:FuncId} {fn:Func} {evs:List EV} {r res:AV} {gA:List AV} {bs2 bs3:List Blk} {obs:List Prop} (hE:LentE P f gA res bs2 E) (hgh:refsBelows m E.gA=true) (hf:P.funcs[f]?=some fn) (hmx:P.follows .mixedOrders=true)
 (h:endB P fn live m n K st evs=some (r,bs3,obs)) (ho:AllP obs) (hr:r=res) (hb:bs3=bs2):G P E K st:=by
 subst hr
 subst hb
 unfold endB at h
 split at h
 · rename_i K' st1 evs1 o1 h1
   split at h
   · rename_i st2 hK h2
     split at h
     · rename_i vs evs2 o2 h3
       simp only [Option.some.injEq,Prod.mk.injEq] at h
       obtain ⟨rfl,rfl,rfl⟩:=h
       obtain ⟨a1,a2⟩:=Qj.1 ho
       have hfn:=hE.fn
       refine QL hE.kind hmx h1 a1 (Kt hgh h2 (G_end (Post:=Left E.Z0 E.M E.w0 E.Cb (tupA vs) st2.blks) hE.ro hE.kind hE.df (by rw [hfn]; exact hf) (by rw [hE.fin,hfn]) h3 a2 (fun C Z w v hm hv hbs=>⟨C,Z,hE.wb ▸ hbs,hm,hv⟩) (VK hK)))
     · cases h
   · cases h
 · cases h
end
end Ax