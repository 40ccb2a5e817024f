/- A part of the proof: several texts, one behind the other. -/
import Derived.CallsIn
import Derived.RangeFuncLeaves
import Derived.Below
import Derived.KernelRfl
import Derived.IntWalk
import Derived.Laws.StructEq
import Derived.Laws.Cells
import Derived.Laws.CopyRow
import Derived.Laws.Append
import Derived.DeepKeys3
import Derived.RangeFuncRecord
set_option linter.unusedVariables false
set_option linter.unusedSimpArgs false
namespace Ax
open Go
/-- Abstract values. Immutable rows are lists; a mutable block of the call's own is named by its number and generation. -/
inductive AV where
 | bool (b:Bool)
 | int (k:IntKind) (n:Int)
 | nilPtr
 | ptr (k g off:Nat)
 | rptr (row:List AV) (off:Nat)
 | nilSl
 | sl (k g off len sz:Nat)
 | rsl (row:List AV) (off len:Nat)
 | agg (cs:List AV)
 | tup (vs:List AV)
 | clos (f:Nat) (first cap:List AV)
 | nilFunc
 | opq (v:Value)
 | junk
 | mp (k g:Nat) (it:Bool)
 | rmap (cells:List AV)
 | pm (row:List AV) (k g off:Nat)
 | ifc (t:Nat) (v:AV)
abbrev J:AV:=.junk
inductive Slot where
 | absent
 | unborn
 | loc (blk o:Nat)
structure Ctx where
 β:Nat→Slot
 γ:Nat→Nat
def C0:Ctx:=⟨fun _=>.absent,fun _=>0⟩
def Xd:AV→Bool
 | .agg _ | .tup _ | .junk=>false
 | .opq v=>v.oneCell'
 | _=>true
/-- A map,or an iterator over one. -/
def WX (it:Bool) (blk:Nat):Value:=if it then .pointer (some ⟨blk,0,none⟩) else .map (some blk)
/-- A slice over a block of the call's own. -/
def SlOk (C:Ctx) (w:World) (k off len sz:Nat) (c:Value):Prop :=
 match C.β k with
 | .loc blk o=>∃ a cap,c=.slice a len cap∧len≤cap∧(cap ≠ 0→a=some ⟨blk,o+off,none⟩) ∧
  ∃ arr e,w.heap[blk]?=some (.cells arr e (0,0))∧o+off+cap*sz≤arr.size
 | .unborn=>len=0∧∃ a,c=.slice a 0 0
 | .absent=>False
inductive VR (Z:Nat→Prop) (w:World):Ctx→AV→Value→Prop
 | bool {C} (b:Bool):VR Z w C (.bool b) (.bool b)
 | int {C} (k:IntKind) (n:Int):VR Z w C (.int k n) (.int k n)
 | nilPtr {C}:VR Z w C .nilPtr (.pointer none)
 | ptr {C} {k g off:Nat} {c:Value} (hg:g≤C.γ k) (ho:c.oneCell'=true) (h:g=C.γ k→∃ blk o,C.β k=.loc blk o∧c=.pointer (some ⟨blk,o+off,none⟩)):VR Z w C (.ptr k g off) c
 | rptr {C} {row:List AV} {off blk o:Nat} (cv:Nat→Value) (hz:Z blk)
  (hc:∀ (i:Nat),i<row.length→w.cell? ⟨blk,o+i,none⟩=some (cv i)) (hk:∀ (i:Nat) (c:AV),row[i]?=some c→Xd c=true)
  (hr:∀ (i:Nat) (c:AV),row[i]?=some c→VR Z w C0 c (cv i)):VR Z w C (.rptr row off) (.pointer (some ⟨blk,o+off,none⟩))
 | nilSl {C}:VR Z w C .nilSl (.slice none 0 0)
 | sl {C} {k g off len sz:Nat} {c:Value} (hg:g≤C.γ k) (ho:c.oneCell'=true) (h:g=C.γ k→SlOk C w k off len sz c):VR Z w C (.sl k g off len sz) c
 | rsl {C} {row:List AV} {off len cap blk o:Nat} (cv:Nat→Value) (hz:Z blk) (hl:len≤cap)
  (hc:∀ (i:Nat),i<row.length→w.cell? ⟨blk,o+i,none⟩=some (cv i)) (hk:∀ (i:Nat) (c:AV),row[i]?=some c→Xd c=true)
  (hr:∀ (i:Nat) (c:AV),row[i]?=some c→VR Z w C0 c (cv i)):VR Z w C (.rsl row off len) (.slice (some ⟨blk,o+off,none⟩) len cap)
 | rsl0 {C} {row:List AV} {off cap:Nat} {a:Option Addr}:VR Z w C (.rsl row off 0) (.slice a 0 cap)
 | agg {C} {cs:List AV} {arr:Array Value} (hl:cs.length=arr.size) (h:∀ (i:Nat) (c:AV) (v:Value),cs[i]?=some c→arr[i]?=some v→VR Z w C c v):VR Z w C (.agg cs) (.agg arr)
 | tup {C} {cs:List AV} {arr:Array Value} (hl:cs.length=arr.size) (h:∀ (i:Nat) (c:AV) (v:Value),cs[i]?=some c→arr[i]?=some v→VR Z w C c v):VR Z w C (.tup cs) (.tuple arr)
 | clos {C} {f:Nat} {first cap:List AV} {fa ca:Array Value} (hl:first.length=fa.size) (h:∀ (i:Nat) (c:AV) (v:Value),first[i]?=some c→fa[i]?=some v→VR Z w C c v)
  (hl':cap.length=ca.size) (h':∀ (i:Nat) (c:AV) (v:Value),cap[i]?=some c→ca[i]?=some v→VR Z w C c v):VR Z w C (.clos f first cap) (.func (.func f) fa ca)
 | nilFunc {C}:VR Z w C .nilFunc .nilFunc
 | opq {C} (v:Value):VR Z w C (.opq v) v
 | junk {C} (v:Value):VR Z w C .junk v
 | mp {C} {k g:Nat} {it:Bool} {c:Value} (hg:g≤C.γ k) (ho:c.oneCell'=true) (h:g=C.γ k→∃ blk o,C.β k=.loc blk o∧c=WX it blk):VR Z w C (.mp k g it) c
 | rmap {C} {cells:List AV} {blk:Nat} (es:Array MapEntry) (hz:Z blk) (hh:w.heap[blk]?=some (.map es es.size)) (hl:cells.length=es.size)
  (hb:∀ (i:Nat) (e:MapEntry),es[i]?=some e→e.born=i) (hr:∀ (i:Nat) (c:AV) (e:MapEntry),cells[i]?=some c→es[i]?=some e→VR Z w C0 c (.func (.func 0) #[e.key] #[e.val])):VR Z w C (.rmap cells) (.map (some blk))
 | pm {C} {row:List AV} {k g off blk o:Nat} {cm:Value} (cv:Nat→Value) (hz:Z blk)
  (hc:∀ (i:Nat),i<row.length→w.cell? ⟨blk,o+i,none⟩=some (cv i)) (hk:∀ (i:Nat) (c:AV),row[i]?=some c→Xd c=true)
  (hr:∀ (i:Nat) (c:AV),row[i]?=some c→VR Z w C0 c (cv i)) (hcm:w.cell? ⟨blk,o+row.length,none⟩=some cm) (hv:VR Z w C (.mp k g false) cm):VR Z w C (.pm row k g off) (.pointer (some ⟨blk,o+off,none⟩))
 | ifc {C} {t:Nat} {v:AV} {c:Value} (h:VR Z w C v c):VR Z w C (.ifc t v) (.iface t c)
theorem VR.one {Z:Nat→Prop} {w:World} {C:Ctx} {v:AV} {c:Value} (h:VR Z w C v c) (hk:Xd v=true):c.oneCell'=true:=by
 cases h <;> first | rfl | assumption | (simp [Xd] at hk)
mutual
/-- A pointer to frozen memory beside a live map,seen as one to what is frozen. -/
def pmW:AV→AV
 | .pm row _ _ off=>.rptr row off
 | .agg cs=>.agg (pmWs cs)
 | .tup cs=>.tup (pmWs cs)
 | .clos f a b=>.clos f (pmWs a) (pmWs b)
 | v=>v
def pmWs:List AV→List AV
 | []=>[]
 | c :: cs=>pmW c :: pmWs cs
end
theorem QbS:∀ {cs:List AV} {i:Nat},(pmWs cs)[i]?=(cs[i]?).map pmW
 | [],i=>by simp [pmWs]
 | c :: cs,0=>by simp [pmWs]
 | c :: cs,i+1=>by simp [pmWs,QbS (cs:=cs)]
theorem YG:∀ {cs:List AV},(pmWs cs).length=cs.length
 | []=>rfl
 | c :: cs=>by simp [pmWs,YG (cs:=cs)]
theorem VR.pmW {Z:Nat→Prop} {w:World} {C:Ctx} {v:AV} {c:Value} (h:VR Z w C v c):VR Z w C (pmW v) c:=by
 have lst:∀ {C:Ctx} {cs:List AV} {arr:Array Value},(∀ (i:Nat) (c:AV) (v:Value),cs[i]?=some c→arr[i]?=some v→VR Z w C (Ax.pmW c) v)→∀ (i:Nat) (c:AV) (v:Value),(pmWs cs)[i]?=some c→arr[i]?=some v→VR Z w C c v:=by
  intro C cs arr h i c v h1 h2
  rw [QbS,Option.map_eq_some_iff] at h1
  obtain ⟨c0,h1,rfl⟩:=h1
  exact h i c0 v h1 h2
 induction h with
 | bool b=>exact .bool b
 | int k n=>exact .int k n
 | nilPtr=>exact .nilPtr
 | ptr hg ho h=>exact .ptr hg ho h
 | rptr cv hz hc hk hr ih=>exact .rptr cv hz hc hk hr
 | nilSl=>exact .nilSl
 | sl hg ho h=>exact .sl hg ho h
 | rsl cv hz hl hc hk hr ih=>exact .rsl cv hz hl hc hk hr
 | rsl0=>exact .rsl0
 | agg hl h ih=>exact .agg (by rw [YG]; exact hl) (lst ih)
 | tup hl h ih=>exact .tup (by rw [YG]; exact hl) (lst ih)
 | clos hl h hl' h' ih ih'=>exact .clos (by rw [YG]; exact hl) (lst ih) (by rw [YG]; exact hl') (lst ih')
 | nilFunc=>exact .nilFunc
 | opq v=>exact .opq v
 | junk v=>exact .junk v
 | mp hg ho h=>exact .mp hg ho h
 | rmap es hz hh hl hb hr ih=>exact .rmap es hz hh hl hb hr
 | pm cv hz hc hk hr hcm hv ih ihv=>exact .rptr cv hz hc hk hr
 | ifc h ih=>exact .ifc h
/-- Lists of values,one by one. -/
def VRs (Z:Nat→Prop) (w:World) (C:Ctx) (cs:List AV) (vs:List Value):Prop :=
 cs.length=vs.length∧∀ (i:Nat) (c:AV) (v:Value),cs[i]?=some c→vs[i]?=some v→VR Z w C c v
theorem VRs.pmW {Z:Nat→Prop} {w:World} {C:Ctx} {cs:List AV} {vs:List Value} (h:VRs Z w C cs vs):VRs Z w C (pmWs cs) vs:=by
 refine ⟨by rw [YG]; exact h.1,fun i c v h1 h2=>?_⟩
 rw [QbS,Option.map_eq_some_iff] at h1
 obtain ⟨c0,h1,rfl⟩:=h1
 exact (h.2 i c0 v h1 h2).pmW
mutual
def Xf:AV→Bool
 | .ptr .. | .sl .. | .mp .. | .pm ..=>false
 | .agg cs=>noRefs cs
 | .tup cs=>noRefs cs
 | .clos _ a b=>noRefs a && noRefs b
 | .ifc _ v=>Xf v
 | _=>true
def noRefs:List AV→Bool
 | []=>true
 | c :: cs=>Xf c && noRefs cs
end
theorem QQ:∀ {cs:List AV} {i:Nat} {c:AV},noRefs cs=true→cs[i]?=some c→Xf c=true
 | [],_,_,_,h=>by simp at h
 | d :: cs,0,c,hn,h=>by simp [noRefs] at hn h; rw [← h]; exact hn.1
 | d :: cs,i+1,c,hn,h=>by simp [noRefs] at hn h; exact QQ hn.2 h
/-- What the world keeps for the values: frozen blocks as they lie,rows of the call's own at their sizes. -/
structure Evo (C:Ctx) (Z Z':Nat→Prop) (w w':World):Prop where
 zsub:∀ b,Z b→Z' b
 same:∀ b,Z b→w'.heap[b]?=w.heap[b]?
 rows:∀ k blk o arr e,C.β k=.loc blk o→w.heap[blk]?=some (.cells arr e (0,0))→∃ arr',w'.heap[blk]?=some (.cells arr' e (0,0))∧arr'.size=arr.size
theorem Xu {w w':World} {a:Addr} (h:w'.heap[a.block]?=w.heap[a.block]?):w'.cell? a=w.cell? a:=by
 unfold World.cell?; rw [h]
theorem VR.mono {C:Ctx} {Z Z':Nat→Prop} {w w':World} {v:AV} {c:Value} (h:VR Z w C v c) (he:Evo C Z Z' w w'):VR Z' w' C v c:=by
 have key:∀ {C₁ v c},VR Z w C₁ v c→(∀ k blk o,C₁.β k=.loc blk o→C.β k=.loc blk o)→VR Z' w' C₁ v c:=by
  intro C₁ v c h
  induction h with
  | bool b=>exact fun _=>.bool b
  | int k n=>exact fun _=>.int k n
  | nilPtr=>exact fun _=>.nilPtr
  | ptr hg ho h=>exact fun _=>.ptr hg ho h
  | rptr cv hz hc hk hr ih =>
   intro hC
   exact .rptr cv (he.zsub _ hz) (fun i hi=>(Xu (he.same _ hz)).trans (hc i hi)) hk (fun i c hi=>ih i c hi (fun k blk o hb=>by simp [C0] at hb))
  | nilSl=>exact fun _=>.nilSl
  | @sl C₁ k g off len sz c hg ho h =>
   intro hC
   refine .sl hg ho fun e=>?_
   have h1:=h e
   cases hb:C₁.β k with
   | absent=>simp [SlOk,hb] at h1
   | unborn=>simp only [SlOk,hb] at h1 ⊢; exact h1
   | loc blk o =>
    simp only [SlOk,hb] at h1 ⊢
    obtain ⟨a,cap,h2,h3,h4,arr,e',h5,h6⟩:=h1
    obtain ⟨arr',h7,h8⟩:=he.rows k blk o arr e' (hC _ _ _ hb) h5
    exact ⟨a,cap,h2,h3,h4,arr',e',h7,by omega⟩
  | rsl cv hz hl hc hk hr ih =>
   intro hC
   exact .rsl cv (he.zsub _ hz) hl (fun i hi=>(Xu (he.same _ hz)).trans (hc i hi)) hk (fun i c hi=>ih i c hi (fun k blk o hb=>by simp [C0] at hb))
  | rsl0=>exact fun _=>.rsl0
  | agg hl h ih=>exact fun hC=>.agg hl fun i c v h1 h2=>ih i c v h1 h2 hC
  | tup hl h ih=>exact fun hC=>.tup hl fun i c v h1 h2=>ih i c v h1 h2 hC
  | clos hl h hl' h' ih ih'=>exact fun hC=>.clos hl (fun i c v h1 h2=>ih i c v h1 h2 hC) hl' (fun i c v h1 h2=>ih' i c v h1 h2 hC)
  | nilFunc=>exact fun _=>.nilFunc
  | opq v=>exact fun _=>.opq v
  | junk v=>exact fun _=>.junk v
  | mp hg ho h=>exact fun _=>.mp hg ho h
  | rmap es hz hh hl hb hr ih=>exact fun _=>.rmap es (he.zsub _ hz) ((he.same _ hz).trans hh) hl hb fun i c e h1 h2=>ih i c e h1 h2 (fun k blk o hb=>by simp [C0] at hb)
  | pm cv hz hc hk hr hcm hv ih ihv =>
   intro hC
   exact .pm cv (he.zsub _ hz) (fun i hi=>(Xu (he.same _ hz)).trans (hc i hi)) hk (fun i c hi=>ih i c hi (fun k blk o hb=>by simp [C0] at hb)) ((Xu (he.same _ hz)).trans hcm) (ihv hC)
  | ifc h ih=>exact fun hC=>.ifc (ih hC)
 exact key h fun _ _ _ hb=>hb
/-- Values without a reference into a block of the call's own mean the same in every context. -/
theorem VR.ctx {C C':Ctx} {Z:Nat→Prop} {w:World} {v:AV} {c:Value} (h:VR Z w C v c) (hn:Xf v=true):VR Z w C' v c:=by
 induction h with
 | bool b=>exact .bool b
 | int k n=>exact .int k n
 | nilPtr=>exact .nilPtr
 | ptr hg ho h=>simp [Xf] at hn
 | rptr cv hz hc hk hr ih=>exact .rptr cv hz hc hk hr
 | nilSl=>exact .nilSl
 | sl hg ho h=>simp [Xf] at hn
 | rsl cv hz hl hc hk hr ih=>exact .rsl cv hz hl hc hk hr
 | rsl0=>exact .rsl0
 | agg hl h ih=>exact .agg hl fun i c v h1 h2=>ih i c v h1 h2 (QQ (by simpa [Xf] using hn) h1)
 | tup hl h ih=>exact .tup hl fun i c v h1 h2=>ih i c v h1 h2 (QQ (by simpa [Xf] using hn) h1)
 | clos hl h hl' h' ih ih' =>
  simp only [Xf,Bool.and_eq_true] at hn
  exact .clos hl (fun i c v h1 h2=>ih i c v h1 h2 (QQ hn.1 h1)) hl' (fun i c v h1 h2=>ih' i c v h1 h2 (QQ hn.2 h1))
 | nilFunc=>exact .nilFunc
 | opq v=>exact .opq v
 | junk v=>exact .junk v
 | mp hg ho h=>simp [Xf] at hn
 | rmap es hz hh hl hb hr ih=>exact .rmap es hz hh hl hb hr
 | pm cv hz hc hk hr hcm hv ih ihv=>simp [Xf] at hn
 | ifc h ih=>exact .ifc (ih (by simpa [Xf] using hn))
/-- What holds in the empty context holds in each. -/
theorem VR.of0 {C:Ctx} {Z:Nat→Prop} {w:World} {v:AV} {c:Value} (h:VR Z w C0 v c):VR Z w C v c:=by
 have key:∀ {C₁ v c},VR Z w C₁ v c→C₁=C0→VR Z w C v c:=by
  intro C₁ v c h
  induction h with
  | bool b=>exact fun _=>.bool b
  | int k n=>exact fun _=>.int k n
  | nilPtr=>exact fun _=>.nilPtr
  | ptr hg ho h=>rintro rfl; obtain ⟨_,_,hb,_⟩:=h (by simp [C0] at hg ⊢; exact hg); simp [C0] at hb
  | rptr cv hz hc hk hr ih=>exact fun _=>.rptr cv hz hc hk hr
  | nilSl=>exact fun _=>.nilSl
  | sl hg ho h=>rintro rfl; have:=h (by simp [C0] at hg ⊢; exact hg); simp [SlOk,C0] at this
  | rsl cv hz hl hc hk hr ih=>exact fun _=>.rsl cv hz hl hc hk hr
  | rsl0=>exact fun _=>.rsl0
  | agg hl h ih=>exact fun e=>.agg hl fun i c v h1 h2=>ih i c v h1 h2 e
  | tup hl h ih=>exact fun e=>.tup hl fun i c v h1 h2=>ih i c v h1 h2 e
  | clos hl h hl' h' ih ih'=>exact fun e=>.clos hl (fun i c v h1 h2=>ih i c v h1 h2 e) hl' (fun i c v h1 h2=>ih' i c v h1 h2 e)
  | nilFunc=>exact fun _=>.nilFunc
  | opq v=>exact fun _=>.opq v
  | junk v=>exact fun _=>.junk v
  | mp hg ho h=>rintro rfl; obtain ⟨_,_,hb,_⟩:=h (by simp [C0] at hg ⊢; exact hg); simp [C0] at hb
  | rmap es hz hh hl hb hr ih=>exact fun _=>.rmap es hz hh hl hb hr
  | pm cv hz hc hk hr hcm hv ih ihv=>exact fun e=>.pm cv hz hc hk hr hcm (ihv e)
  | ifc h ih=>exact fun e=>.ifc (ih e)
 exact key h rfl
/-- A context that goes on: what was current and lies where it lay,or has a new generation. -/
structure CtxLe (C C':Ctx):Prop where
 gen:∀ k,C.γ k≤C'.γ k
 pos:∀ k,C.β k ≠ .absent→C'.γ k=C.γ k→C'.β k=C.β k
theorem CtxLe.refl (C:Ctx):CtxLe C C:=⟨fun _=>Nat.le_refl _,fun _ _ _=>rfl⟩
theorem VR.grow {C C':Ctx} {Z:Nat→Prop} {w:World} {v:AV} {c:Value} (h:VR Z w C v c) (hc:CtxLe C C'):VR Z w C' v c:=by
 have key:∀ {C₁ v c},VR Z w C₁ v c→C₁=C→VR Z w C' v c:=by
  intro C₁ v c h
  induction h with
  | bool b=>exact fun _=>.bool b
  | int k n=>exact fun _=>.int k n
  | nilPtr=>exact fun _=>.nilPtr
  | @ptr C₁ k g off c hg ho hh =>
   rintro rfl
   refine .ptr (Nat.le_trans hg (hc.gen k)) ho fun e=>?_
   have e1:g=C₁.γ k:=by have:=hc.gen k; omega
   obtain ⟨blk,o,hb,hv⟩:=hh e1
   exact ⟨blk,o,by rw [hc.pos k (by rw [hb]; simp) (by omega),hb],hv⟩
  | rptr cv hz hc' hk hr ih=>exact fun _=>.rptr cv hz hc' hk hr
  | nilSl=>exact fun _=>.nilSl
  | @sl C₁ k g off len sz c hg ho hh =>
   rintro rfl
   refine .sl (Nat.le_trans hg (hc.gen k)) ho fun e=>?_
   have e1:g=C₁.γ k:=by have:=hc.gen k; omega
   have h1:=hh e1
   unfold SlOk at h1 ⊢
   rw [hc.pos k (by intro hb; simp [hb] at h1) (by omega)]
   exact h1
  | rsl cv hz hl hc' hk hr ih=>exact fun _=>.rsl cv hz hl hc' hk hr
  | rsl0=>exact fun _=>.rsl0
  | agg hl h ih=>exact fun e=>.agg hl fun i c v h1 h2=>ih i c v h1 h2 e
  | tup hl h ih=>exact fun e=>.tup hl fun i c v h1 h2=>ih i c v h1 h2 e
  | clos hl h hl' h' ih ih'=>exact fun e=>.clos hl (fun i c v h1 h2=>ih i c v h1 h2 e) hl' (fun i c v h1 h2=>ih' i c v h1 h2 e)
  | nilFunc=>exact fun _=>.nilFunc
  | opq v=>exact fun _=>.opq v
  | junk v=>exact fun _=>.junk v
  | @mp C₁ k g it c hg ho hh =>
   rintro rfl
   refine .mp (Nat.le_trans hg (hc.gen k)) ho fun e=>?_
   have e1:g=C₁.γ k:=by have:=hc.gen k; omega
   obtain ⟨blk,o,hb,hv⟩:=hh e1
   exact ⟨blk,o,by rw [hc.pos k (by rw [hb]; simp) (by omega),hb],hv⟩
  | rmap es hz hh hl hb hr ih=>exact fun _=>.rmap es hz hh hl hb hr
  | pm cv hz hc' hk hr hcm hv ih ihv=>exact fun e=>.pm cv hz hc' hk hr hcm (ihv e)
  | ifc h ih=>exact fun e=>.ifc (ih e)
 exact key h rfl
/-! ### Blocks -/
structure Blk where
 live:Bool
 gen:Nat
 sz:Nat
 flat:Bool
 cells:List AV
 grow:Bool
/-- An object that is no row of cells: a map's entries,or an iterator (the map,how many entries there were,and which it has met). -/
def XK (C:Ctx) (Z:Nat→Prop) (w:World) (flat:Bool) (cells:List AV) (ob:Obj):Prop :=
 if flat then ∃ es,ob=.map es es.size∧cells.length=es.size∧(∀ (i:Nat) (e:MapEntry),es[i]?=some e→e.born=i)∧∀ (i:Nat) (c:AV) (e:MapEntry),cells[i]?=some c→es[i]?=some e→VR Z w C0 c (.func (.func 0) #[e.key] #[e.val])
 else ∃ (m n:Nat) (seen:Array Nat),ob=.mapIter (some m) n seen n∧cells.length=seen.size+2∧(∃ c,cells[0]?=some c∧VR Z w C c (.map (some m)))∧cells[1]?=some (.int .i64 n)∧∀ (i s:Nat),seen[i]?=some s→cells[i+2]?=some (.int .i64 s)
theorem XK.next {C C':Ctx} {Z Z':Nat→Prop} {w w':World} {flat:Bool} {cells:List AV} {ob:Obj} (h:XK C Z w flat cells ob)
 (h0:∀ c v,VR Z w C0 c v→VR Z' w' C0 c v) (h1:∀ c v,c ∈ cells→VR Z w C c v→VR Z' w' C' c v):XK C' Z' w' flat cells ob:=by
 unfold XK at *
 split
 · rename_i hf
   rw [if_pos hf] at h
   obtain ⟨es,a,b,q,c⟩:=h
   exact ⟨es,a,b,q,fun i x e hx he=>h0 _ _ (c i x e hx he)⟩
 · rename_i hf
   rw [if_neg hf] at h
   obtain ⟨m,n,seen,a,b,⟨c,c1,c2⟩,d,e⟩:=h
   exact ⟨m,n,seen,a,b,⟨c,c1,h1 _ _ (List.mem_of_getElem? c1) c2⟩,d,e⟩
def QaN (C:Ctx) (Z:Nat→Prop) (w:World) (blk o:Nat) (b:Blk):Prop :=
 (b.sz ≠ 0∧∃ arr e,w.heap[blk]?=some (.cells arr e (0,0))∧o+b.cells.length≤arr.size ∧
   ∀ (i:Nat) (c:AV),b.cells[i]?=some c→∃ v,arr[o+i]?=some v∧VR Z w (if b.flat then C0 else C) c v) ∨
 (b.sz=0∧∃ ob,w.heap[blk]?=some ob∧XK C Z w b.flat b.cells ob)
def yL (C:Ctx) (Z:Nat→Prop) (w:World) (k:Nat) (b:Blk):Prop :=
 b.live=true→(∀ (i:Nat) (c:AV),b.cells[i]?=some c→Xd c=true) ∧
 match C.β k with
 | .loc blk o=>QaN C Z w blk o b
 | .unborn=>b.cells=[]
 | .absent=>False
theorem QaN.cells {C : Ctx} {Z : Nat → Prop} {w : World} {blk o : Nat} {b : Blk} (h : QaN C Z w blk o b) (hz : b.sz ≠ 0) : ∃ arr e, w.heap[blk]? = some (.cells arr e (0, 0)) ∧ o + b.cells.length ≤ arr.size ∧
      ∀ (i : Nat) (c : AV), b.cells[i]? = some c → ∃ v, arr[o + i]? = some v ∧ VR Z w (if b.flat then C0 else C) c v :=
  h.elim (fun h => h.2) fun h => absurd h.1 hz

/-- An object's block,where its row lies on. -/
theorem QaN.next {C C':Ctx} {Z Z':Nat→Prop} {w w':World} {blk o:Nat} {b:Blk} (h:QaN C Z w blk o b) (hh:w'.heap[blk]?=w.heap[blk]?)
 (h0:∀ c v,VR Z w C0 c v→VR Z' w' C0 c v) (h1:b.flat=false→∀ c v,c ∈ b.cells→VR Z w C c v→VR Z' w' C' c v):QaN C' Z' w' blk o b:=by
 rcases h with ⟨hz,arr,e,r1,r2,r3⟩ | ⟨hz,ob,r1,r2⟩
 · refine .inl ⟨hz,arr,e,by rw [hh]; exact r1,r2,fun i c hc=>?_⟩
   obtain ⟨v,s1,s2⟩:=r3 i c hc
   refine ⟨v,s1,?_⟩
   cases hf:b.flat with
   | true=>simp only [hf,if_true] at s2 ⊢; exact h0 _ _ s2
   | false=>simp only [hf,Bool.false_eq_true,if_false] at s2 ⊢; exact h1 hf _ _ (List.mem_of_getElem? hc) s2
 · refine .inr ⟨hz,ob,by rw [hh]; exact r1,?_⟩
   cases hf:b.flat with
   | true =>
    simp only [hf,XK,if_true] at r2 ⊢
    obtain ⟨es,a,b',q,c⟩:=r2
    exact ⟨es,a,b',q,fun i x e hx he=>h0 _ _ (c i x e hx he)⟩
   | false=>rw [hf] at r2; exact r2.next h0 (h1 hf)
/-- What of the world at the call's beginning is left as it was. -/
structure Fr (w0:World) (M:Nat→Prop) (w:World):Prop where
 os:w.os=w0.os
 tape:w.tape=w0.tape
 output:w.output=w0.output
 size:w0.heap.size≤w.heap.size
 dr:w0.drawn≤w.drawn
 same:∀ b,b<w0.heap.size→¬ M b→w.heap[b]?=w0.heap[b]?
theorem Fr.refl (w:World) (M:Nat→Prop):Fr w M w:=⟨rfl,rfl,rfl,Nat.le_refl _,Nat.le_refl _,fun _ _ _=>rfl⟩
structure Mem (Z0 M:Nat→Prop) (w0:World) (C:Ctx) (Z:Nat→Prop) (blks:List Blk) (w:World):Prop where
 blk:∀ (k:Nat) (b:Blk),blks[k]?=some b→yL C Z w k b
 gen:∀ (k:Nat) (b:Blk),blks[k]?=some b→C.γ k=b.gen
 dd:∀ (k:Nat) (b:Blk),blks[k]?=some b→b.live=false→C.β k=.absent
 dom:∀ k,blks.length≤k→C.β k=.absent∧C.γ k=0
 inj:∀ k k' b o o',C.β k=.loc b o→C.β k'=.loc b o'→k=k'
 own:∀ k b o,C.β k=.loc b o→b<w.heap.size∧¬ Z b∧(M b ∨ w0.heap.size≤b)
 zlt:∀ b,Z b→b<w.heap.size
 z0:∀ b,Z0 b→Z b
 zsub:∀ b,Z b→Z0 b ∨ M b ∨ w0.heap.size≤b
 frame:Fr w0 M w
structure St where
 tmps:List AV
 blks:List Blk
def mark (D:Nat):Deferred:={ target:=.collected D,args:=#[] }
/-- Marks and deferred calls,one among the other. -/
inductive Mix:List Deferred→List Nat→List Deferred→Prop
 | nil:Mix [] [] []
 | mk {df:List Deferred} {Ds:List Nat} {ds:List Deferred} (D:Nat):Mix df Ds ds→Mix df (D :: Ds) (mark D :: ds)
 | df {df:List Deferred} {Ds:List Nat} {ds:List Deferred} (d:Deferred):Mix df Ds ds→Mix (d :: df) Ds (d :: ds)
theorem Mix.eq {df:List Deferred} {Ds:List Nat} {ds:List Deferred} (h:Mix df Ds ds):df=[]→ds=Ds.map mark:=by
 induction h with
 | nil=>intro _; rfl
 | mk D _ ih=>intro e; rw [ih e]; rfl
 | df d _ _=>intro e; cases e
/-- The marks that ranges over functions have left: their blocks hold no deferred call; 'df': what the function itself has deferred. -/
def Marks (df:List Deferred) (Z M:Nat→Prop) (w0:World) (ds:List Deferred) (w:World):Prop :=
 ∃ Ds:List Nat,Ds.Nodup∧Mix df Ds ds∧∀ D ∈ Ds,Z D∧(M D ∨ w0.heap.size≤D)∧w.heap[D]?=some (.deferred (some []))
/-- How the call's memory stands to what it was handed: 'Cb' is where that lay at the beginning. -/
structure Base (Cb:Ctx) (w0:World) (C:Ctx) (w:World):Prop where
 le:CtxLe Cb C
 rows:∀ k blk o arr e,Cb.β k=.loc blk o→C.γ k=Cb.γ k→w0.heap[blk]?=some (.cells arr e (0,0))→∃ arr',w.heap[blk]?=some (.cells arr' e (0,0))∧arr'.size=arr.size
theorem Base.bot {w0 w:World} {C:Ctx}:Base C0 w0 C w:=⟨⟨fun _=>Nat.zero_le _,fun _ h=>absurd rfl h⟩,fun k blk o arr e h=>by simp [C0] at h⟩
theorem Base.refl {w:World} {C:Ctx}:Base C w C w:=⟨.refl C,fun _ _ _ arr _ _ _ h=>⟨arr,h,rfl⟩⟩
theorem Base.next {Cb C C':Ctx} {w0 w w':World} {Z Z':Nat→Prop} (h:Base Cb w0 C w) (hle:CtxLe C C') (he:Evo C Z Z' w w'):Base Cb w0 C' w':=by
 refine ⟨⟨fun k=>Nat.le_trans (h.le.gen k) (hle.gen k),fun k p q=>?_⟩,fun k blk o arr e p q r=>?_⟩
 · have e1:=h.le.gen k
   have e2:=hle.gen k
   have e3:C.γ k=Cb.γ k:=by omega
   rw [hle.pos k (by rw [h.le.pos k p e3]; exact p) (by omega),h.le.pos k p e3]
 · have e1:=h.le.gen k
   have e2:=hle.gen k
   have e3:C.γ k=Cb.γ k:=by omega
   obtain ⟨arr1,a1,a2⟩:=h.rows k blk o arr e p e3 r
   have hb:C.β k=.loc blk o:=by rw [h.le.pos k (by rw [p]; simp) e3,p]
   obtain ⟨arr2,b1,b2⟩:=he.rows k blk o arr1 e hb a1
   exact ⟨arr2,b1,by omega⟩
structure Rel (df:List Deferred) (Z0 M:Nat→Prop) (w0:World) (gA:List AV) (gV:List Value) (Cb:Ctx) (wb:World) (C:Ctx) (Z:Nat→Prop) (st:St) (a:Act) (w:World):Prop where
 tmp:VRs Z w C st.tmps a.tmps.toList
 mem:Mem Z0 M w0 C Z st.blks w
 marks:Marks df Z M w0 a.defers w
 gh:VRs Z w C gA gV
 base:Base Cb wb C w
def Js (n:Nat):List AV:=List.replicate n J
def jj (n:Nat) (l:List AV):List AV:=List.replicate n J++l
end Ax
namespace Ax
open Go
/-- What a path through the code is told: the outcome of a test,a callee's result,a loaded value,and so on. -/
inductive EV where
 | b (x:Bool)
 | v (x:AV)
 | vn (x:AV)
 | ld (x:AV)
 | auto
 | wrap
 | nowrap
 | cs (cs:List AV)
 | stop
 | hold (n:Nat)
 | fz
 | frz (k n:Nat)
 | wt (t:Nat)
 | lent (ρ:List Nat) (res:AV) (bs:List Blk)
 | mfound (i:Nat) (v:AV)
 | mnone
 | ment (i:Nat) (k v:AV)
 | flat (k:Nat)
 | tail (n:Nat)
 | soft (n i j:Nat)
 | cutr (k:Nat) (S T:List AV)
 | mup (i:Nat) (v:AV)
 | born
 | reb (k:Nat)
inductive Eff where
 | val (v:AV)
 | new (b:Blk) (mk:Nat→AV)
 | upd (k:Nat) (b:Blk) (v:AV)
/-- A reader of the call's own blocks. -/
inductive Rd (α:Type) where
 | ok (a:α)
 | fail
 | get (k:Nat) (f:Blk→Rd α)
def Rd.run {α:Type} (gb:Nat→Option Blk):Rd α→Option α
 | .ok a=>some a
 | .fail=>none
 | .get k f=>match gb k with
  | some b=>(f b).run gb
  | none=>none
def Rd.log {α:Type} (gb:Nat→Option Blk):Rd α→List Nat
 | .ok _=>[]
 | .fail=>[]
 | .get k f=>match gb k with
  | some b=>k :: (f b).log gb
  | none=>[]
def Rd.bind {α β:Type}:Rd α→(α→Rd β)→Rd β
 | .ok a,g=>g a
 | .fail,_=>.fail
 | .get k f,g=>.get k fun b=>(f b).bind g
def AllP:List Prop→Prop
 | []=>True
 | p :: ps=>p∧AllP ps
theorem Qj {a b:List Prop}:AllP (a++b) ↔ AllP a∧AllP b:=by
 induction a with
 | nil=>simp [AllP]
 | cons p ps ih=>simp [AllP,ih,and_assoc]
abbrev R:=Rd (Eff × List EV × List Prop)
def okv (v:AV) (evs:List EV) (obs:List Prop):R:=.ok (.val v,evs,obs)
def InR:IntKind→Int→Prop
 | .i64,n=>-9223372036854775808≤n∧n≤9223372036854775807
 | k,n=>k.min≤n∧n≤k.max
def ofV1:Value→AV
 | .bool b=>.bool b
 | .int k n=>.int k n
 | .pointer none=>.nilPtr
 | .slice none 0 0=>.nilSl
 | .nilFunc=>.nilFunc
 | v=>.opq v
def ofV:Value→AV
 | .func (.func f) ⟨[]⟩ ⟨[]⟩=>.clos f [] []
 | .agg cs=>.agg (cs.toList.map ofV1)
 | v=>ofV1 v
def XE:AV→List AV
 | .agg cs=>cs
 | v=>[v]
def QZ (cs:List AV):Bool:=cs.all Xd
def Xe (P:Program) (t:TypeId):Option Bool :=
 match P.underlying t with
 | some (.struct _)=>some true
 | some (.array _ _)=>some true
 | some _=>some false
 | none=>none
def szT (P:Program) (t:TypeId):Option Nat:=(P.info? t).map (·.size)
def takeN (cells:List AV) (off n:Nat):Option (List AV) :=
 let r:=(cells.drop off).take n
 if r.length == n then some r else none
def mkVal (ag:Bool) (cs:List AV):Option AV :=
 match ag,cs with
 | true,cs=>some (.agg cs)
 | false,[c]=>some c
 | _,_=>none
def shapeOk (ag:Bool):AV→Bool
 | .agg _=>ag
 | _=>!ag
/-- The value that a load gives: told,or taken out of what lies there. -/
def ldv (ag:Bool) (n:Nat) (cells:List AV) (off:Nat):List EV→Option (AV × List EV × List Prop)
 | .ld x :: r=>if (XE x).length == n && QZ (XE x) && shapeOk ag x then some (x,r,[(cells.drop off).take n=XE x]) else none
 | .auto :: r=>(takeN cells off n).bind fun cs=>(mkVal ag cs).map fun v=>(v,r,[])
 | r=>(takeN cells off n).bind fun cs=>(mkVal ag cs).map fun v=>(v,r,[])
def Qv (cells:List AV) (off:Nat):List AV→List AV
 | []=>cells
 | v :: vs=>Qv (cells.set off v) (off+1) vs
def newBox (cs:List AV):List EV→R
 | .vn .junk :: evs=>if QZ cs && noRefs cs then .ok (.new ⟨false,1,1,true,[],false⟩ (fun _=>.rptr cs 0),evs,[]) else .fail
 | .vn .nilFunc :: evs=>(match cs.getLast? with
  | some (.mp k g false)=>if QZ cs && noRefs cs.dropLast then .ok (.new ⟨false,1,1,true,[],false⟩ (fun _=>.pm cs.dropLast k g 0),evs,[]) else .fail
  | _=>.fail)
 | .born :: evs=>if QZ cs && noRefs cs then .ok (.new ⟨true,0,1,true,cs,true⟩ (fun k=>.ptr k 0 0),evs,[]) else .fail
 | .reb k :: evs=>.get k fun b=>if b.live && (QZ cs && noRefs cs) then .ok (.upd k ⟨true,b.gen+1,1,true,cs,true⟩ (.ptr k (b.gen+1) 0),evs,[]) else .fail
 | evs=>if QZ cs then .ok (.new ⟨true,0,1,noRefs cs,cs,false⟩ (fun k=>.ptr k 0 0),evs,[]) else .fail
/-- A reference has to be of the block's present generation. -/
def VL (b:Blk) (g:Nat) (f:List Prop→R):R :=
 match b.live,b.grow,b.sz with
 | true,true,_+1=>f [g=b.gen]
 | true,false,_+1=>if g == b.gen then f [] else .fail
 | _,_,_=>.fail
def arith (k:IntKind) (n:Int) (obs:List Prop):List EV→R
 | .wrap :: r=>okv (.int k (k.wrap n)) r obs
 | .nowrap :: r=>okv (.int k n) r (InR k n :: obs)
 | r=>okv (.int k n) r (InR k n :: obs)
/-- The cells' types of a type made of integers and bools alone, its parts one behind the other. -/
def qI (P : Program) (f : TypeId → Option (List (Option IntKind))) : List Field → Nat → Option (List (Option IntKind))
  | [], _ => some []
  | fd :: fs, off =>
    match f fd.type, szT P fd.type, Xe P fd.type with
    | some ts, some n, some _ => if fd.name == "_" || fd.offset != off || n != ts.length then none else (qI P f fs (off + n)).map (ts ++ ·)
    | _, _, _ => none

def Xr (P:Program):Nat→TypeId→Option (List (Option IntKind))
 | 0,_=>none
 | d+1,t =>
  match P.underlying t with
  | some .bool=>some [none]
  | some (.int k)=>some [some k]
  | some (.struct fs)=>if P.stoodInHeld t then none else qI P (Xr P d) fs.toList 0
  | some (.array n e)=>(Xr P d e).bind fun ts=>if szT P e == some ts.length then some (List.replicate n ts).flatten else none
  | _=>none
def QN:List (Option IntKind)→List AV→List AV→Option Bool
 | [],[],[]=>some true
 | some k :: ts,.int k1 x :: xs,.int k2 y :: ys=>if k1 == k && k2 == k then (QN ts xs ys).map fun r=>(x == y) && r else none
 | none :: ts,.bool x :: xs,.bool y :: ys=>(QN ts xs ys).map fun r=>(x == y) && r
 | _,_,_=>none
def binA (P:Program) (op:BinOp) (t:TypeId) (x y:AV) (evs:List EV):R :=
 match op,x,y with
 | .add,.int k a,.int k' b=>if k == k' then arith k (a+b) [] evs else .fail
 | .sub,.int k a,.int k' b=>if k == k' then arith k (a - b) [] evs else .fail
 | .mul,.int k a,.int k' b=>if k == k' then arith k (a*b) [] evs else .fail
 | .quo,.int k a,.int k' b=>if k == k' then arith k (a.tdiv b) [b ≠ 0] evs else .fail
 | .rem,.int k a,.int k' b=>if k == k' then okv (.int k (a.tmod b)) evs [b ≠ 0] else .fail
 | .and,.int k a,.int k' b=>if k == k' then okv (.int k (bits .and k a b)) evs [] else .fail
 | .or,.int k a,.int k' b=>if k == k' then okv (.int k (bits .or k a b)) evs [] else .fail
 | .xor,.int k a,.int k' b=>if k == k' then okv (.int k (bits .xor k a b)) evs [] else .fail
 | .andNot,.int k a,.int k' b=>if k == k' then okv (.int k (bits .andNot k a b)) evs [] else .fail
 | .shl,.int k a,.int _ b=>arith k (a*2 ^ b.toNat) [0≤b∧b≤k.bits] evs
 | .shr,.int k a,.int _ b=>okv (.int k (a / 2 ^ b.toNat)) evs [0≤b∧b≤k.bits]
 | .eql,.int k a,.int k' b=>if k == k' then okv (.bool (a == b)) evs [] else .fail
 | .neq,.int k a,.int k' b=>if k == k' then okv (.bool (a != b)) evs [] else .fail
 | .lss,.int k a,.int k' b=>if k == k' then okv (.bool (decide (a<b))) evs [] else .fail
 | .leq,.int k a,.int k' b=>if k == k' then okv (.bool (decide (a≤b))) evs [] else .fail
 | .gtr,.int k a,.int k' b=>if k == k' then okv (.bool (decide (a > b))) evs [] else .fail
 | .geq,.int k a,.int k' b=>if k == k' then okv (.bool (decide (a≥b))) evs [] else .fail
 | .eql,.bool a,.bool b=>(match P.underlying t with | some .bool=>okv (.bool (a == b)) evs [] | _=>.fail)
 | .neq,.bool a,.bool b=>(match P.underlying t with | some .bool=>okv (.bool (!(a == b))) evs [] | _=>.fail)
 | .eql,.agg xs,.agg ys=>if P.eqGuardType P.depth t || Xe P t != some true then .fail else (match (Xr P 20 t).bind fun ts=>QN ts xs ys with | some r=>okv (.bool r) evs [] | none=>.fail)
 | .neq,.agg xs,.agg ys=>if P.eqGuardType P.depth t || Xe P t != some true then .fail else (match (Xr P 20 t).bind fun ts=>QN ts xs ys with | some r=>okv (.bool (!r)) evs [] | none=>.fail)
 | .eql,.nilSl,.nilSl=>(match P.underlying t with | some (.slice _)=>okv (.bool true) evs [] | _=>.fail)
 | .neq,.nilSl,.nilSl=>(match P.underlying t with | some (.slice _)=>okv (.bool false) evs [] | _=>.fail)
 | .eql,.rptr _ _,.nilPtr=>(match P.underlying t with | some (.pointer _)=>okv (.bool false) evs [] | _=>.fail)
 | .neq,.rptr _ _,.nilPtr=>(match P.underlying t with | some (.pointer _)=>okv (.bool true) evs [] | _=>.fail)
 | .eql,.nilPtr,.nilPtr=>(match P.underlying t with | some (.pointer _)=>okv (.bool true) evs [] | _=>.fail)
 | .neq,.nilPtr,.nilPtr=>(match P.underlying t with | some (.pointer _)=>okv (.bool false) evs [] | _=>.fail)
 | .eql,.rsl _ _ n,.nilSl=>(match P.underlying t with | some (.slice _)=>okv (.bool false) evs [n ≠ 0] | _=>.fail)
 | .neq,.rsl _ _ n,.nilSl=>(match P.underlying t with | some (.slice _)=>okv (.bool true) evs [n ≠ 0] | _=>.fail)
 | _,_,_=>.fail
def unA (op:UnOp) (x:AV) (evs:List EV):R :=
 match op,x with
 | .not,.bool b=>okv (.bool (!b)) evs []
 | .neg,.int k n=>arith k (0 - n) [] evs
 | .xor,.int k n=>okv (.int k (bits .xor k (if k.signed then -1 else k.max) n)) evs []
 | _,_=>.fail
def iMax (x y:Int):Int:=if y > x then y else x
def iMin (x y:Int):Int:=if y<x then y else x
def Qaj (f:Int→Int→Int) (k:IntKind):Int→List AV→Option Int
 | n,[]=>some n
 | n,.int k' m :: r=>if k' == k then Qaj f k (f n m) r else none
 | _,_=>none
/-- The elements' cells of a slice that is read whole. -/
def WD (cells:List AV) (off n:Nat):List EV→Option (List AV × Bool × List EV × List Prop)
 | .cs x :: r=>some (x,true,r,[(cells.drop off).take n=x,x.length=n,noRefs x=true])
 | r=>(takeN cells off n).map fun c=>(c,noRefs c,r,[])
def Yl (P:Program) (t:TypeId):Option (List AV):=((P.info? t).bind (·.zero)).map fun z=>XE (ofV z)
/-- 'append': the destination nil or over a block of the call's own,read to the block's end. 'S': the cells that come in,'m' elements. -/
def appA (P:Program) (e sz:Nat) (dst:AV) (S:List AV) (nr:Bool) (m:Nat) (evs:List EV) (obs:List Prop):R :=
 if !(decide (P.bytesOf e≤65536)) || (Yl P e).map List.length != some sz || sz == 0 then .fail else
 match dst with
 | .nilSl=>.ok (.new ⟨true,0,sz,nr,S,true⟩ (fun k=>.sl k 0 0 m sz),evs,(m≤2147483648) :: obs)
 | .sl k g off len sz' =>
  if sz' != sz then .fail else
  .get k fun b=>match b.live,b.grow with
   | true,true =>
    if (b.flat && !nr) || b.sz == 0 then .fail else
    .ok (.upd k { b with gen:=b.gen+1,cells:=b.cells.drop off++S } (.sl k (b.gen+1) 0 (len+m) sz),evs,(g=b.gen) :: (off+len*sz=b.cells.length) :: (len+m≤2147483648) :: obs)
   | _,_=>.fail
 | _=>.fail
def yK (P:Program) (t:TypeId) (dst src:AV) (evs:List EV):R :=
 match P.underlying t with
 | some (.slice e) =>
  match szT P e with
  | some sz =>
   match src with
   | .nilSl=>appA P e sz dst [] true 0 evs []
   | .rsl row off m=>(match WD row off (m*sz) evs with
    | some (S,nr,evs,obs)=>appA P e sz dst S nr m evs obs
    | none=>.fail)
   | .sl k g off m sz'=>if sz' != sz then .fail else .get k fun b=>VL b g fun ob1 =>
    (match WD b.cells off (m*sz) evs with
    | some (S,nr,evs,obs)=>if b.flat || QZ S then appA P e sz dst S nr m evs (ob1++obs) else .fail
    | none=>.fail)
   | _=>.fail
  | none=>.fail
 | _=>.fail
def slOf (g k:Nat):AV→Bool
 | .sl k' g' _ _ _=>Nat.beq k k' && Nat.beq g' g
 | _=>false
def rslOf (cells:List AV):AV→AV
 | .sl _ _ off len _=>.rsl cells off len
 | v=>v
/-- What an 'append' gives,laid down: its block is no more the call's own. -/
def layA:Eff × List EV × List Prop→R
 | (.upd k b (.sl k' g off len _),evs,obs) =>
  (match b.live && b.sz != 0,b.flat,Nat.beq k k' with
  | true,true,true=>.ok (.upd k ⟨false,b.gen+1,b.sz,true,[],false⟩ (.rsl b.cells off len),evs,(g=b.gen) :: obs)
  | _,_,_=>.fail)
 | (.new b mk,evs,obs) =>
  (match b.live && b.sz != 0,b.flat with
  | true,true=>.ok (.new ⟨false,b.gen+1,b.sz,true,[],false⟩ (fun k=>rslOf b.cells (mk k)),evs,(∀ k,slOf b.gen k (mk k)=true) :: obs)
  | _,_=>.fail)
 | _=>.fail
def yJ (P:Program) (t:TypeId) (dst src:AV):List EV→R
 | .fz :: evs=>(yK P t dst src evs).bind layA
 | evs=>yK P t dst src evs
/-- A slice literal; told so,it is laid down at once. -/
def layN:R→R
 | .ok (.new b mk,evs,obs)=>layA (.new b mk,evs,obs)
 | _=>.fail
/-- A block that is a map or an iterator. -/
def QbX (b:Blk) (g:Nat) (fl:Bool) (r:R):R :=
 match b.live,b.sz,b.flat == fl,g == b.gen with
 | true,0,true,true=>r
 | _,_,_,_=>.fail
def qO (P:Program) (t:TypeId) (a b:AV):Option Bool :=
 match P.underlying t,a,b with
 | some (.int _),.int k1 x,.int k2 y=>if k1 == k2 then some (x == y) else none
 | some (.array _ _),.agg xs,.agg ys=>(Xr P 20 t).bind fun ts=>QN ts xs ys
 | some (.struct _),.agg xs,.agg ys=>(Xr P 20 t).bind fun ts=>QN ts xs ys
 | _,_,_=>none
def keyOk (P:Program) (t:TypeId) (k:AV):Bool :=
 match P.underlying t,k with
 | some (.int _),.int _ _=>true
 | some (.array _ _),.agg xs=>(match Xr P 20 t with | some ts=>xs.length == ts.length | none=>false)
 | some (.struct _),.agg xs=>(match Xr P 20 t with | some ts=>xs.length == ts.length | none=>false)
 | _,_=>false
/-- No entry has the key. -/
def Xw (P:Program) (t:TypeId) (k:AV) (cells:List AV):Prop:=∀ c ∈ cells,∃ k' v,c=.clos 0 [k'] [v]∧qO P t k k'=some false
/-- The entry at 'i' is the first that has it. -/
def XY (P:Program) (t:TypeId) (k:AV) (cells:List AV) (i:Nat) (v:AV):Prop:=∃ k',cells[i]?=some (.clos 0 [k'] [v])∧qO P t k k'=some true∧Xw P t k (cells.take i)
def Qce (P:Program) (t:TypeId) (evs:List EV):R :=
 match P.underlying t with
 | some (.map _ _)=>.ok (.new ⟨true,0,0,true,[],false⟩ (fun k=>.mp k 0 false),evs,[])
 | _=>.fail
def lookA (P:Program) (kt et:TypeId) (k:AV) (ok:Bool) (cells:List AV) (evs:List EV):R :=
 if !keyOk P kt k || !Xf k then .fail else
 match evs with
 | .mfound i v :: r=>okv (if ok then .tup [v,.bool true] else v) r [XY P kt k cells i v]
 | .mnone :: r=>(match (P.info? et).bind (·.zero) with
  | some z=>okv (if ok then .tup [ofV z,.bool false] else ofV z) r [Xw P kt k cells]
  | none=>.fail)
 | _=>.fail
def lookupA (P:Program) (t:TypeId) (x k:AV) (ok:Bool) (evs:List EV):R :=
 match P.underlying t,x with
 | some (.map kt et),.mp kk g false=>.get kk fun b=>QbX b g true (lookA P kt et k ok b.cells evs)
 | some (.map kt et),.rmap cells=>lookA P kt et k ok cells evs
 | _,_=>.fail
def qY (P:Program) (t:TypeId) (m k v:AV) (evs:List EV):R :=
 match P.underlying t,m with
 | some (.map kt _),.mp kk g false =>
  if !keyOk P kt k || !Xf k || !Xf v then .fail else
  .get kk fun b=>QbX b g true (match evs with
   | .mup i v0 :: r=>.ok (.upd kk { b with cells:=b.cells.set i (.clos 0 [k] [v]) } .junk,r,[XY P kt k b.cells i v0])
   | evs=>.ok (.upd kk { b with cells:=b.cells++[.clos 0 [k] [v]] } .junk,evs,[Xw P kt k b.cells]))
 | _,_=>.fail
def rangeA (P:Program) (t:TypeId) (x:AV) (evs:List EV):R :=
 match P.underlying t,x with
 | some (.map _ _),.mp kk g false=>.get kk fun b=>QbX b g true (.ok (.new ⟨true,0,0,false,[.mp kk g false,.int .i64 b.cells.length],false⟩ (fun k=>.mp k 0 true),evs,[]))
 | some (.map _ _),.rmap cells=>.ok (.new ⟨true,0,0,false,[.rmap cells,.int .i64 cells.length],false⟩ (fun k=>.mp k 0 true),evs,[])
 | _,_=>.fail
def Qas (it:Blk) (cells:List AV):List EV→R
 | .ment i k v :: r=>okv (.tup [k,v]) r [it.cells.getLast?=some (.int .i64 i),it.cells[1]?=some (.int .i64 cells.length),2<it.cells.length,cells[i]?=some (.clos 0 [k] [v])]
 | _=>.fail
def entryA (it:AV) (evs:List EV):R :=
 match it with
 | .mp kk g true=>.get kk fun (b:Blk)=>QbX b g false (match (b.cells[0]?:Option AV) with
  | some (.mp km gm false)=>.get km fun bm=>QbX bm gm true (Qas b bm.cells evs)
  | some (.rmap cells)=>Qas b cells evs
  | _=>.fail)
 | _=>.fail
def lenA (P:Program) (t:TypeId) (x:AV) (evs:List EV):R :=
 match P.underlying t,x with
 | some (.slice _),.nilSl=>okv (.int .i64 0) evs []
 | some (.slice _),.rsl _ _ n=>okv (.int .i64 n) evs []
 | some (.slice _),.sl k g _ n _=>.get k fun b=>VL b g fun ob=>okv (.int .i64 n) evs ob
 | some (.array n _),_=>okv (.int .i64 n) evs []
 | some (.map _ _),.mp kk g false=>.get kk fun b=>QbX b g true (okv (.int .i64 b.cells.length) evs [])
 | some (.map _ _),.rmap cells=>okv (.int .i64 cells.length) evs []
 | _,_=>.fail
def fieldA (P:Program) (s:TypeId) (x:AV) (f:Nat) (evs:List EV):R :=
 match P.underlying s with
 | some (.struct fs) =>
  match fs[f]? with
  | some fd =>
   match szT P fd.type with
   | some (_+1) =>
    match x with
    | .ptr k g off=>.get k fun b=>VL b g fun ob=>okv (.ptr k g (off+fd.offset)) evs ob
    | .rptr row off=>okv (.rptr row (off+fd.offset)) evs []
    | .pm row k g off=>okv (.pm row k g (off+fd.offset)) evs []
    | _=>.fail
   | _=>.fail
  | none=>.fail
 | _=>.fail
def partA (P:Program) (t:TypeId) (cs:List AV) (off:Nat):Option AV :=
 match Xe P t,szT P t with
 | some true,some n=>some (.agg ((cs.drop off).take n))
 | some false,some _=>cs[off]?
 | _,_=>none
def Qcs (P:Program) (s:TypeId) (x:AV) (f:Nat) (evs:List EV):R :=
 match P.underlying s,x with
 | some (.struct fs),.agg cs =>
  match (fs[f]?).bind fun fd=>partA P fd.type cs fd.offset with
  | some v=>okv v evs []
  | none=>.fail
 | _,_=>.fail
def indexA (P:Program) (t:TypeId) (x i:AV) (evs:List EV):R :=
 match P.underlying t,x,i with
 | some (.slice e),.sl k g off len sz,.int _ n=>(match szT P e with
  | some s=>if s == sz then .get k fun b=>VL b g fun ob=>okv (.ptr k g (off+n.toNat*s)) evs ((0≤n∧n<len) :: ob) else .fail
  | none=>.fail)
 | some (.slice e),.rsl row off len,.int _ n=>(match szT P e with
  | some s=>okv (.rptr row (off+n.toNat*s)) evs [0≤n∧n<len]
  | none=>.fail)
 | some (.array len e),.ptr k g off,.int _ n=>(match szT P e with
  | some s=>.get k fun b=>VL b g fun ob=>okv (.ptr k g (off+n.toNat*s)) evs ((0≤n∧n<len) :: ob)
  | none=>.fail)
 | some (.array len e),.rptr row off,.int _ n=>(match szT P e with
  | some s=>okv (.rptr row (off+n.toNat*s)) evs [0≤n∧n<len]
  | none=>.fail)
 | _,_,_=>.fail
def Qci (P:Program) (t:TypeId) (x i:AV) (evs:List EV):R :=
 match P.underlying t,x,i with
 | some (.array len e),.agg cs,.int _ n=>(match szT P e with
  | some s=>(match partA P e cs (n.toNat*s) with
   | some v=>okv v evs [0≤n∧n<len]
   | none=>.fail)
  | none=>.fail)
 | _,_,_=>.fail
def fillA (size:Nat→Option (Nat × Nat)) (cells:List AV):List (Nat × AV)→Option (List AV)
 | []=>some cells
 | (i,v) :: rest =>
  match size i with
  | some (off,n)=>if (XE v).length == n && decide (off+n≤cells.length) && QZ (XE v) then fillA size (Qv cells off (XE v)) rest else none
  | none=>none
def buildA (P:Program) (t:TypeId) (parts:List (Nat × AV)) (evs:List EV):R :=
 match Yl P t,P.underlying t with
 | some z,some (.struct fs) =>
  (match fillA (fun i=>(fs[i]?).bind fun f=>(szT P f.type).map fun n=>(f.offset,n)) z parts with
  | some cs=>if fs.toList.all (fun f=>(szT P f.type).isSome) && QZ z then okv (.agg cs) evs [] else .fail
  | none=>.fail)
 | some z,some (.array _ e) =>
  (match szT P e with
  | some n=>(match fillA (fun i=>some (i*n,n)) z parts with
   | some cs=>if QZ z then okv (.agg cs) evs [] else .fail
   | none=>.fail)
  | none=>.fail)
 | _,_=>.fail
def Vj (P:Program) (t:TypeId) (len:Nat) (parts:List (Nat × AV)) (evs:List EV):R :=
 match P.underlying t with
 | some (.slice e) =>
  (match szT P e,Yl P e with
  | some n,some z=>if z.length == n && QZ z && decide (len*n≤4096) && n != 0 then
   (match fillA (fun i=>some (i*n,n)) (List.replicate len z).flatten parts with
   | some cs=>.ok (.new ⟨true,0,n,noRefs cs,cs,true⟩ (fun k=>.sl k 0 0 len n),evs,[])
   | none=>.fail) else .fail
  | _,_=>.fail)
 | _=>.fail
def VY (P:Program) (t:TypeId) (len:Nat) (parts:List (Nat × AV)):List EV→R
 | .vn .junk :: evs=>layN (Vj P t len parts evs)
 | evs=>Vj P t len parts evs
def WL (P:Program) (t:TypeId) (l c:AV) (evs:List EV):R :=
 match P.underlying t,l,c with
 | some (.slice e),.int .i64 l,.int .i64 c =>
  (match szT P e,Yl P e with
  | some n,some z=>if z.length == n && QZ z && noRefs z && decide (P.bytesOf e≤65536) && n != 0 then
   .ok (.new ⟨true,0,n,true,(List.replicate c.toNat z).flatten,true⟩ (fun k=>.sl k 0 0 l.toNat n),evs,[0≤l∧l≤c∧c≤2147483648])
   else .fail
  | _,_=>.fail)
 | _,_,_=>.fail
def bnd (d:Nat):Option AV→Option (Nat × List Prop)
 | none=>some (d,[])
 | some (.int _ n)=>some (n.toNat,[0≤n])
 | some _=>none
/-- 'x[l:h]'; 'x[l:h:l]' gives a slice without room. -/
def sliceA (P:Program) (t:TypeId) (x:AV) (lo hi mx:Option AV) (evs:List EV):R :=
 match P.underlying t,x,mx with
 | some (.slice e),.rsl row off len,none =>
  (match szT P e,bnd 0 lo,bnd len hi with
  | some s,some (l,o1),some (h,o2)=>okv (.rsl row (off+l*s) (h - l)) evs ((l≤h) :: (h≤len) :: (o1++o2))
  | _,_,_=>.fail)
 | some (.slice e),.sl k g off len sz,none =>
  (match szT P e,bnd 0 lo,bnd len hi with
  | some s,some (l,o1),some (h,o2)=>if s != sz then .fail else .get k fun b=>VL b g fun ob=>okv (.sl k g (off+l*s) (h - l) sz) evs ((l≤h) :: (h≤len) :: (o1++o2++ob))
  | _,_,_=>.fail)
 | some (.slice e),.nilSl,none =>
  (match szT P e,bnd 0 lo,bnd 0 hi with
  | some _,some (l,o1),some (h,o2)=>okv .nilSl evs ((l≤h) :: (h≤0) :: (o1++o2))
  | _,_,_=>.fail)
 | some (.array n e),.ptr k g off,none =>
  (match szT P e,bnd 0 lo,bnd n hi with
  | some s,some (l,o1),some (h,o2)=>.get k fun b=>VL b g fun ob=>okv (.sl k g (off+l*s) (h - l) s) evs ((l≤h) :: (h≤n) :: (off+n*s≤b.cells.length) :: (o1++o2++ob))
  | _,_,_=>.fail)
 | some (.array n e),.rptr row off,none =>
  (match szT P e,bnd 0 lo,bnd n hi with
  | some s,some (l,o1),some (h,o2)=>okv (.rsl row (off+l*s) (h - l)) evs ((l≤h) :: (h≤n) :: (o1++o2))
  | _,_,_=>.fail)
 | some (.slice e),.rsl _ _ len,some (.int _ m) =>
  (match szT P e,bnd 0 lo,if hi.isSome then bnd len hi else none with
  | some s,some (l,o1),some (h,o2)=>.ok (.new ⟨true,0,s,true,[],true⟩ (fun k=>.sl k 0 0 0 s),evs,(l=h) :: (h≤len) :: (0≤m) :: (m.toNat=l) :: (o1++o2))
  | _,_,_=>.fail)
 | _,_,_=>.fail
def loadA (P:Program) (t:TypeId) (a:AV) (evs:List EV):R :=
 match Xe P t,szT P t,a with
 | some ag,some n,.rptr row off=>(match ldv ag n row off evs with
  | some (v,r,obs)=>okv v r obs
  | none=>.fail)
 | some ag,some n,.ptr k g off=>.get k fun b=>VL b g fun ob=>(match ldv ag n b.cells off evs with
  | some (v,r,obs)=>okv v r (ob++obs)
  | none=>.fail)
 | some ag,some n,.pm row k g off=>(match ldv ag n (row++[.mp k g false]) off evs with
  | some (v,r,obs)=>okv v r obs
  | none=>.fail)
 | _,_,_=>.fail
def storeA (P:Program) (t:TypeId) (a x:AV) (evs:List EV):R :=
 match szT P t,a with
 | some n,.ptr k g off =>
  let cs:=XE x
  if cs.length == n && QZ cs then
   .get k fun b=>VL b g fun ob=>.ok (.upd k { b with cells:=Qv b.cells off cs,flat:=b.flat && noRefs cs } .junk,evs,(off+n≤b.cells.length) :: ob)
  else .fail
 | _,_=>.fail
/-- The cells that 'copy' lays over a block's. -/
def Wo (k g off n sz:Nat) (S:List AV) (ob2:List Prop) (evs:List EV):R :=
 .get k fun b=>VL b g fun ob=>.ok (.upd k { b with cells:=Qv b.cells off S } (.int .i64 (n:Int)),evs,(off+n*sz≤b.cells.length) :: (n ≠ 0) :: (ob++ob2))
def copyA (P:Program) (t:TypeId) (dst src:AV) (evs:List EV):R :=
 match P.underlying t with
 | some (.slice e) =>
  match szT P e,dst with
  | some sz,.sl k g off len sz' =>
   if sz' != sz then .fail else
   match src with
   | .rsl row off2 m=>(match WD row off2 (Nat.min m len*sz) evs with
    | some (S,true,evs,obs)=>Wo k g off (Nat.min m len) sz S obs evs
    | _=>.fail)
   | .sl k2 g2 off2 m sz2=>if sz2 != sz then .fail else .get k2 fun b2=>VL b2 g2 fun ob2=>(match WD b2.cells off2 (Nat.min m len*sz) evs with
    | some (S,true,evs,obs)=>Wo k g off (Nat.min m len) sz S (ob2++obs) evs
    | _=>.fail)
   | _=>.fail
  | _,_=>.fail
 | _=>.fail
/-- 'copy' of no elements. -/
def copy0A (P:Program) (t:TypeId) (dst src:AV) (evs:List EV):R :=
 match P.underlying t with
 | some (.slice e) =>
  match szT P e,dst with
  | some _,.sl k g _ len _ =>
   (match src with
   | .rsl _ _ m=>.get k fun b=>VL b g fun ob=>okv (.int .i64 0) evs ((Nat.min m len=0) :: ob)
   | .sl k2 g2 _ m _=>.get k fun b=>VL b g fun ob=>.get k2 fun b2=>VL b2 g2 fun ob2=>okv (.int .i64 0) evs ((Nat.min m len=0) :: (ob++ob2))
   | _=>.fail)
  | _,_=>.fail
 | _=>.fail
def copyB (P:Program) (t:TypeId) (dst src:AV):List EV→R
 | .mnone :: r=>copy0A P t dst src r
 | r=>copyA P t dst src r
/-- Values as they are handed to a function that only reads: references are read through. -/
def frzL (f:AV→Rd (AV × List Prop)):List AV→Rd (List AV × List Prop)
 | []=>.ok ([],[])
 | c :: cs=>(f c).bind fun (c',o1)=>(frzL f cs).bind fun (cs',o2)=>.ok (c' :: cs',o1++o2)
def frzB (f:AV→Rd (AV × List Prop)) (b:Blk) (g:Nat) (k:List AV→List Prop→Rd (AV × List Prop)):Rd (AV × List Prop) :=
 match b.live,b.grow with
 | false,_=>.fail
 | true,gr =>
  if (!gr && !(g == b.gen)) || b.sz == 0 then .fail else
  let ob:=bif gr then [g=b.gen] else []
  if b.flat then k b.cells ob else (frzL f b.cells).bind fun (cs,o)=>k cs (ob++o)
def frz:Nat→AV→Rd (AV × List Prop)
 | 0,_=>.fail
 | n+1,v =>
  match v with
  | .ptr k g off=>.get k fun b=>frzB (frz n) b g fun cs ob=>.ok (.rptr cs off,ob)
  | .sl k g off len _=>.get k fun b=>frzB (frz n) b g fun cs ob=>.ok (.rsl cs off len,ob)
  | .agg cs=>(frzL (frz n) cs).bind fun (cs,ob)=>.ok (.agg cs,ob)
  | .tup cs=>(frzL (frz n) cs).bind fun (cs,ob)=>.ok (.tup cs,ob)
  | .clos f a c=>(frzL (frz n) a).bind fun (a,o1)=>(frzL (frz n) c).bind fun (c,o2)=>.ok (.clos f a c,o1++o2)
  | .mp k g it=>.get k fun b=>match b.live,b.sz,b.flat,it,g == b.gen with
   | true,0,true,false,true=>.ok (.rmap b.cells,[])
   | _,_,_,_,_=>.fail
  | .pm row _ _ off=>.ok (.rptr row off,[])
  | .ifc t v=>(frz n v).bind fun (v,ob)=>.ok (.ifc t v,ob)
  | v=>.ok (v,[])
mutual
def Yn:AV→Bool
 | .bool _ | .int _ _ | .nilPtr | .nilSl | .nilFunc=>true
 | .agg cs=>scalars cs
 | .tup cs=>scalars cs
 | _=>false
def scalars:List AV→Bool
 | []=>true
 | c :: cs=>Yn c && scalars cs
end
/-- Zx: what was frozen,and all that was made since. -/
def Zx (Z:Nat→Prop) (w w':World) (b:Nat):Prop:=Z b ∨ (w.heap.size≤b∧b<w'.heap.size)
/-- A function value that only reads what it is handed: called so,it gives this. -/
def Qc (P:Program) (fv:AV) (args:List AV) (res:AV):Prop :=
 ∀ (Z:Nat→Prop) (w:World) (cf:Value) (cargs:Array Value),(∀ b,Z b→b<w.heap.size)→VR Z w C0 fv cf→VRs Z w C0 args cargs.toList →
  ∃ (d:Deferred) (f:FuncId) (args':Array Value),(Deferred.ofValue cf cargs).run P w=.ok d w∧(invoke d.target d.args).run P w=.ok (.enter f args') w ∧
   Calls P f args' w fun e w'=>∃ v,e=.returned v∧VR (Zx Z w w') w' C0 res v∧Fr w (fun _=>False) w'
/-- The same where what comes back leads to new memory alone. -/
def Zn (w w':World) (b:Nat):Prop:=w.heap.size≤b∧b<w'.heap.size
def PureN (P:Program) (fv:AV) (args:List AV) (res:AV):Prop :=
 ∀ (Z:Nat→Prop) (w:World) (cf:Value) (cargs:Array Value),(∀ b,Z b→b<w.heap.size)→VR Z w C0 fv cf→VRs Z w C0 args cargs.toList →
  ∃ (d:Deferred) (f:FuncId) (args':Array Value),(Deferred.ofValue cf cargs).run P w=.ok d w∧(invoke d.target d.args).run P w=.ok (.enter f args') w ∧
   Calls P f args' w fun e w'=>∃ v,e=.returned v∧VR (Zn w w') w' C0 res v∧Fr w (fun _=>False) w'
/-- A slice over new memory that nobody else knows. -/
def NewSl (w w':World) (v:Value) (len sz:Nat) (cells:List AV):Prop :=
 (len=0∧cells=[]∧∃ a,v=.slice a 0 0) ∨
 ∃ blk o a cap arr e,v=.slice a len cap∧len≤cap∧(cap ≠ 0→a=some ⟨blk,o,none⟩)∧w.heap.size≤blk∧w'.heap[blk]?=some (.cells arr e (0,0))∧o+cap*sz≤arr.size∧o+cells.length≤arr.size ∧
  ∀ (i:Nat) (c:AV),cells[i]?=some c→Xd c=true∧∃ u,arr[o+i]?=some u∧∀ Z C,VR Z w' C c u
/-- A function value that only reads,and gives back a new slice. -/
def PureO (P:Program) (fv:AV) (args:List AV) (len sz:Nat) (cells:List AV):Prop :=
 ∀ (Z:Nat→Prop) (w:World) (cf:Value) (cargs:Array Value),(∀ b,Z b→b<w.heap.size)→VR Z w C0 fv cf→VRs Z w C0 args cargs.toList →
  ∃ (d:Deferred) (f:FuncId) (args':Array Value),(Deferred.ofValue cf cargs).run P w=.ok d w∧(invoke d.target d.args).run P w=.ok (.enter f args') w ∧
   Calls P f args' w fun e w'=>∃ v,e=.returned v∧NewSl w w' v len sz cells∧Fr w (fun _=>False) w'
/-- A function value that turns one block of the caller's,and no more. -/
def PureU (P:Program) (fv:AV) (args:List AV) (k:Nat) (b b':Blk) (res:AV):Prop :=
 ∀ (Z0 M:Nat→Prop) (w0 w:World) (C:Ctx) (Z:Nat→Prop) (blks:List Blk) (cf:Value) (cargs:Array Value),Mem Z0 M w0 C Z blks w→blks[k]?=some b→VR Z w C fv cf→VRs Z w C args cargs.toList →
  ∃ (d:Deferred) (f:FuncId) (args':Array Value),(Deferred.ofValue cf cargs).run P w=.ok d w∧(invoke d.target d.args).run P w=.ok (.enter f args') w ∧
   Calls P f args' w fun e w'=>∃ v,e=.returned v∧∃ (C':Ctx) (Z':Nat→Prop),CtxLe C C'∧Evo C Z Z' w w'∧Mem Z0 M w0 C' Z' (blks.set k b') w'∧VR Z' w' C' res v
def callA (P:Program) (fv:AV) (args:List AV) (evs:List EV):R :=
 match evs with
 | .v res :: r =>
  (frz 8 (pmW fv)).bind fun (fv',o1)=>(frzL (frz 8) (pmWs args)).bind fun (args',o2) =>
    if ((Xf (pmW fv) && noRefs (pmWs args)) || Yn res) && Xf res then okv res r (Qc P fv' args' res :: (o1++o2)) else .fail
 | .vn res :: r =>
  (frz 8 fv).bind fun (fv',o1)=>(frzL (frz 8) args).bind fun (args',o2) =>
    if Xf res then okv res r (PureN P fv' args' res :: (o1++o2)) else .fail
 | .lent [] (.sl 0 0 0 len sz) [⟨true,0,sz',true,cells,true⟩] :: r =>
  (frz 8 fv).bind fun (fv',o1)=>(frzL (frz 8) args).bind fun (args',o2) =>
    if sz == sz' && sz != 0 then .ok (.new ⟨true,0,sz,true,cells,true⟩ (fun k=>.sl k 0 0 len sz),r,PureO P fv' args' len sz cells :: (o1++o2)) else .fail
 | .lent [k] res [b'] :: r=>.get k fun b=>.ok (.upd k b' res,r,[PureU P fv args k b b' res])
 | _=>.fail
/-- A method of a type that is found without a path: its function,and whether it wants the pointer itself. -/
def methA (P:Program) (t:TypeId) (name:String):Option (FuncId × Bool) :=
 (P.info? t).bind fun i=>(i.methods.find? (·.name == name)).bind fun m=>bif m.path.isEmpty then m.func else none
/-- The receiver that such a method is handed. -/
def recvA (P:Program) (t:TypeId) (p:Bool) (v:AV):Rd AV :=
 match P.underlying t,p with
 | some (.pointer _),true=>.ok v
 | some (.pointer e),false=>(loadA P e v []).bind fun r=>match r with
  | (.val v',[],[])=>.ok v'
  | _=>.fail
 | _,_=>.fail
def Qcg (P:Program) (r:AV) (name:String) (args:List AV) (evs:List EV):R :=
 match r with
 | .ifc t v=>(match methA P t name with
  | some (f,p)=>(recvA P t p v).bind fun v'=>callA P (.clos f [] []) (v' :: args) evs
  | none=>.fail)
 | _=>.fail
def aop (P:Program) (o:Oper) (ev:Operand→AV) (evs:List EV):R :=
 match o.op with
 | .move x=>okv (ev x) evs []
 | .assign x=>okv (ev x) evs []
 | .pick c a b=>(match ev c with
  | .bool t=>okv (bif t then ev a else ev b) evs []
  | _=>.fail)
 | .alloc t=>(match Yl P t with
  | some cs=>newBox cs evs
  | none=>.fail)
 | .box _ x=>newBox (XE (ev x)) evs
 | .build t parts=>buildA P t (parts.toList.map fun p=>(p.1,ev p.2)) evs
 | .buildSlice t len parts=>VY P t len (parts.toList.map fun p=>(p.1,ev p.2)) evs
 | .load t a=>loadA P t (ev a) evs
 | .store t a x=>storeA P t (ev a) (ev x) evs
 | .nilCheck x=>(match ev x with
  | .rptr row off=>okv (.rptr row off) evs []
  | .pm row k g off=>okv (.pm row k g off) evs []
  | .clos f a c=>okv (.clos f a c) evs []
  | .ptr k g off=>.get k fun b=>VL b g fun ob=>okv (.ptr k g off) evs ob
  | _=>.fail)
 | .binOp op t x y _=>binA P op t (ev x) (ev y) evs
 | .unOp op _ x=>unA op (ev x) evs
 | .convert src dst x=>(match P.underlying src,P.underlying dst,ev x with
  | some _,some (.int k),.int _ n=>arith k n [] evs
  | _,_,_=>.fail)
 | .makeFunc (.func f) first cap=>okv (.clos f (first.toList.map ev) (cap.toList.map ev)) evs []
 | .makeSlice t l c=>WL P t (ev l) (ev c) evs
 | .slice t x lo hi mx=>sliceA P t (ev x) (lo.map ev) (hi.map ev) (mx.map ev) evs
 | .fieldAddr s x f=>fieldA P s (ev x) f evs
 | .field s x f=>Qcs P s (ev x) f evs
 | .indexAddr t x i=>indexA P t (ev x) (ev i) evs
 | .index t x i=>Qci P t (ev x) (ev i) evs
 | .makeMap t none=>Qce P t evs
 | .lookup t x i ok=>lookupA P t (ev x) (ev i) ok evs
 | .mapUpdate t m k x=>qY P t (ev m) (ev k) (ev x) evs
 | .insert t m k x=>qY P t (ev m) (ev k) (ev x) evs
 | .range t x=>rangeA P t (ev x) evs
 | .entry it=>entryA (ev it) evs
 | .makeInterface t x=>(match P.underlying t with
  | some (.interface _)=>.fail
  | some _=>okv (.ifc t (ev x)) evs []
  | none=>.fail)
 | .typeAssert x _ u false=>(match P.underlying u,ev x with
  | some (.interface _),_=>.fail
  | some _,.ifc t v=>if t == u then okv v evs [] else .fail
  | _,_=>.fail)
 | .extract t i=>(match ev t with
  | .tup vs=>(match vs[i]? with
   | some v=>okv v evs []
   | none=>.fail)
  | _=>.fail)
 | .call { callee:=.value f,args,argTypes:=_ }=>callA P (ev f) (args.toList.map ev) evs
 | .call { callee:=.invoke r name,args,argTypes:=_ }=>Qcg P (ev r) name (args.toList.map ev) evs
 | .call { callee:=.builtin b,args,argTypes } =>
  (match b,args.toList.map ev,argTypes.toList with
  | .len,[x],[t]=>lenA P t x evs
  | .append,[d,s],[t,u]=>(match P.underlying u with
   | some (.slice _)=>yJ P t d s evs
   | _=>.fail)
  | .copy,[d,s],t :: _=>copyB P t d s evs
  | .max,.int k n :: r,_=>(match Qaj iMax k n r with
   | some m=>okv (.int k m) evs []
   | none=>.fail)
  | .min,.int k n :: r,_=>(match Qaj iMin k n r with
   | some m=>okv (.int k m) evs []
   | none=>.fail)
  | _,_,_=>.fail)
 | _=>.fail
def XU (tmps:List AV):Operand→AV
 | .tmp t=>tmps.getD t .junk
 | .const v=>ofV v
 | .global _=>.junk
 | .func f=>.clos f [] []
end Ax
namespace Ax
open Go
theorem InR.wrap {k:IntKind} {n:Int} (h:InR k n):k.wrap n=n:=by
 cases k <;> simp only [InR,IntKind.min,IntKind.max,IntKind.signed,IntKind.bits] at h <;> simp only [IntKind.wrap,IntKind.signed,IntKind.bits] <;> simp at h ⊢ <;> omega
theorem Qp {gb:Nat→Option Blk} {v:AV} {evs:List EV} {obs:List Prop} {r:Eff × List EV × List Prop} (h:(okv v evs obs).run gb=some r):r=(.val v,evs,obs):=by
 simp [okv,Rd.run] at h; exact h.symm
section
variable {P:Program} {Z:Nat→Prop} {w:World} {C:Ctx} {gb:Nat→Option Blk} {evs:List EV} {eff:Eff} {evs':List EV} {obs:List Prop}
theorem Vk {k:IntKind} {n:Int} {ob:List Prop} (h:(arith k n ob evs).run gb=some (eff,evs',obs)) (ho:AllP obs) :
 eff=.val (.int k (k.wrap n))∧AllP ob:=by
 unfold arith at h
 split at h <;> have:=Qp h <;> simp only [Prod.mk.injEq] at this <;> obtain ⟨rfl,rfl,rfl⟩:=this
 · exact ⟨rfl,ho⟩
 · exact ⟨by rw [ho.1.wrap],ho.2⟩
 · exact ⟨by rw [ho.1.wrap],ho.2⟩
/-- What is asked of an operation that only computes. -/
def Yf (P:Program) (Z:Nat→Prop) (w:World) (C:Ctx) (eff:Eff) (s:Sem Value):Prop :=
 ∃ v c,eff=.val v∧s.run P w=.ok c w∧VR Z w C v c
theorem Yf.mk {v:AV} {c:Value} {s:Sem Value} (h:s.run P w=.ok c w) (hv:VR Z w C v c):Yf P Z w C (.val v) s:=⟨v,c,rfl,h,hv⟩
end
theorem QC {α:Type} {gb:Nat→Option Blk} {k:Nat} {f:Blk→Rd α} {r:α} (h:(Rd.get k f).run gb=some r):∃ b,gb k=some b∧(f b).run gb=some r:=by
 simp only [Rd.run] at h
 split at h
 · rename_i b hb; exact ⟨b,hb,h⟩
 · cases h
theorem QR {gb:Nat→Option Blk} {b:Blk} {g:Nat} {f:List Prop→R} {r:Eff × List EV × List Prop} (h:(VL b g f).run gb=some r) :
 b.live=true∧∃ ob,(f ob).run gb=some r∧(AllP ob→g=b.gen):=by
 unfold VL at h
 split at h
 · rename_i hl _ _; exact ⟨hl,_,h,fun h=>h.1⟩
 · rename_i hl _ _
   split at h
   · rename_i hg; exact ⟨hl,_,h,fun _=>by simpa using hg⟩
   · simp [Rd.run] at h
 · simp [Rd.run] at h
theorem WM {gb:Nat→Option Blk} {b:Blk} {g:Nat} {f:List Prop→R} {r:Eff × List EV × List Prop} (h:(VL b g f).run gb=some r):b.sz ≠ 0:=by
 unfold VL at h
 split at h
 · rename_i hz; rw [hz]; simp
 · rename_i hz; rw [hz]; simp
 · simp [Rd.run] at h
section
variable {P:Program} {Z0 M Z:Nat→Prop} {w0 w:World} {C:Ctx} {blks:List Blk} {evs:List EV} {eff:Eff} {evs':List EV} {obs:List Prop}
/-- A current reference: where it points. -/
theorem KG {k g off:Nat} {c:Value} (hm:Mem Z0 M w0 C Z blks w) {b:Blk} (hb:blks[k]?=some b) (hg:g=b.gen) (h:VR Z w C (.ptr k g off) c) :
 ∃ blk o,C.β k=.loc blk o∧c=.pointer (some ⟨blk,o+off,none⟩):=by
 cases h with
 | ptr h1 ho h2=>exact h2 (by rw [hm.gen k b hb,hg])
theorem KC {k g off len sz:Nat} {c:Value} (hm:Mem Z0 M w0 C Z blks w) {b:Blk} (hb:blks[k]?=some b) (hg:g=b.gen) (h:VR Z w C (.sl k g off len sz) c) :
 SlOk C w k off len sz c:=by
 cases h with
 | sl h1 ho h2=>exact h2 (by rw [hm.gen k b hb,hg])
theorem VR.ptr_same {k g off off':Nat} {blk o:Nat} {b:Blk} (hm:Mem Z0 M w0 C Z blks w) (hb:blks[k]?=some b) (hg:g=b.gen) (h:C.β k=.loc blk o) :
 VR Z w C (.ptr k g off') (.pointer (some ⟨blk,o+off',none⟩)) :=
 .ptr (by rw [hm.gen k b hb,hg]; exact Nat.le_refl _) rfl fun _=>⟨blk,o,h,rfl⟩
theorem Xo {t n:Nat} (h:szT P t=some n):(Go.sizeOf t).run P w=.ok n w:=by
 unfold szT at h
 cases hi:P.info? t with
 | none=>simp [hi] at h
 | some i=>simp [hi] at h; simp [Go.sizeOf,typeInfo,hi,h]
theorem Yb {t:Nat} {b:Bool} (h:Xe P t=some b):(isAgg t).run P w=.ok b w:=by
 unfold Xe at h
 cases hd:P.underlying t with
 | none=>simp [hd] at h
 | some d=>cases d <;> simp [hd] at h <;> subst h <;> simp [isAgg,run_underlying hd]
theorem Vf {gb:Nat→Option Blk} {b:Blk} {g:Nat} {fl:Bool} {r:R} {x:Eff × List EV × List Prop} (h:(QbX b g fl r).run gb=some x):b.live=true∧b.sz=0∧b.flat=fl∧g=b.gen∧r.run gb=some x:=by
 unfold QbX at h
 split at h
 · rename_i h1 h2 h3 h4; exact ⟨h1,h2,by simpa using h3,by simpa using h4,h⟩
 · simp [Rd.run] at h
theorem Xy {r:Nat} {ob:Obj} (h:w.heap[r]?=some ob) (hn:∀ c t f,ob ≠ .cells c t f):(getObj r).run P w=.ok ob w:=by
 simp only [getObj,Sem.run,h]
 all_goals first | rfl | (exact absurd rfl (hn _ _ _)) | (cases ob <;> first | rfl | exact absurd rfl (hn _ _ _))
/-- A map of the call's own. -/
theorem yP (hm:Mem Z0 M w0 C Z blks w) {k g:Nat} {it:Bool} {c:Value} {b:Blk} (hb:blks[k]?=some b) (hl:b.live=true) (hz:b.sz=0) (hg:g=b.gen) (h:VR Z w C (.mp k g it) c) :
 ∃ blk o ob,C.β k=.loc blk o∧c=WX it blk∧w.heap[blk]?=some ob∧XK C Z w b.flat b.cells ob:=by
 cases h with
 | mp h1 ho h2 =>
  obtain ⟨blk,o,hβ,rfl⟩:=h2 (by rw [hm.gen k b hb,hg])
  obtain ⟨-,q⟩:=hm.blk k b hb hl
  simp only [hβ] at q
  rcases q with ⟨q,-⟩ | ⟨-,ob,q1,q2⟩
  · exact absurd hz q
  · exact ⟨blk,o,ob,hβ,rfl,q1,q2⟩
theorem lenA_sound {t:TypeId} {x:AV} {c:Value} (hm:Mem Z0 M w0 C Z blks w) (hv:VR Z w C x c) (h:(lenA P t x evs).run (blks[·]?)=some (eff,evs',obs)) (ho:AllP obs) (ty:TypeId) :
 Yf P Z w C eff (Builtin.len_ #[t] ty #[c]):=by
 unfold lenA at h
 split at h
 · rename_i e hd; have:=Qp h; simp only [Prod.mk.injEq] at this; obtain ⟨rfl,-,-⟩:=this
   cases hv
   exact .mk (by simp [Builtin.len_,run_underlying hd,goInt]) (.int _ _)
 · rename_i e row off n hd; have:=Qp h; simp only [Prod.mk.injEq] at this; obtain ⟨rfl,-,-⟩:=this
   cases hv <;> exact .mk (by simp [Builtin.len_,run_underlying hd,goInt]) (.int _ _)
 · rename_i e k g off n sz hd
   obtain ⟨b,hb,h⟩:=QC h
   obtain ⟨hl,ob,h,hg⟩:=QR h
   have:=Qp h; simp only [Prod.mk.injEq] at this; obtain ⟨rfl,-,rfl⟩:=this
   have hs:=KC hm hb (hg ho) hv
   unfold SlOk at hs
   split at hs
   · obtain ⟨a,cap,rfl,-⟩:=hs
     exact .mk (by simp [Builtin.len_,run_underlying hd,goInt]) (.int _ _)
   · obtain ⟨rfl,a,rfl⟩:=hs
     exact .mk (by simp [Builtin.len_,run_underlying hd,goInt]) (.int _ _)
   · exact hs.elim
 · rename_i n e hd; have:=Qp h; simp only [Prod.mk.injEq] at this; obtain ⟨rfl,-,-⟩:=this
   exact .mk (by simp [Builtin.len_,run_underlying hd,goInt]) (.int _ _)
 · rename_i kt et kk g hd
   obtain ⟨b,hb,h⟩:=QC h
   obtain ⟨hl,hz,hf,hg,h⟩:=Vf h
   have:=Qp h; simp only [Prod.mk.injEq] at this; obtain ⟨rfl,-,rfl⟩:=this
   obtain ⟨blk,o,ob,-,rfl,h1,h2⟩:=yP hm hb hl hz hg hv
   rw [hf] at h2
   simp only [XK,if_true] at h2
   obtain ⟨es,rfl,h3,-⟩:=h2
   have hget:(getObj blk).run P w=.ok (.map es es.size) w:=Xy h1 (by intro c t f; simp)
   exact .mk (c:=.int .i64 b.cells.length) (by simp [Builtin.len_,run_underlying hd,goInt,WX,hget,h3]) (.int _ _)
 · rename_i kt et cells hd
   have:=Qp h; simp only [Prod.mk.injEq] at this; obtain ⟨rfl,-,rfl⟩:=this
   cases hv with
   | rmap es hz hh hl hb hr =>
    rename_i blk
    have hget:(getObj blk).run P w=.ok (.map es es.size) w:=Xy hh (by intro c t f; simp)
    exact .mk (c:=.int .i64 cells.length) (by simp [Builtin.len_,run_underlying hd,goInt,hget,hl]) (.int _ _)
 · simp [Rd.run] at h
theorem fieldA_sound {s:TypeId} {x:AV} {f:Nat} {c:Value} (hm:Mem Z0 M w0 C Z blks w) (hv:VR Z w C x c) (h:(fieldA P s x f evs).run (blks[·]?)=some (eff,evs',obs)) (ho:AllP obs) :
 Yf P Z w C eff (Instr.fieldAt s c f):=by
 unfold fieldA at h
 split at h
 · rename_i fs hd
   split at h
   · rename_i fd hf
     split at h
     · rename_i n hn
       have key:∀ (a:Addr),(Instr.fieldAt s (.pointer (some a)) f).run P w=.ok (.pointer (some (a.add fd.offset))) w:=fun a=>by
        simp [Instr.fieldAt,run_underlying hd,hf,Instr.sureAddr,fieldPlace,Xo hn]
       split at h
       · rename_i k g off
         obtain ⟨b,hb,h⟩:=QC h
         obtain ⟨hl,ob,h,hg⟩:=QR h
         have:=Qp h; simp only [Prod.mk.injEq] at this; obtain ⟨rfl,-,rfl⟩:=this
         obtain ⟨blk,o,h1,rfl⟩:=KG hm hb (hg ho) hv
         refine .mk (key _) ?_
         rw [Addr.add_lit,Nat.add_assoc]
         exact VR.ptr_same (off:=off) hm hb (hg ho) h1
       · rename_i row off
         have:=Qp h; simp only [Prod.mk.injEq] at this; obtain ⟨rfl,-,-⟩:=this
         cases hv with
         | rptr cv hz hc hk hr =>
          refine .mk (key _) ?_
          rw [Addr.add_lit,Nat.add_assoc]
          exact .rptr cv hz hc hk hr
       · rename_i row k g off
         have:=Qp h; simp only [Prod.mk.injEq] at this; obtain ⟨rfl,-,-⟩:=this
         cases hv with
         | pm cv hz hc hk hr hcm hv =>
          refine .mk (key _) ?_
          rw [Addr.add_lit,Nat.add_assoc]
          exact .pm cv hz hc hk hr hcm hv
       · simp [Rd.run] at h
     · simp [Rd.run] at h
   · simp [Rd.run] at h
 · simp [Rd.run] at h
theorem indexA_sound {t:TypeId} {x i:AV} {c ci:Value} (hm:Mem Z0 M w0 C Z blks w) (hv:VR Z w C x c) (hi:VR Z w C i ci) (h:(indexA P t x i evs).run (blks[·]?)=some (eff,evs',obs)) (ho:AllP obs) :
 Yf P Z w C eff (Instr.indexAt t c ci):=by
 unfold indexA at h
 split at h
 · rename_i e k g off len sz kk n hd
   cases hi
   split at h
   · rename_i s hs
     split at h
     · rename_i hsz
       obtain ⟨b,hb,h⟩:=QC h
       obtain ⟨hl,ob,h,hg⟩:=QR h
       have:=Qp h; simp only [Prod.mk.injEq] at this; obtain ⟨rfl,-,rfl⟩:=this
       obtain ⟨⟨h0,h1⟩,ho⟩:=ho
       have hok:=KC hm hb (hg ho) hv
       unfold SlOk at hok
       split at hok
       · rename_i blk o hβ
         obtain ⟨a,cap,rfl,hlc,ha,-⟩:=hok
         obtain rfl:=ha (by omega)
         refine .mk (c:=.pointer (some ⟨blk,o+(off+n.toNat*s),none⟩)) ?_ (VR.ptr_same (off:=off) hm hb (hg ho) hβ)
         simp [Instr.indexAt,run_underlying hd,asIntOf,h0,h1,Xo hs,Addr.add_lit,Nat.add_assoc]
       · obtain ⟨rfl,_⟩:=hok; omega
       · exact hok.elim
     · simp [Rd.run] at h
   · simp [Rd.run] at h
 · rename_i e row off len kk n hd
   cases hi
   split at h
   · rename_i s hs
     have:=Qp h; simp only [Prod.mk.injEq] at this; obtain ⟨rfl,-,rfl⟩:=this
     obtain ⟨⟨h0,h1⟩,-⟩:=ho
     cases hv with
     | @rsl _ _ _ _ cap blk o cv hz hl hc hk hr =>
      refine .mk (c:=.pointer (some ⟨blk,o+(off+n.toNat*s),none⟩)) ?_ (.rptr cv hz hc hk hr)
      simp [Instr.indexAt,run_underlying hd,asIntOf,h0,h1,Xo hs,Addr.add_lit,Nat.add_assoc]
     | rsl0=>omega
   · simp [Rd.run] at h
 · rename_i len e k g off kk n hd
   cases hi
   split at h
   · rename_i s hs
     obtain ⟨b,hb,h⟩:=QC h
     obtain ⟨hl,ob,h,hg⟩:=QR h
     have:=Qp h; simp only [Prod.mk.injEq] at this; obtain ⟨rfl,-,rfl⟩:=this
     obtain ⟨⟨h0,h1⟩,ho⟩:=ho
     obtain ⟨blk,o,hβ,rfl⟩:=KG hm hb (hg ho) hv
     refine .mk (c:=.pointer (some ⟨blk,o+(off+n.toNat*s),none⟩)) ?_ (VR.ptr_same (off:=off) hm hb (hg ho) hβ)
     simp [Instr.indexAt,run_underlying hd,asIntOf,h0,h1,Xo hs,Addr.add_lit,Nat.add_assoc,Instr.sureAddr]
   · simp [Rd.run] at h
 · rename_i len e row off kk n hd
   cases hi
   split at h
   · rename_i s hs
     have:=Qp h; simp only [Prod.mk.injEq] at this; obtain ⟨rfl,-,rfl⟩:=this
     obtain ⟨⟨h0,h1⟩,-⟩:=ho
     cases hv with
     | @rptr _ _ _ blk o cv hz hc hk hr =>
      refine .mk (c:=.pointer (some ⟨blk,o+(off+n.toNat*s),none⟩)) ?_ (.rptr cv hz hc hk hr)
      simp [Instr.indexAt,run_underlying hd,asIntOf,h0,h1,Xo hs,Addr.add_lit,Nat.add_assoc,Instr.sureAddr]
   · simp [Rd.run] at h
 · simp [Rd.run] at h
/-! ### binary operations -/
def eqV:List (Option IntKind)→List Value→List Value→Option Bool
 | [],[],[]=>some true
 | some k :: ts,.int k1 x :: xs,.int k2 y :: ys=>if k1 == k && k2 == k then (eqV ts xs ys).map fun r=>(x == y) && r else none
 | none :: ts,.bool x :: xs,.bool y :: ys=>(eqV ts xs ys).map fun r=>(x == y) && r
 | _,_,_=>none
theorem VW:∀ {ts:List (Option IntKind)} {xs ys:List AV} {cx cy:List Value} {r:Bool},VRs Z w C xs cx→VRs Z w C ys cy→QN ts xs ys=some r→eqV ts cx cy=some r
 | [],xs,ys,cx,cy,r,h1,h2,h=>by
  cases xs <;> cases ys <;> simp [QN] at h
  obtain ⟨l1,-⟩:=h1; obtain ⟨l2,-⟩:=h2
  cases cx <;> cases cy <;> simp at l1 l2
  simp [eqV,h]
 | t :: ts,xs,ys,cx,cy,r,h1,h2,h=>by
  cases xs with
  | nil=>cases t <;> simp [QN] at h
  | cons x xs =>
   cases ys with
   | nil=>cases t <;> cases x <;> simp [QN] at h
   | cons y ys =>
    obtain ⟨l1,g1⟩:=h1; obtain ⟨l2,g2⟩:=h2
    cases cx with
    | nil=>simp at l1
    | cons cx0 cx =>
     cases cy with
     | nil=>simp at l2
     | cons cy0 cy =>
      have v1:=g1 0 x cx0 rfl rfl
      have v2:=g2 0 y cy0 rfl rfl
      have r1:VRs Z w C xs cx:=⟨by simpa using l1,fun i c v a b=>g1 (i+1) c v (by simpa using a) (by simpa using b)⟩
      have r2:VRs Z w C ys cy:=⟨by simpa using l2,fun i c v a b=>g2 (i+1) c v (by simpa using a) (by simpa using b)⟩
      cases t with
      | some k =>
       cases x <;> try (simp [QN] at h; done)
       cases y <;> try (simp [QN] at h; done)
       cases v1; cases v2
       simp only [QN] at h
       split at h
       · rename_i hk
         cases hr:QN ts xs ys with
         | none=>simp [hr] at h
         | some r' =>
          simp [hr] at h
          simp [eqV,VW r1 r2 hr,h,hk]
       · cases h
      | none =>
       cases x <;> try (simp [QN] at h; done)
       cases y <;> try (simp [QN] at h; done)
       cases v1; cases v2
       simp only [QN] at h
       cases hr:QN ts xs ys with
       | none=>simp [hr] at h
       | some r' =>
        simp [hr] at h
        simp [eqV,VW r1 r2 hr,h]
end
theorem qT:∀ {ts us:List (Option IntKind)} {xs ys:List Value} {r:Bool},eqV (ts++us) xs ys=some r →
 ∃ r1 r2,eqV ts (xs.take ts.length) (ys.take ts.length)=some r1∧eqV us (xs.drop ts.length) (ys.drop ts.length)=some r2∧r=(r1 && r2)
 | [],us,xs,ys,r,h=>⟨true,r,by simp [eqV],by simpa using h,by simp⟩
 | t :: ts,us,xs,ys,r,h=>by
  cases xs with
  | nil=>cases t <;> simp [eqV] at h
  | cons x xs =>
   cases ys with
   | nil=>cases t <;> cases x <;> simp [eqV] at h
   | cons y ys =>
    cases t with
    | some k =>
     cases x <;> try (simp [eqV] at h; done)
     cases y <;> try (simp [eqV] at h; done)
     rename_i k1 x k2 y
     simp only [List.cons_append,eqV] at h
     split at h
     · rename_i hk
       cases hr:eqV (ts++us) xs ys with
       | none=>simp [hr] at h
       | some r' =>
        simp [hr] at h
        obtain ⟨r1,r2,e1,e2,e3⟩:=qT hr
        exact ⟨(x == y) && r1,r2,by simp [eqV,e1]; simpa using hk,by simpa using e2,by rw [← h,e3,Bool.and_assoc]⟩
     · cases h
    | none =>
     cases x <;> try (simp [eqV] at h; done)
     cases y <;> try (simp [eqV] at h; done)
     rename_i x y
     simp only [List.cons_append,eqV] at h
     cases hr:eqV (ts++us) xs ys with
     | none=>simp [hr] at h
     | some r' =>
      simp [hr] at h
      obtain ⟨r1,r2,e1,e2,e3⟩:=qT hr
      exact ⟨(x == y) && r1,r2,by simp [eqV,e1],by simpa using e2,by rw [← h,e3,Bool.and_assoc]⟩
theorem yD:∀ {ts:List (Option IntKind)} {xs ys:List Value} {r:Bool},eqV ts xs ys=some r→xs.length=ts.length∧ys.length=ts.length
 | [],xs,ys,r,h=>by cases xs <;> cases ys <;> simp [eqV] at h ⊢
 | t :: ts,xs,ys,r,h=>by
  cases xs with
  | nil=>cases t <;> simp [eqV] at h
  | cons x xs =>
   cases ys with
   | nil=>cases t <;> cases x <;> simp [eqV] at h
   | cons y ys =>
    cases t with
    | some k =>
     cases x <;> try (simp [eqV] at h; done)
     cases y <;> try (simp [eqV] at h; done)
     simp only [eqV] at h
     split at h
     · cases hr:eqV ts xs ys with
       | none=>simp [hr] at h
       | some r'=>have:=yD hr; simp [this]
     · cases h
    | none =>
     cases x <;> try (simp [eqV] at h; done)
     cases y <;> try (simp [eqV] at h; done)
     simp only [eqV] at h
     cases hr:eqV ts xs ys with
     | none=>simp [hr] at h
     | some r'=>have:=yD hr; simp [this]
section
variable {P:Program} {w:World}
/-- Two parts,as '==' takes them out of two rows of cells. -/
theorem part_eq {d D:Nat} {t n:Nat} {ag:Bool} {ts:List (Option IntKind)} (hs:szT P t=some n) (ha:Xe P t=some ag) (hn:n=ts.length) (hd:Xr P d t=some ts)
 (ih:∀ {xs ys:List Value} {r:Bool},eqV ts xs ys=some r→(ag=true→(Op.equalIn D t (.agg xs.toArray) (.agg ys.toArray)).run P w=.ok r w) ∧
   (ag=false→∃ x y,xs=[x]∧ys=[y]∧(Op.equalIn D t x y).run P w=.ok r w))
 {xs ys:List Value} {o:Nat} {r:Bool} (h:eqV ts ((xs.drop o).take ts.length) ((ys.drop o).take ts.length)=some r) :
 ∃ a b,(part t xs.toArray o).run P w=.ok a w∧(part t ys.toArray o).run P w=.ok b w∧(Op.equalIn D t a b).run P w=.ok r w:=by
 have key:∀ (zs:List Value),zs.toArray.extract o (o+n)=((zs.drop o).take ts.length).toArray:=fun zs=>by
  rw [hn]; simp [List.take_drop,Nat.add_comm]
 cases ag with
 | true =>
  exact ⟨_,_,by simp only [part,Sem.run_bind,Yb ha,Result.andThen_ok,if_true,Xo hs,Sem.run_pure,key],
   by simp only [part,Sem.run_bind,Yb ha,Result.andThen_ok,if_true,Xo hs,Sem.run_pure,key],(ih h).1 rfl⟩
 | false =>
  obtain ⟨x,y,hx,hy,he⟩:=(ih h).2 rfl
  have key2:∀ {zs:List Value} {z:Value},(zs.drop o).take ts.length=[z]→zs.toArray[o]?=some z:=by
   intro zs z hz
   have h0:=congrArg (·[0]?) hz
   have hl:0<ts.length:=by
    cases ts with
    | nil=>simp at hz
    | cons _ _=>simp
   simpa [List.getElem?_take,hl] using h0
  exact ⟨x,y,by simp [part,Yb ha,key2 hx],by simp [part,Yb ha,key2 hy],he⟩
theorem Kk:∀ {d t:Nat} {ts:List (Option IntKind)} (D:Nat),d≤D→Xr P d t=some ts→∀ (xs ys:List Value) (r:Bool),eqV ts xs ys=some r →
 (Xe P t=some true→(Op.equalIn D t (.agg xs.toArray) (.agg ys.toArray)).run P w=.ok r w) ∧
 (Xe P t=some false→∃ x y,xs=[x]∧ys=[y]∧(Op.equalIn D t x y).run P w=.ok r w)
 | 0,t,ts,D,hD,h,xs,ys,r,he=>by simp [Xr] at h
 | d+1,t,ts,0,hD,h,xs,ys,r,he=>by omega
 | d+1,t,ts,D+1,hD,h,xs,ys,r,he=>by
  simp only [Xr] at h
  split at h
  · rename_i hd
    simp only [Option.some.injEq] at h; subst h
    refine ⟨fun ha=>by simp [Xe,hd] at ha,fun _=>?_⟩
    obtain ⟨l1,l2⟩:=yD he
    obtain ⟨x,rfl⟩:=List.length_eq_one_iff.1 l1
    obtain ⟨y,rfl⟩:=List.length_eq_one_iff.1 l2
    cases x <;> try (simp [eqV] at he; done)
    cases y <;> try (simp [eqV] at he; done)
    simp [eqV] at he
    exact ⟨_,_,rfl,rfl,by simp [Op.equalIn,run_underlying hd,he]⟩
  · rename_i k hd
    simp only [Option.some.injEq] at h; subst h
    refine ⟨fun ha=>by simp [Xe,hd] at ha,fun _=>?_⟩
    obtain ⟨l1,l2⟩:=yD he
    obtain ⟨x,rfl⟩:=List.length_eq_one_iff.1 l1
    obtain ⟨y,rfl⟩:=List.length_eq_one_iff.1 l2
    cases x <;> try (simp [eqV] at he; done)
    cases y <;> try (simp [eqV] at he; done)
    simp [eqV] at he
    obtain ⟨⟨rfl,rfl⟩,he⟩:=he
    exact ⟨_,_,rfl,rfl,by simp [Op.equalIn,run_underlying hd,he]⟩
  · rename_i fs hd
    split at h
    · cases h
    · rename_i hst
      refine ⟨fun _=>?_,fun ha=>by simp [Xe,hd] at ha⟩
      have hfo:P.fieldsOf t=fs:=by simp [Program.fieldsOf,hd]
      rw [run_equalIn_struct w D t _ _ (by rw [hfo]; exact hd) (by simpa using hst),hfo]
      have key:∀ (l:List Field) (o:Nat) (ts:List (Option IntKind)) (r:Bool),qI P (Xr P d) l o=some ts→eqV ts (xs.drop o) (ys.drop o)=some r →
       (Op.eqFields D xs.toArray ys.toArray l).run P w=.ok r w:=by
       intro l
       induction l with
       | nil =>
        intro o ts r h he
        simp [qI] at h; subst h
        have:r=true:=by
         obtain ⟨l1,l2⟩:=yD he
         rw [List.length_eq_zero_iff.1 l1,List.length_eq_zero_iff.1 l2] at he
         simpa [eqV] using he.symm
        simp [Op.eqFields,this]
       | cons fd l ihl =>
        intro o ts r h he
        simp only [qI] at h
        split at h
        · rename_i ts1 n ag h1 h2 h3
          split at h
          · cases h
          · rename_i hc
            simp only [Bool.or_eq_true,not_or,Bool.not_eq_true,bne_eq_false_iff_eq,beq_eq_false_iff_ne] at hc
            obtain ⟨⟨c1,c2⟩,c3⟩:=hc
            cases hr:qI P (Xr P d) l (o+n) with
            | none=>simp [hr] at h
            | some ts2 =>
             simp [hr] at h; subst h
             obtain ⟨r1,r2,e1,e2,rfl⟩:=qT he
             have ih2:=ihl (o+n) ts2 r2 hr (by rw [c3]; simpa [List.drop_drop] using e2)
             obtain ⟨a,b,p1,p2,p3⟩:=part_eq (w:=w) (D:=D) h2 h3 c3 h1 (fun {xs ys r} he=>by
              have:=Kk D (by omega) h1 _ _ _ he
              exact ⟨fun e=>this.1 (by rw [h3,e]),fun e=>this.2 (by rw [h3,e])⟩) e1
             simp only [Op.eqFields,ne_eq,c1,not_false_eq_true,if_true,Sem.run_bind,c2,p1,p2,p3,Result.andThen_ok,Sem.run_ite]
             cases r1
             · simp
             · simpa using ih2
        · cases h
      exact key _ 0 ts r h (by simpa using he)
  · rename_i n e hd
    cases hts:Xr P d e with
    | none=>simp [hts] at h
    | some ts1 =>
     simp only [hts,Option.bind_some] at h
     split at h
     · rename_i hsz
       simp only [Option.some.injEq] at h; subst h
       refine ⟨fun _=>?_,fun ha=>by simp [Xe,hd] at ha⟩
       have hsz':szT P e=some ts1.length:=by simpa using hsz
       obtain ⟨ag,hag⟩:∃ ag,Xe P e=some ag:=by
        cases hu:P.underlying e with
        | none=>cases d <;> simp [Xr,hu] at hts
        | some u=>cases u <;> exact ⟨_,by simp [Xe,hu]; rfl⟩
       simp only [Op.equalIn,Sem.run_bind,run_underlying hd,Result.andThen_ok,Xo hsz']
       have key:∀ (m i:Nat) (r:Bool),eqV (List.replicate m ts1).flatten (xs.drop (i*ts1.length)) (ys.drop (i*ts1.length))=some r →
        ((forIn (List.range' i m) ((none,()):Option Bool × Unit) fun i _=>do
          let a ← part e xs.toArray (i*ts1.length)
          let b ← part e ys.toArray (i*ts1.length)
          let r ← Op.equalIn D e a b
          if (!r)=true then pure (ForInStep.done (some false,())) else pure (ForInStep.yield (none,())):Sem (Option Bool × Unit)).run P w)=.ok (if r then (none,()) else (some false,())) w:=by
        intro m
        induction m with
        | zero =>
         intro i r he
         have:r=true:=by
          obtain ⟨l1,l2⟩:=yD he
          simp only [List.replicate_zero,List.flatten_nil,List.length_nil] at l1 l2
          rw [List.length_eq_zero_iff.1 l1,List.length_eq_zero_iff.1 l2] at he
          simpa [eqV] using he.symm
         simp [this]
        | succ m ihm =>
         intro i r he
         rw [List.replicate_succ,List.flatten_cons] at he
         obtain ⟨r1,r2,e1,e2,rfl⟩:=qT he
         have ih2:=ihm (i+1) r2 (by rw [Nat.succ_mul]; simpa [List.drop_drop] using e2)
         obtain ⟨a,b,p1,p2,p3⟩:=part_eq (w:=w) (D:=D) hsz' hag rfl hts (fun {xs ys r} he=>by
          have:=Kk D (by omega) hts _ _ _ he
          exact ⟨fun e=>this.1 (by rw [hag,e]),fun e=>this.2 (by rw [hag,e])⟩) e1
         rw [List.range'_succ,List.forIn_cons]
         simp only [Sem.run_bind,p1,p2,p3,Result.andThen_ok,Sem.run_ite]
         cases r1
         · simp
         · simpa using ih2
       have:=key n 0 r (by simpa using he)
       rw [Std.Legacy.Range.forIn_eq_forIn_range']
       simp only [Std.Legacy.Range.size,Nat.sub_zero,Nat.add_sub_cancel,Nat.div_one] at this ⊢
       rw [this]
       cases r <;> simp
     · cases h
  · cases h
end
end Ax
namespace Ax
open Go
theorem shift_shl_g (k yk:IntKind) (x y:Int) (h₀:0≤y) (h₁:y≤k.bits):Op.shift .shl k x yk y=pure (.int k (k.wrap (x*2 ^ y.toNat))):=shift_shl k yk x y h₀ h₁
theorem shift_shr_g (k yk:IntKind) (x y:Int) (h₀:0≤y) (h₁:y≤k.bits):Op.shift .shr k x yk y=pure (.int k (x / 2 ^ y.toNat)):=shift_shr k yk x y h₀ h₁
section
variable {P:Program} {Z0 M Z:Nat→Prop} {w0 w:World} {C:Ctx} {blks:List Blk} {evs:List EV} {eff:Eff} {evs':List EV} {obs:List Prop} {gb:Nat→Option Blk}
theorem Yj {xs:List AV} {c:Value} (h:VR Z w C (.agg xs) c):∃ arr:Array Value,c=.agg arr∧VRs Z w C xs arr.toList:=by
 cases h with
 | agg hl h=>exact ⟨_,rfl,by simpa using hl,fun i c v a b=>h i c v a (by simpa using b)⟩
theorem eqIn_bool (d:Nat) {t:TypeId} (a b:Bool) (h:P.underlying t=some .bool):(Op.equalIn (d+1) t (.bool a) (.bool b)).run P w=.ok (a == b) w:=by
 simp [Op.equalIn,run_underlying h]
theorem Qbt (d:Nat) {t e:TypeId} (h:P.underlying t=some (.slice e)):(Op.equalIn (d+1) t (.slice none 0 0) (.slice none 0 0)).run P w=.ok true w:=by
 simp [Op.equalIn,run_underlying h]
theorem eqIn_ptr (d:Nat) {t e:TypeId} (a:Addr) (h:P.underlying t=some (.pointer e)):(Op.equalIn (d+1) t (.pointer (some a)) (.pointer none)).run P w=.ok false w:=by
 simp [Op.equalIn,run_underlying h]
theorem Qar (d:Nat) {t e:TypeId} (a:Addr) (len cap:Nat) (h:P.underlying t=some (.slice e)):(Op.equalIn (d+1) t (.slice (some a) len cap) (.slice none 0 0)).run P w=.ok false w:=by
 simp [Op.equalIn,run_underlying h]
theorem eqIn_nil (d:Nat) {t e:TypeId} (h:P.underlying t=some (.pointer e)):(Op.equalIn (d+1) t (.pointer none) (.pointer none)).run P w=.ok true w:=by
 simp [Op.equalIn,run_underlying h]
theorem yC {t:TypeId} {x y:Value} (hb:binOp .eql t x y=(do pure (.bool (← Op.equal t x y)))) {r:Bool} (h:(Op.equalIn 10000 t x y).run P w=.ok r w) :
 (binOp .eql t x y).run P w=.ok (.bool r) w:=by
 rw [hb]; simp [Op.equal,Op.maxDepth,h]
theorem yo {t:TypeId} {x y:Value} (hb:binOp .neq t x y=(do pure (.bool (!(← Op.equal t x y))))) {r:Bool} (h:(Op.equalIn 10000 t x y).run P w=.ok r w) :
 (binOp .neq t x y).run P w=.ok (.bool (!r)) w:=by
 rw [hb]; simp [Op.equal,Op.maxDepth,h]
set_option maxHeartbeats 1000000 in
theorem binA_sound {op:BinOp} {t:TypeId} {ox oy:Operand} {x y:AV} {cx cy:Value} (hx:VR Z w C x cx) (hy:VR Z w C y cy) (h:(binA P op t x y evs).run gb=some (eff,evs',obs)) (ho:AllP obs) :
 Yf P Z w C eff (do eqGuard op t ox oy cx cy; binOp op t cx cy):=by
 unfold binA at h
 have eqk:∀ {k k':IntKind},(k == k')=true→k=k':=fun h=>by simpa using h
 have fin:∀ {v:AV} {c:Value},(eqGuard op t ox oy cx cy).run P w=.ok () w→(binOp op t cx cy).run P w=.ok c w→VR Z w C v c→Yf P Z w C (.val v) (do eqGuard op t ox oy cx cy; binOp op t cx cy):=fun h1 h2 h3 =>
  .mk (by simp only [Sem.run_bind,h1,Result.andThen_ok,h2]) h3
 split at h
 iterate 3
  · cases hx; cases hy; split at h
    · rename_i hk; obtain rfl:=eqk hk; obtain ⟨rfl,-⟩:=Vk h ho
      refine fin (by rw [eqGuard_at_int]; rfl) ?_ (.int _ _)
      simp [binOp_add,binOp_sub,binOp_mul,Op.intArith]
    · simp [Rd.run] at h
 · cases hx; cases hy; split at h
   · rename_i hk; obtain rfl:=eqk hk; obtain ⟨rfl,hb⟩:=Vk h ho
     refine fin (by rw [eqGuard_at_int]; rfl) ?_ (.int _ _)
     simp [binOp_quo,Op.intDiv,hb.1]
   · simp [Rd.run] at h
 · cases hx; cases hy; split at h
   · rename_i hk; obtain rfl:=eqk hk; have:=Qp h; simp only [Prod.mk.injEq] at this; obtain ⟨rfl,-,rfl⟩:=this
     refine fin (by rw [eqGuard_at_int]; rfl) ?_ (.int _ _)
     simp [binOp_rem,Op.intDiv,ho.1]
   · simp [Rd.run] at h
 iterate 4
  · cases hx; cases hy; split at h
    · rename_i hk; obtain rfl:=eqk hk; have:=Qp h; simp only [Prod.mk.injEq] at this; obtain ⟨rfl,-,rfl⟩:=this
      refine fin (by rw [eqGuard_at_int]; rfl) ?_ (.int _ _)
      simp only [binOp_and,binOp_or,binOp_xor,binOp_andNot,intBits_and,intBits_or,intBits_xor,intBits_andNot,Sem.run_pure]
    · simp [Rd.run] at h
 · cases hx; cases hy; obtain ⟨rfl,hb⟩:=Vk h ho
   refine fin (by rw [eqGuard_at_int]; rfl) ?_ (.int _ _)
   simp only [binOp_shl,shift_shl_g _ _ _ _ hb.1.1 hb.1.2,Sem.run_pure]
 · cases hx; cases hy; have:=Qp h; simp only [Prod.mk.injEq] at this; obtain ⟨rfl,-,rfl⟩:=this
   refine fin (by rw [eqGuard_at_int]; rfl) ?_ (.int _ _)
   simp only [binOp_shr,shift_shr_g _ _ _ _ ho.1.1 ho.1.2,Sem.run_pure]
 iterate 6
  · cases hx; cases hy; split at h
    · rename_i hk; obtain rfl:=eqk hk; have:=Qp h; simp only [Prod.mk.injEq] at this; obtain ⟨rfl,-,rfl⟩:=this
      refine fin (by rw [eqGuard_at_int]; rfl) ?_ (.bool _)
      simp only [binOp_eql,binOp_neq,binOp_lss,binOp_leq,binOp_gtr,binOp_geq,Sem.run_pure]
    · simp [Rd.run] at h
 · cases hx; cases hy; split at h
   · rename_i hd; have:=Qp h; simp only [Prod.mk.injEq] at this; obtain ⟨rfl,-,rfl⟩:=this
     exact fin (by rw [eqGuard_at_bool]; rfl) (yC rfl (eqIn_bool 9999 _ _ hd)) (.bool _)
   · simp [Rd.run] at h
 · cases hx; cases hy; split at h
   · rename_i hd; have:=Qp h; simp only [Prod.mk.injEq] at this; obtain ⟨rfl,-,rfl⟩:=this
     exact fin (by rw [eqGuard_at_bool]; rfl) (yo rfl (eqIn_bool 9999 _ _ hd)) (.bool _)
   · simp [Rd.run] at h
 iterate 2
  · obtain ⟨ax,rfl,h1⟩:=Yj hx
    obtain ⟨ay,rfl,h2⟩:=Yj hy
    split at h
    · simp [Rd.run] at h
    · rename_i hg
      simp only [Bool.or_eq_true,not_or,Bool.not_eq_true,bne_eq_false_iff_eq] at hg
      split at h
      · rename_i r hr
        have:=Qp h; simp only [Prod.mk.injEq] at this; obtain ⟨rfl,-,rfl⟩:=this
        cases hts:Xr P 20 t with
        | none=>simp [hts] at hr
        | some ts =>
         simp only [hts,Option.bind_some] at hr
         have:=(Kk (P:=P) (w:=w) 10000 (by omega) hts _ _ _ (VW h1 h2 hr)).1 hg.2
         first
         | exact fin (run_eqGuard_agg (w:=w) _ t ox oy _ _ hg.1) (yC rfl this) (.bool _)
         | exact fin (run_eqGuard_agg (w:=w) _ t ox oy _ _ hg.1) (yo rfl this) (.bool _)
      · simp [Rd.run] at h
 · cases hx; cases hy; split at h
   · rename_i hd; have:=Qp h; simp only [Prod.mk.injEq] at this; obtain ⟨rfl,-,rfl⟩:=this
     exact fin (by rw [eqGuard_at_slice]; rfl) (yC rfl (Qbt 9999 hd)) (.bool _)
   · simp [Rd.run] at h
 · cases hx; cases hy; split at h
   · rename_i hd; have:=Qp h; simp only [Prod.mk.injEq] at this; obtain ⟨rfl,-,rfl⟩:=this
     exact fin (by rw [eqGuard_at_slice]; rfl) (yo (r:=true) rfl (Qbt 9999 hd)) (.bool _)
   · simp [Rd.run] at h
 · cases hx; cases hy; split at h
   · rename_i hd; have:=Qp h; simp only [Prod.mk.injEq] at this; obtain ⟨rfl,-,rfl⟩:=this
     exact fin (by rw [eqGuard_at_pointer]; rfl) (yC rfl (eqIn_ptr 9999 _ hd)) (.bool _)
   · simp [Rd.run] at h
 · cases hx; cases hy; split at h
   · rename_i hd; have:=Qp h; simp only [Prod.mk.injEq] at this; obtain ⟨rfl,-,rfl⟩:=this
     exact fin (by rw [eqGuard_at_pointer]; rfl) (yo (r:=false) rfl (eqIn_ptr 9999 _ hd)) (.bool _)
   · simp [Rd.run] at h
 · cases hx; cases hy; split at h
   · rename_i hd; have:=Qp h; simp only [Prod.mk.injEq] at this; obtain ⟨rfl,-,rfl⟩:=this
     exact fin (by rw [eqGuard_at_pointer]; rfl) (yC rfl (eqIn_nil 9999 hd)) (.bool _)
   · simp [Rd.run] at h
 · cases hx; cases hy; split at h
   · rename_i hd; have:=Qp h; simp only [Prod.mk.injEq] at this; obtain ⟨rfl,-,rfl⟩:=this
     exact fin (by rw [eqGuard_at_pointer]; rfl) (yo (r:=true) rfl (eqIn_nil 9999 hd)) (.bool _)
   · simp [Rd.run] at h
 · cases hx <;> cases hy <;> split at h
   · rename_i hd; have:=Qp h; simp only [Prod.mk.injEq] at this; obtain ⟨rfl,-,rfl⟩:=this
     exact fin (by rw [eqGuard_at_slice]; rfl) (yC rfl (Qar 9999 _ _ _ hd)) (.bool _)
   · simp [Rd.run] at h
   · have:=Qp h; simp only [Prod.mk.injEq] at this; obtain ⟨rfl,-,rfl⟩:=this
     exact absurd rfl ho.1
   · simp [Rd.run] at h
 · cases hx <;> cases hy <;> split at h
   · rename_i hd; have:=Qp h; simp only [Prod.mk.injEq] at this; obtain ⟨rfl,-,rfl⟩:=this
     exact fin (by rw [eqGuard_at_slice]; rfl) (yo (r:=false) rfl (Qar 9999 _ _ _ hd)) (.bool _)
   · simp [Rd.run] at h
   · have:=Qp h; simp only [Prod.mk.injEq] at this; obtain ⟨rfl,-,rfl⟩:=this
     exact absurd rfl ho.1
   · simp [Rd.run] at h
 · simp [Rd.run] at h
theorem unA_sound {op:UnOp} {x:AV} {cx:Value} (hx:VR Z w C x cx) (h:(unA op x evs).run gb=some (eff,evs',obs)) (ho:AllP obs):Yf P Z w C eff (Op.unary op cx):=by
 unfold unA at h
 split at h
 · cases hx; have:=Qp h; simp only [Prod.mk.injEq] at this; obtain ⟨rfl,-,rfl⟩:=this
   exact .mk rfl (.bool _)
 · cases hx; obtain ⟨rfl,-⟩:=Vk h ho
   exact .mk rfl (.int _ _)
 · cases hx; have:=Qp h; simp only [Prod.mk.injEq] at this; obtain ⟨rfl,-,rfl⟩:=this
   exact .mk (by simp only [Op.unary,intBits_xor,Sem.run_pure]) (.int _ _)
 · simp [Rd.run] at h
theorem KM {t:TypeId} {cs:List AV} {arr:Array Value} {off:Nat} {v:AV} (hv:VRs Z w C cs arr.toList) (h:partA P t cs off=some v) :
 ∃ c,(part t arr off).run P w=.ok c w∧VR Z w C v c:=by
 unfold partA at h
 split at h
 · rename_i n ha hn
   simp only [Option.some.injEq] at h; subst h
   refine ⟨_,by simp [part,Yb ha,Xo hn]; rfl,.agg ?_ fun i c v h1 h2=>?_⟩
   · have:=hv.1; simp at this ⊢; omega
   · rw [List.getElem?_take] at h1
     split at h1
     · rename_i hi
       rw [List.getElem?_drop] at h1
       rw [Array.getElem?_extract] at h2
       split at h2
       · exact hv.2 _ c v h1 (by simpa using h2)
       · cases h2
     · cases h1
 · rename_i n ha hn
   have hlt:off<cs.length:=(List.getElem?_eq_some_iff.1 h).1
   have hl:=hv.1
   simp at hl
   refine ⟨arr[off]'(by omega),by simp [part,Yb ha,Array.getElem?_eq_getElem (show off<arr.size by omega)],hv.2 off v _ h ?_⟩
   simp [show off<arr.size by omega]
 · cases h
theorem Qcr {s:TypeId} {x:AV} {f:Nat} {c:Value} (hv:VR Z w C x c) (h:(Qcs P s x f evs).run gb=some (eff,evs',obs)):Yf P Z w C eff (Instr.field s c f):=by
 unfold Qcs at h
 split at h
 · rename_i fs cs hd
   obtain ⟨arr,rfl,hv2⟩:=Yj hv
   split at h
   · rename_i v hp
     have:=Qp h; simp only [Prod.mk.injEq] at this; obtain ⟨rfl,-,rfl⟩:=this
     cases hf:fs[f]? with
     | none=>simp [hf] at hp
     | some fd =>
      simp only [hf,Option.bind_some] at hp
      obtain ⟨c,hr,hv'⟩:=KM hv2 hp
      exact .mk (by simp [Instr.field,run_underlying hd,hf,asAgg,hr]) hv'
   · simp [Rd.run] at h
 · simp [Rd.run] at h
theorem Qch {t:TypeId} {x i:AV} {c ci:Value} (hv:VR Z w C x c) (hi:VR Z w C i ci) (h:(Qci P t x i evs).run gb=some (eff,evs',obs)) (ho:AllP obs):Yf P Z w C eff (Instr.index t c ci):=by
 unfold Qci at h
 split at h
 · rename_i len e cs kk n hd
   obtain ⟨arr,rfl,hv2⟩:=Yj hv
   cases hi
   split at h
   · rename_i s hs
     split at h
     · rename_i v hp
       have:=Qp h; simp only [Prod.mk.injEq] at this; obtain ⟨rfl,-,rfl⟩:=this
       obtain ⟨c,hr,hv'⟩:=KM hv2 hp
       exact .mk (by simp [Instr.index,asIntOf,run_underlying hd,ho.1.1,ho.1.2,Xo hs,hr]) hv'
     · simp [Rd.run] at h
   · simp [Rd.run] at h
 · simp [Rd.run] at h
theorem foldI_max {k:IntKind}:∀ {l:List AV} {n m:Int} {cs:List Value},VRs Z w C l cs→Qaj iMax k n l=some m→(cs.foldlM Builtin.max2 (.int k n)).run P w=.ok (.int k m) w
 | [],n,m,cs,hv,h=>by
  cases cs with
  | nil=>simp [Qaj] at h; simp [h]
  | cons _ _=>simp [VRs] at hv
 | x :: l,n,m,cs,hv,h=>by
  cases x <;> try (simp [Qaj] at h; done)
  rename_i k' y
  cases cs with
  | nil=>simp [VRs] at hv
  | cons c cs =>
   have h0:=hv.2 0 _ _ rfl rfl
   cases h0
   simp only [Qaj] at h
   split at h
   · rename_i hk
     obtain rfl:k'=k:=by simpa using hk
     have:=foldI_max (cs:=cs) ⟨by simpa using hv.1,fun i c v a b=>hv.2 (i+1) c v (by simpa using a) (by simpa using b)⟩ h
     simp only [List.foldlM_cons,Sem.run_bind,Builtin.max2,Sem.run_pure,Result.andThen_ok]
     exact this
   · cases h
theorem foldI_min {k:IntKind}:∀ {l:List AV} {n m:Int} {cs:List Value},VRs Z w C l cs→Qaj iMin k n l=some m→(cs.foldlM Builtin.min2 (.int k n)).run P w=.ok (.int k m) w
 | [],n,m,cs,hv,h=>by
  cases cs with
  | nil=>simp [Qaj] at h; simp [h]
  | cons _ _=>simp [VRs] at hv
 | x :: l,n,m,cs,hv,h=>by
  cases x <;> try (simp [Qaj] at h; done)
  rename_i k' y
  cases cs with
  | nil=>simp [VRs] at hv
  | cons c cs =>
   have h0:=hv.2 0 _ _ rfl rfl
   cases h0
   simp only [Qaj] at h
   split at h
   · rename_i hk
     obtain rfl:k'=k:=by simpa using hk
     have:=foldI_min (cs:=cs) ⟨by simpa using hv.1,fun i c v a b=>hv.2 (i+1) c v (by simpa using a) (by simpa using b)⟩ h
     simp only [List.foldlM_cons,Sem.run_bind,Builtin.min2,Sem.run_pure,Result.andThen_ok]
     exact this
   · cases h
end
end Ax
namespace Ax
open Go
section
variable {P:Program} {Z0 M Z:Nat→Prop} {w0 w:World} {C:Ctx} {blks:List Blk} {evs:List EV} {eff:Eff} {evs':List EV} {obs:List Prop} {gb:Nat→Option Blk}
def Wb (Z:Nat→Prop) (w:World) (C:Ctx) (blk o:Nat) (cells:List AV):Prop :=
 ∀ (i:Nat) (c:AV),cells[i]?=some c→∃ v,w.cell? ⟨blk,o+i,none⟩=some v∧VR Z w C c v
theorem Yy {blk i:Nat} {arr:Array Value} {e:TypeId} {fz:Nat × Nat} (h:w.heap[blk]?=some (.cells arr e fz)):w.cell? ⟨blk,i,none⟩=arr[i]?:=by
 simp [World.cell?,h]
theorem yL.cellsAt {k:Nat} {b:Blk} (h:yL C Z w k b) (hl:b.live=true) (hz:b.sz ≠ 0) {blk o:Nat} (hβ:C.β k=.loc blk o):Wb Z w C blk o b.cells:=by
 obtain ⟨-,h⟩:=h hl
 simp only [hβ] at h
 obtain ⟨arr,e,h1,h2,h3⟩:=h.cells hz
 intro i c hc
 obtain ⟨v,hv,hr⟩:=h3 i c hc
 refine ⟨v,by rw [Yy h1]; exact hv,?_⟩
 split at hr
 · exact hr.of0
 · exact hr
theorem VR.row_at {row:List AV} {off:Nat} {c:Value} (h:VR Z w C (.rptr row off) c):∃ blk o,c=.pointer (some ⟨blk,o+off,none⟩)∧Wb Z w C blk o row:=by
 cases h with
 | rptr cv hz hc hk hr=>exact ⟨_,_,rfl,fun i c hi=>⟨_,hc i (List.getElem?_eq_some_iff.1 hi).1,(hr i c hi).of0⟩⟩
theorem VR.pm_at {row:List AV} {k g off:Nat} {c:Value} (h:VR Z w C (.pm row k g off) c):∃ blk o,c=.pointer (some ⟨blk,o+off,none⟩)∧Wb Z w C blk o (row++[.mp k g false]):=by
 cases h with
 | pm cv hz hc hk hr hcm hv =>
  refine ⟨_,_,rfl,fun i c hi=>?_⟩
  by_cases hl:i<row.length
  · rw [List.getElem?_append_left hl] at hi
    exact ⟨_,hc i hl,(hr i c hi).of0⟩
  · rw [List.getElem?_append_right (by omega)] at hi
    have hil:i - row.length<1:=(List.getElem?_eq_some_iff.1 hi).1
    have hii:i=row.length:=by omega
    subst hii
    simp only [Nat.sub_self,List.getElem?_cons_zero,Option.some.injEq] at hi
    subst hi
    exact ⟨_,hcm,hv⟩
theorem ld_cells {t n:Nat} {ag:Bool} {blk o off:Nat} {cells cs:List AV} (ha:Xe P t=some ag) (hn:szT P t=some n) (hc:Wb Z w C blk o cells)
 (hcs:(cells.drop off).take n=cs) (hl:cs.length=n) {v:AV} (hv:(ag=true∧v=.agg cs) ∨ (ag=false∧cs=[v])) :
 ∃ c,(Instr.loadAt t (.pointer (some ⟨blk,o+off,none⟩))).run P w=.ok c w∧VR Z w C v c:=by
 have key:∀ j (c:AV),cs[j]?=some c→∃ v,w.cell? ⟨blk,o+off+j,none⟩=some v∧VR Z w C c v:=by
  intro j c hj
  rw [← hcs,List.getElem?_take] at hj
  split at hj
  · rw [List.getElem?_drop] at hj
    obtain ⟨v,h1,h2⟩:=hc _ c hj
    exact ⟨v,by rw [Nat.add_assoc]; exact h1,h2⟩
  · cases hj
 rcases hv with ⟨rfl,rfl⟩ | ⟨rfl,rfl⟩
 · have hf:∃ f:Nat→Value,∀ j,j<n→w.cell? ⟨blk,o+off+j,none⟩=some (f j)∧∀ c,cs[j]?=some c→VR Z w C c (f j):=by
    refine ⟨fun j=>(w.cell? ⟨blk,o+off+j,none⟩).getD undef,fun j hj=>?_⟩
    obtain ⟨v,h1,h2⟩:=key j _ (List.getElem?_eq_getElem (by omega:j<cs.length))
    refine ⟨by simp only [h1,Option.getD_some],fun c hc=>?_⟩
    simp only [h1,Option.getD_some]
    rw [List.getElem?_eq_getElem (by omega:j<cs.length)] at hc
    simp only [Option.some.injEq] at hc
    rw [← hc]; exact h2
   obtain ⟨f,hf⟩:=hf
   refine ⟨_,by
    simp only [Instr.loadAt,Instr.sureAddr,loadVar,Sem.run_bind,Sem.run_pure,Result.andThen_ok,Yb ha,if_true,Xo hn,run_loadCells w ⟨blk,o+off,none⟩ n f (fun j hj=>by rw [Addr.add_lit]; exact (hf j hj).1)]
    rfl,.agg (by simp [hl]) fun i c v h1 h2=>?_⟩
   have hi:i<n:=by have:=(List.getElem?_eq_some_iff.1 h1).1; omega
   have:v=f i:=by simp [hi] at h2; exact h2.symm
   rw [this]; exact (hf i hi).2 c h1
 · obtain ⟨c,h1,h2⟩:=key 0 v rfl
   refine ⟨c,?_,h2⟩
   simp only [Instr.loadAt,Instr.sureAddr,loadVar,Sem.run_bind,Sem.run_pure,Result.andThen_ok,Yb ha,Bool.false_eq_true,if_false]
   rw [run_load]
   simp only [Nat.add_zero] at h1
   rw [h1]
theorem mkVal_shape {ag:Bool} {cs:List AV} {v:AV} (h:mkVal ag cs=some v):(ag=true∧v=.agg cs) ∨ (ag=false∧cs=[v]):=by
 unfold mkVal at h
 split at h
 · exact .inl ⟨rfl,by simpa using h.symm⟩
 · exact .inr ⟨rfl,by simpa using h⟩
 · cases h
theorem QbJ {cells cs:List AV} {off n:Nat} (h:takeN cells off n=some cs):(cells.drop off).take n=cs∧cs.length=n:=by
 simp only [takeN] at h
 split at h
 · rename_i hl
   simp only [Option.some.injEq] at h
   exact ⟨h,by rw [← h]; simpa using hl⟩
 · cases h
theorem KY {t n:Nat} {ag:Bool} {blk o off:Nat} {cells:List AV} {v:AV} (ha:Xe P t=some ag) (hn:szT P t=some n) (hc:Wb Z w C blk o cells)
 (h:ldv ag n cells off evs=some (v,evs',obs)) (ho:AllP obs) :
 ∃ c,(Instr.loadAt t (.pointer (some ⟨blk,o+off,none⟩))).run P w=.ok c w∧VR Z w C v c:=by
 have key:∀ {r:List EV},((takeN cells off n).bind fun cs=>(mkVal ag cs).map fun v=>(v,r,([]:List Prop)))=some (v,evs',obs)→∃ c,(Instr.loadAt t (.pointer (some ⟨blk,o+off,none⟩))).run P w=.ok c w∧VR Z w C v c:=by
  intro r h
  cases h1:takeN cells off n with
  | none=>simp [h1] at h
  | some cs =>
   obtain ⟨e1,e2⟩:=QbJ h1
   simp only [h1,Option.bind_some] at h
   cases h2:mkVal ag cs with
   | none=>simp [h2] at h
   | some v' =>
    simp only [h2,Option.map_some,Option.some.injEq,Prod.mk.injEq] at h
    obtain ⟨rfl,-,-⟩:=h
    exact ld_cells ha hn hc e1 e2 (mkVal_shape h2)
 unfold ldv at h
 split at h
 · rename_i x r
   split at h
   · rename_i hx
     simp only [Option.some.injEq,Prod.mk.injEq] at h
     obtain ⟨rfl,-,rfl⟩:=h
     rw [Bool.and_eq_true,Bool.and_eq_true] at hx
     obtain ⟨⟨h1,h2⟩,h3⟩:=hx
     refine ld_cells ha hn hc ho.1 (by simpa using h1) ?_
     cases x <;> simp [shapeOk] at h3 <;> first | exact .inr ⟨h3,rfl⟩ | exact .inl ⟨h3,rfl⟩
   · cases h
 · exact key h
 · exact key h
theorem qp {t:TypeId} {a:AV} {c:Value} (hm:Mem Z0 M w0 C Z blks w) (hv:VR Z w C a c) (h:(loadA P t a evs).run (blks[·]?)=some (eff,evs',obs)) (ho:AllP obs) :
 Yf P Z w C eff (Instr.loadAt t c):=by
 unfold loadA at h
 split at h
 · rename_i ag n row off ha hn
   split at h
   · rename_i v r ob hl
     have:=Qp h; simp only [Prod.mk.injEq] at this; obtain ⟨rfl,-,rfl⟩:=this
     obtain ⟨blk,o,rfl,hc⟩:=hv.row_at
     obtain ⟨c,h1,h2⟩:=KY ha hn hc hl ho
     exact .mk h1 h2
   · simp [Rd.run] at h
 · rename_i ag n k g off ha hn
   obtain ⟨b,hb,h⟩:=QC h
   have hz:=WM h
   obtain ⟨hlive,ob,h,hg⟩:=QR h
   split at h
   · rename_i v r ob2 hl
     have:=Qp h; simp only [Prod.mk.injEq] at this; obtain ⟨rfl,-,rfl⟩:=this
     obtain ⟨o1,o2⟩:=Qj.1 ho
     obtain ⟨blk,o,hβ,rfl⟩:=KG hm hb (hg o1) hv
     obtain ⟨c,h1,h2⟩:=KY ha hn ((hm.blk k b hb).cellsAt hlive hz hβ) hl o2
     exact .mk h1 h2
   · simp [Rd.run] at h
 · rename_i ag n row k g off ha hn
   split at h
   · rename_i v r ob hl
     have:=Qp h; simp only [Prod.mk.injEq] at this; obtain ⟨rfl,-,rfl⟩:=this
     obtain ⟨blk,o,rfl,hc⟩:=hv.pm_at
     obtain ⟨c,h1,h2⟩:=KY ha hn hc hl ho
     exact .mk h1 h2
   · simp [Rd.run] at h
 · simp [Rd.run] at h
/-! ### constants -/
theorem Qbd (v:Value):VR Z w C (ofV1 v) v:=by
 unfold ofV1
 split
 · exact .bool _
 · exact .int _ _
 · exact .nilPtr
 · exact .nilSl
 · exact .nilFunc
 · exact .opq _
theorem qK (v:Value):VR Z w C (ofV v) v:=by
 unfold ofV
 split
 · exact .clos rfl (by simp) rfl (by simp)
 · rename_i cs
   exact .agg (by simp) fun i c v h1 h2=>by
    simp only [List.getElem?_map,Array.getElem?_toList,h2,Option.map_some,Option.some.injEq] at h1
    rw [← h1]; exact Qbd v
 · exact Qbd _
theorem cells_one {c:Value} (h:c.oneCell'=true):c.cells=#[c]:=by
 cases c <;> first | rfl | simp [Value.oneCell'] at h
theorem VR.cells {v:AV} {c:Value} (h:VR Z w C v c) (hk:QZ (XE v)=true):VRs Z w C (XE v) c.cells.toList:=by
 cases hv:Xd v with
 | true =>
  have e:XE v=[v]:=by cases v <;> first | rfl | simp [Xd] at hv
  rw [e,cells_one (h.one hv)]
  refine ⟨rfl,fun i a b h1 h2=>?_⟩
  cases i with
  | zero=>simp at h1 h2; rw [← h1,← h2]; exact h
  | succ i=>simp at h1
 | false =>
  cases h <;> first | (simp [Xd] at hv; done) | (simp [XE,QZ,Xd] at hk; done) | (rw [show XE (AV.opq c)=[AV.opq c] from rfl] at hk; simp only [QZ,List.all_cons,List.all_nil,Bool.and_true] at hk; rw [hk] at hv; cases hv) | skip
  rename_i hl h
  exact ⟨by simpa [XE,Value.cells] using hl,fun i c v a b=>h i c v a (by simpa [Value.cells] using b)⟩
theorem XH {cs:List AV} (h:QZ cs=true) {i:Nat} {c:AV} (hi:cs[i]?=some c):Xd c=true :=
 List.all_eq_true.1 h c (List.mem_of_getElem? hi)
end
end Ax
namespace Ax
open Go
def dead:Blk:=⟨false,0,0,true,[],false⟩
section
variable {P:Program} {Z0 M Z:Nat→Prop} {w0 w w':World} {C:Ctx} {blks:List Blk} {evs:List EV} {eff:Eff} {evs':List EV} {obs:List Prop}
def Ctx.put (C:Ctx) (k:Nat) (s:Slot) (g:Nat):Ctx:=⟨fun j=>if j=k then s else C.β j,fun j=>if j=k then g else C.γ j⟩
theorem Evo.zero {C:Ctx} {Z Z':Nat→Prop} (h:Evo C Z Z' w w'):Evo C0 Z Z' w w' :=
 ⟨h.zsub,h.same,fun k blk o arr e hb=>by simp [C0] at hb⟩
theorem yc {k j:Nat} {b b':Blk} (hb:blks[k]?=some b):(blks.set k b')[j]?=if j=k then some b' else blks[j]?:=by
 have hk:k<blks.length:=(List.getElem?_eq_some_iff.1 hb).1
 rw [List.getElem?_set]
 by_cases h:k=j
 · subst h; simp [hk]
 · simp [h,Ne.symm h]
theorem Mem.change (hm:Mem Z0 M w0 C Z blks w) {k:Nat} {b b':Blk} {s:Slot} {g:Nat} (hb:blks[k]?=some b)
 (hos:w'.os=w.os) (htape:w'.tape=w.tape) (hout:w'.output=w.output) (hsize:w.heap.size≤w'.heap.size)
 (hother:∀ c,c<w.heap.size→(∀ o,C.β k ≠ .loc c o)→w'.heap[c]?=w.heap[c]?)
 (hrow:∀ blk o arr e,C.β k=.loc blk o→w.heap[blk]?=some (.cells arr e (0,0))→∃ arr',w'.heap[blk]?=some (.cells arr' e (0,0))∧arr'.size=arr.size)
 (hg:C.γ k≤g) (hpos:C.β k ≠ .absent→g=C.γ k→s=C.β k) (hlive:b'.live=true) (hgen:b'.gen=g)
 (hown:∀ blk o,s=.loc blk o→(∃ o',C.β k=.loc blk o') ∨ (w.heap.size≤blk∧blk<w'.heap.size))
 (hok:CtxLe C (C.put k s g)→Evo C Z Z w w'→yL (C.put k s g) Z w' k b') (hdr:w.drawn≤w'.drawn:=by first | exact Nat.le_refl _ | exact Nat.le_succ _ | exact Nat.le_add_right _ _) :
 Mem Z0 M w0 (C.put k s g) Z (blks.set k b') w'∧CtxLe C (C.put k s g)∧Evo C Z Z w w':=by
 have hle:CtxLe C (C.put k s g):=by
  refine ⟨fun j=>?_,fun j h1 h2=>?_⟩
  · by_cases e:j=k
    · subst e; simp [Ctx.put,hg]
    · simp [Ctx.put,e]
  · by_cases e:j=k
    · subst e; simp only [Ctx.put,if_true] at h2 ⊢; exact hpos h1 h2
    · simp [Ctx.put,e]
 have hevo:Evo C Z Z w w':=by
  refine ⟨fun _ h=>h,fun c hz=>hother c (hm.zlt c hz) fun o h=>(hm.own k c o h).2.1 hz,fun j blk o arr e h1 h2=>?_⟩
  by_cases hj:∃ o',C.β k=.loc blk o'
  · obtain ⟨o',hj⟩:=hj
    exact hrow blk o' arr e hj h2
  · exact ⟨arr,by rw [hother blk (hm.own j blk o h1).1 (fun o' h=>hj ⟨o',h⟩)]; exact h2,rfl⟩
 refine ⟨?_,hle,hevo⟩
 constructor
 · intro j bj hj
   rw [yc hb] at hj
   split at hj
   · rename_i e; subst e; simp only [Option.some.injEq] at hj; subst hj; exact hok hle hevo
   · rename_i e
     intro hl
     have h0:=hm.blk j bj hj hl
     refine ⟨h0.1,?_⟩
     have hβ:(C.put k s g).β j=C.β j:=by simp [Ctx.put,e]
     rw [hβ]
     have h1:=h0.2
     cases hs:C.β j with
     | absent=>simp [hs] at h1
     | unborn=>simp only [hs] at h1 ⊢; exact h1
     | loc blk o =>
      simp only [hs] at h1 ⊢
      exact h1.next (hother blk (hm.own j blk o hs).1 (fun o' h=>e (hm.inj j k blk o o' hs h))) (fun c v h=>h.mono hevo.zero) (fun _ c v _ h=>(h.mono hevo).grow hle)
 · intro j bj hj
   rw [yc hb] at hj
   split at hj
   · rename_i e; subst e; simp only [Option.some.injEq] at hj; subst hj; simp [Ctx.put,hgen]
   · rename_i e; simp only [Ctx.put,e,if_false]; exact hm.gen j bj hj
 · intro j bj hj hd
   rw [yc hb] at hj
   split at hj
   · rename_i e; subst e; simp only [Option.some.injEq] at hj; subst hj; simp [hlive] at hd
   · rename_i e; simp only [Ctx.put,e,if_false]; exact hm.dd j bj hj hd
 · intro j hj
   rw [List.length_set] at hj
   have e:j ≠ k:=by have:=(List.getElem?_eq_some_iff.1 hb).1; omega
   simp only [Ctx.put,e,if_false]
   exact hm.dom j hj
 · intro j j' c o o' h1 h2
   simp only [Ctx.put] at h1 h2
   split at h1 <;> split at h2
   · rename_i e1 e2; rw [e1,e2]
   · rename_i e1 e2
     rcases hown c o h1 with ⟨o2,h3⟩ | ⟨h3,-⟩
     · exact absurd (hm.inj j' k c o' o2 h2 h3) e2
     · have:=(hm.own j' c o' h2).1; omega
   · rename_i e1 e2
     rcases hown c o' h2 with ⟨o2,h3⟩ | ⟨h3,-⟩
     · exact absurd (hm.inj j k c o o2 h1 h3) e1
     · have:=(hm.own j c o h1).1; omega
   · exact hm.inj j j' c o o' h1 h2
 · intro j c o h1
   simp only [Ctx.put] at h1
   split at h1
   · rcases hown c o h1 with ⟨o2,h3⟩ | ⟨h3,h4⟩
     · have:=hm.own k c o2 h3; exact ⟨by omega,this.2⟩
     · exact ⟨h4,fun hz=>by have:=hm.zlt c hz; omega,.inr (Nat.le_trans hm.frame.size h3)⟩
   · have:=hm.own j c o h1; exact ⟨by omega,this.2⟩
 · exact fun c hz=>Nat.lt_of_lt_of_le (hm.zlt c hz) hsize
 · exact hm.z0
 · exact hm.zsub
 · refine ⟨hos.trans hm.frame.os,htape.trans hm.frame.tape,hout.trans hm.frame.output,Nat.le_trans hm.frame.size hsize,Nat.le_trans hm.frame.dr hdr,fun c h1 h2=>?_⟩
   rw [hother c (Nat.lt_of_lt_of_le h1 hm.frame.size) (fun o h=>(hm.own k c o h).2.2.elim h2 (fun h3=>absurd h3 (by omega)))]
   exact hm.frame.same c h1 h2
/-- A new block. -/
theorem Mem.alloc (hm:Mem Z0 M w0 C Z blks w) {k:Nat} {b:Blk} {arr:Array Value} {e:TypeId} (hb:blks[k]?=some dead)
 (hlive:b.live=true) (hgen:b.gen=0) (hsz0:b.sz ≠ 0) (hk:∀ (i:Nat) (c:AV),b.cells[i]?=some c→Xd c=true) (hl:b.cells.length≤arr.size)
 (hc:∀ (i:Nat) (c:AV),b.cells[i]?=some c→∃ v,arr[i]?=some v∧VR Z w (if b.flat then C0 else C) c v)
 (hh:w'.heap=w.heap.push (.cells arr e)) (hos:w'.os=w.os) (htape:w'.tape=w.tape) (hout:w'.output=w.output) (hdr:w.drawn≤w'.drawn:=by first | exact Nat.le_refl _ | exact Nat.le_succ _ | exact Nat.le_add_right _ _) :
 Mem Z0 M w0 (C.put k (.loc w.heap.size 0) 0) Z (blks.set k b) w'∧CtxLe C (C.put k (.loc w.heap.size 0) 0)∧Evo C Z Z w w':=by
 have habs:C.β k=.absent:=hm.dd k dead hb rfl
 have hg0:C.γ k=0:=hm.gen k dead hb
 have hsz:w'.heap.size=w.heap.size+1:=by rw [hh]; simp
 refine hm.change (hdr:=hdr) hb hos htape hout (by omega) (fun c h1 _=>by rw [hh,Array.getElem?_push,if_neg (by omega)]) (fun blk o _ _ h=>by simp [habs] at h) (by omega) (fun h=>absurd habs h) hlive hgen
  (fun blk o h=>.inr (by simp only [Slot.loc.injEq] at h; omega)) fun hle hevo _=>?_
 refine ⟨hk,?_⟩
 have:(C.put k (.loc w.heap.size 0) 0).β k=.loc w.heap.size 0:=by simp [Ctx.put]
 simp only [this]
 refine .inl ⟨hsz0,arr,e,by rw [hh]; simp,by omega,fun i c hi=>?_⟩
 obtain ⟨v,h1,h2⟩:=hc i c hi
 refine ⟨v,by simpa using h1,?_⟩
 cases hf:b.flat with
 | true=>simp only [hf,if_true] at h2 ⊢; exact h2.mono hevo.zero
 | false=>simp only [hf,Bool.false_eq_true,if_false] at h2 ⊢; exact (h2.mono hevo).grow hle
/-- A block that is not born yet: a slice without room. -/
theorem Mem.unborn (hm:Mem Z0 M w0 C Z blks w) {k:Nat} {b:Blk} (hb:blks[k]?=some dead) (hlive:b.live=true) (hgen:b.gen=0) (hc:b.cells=[]) :
 Mem Z0 M w0 (C.put k .unborn 0) Z (blks.set k b) w∧CtxLe C (C.put k .unborn 0)∧Evo C Z Z w w:=by
 have habs:C.β k=.absent:=hm.dd k dead hb rfl
 have hg0:C.γ k=0:=hm.gen k dead hb
 refine hm.change hb rfl rfl rfl (Nat.le_refl _) (fun c h1 _=>rfl) (fun blk o arr e h=>by simp [habs] at h) (by omega) (fun h=>absurd habs h) hlive hgen
  (fun blk o h=>by simp at h) fun hle hevo _=>?_
 refine ⟨by simp [hc],?_⟩
 have:(C.put k .unborn 0).β k=.unborn:=by simp [Ctx.put]
 simp only [this]
 exact hc
end
end Ax
namespace Ax
open Go
def Eff.blks (idx:Nat):Eff→List Blk→List Blk
 | .val _,bs=>bs
 | .new b _,bs=>bs.set idx b
 | .upd k b _,bs=>bs.set k b
def Eff.av (idx:Nat):Eff→AV
 | .val v=>v
 | .new _ mk=>mk idx
 | .upd _ _ v=>v
theorem YO:∀ (vs cells:List AV) (off:Nat),(Qv cells off vs).length=cells.length
 | [],_,_=>rfl
 | v :: vs,cells,off=>by simp [Qv,YO vs]
theorem Vd:∀ (vs cells:List AV) (off i:Nat),off+vs.length≤cells.length→(Qv cells off vs)[i]?=if off≤i∧i<off+vs.length then vs[i - off]? else cells[i]?
 | [],cells,off,i,_=>by simp [Qv]; omega
 | v :: vs,cells,off,i,h=>by
  simp only [List.length_cons] at h
  rw [Qv,Vd vs _ (off+1) i (by simp; omega),List.getElem?_set]
  by_cases h1:off=i
  · subst h1
    have:¬ (off+1≤off∧off<off+1+vs.length):=by omega
    simp [this,show off<cells.length by omega]
  · by_cases h2:off+1≤i∧i<off+1+vs.length
    · have h3:off≤i∧i<off+(v :: vs).length:=by simp; omega
      rw [if_pos h2,if_pos h3,show i - off=(i - (off+1))+1 by omega]
      simp
    · have h3:¬ (off≤i∧i<off+(v :: vs).length):=by simp; omega
      rw [if_neg h2,if_neg h3,if_neg h1]
theorem ya {arr:List Value} {vs:List Value} {p i:Nat} (h:p+vs.length≤arr.length) :
 (arr.take p++vs++arr.drop (p+vs.length))[i]?=if p≤i∧i<p+vs.length then vs[i - p]? else arr[i]?:=by
 rw [List.append_assoc,List.getElem?_append]
 simp only [List.length_take,Nat.min_eq_left (show p≤arr.length by omega)]
 by_cases h1:i<p
 · have:¬ (p≤i∧i<p+vs.length):=by omega
   simp [h1,this]
 · rw [if_neg h1,List.getElem?_append]
   by_cases h2:i - p<vs.length
   · have:p≤i∧i<p+vs.length:=by omega
     simp [h2,this]
   · have:¬ (p≤i∧i<p+vs.length):=by omega
     simp only [h2,this,if_false,List.getElem?_drop]
     congr 1; omega
section
variable {P:Program} {Z0 M Z:Nat→Prop} {w0 w:World} {C:Ctx} {blks:List Blk} {evs:List EV} {eff:Eff} {evs':List EV} {obs:List Prop} {idx:Nat}
/-- The state behind an operation. -/
def Res (Z0 M:Nat→Prop) (w0:World) (C:Ctx) (Z:Nat→Prop) (blks:List Blk) (w:World) (idx:Nat) (eff:Eff) (c:Value) (w':World):Prop :=
 ∃ (C':Ctx) (Z':Nat→Prop),CtxLe C C'∧Evo C Z Z' w w'∧Mem Z0 M w0 C' Z' (eff.blks idx blks) w'∧VR Z' w' C' (eff.av idx) c
/-- A block that is no more the call's own: laid down as it lies. -/
theorem Mem.kill (hm:Mem Z0 M w0 C Z blks w) {k:Nat} {b:Blk} (hb:blks[k]?=some b) :
 Mem Z0 M w0 (C.put k .absent (b.gen+1)) (fun c=>Z c ∨ ∃ o,C.β k=.loc c o) (blks.set k ⟨false,b.gen+1,b.sz,true,[],false⟩) w∧CtxLe C (C.put k .absent (b.gen+1)) ∧
  Evo C Z (fun c=>Z c ∨ ∃ o,C.β k=.loc c o) w w:=by
 have hg:=hm.gen k b hb
 have hle:CtxLe C (C.put k .absent (b.gen+1)):=by
  refine ⟨fun j=>?_,fun j h1 h2=>?_⟩
  · by_cases e:j=k
    · subst e; simp [Ctx.put]; omega
    · simp [Ctx.put,e]
  · by_cases e:j=k
    · subst e; simp [Ctx.put] at h2; omega
    · simp [Ctx.put,e]
 have hevo:Evo C Z (fun c=>Z c ∨ ∃ o,C.β k=.loc c o) w w:=⟨fun _ h=>.inl h,fun _ _=>rfl,fun _ _ _ arr _ _ h=>⟨arr,h,rfl⟩⟩
 refine ⟨?_,hle,hevo⟩
 constructor
 · intro j bj hj
   rw [yc hb] at hj
   split at hj
   · simp only [Option.some.injEq] at hj; subst hj; intro h; cases h
   · rename_i e
     intro hl
     obtain ⟨q1,q2⟩:=hm.blk j bj hj hl
     refine ⟨q1,?_⟩
     have hβ:(C.put k .absent (b.gen+1)).β j=C.β j:=by simp [Ctx.put,e]
     rw [hβ]
     cases hs:C.β j with
     | absent=>simp [hs] at q2
     | unborn=>simp only [hs] at q2 ⊢; exact q2
     | loc blk o =>
      simp only [hs] at q2 ⊢
      exact q2.next rfl (fun c v h=>h.mono hevo.zero) (fun _ c v _ h=>(h.mono hevo).grow hle)
 · intro j bj hj
   rw [yc hb] at hj
   split at hj
   · rename_i e; subst e; simp only [Option.some.injEq] at hj; subst hj; simp [Ctx.put]
   · rename_i e; simp only [Ctx.put,e,if_false]; exact hm.gen j bj hj
 · intro j bj hj hd
   rw [yc hb] at hj
   split at hj
   · rename_i e; subst e; simp [Ctx.put]
   · rename_i e; simp only [Ctx.put,e,if_false]; exact hm.dd j bj hj hd
 · intro j hj
   rw [List.length_set] at hj
   have e:j ≠ k:=by have:=(List.getElem?_eq_some_iff.1 hb).1; omega
   simp only [Ctx.put,e,if_false]
   exact hm.dom j hj
 · intro j j' c o o' h1 h2
   simp only [Ctx.put] at h1 h2
   split at h1 <;> split at h2
   · cases h1
   · cases h1
   · cases h2
   · exact hm.inj j j' c o o' h1 h2
 · intro j c o h1
   simp only [Ctx.put] at h1
   split at h1
   · cases h1
   · rename_i e
     have:=hm.own j c o h1
     refine ⟨this.1,fun hz=>?_,this.2.2⟩
     rcases hz with hz | ⟨o',hz⟩
     · exact this.2.1 hz
     · exact e (hm.inj j k c o o' h1 hz)
 · intro c hz
   rcases hz with hz | ⟨o,hz⟩
   · exact hm.zlt c hz
   · exact (hm.own k c o hz).1
 · exact fun c h=>.inl (hm.z0 c h)
 · intro c hz
   rcases hz with hz | ⟨o,hz⟩
   · exact hm.zsub c hz
   · exact .inr (hm.own k c o hz).2.2
 · exact hm.frame
/-- A slice over a block that is laid down. -/
theorem VR.lay (hm:Mem Z0 M w0 C Z blks w) {k g off len sz:Nat} {b:Blk} {c:Value} (hb:blks[k]?=some b) (hl:b.live=true) (hz:b.sz ≠ 0) (hf:b.flat=true) (hg:g=b.gen) (h:VR Z w C (.sl k g off len sz) c) {C':Ctx} :
 VR (fun c=>Z c ∨ ∃ o,C.β k=.loc c o) w C' (.rsl b.cells off len) c:=by
 have hok:=KC hm hb hg h
 obtain ⟨hk,h1⟩:=hm.blk k b hb hl
 unfold SlOk at hok
 split at hok
 · rename_i bl o hβ
   obtain ⟨a,cap,rfl,hlc,ha,-⟩:=hok
   simp only [hβ] at h1
   obtain ⟨arr,e,hh,hsz,hc⟩:=h1.cells hz
   by_cases hlen:len=0
   · subst hlen; exact .rsl0
   · obtain rfl:=ha (by omega)
     refine .rsl (fun i=>arr.getD (o+i) undef) (.inr ⟨o,hβ⟩) hlc (fun i hi=>?_) hk (fun i c hi=>?_)
     · rw [Yy hh]; simp [Array.getD,show o+i<arr.size by omega]
     · obtain ⟨v,h2,h3⟩:=hc i c hi
       simp only [hf,if_true] at h3
       have:arr.getD (o+i) undef=v:=by
        have hlt:=(Array.getElem?_eq_some_iff.1 h2).1
        simp [Array.getD,hlt]; exact (Array.getElem?_eq_some_iff.1 h2).2
       show VR _ w C0 c (arr.getD (o+i) undef)
       rw [this]
       exact h3.mono ⟨fun _ hz=>.inl hz,fun _ _=>rfl,fun _ _ _ arr _ _ h=>⟨arr,h,rfl⟩⟩
 · obtain ⟨rfl,a,rfl⟩:=hok
   exact .rsl0
 · exact hok.elim
/-- The block that an operation has turned,laid down behind it. -/
theorem Res.lay {k g off len sz:Nat} {b:Blk} {c:Value} {w':World} (hk:k<blks.length) (h:Res Z0 M w0 C Z blks w idx (.upd k b (.sl k g off len sz)) c w') (hl:b.live=true) (hz:b.sz ≠ 0) (hf:b.flat=true) (hg:g=b.gen) :
 Res Z0 M w0 C Z blks w idx (.upd k ⟨false,b.gen+1,b.sz,true,[],false⟩ (.rsl b.cells off len)) c w':=by
 obtain ⟨C',Z',hle,hevo,hm,hv⟩:=h
 have hb:(blks.set k b)[k]?=some b:=by simp [hk]
 simp only [Eff.blks,Eff.av] at hm hv
 obtain ⟨h1,h2,h3⟩:=hm.kill hb
 refine ⟨C'.put k .absent (b.gen+1),fun c=>Z' c ∨ ∃ o,C'.β k=.loc c o,⟨fun j=>Nat.le_trans (hle.gen j) (h2.gen j),fun j p q=>?_⟩,⟨fun c hz=>.inl (hevo.zsub c hz),hevo.same,hevo.rows⟩,?_,?_⟩
 · have e1:=hle.gen j
   have e2:=h2.gen j
   have q1:C'.γ j=C.γ j:=by omega
   rw [h2.pos j (by rw [hle.pos j p q1]; exact p) (by omega),hle.pos j p q1]
 · simp only [Eff.blks]
   rw [List.set_set] at h1
   exact h1
 · simp only [Eff.av]
   exact hv.lay hm hb hl hz hf hg
theorem Yf.res {s:Sem Value} (hm:Mem Z0 M w0 C Z blks w) (h:Yf P Z w C eff s):∃ c w',s.run P w=.ok c w'∧Res Z0 M w0 C Z blks w idx eff c w':=by
 obtain ⟨v,c,rfl,h1,h2⟩:=h
 exact ⟨c,w,h1,C,Z,.refl C,⟨fun _ h=>h,fun _ _=>rfl,fun k blk o arr e _ h=>⟨arr,h,rfl⟩⟩,hm,h2⟩
theorem QaG (hm:Mem Z0 M w0 C Z blks w) (hb:blks[idx]?=some dead) {cs:List AV} {vs:Array Value} {e:TypeId} (hk:QZ cs=true) (hv:VRs Z w C cs vs.toList) :
 Res Z0 M w0 C Z blks w idx (.new ⟨true,0,1,noRefs cs,cs,false⟩ (fun k=>.ptr k 0 0)) (.pointer (some ⟨w.heap.size,0,none⟩)) (w.alloc (.cells vs e)):=by
 obtain ⟨h1,h2,h3⟩:=hm.alloc (b:=⟨true,0,1,noRefs cs,cs,false⟩) (arr:=vs) (e:=e) hb rfl rfl (by simp) (fun i c hi=>XH hk hi) (by have:=hv.1; simp at this; simp [this]) (w':=w.alloc (.cells vs e)) (hh:=rfl) (hos:=rfl) (htape:=rfl) (hout:=rfl) (hc:=fun i c hi=>by
  have hlt:i<vs.size:=by have:=hv.1; have h4:=(List.getElem?_eq_some_iff.1 hi).1; simp at this; simp at h4; omega
  refine ⟨vs[i],by simp [hlt],?_⟩
  have:=hv.2 i c vs[i] hi (by simp [hlt])
  cases hf:noRefs cs with
  | true=>simp only [if_true]; exact this.ctx (QQ hf hi)
  | false=>simpa using this)
 refine ⟨_,Z,h2,h3,h1,.ptr (by simp [Ctx.put]) rfl fun _=>⟨w.heap.size,0,by simp [Ctx.put],rfl⟩⟩
theorem VR.layP (hm:Mem Z0 M w0 C Z blks w) {k g off:Nat} {b:Blk} {c:Value} (hb:blks[k]?=some b) (hl:b.live=true) (hz:b.sz ≠ 0) (hf:b.flat=true) (hg:g=b.gen) (h:VR Z w C (.ptr k g off) c) {C':Ctx} :
 VR (fun c=>Z c ∨ ∃ o,C.β k=.loc c o) w C' (.rptr b.cells off) c:=by
 cases h with
 | ptr _ _ h =>
  obtain ⟨blk,o,hβ,rfl⟩:=h (hg.trans (hm.gen k b hb).symm)
  obtain ⟨hk,h1⟩:=hm.blk k b hb hl
  simp only [hβ] at h1
  obtain ⟨arr,e,hh,hsz,hc⟩:=h1.cells hz
  refine .rptr (fun i=>arr.getD (o+i) undef) (.inr ⟨o,hβ⟩) (fun i hi=>?_) hk (fun i c hi=>?_)
  · rw [Yy hh]; simp [Array.getD,show o+i<arr.size by omega]
  · obtain ⟨v,h2,h3⟩:=hc i c hi
    simp only [hf,if_true] at h3
    have:arr.getD (o+i) undef=v:=by
     have hlt:=(Array.getElem?_eq_some_iff.1 h2).1
     simp [Array.getD,hlt]; exact (Array.getElem?_eq_some_iff.1 h2).2
    show VR _ w C0 c (arr.getD (o+i) undef)
    rw [this]
    exact h3.mono ⟨fun _ hz=>.inl hz,fun _ _=>rfl,fun _ _ _ arr _ _ h=>⟨arr,h,rfl⟩⟩
/-- A pointer to new memory,laid down at once. -/
theorem Res.layP {b:Blk} {c:Value} {w':World} (hb:blks[idx]?=some dead) (h:Res Z0 M w0 C Z blks w idx (.new b (fun k=>.ptr k b.gen 0)) c w') (hl:b.live=true) (hz:b.sz ≠ 0) (hf:b.flat=true) :
 Res Z0 M w0 C Z blks w idx (.new ⟨false,b.gen+1,b.sz,true,[],false⟩ (fun _=>.rptr b.cells 0)) c w':=by
 obtain ⟨C',Z',hle,hevo,hm,hv⟩:=h
 have hlt:=(List.getElem?_eq_some_iff.1 hb).1
 have hb':(blks.set idx b)[idx]?=some b:=by simp [hlt]
 simp only [Eff.blks,Eff.av] at hm hv
 obtain ⟨h1,h2,h3⟩:=hm.kill hb'
 refine ⟨C'.put idx .absent (b.gen+1),fun c=>Z' c ∨ ∃ o,C'.β idx=.loc c o,⟨fun j=>Nat.le_trans (hle.gen j) (h2.gen j),fun j p q=>?_⟩,⟨fun c hz=>.inl (hevo.zsub c hz),hevo.same,hevo.rows⟩,?_,?_⟩
 · have e1:=hle.gen j
   have e2:=h2.gen j
   have q1:C'.γ j=C.γ j:=by omega
   rw [h2.pos j (by rw [hle.pos j p q1]; exact p) (by omega),hle.pos j p q1]
 · simp only [Eff.blks]
   rw [List.set_set] at h1
   exact h1
 · simp only [Eff.av]
   exact hv.layP hm hb' hl hz hf rfl
/-- A pointer to a struct that is laid down,but for its last cell,which holds a live map. -/
theorem VR.layPm (hm:Mem Z0 M w0 C Z blks w) {k g off km gm:Nat} {b:Blk} {c:Value} {row:List AV} (hb:blks[k]?=some b) (hl:b.live=true) (hz:b.sz ≠ 0) (hcs:b.cells=row++[.mp km gm false]) (hnr:noRefs row=true) (hg:g=b.gen) (h:VR Z w C (.ptr k g off) c)
 {C':Ctx} (hle:CtxLe C C'):VR (fun c=>Z c ∨ ∃ o,C.β k=.loc c o) w C' (.pm row km gm off) c:=by
 cases h with
 | ptr _ _ h =>
  obtain ⟨blk,o,hβ,rfl⟩:=h (hg.trans (hm.gen k b hb).symm)
  obtain ⟨hk,h1⟩:=hm.blk k b hb hl
  simp only [hβ] at h1
  obtain ⟨arr,e,hh,hsz,hc⟩:=h1.cells hz
  have hmono:∀ {C1:Ctx} {c:AV} {v:Value},VR Z w C1 c v→VR (fun c=>Z c ∨ ∃ o,C.β k=.loc c o) w C1 c v:=fun h=>h.mono ⟨fun _ hz=>.inl hz,fun _ _=>rfl,fun _ _ _ arr _ _ h=>⟨arr,h,rfl⟩⟩
  have hcC:∀ (i:Nat) (c:AV),b.cells[i]?=some c→VR Z w C c (arr.getD (o+i) undef):=fun i c hi=>by
   obtain ⟨v,h2,h3⟩:=hc i c hi
   have:arr.getD (o+i) undef=v:=by
    have hlt:=(Array.getElem?_eq_some_iff.1 h2).1
    simp [Array.getD,hlt]; exact (Array.getElem?_eq_some_iff.1 h2).2
   rw [this]
   split at h3
   · exact h3.of0
   · exact h3
  have hlen:b.cells.length=row.length+1:=by rw [hcs]; simp
  have hrow:∀ (i:Nat) (c:AV),row[i]?=some c→b.cells[i]?=some c:=fun i c hi=>by
   rw [hcs,List.getElem?_append_left (List.getElem?_eq_some_iff.1 hi).1]; exact hi
  have hlast:b.cells[row.length]?=some (.mp km gm false):=by rw [hcs]; simp
  refine .pm (fun i=>arr.getD (o+i) undef) (.inr ⟨o,hβ⟩) (fun i hi=>?_) (fun i c hi=>hk i c (hrow i c hi)) (fun i c hi=>?_) (cm:=arr.getD (o+row.length) undef) ?_ ?_
  · rw [Yy hh]; simp [Array.getD,show o+i<arr.size by omega]
  · exact hmono ((hcC i c (hrow i c hi)).ctx (QQ hnr hi))
  · rw [Yy hh]; simp [Array.getD,show o+row.length<arr.size by omega]
  · exact (hmono (hcC _ _ hlast)).grow hle
theorem Res.layPm {b:Blk} {c:Value} {w':World} {row:List AV} {km gm:Nat} (hb:blks[idx]?=some dead) (h:Res Z0 M w0 C Z blks w idx (.new b (fun k=>.ptr k b.gen 0)) c w') (hl:b.live=true) (hz:b.sz ≠ 0) (hcs:b.cells=row++[.mp km gm false]) (hnr:noRefs row=true) :
 Res Z0 M w0 C Z blks w idx (.new ⟨false,b.gen+1,b.sz,true,[],false⟩ (fun _=>.pm row km gm 0)) c w':=by
 obtain ⟨C',Z',hle,hevo,hm,hv⟩:=h
 have hlt:=(List.getElem?_eq_some_iff.1 hb).1
 have hb':(blks.set idx b)[idx]?=some b:=by simp [hlt]
 simp only [Eff.blks,Eff.av] at hm hv
 obtain ⟨h1,h2,h3⟩:=hm.kill hb'
 refine ⟨C'.put idx .absent (b.gen+1),fun c=>Z' c ∨ ∃ o,C'.β idx=.loc c o,⟨fun j=>Nat.le_trans (hle.gen j) (h2.gen j),fun j p q=>?_⟩,⟨fun c hz=>.inl (hevo.zsub c hz),hevo.same,hevo.rows⟩,?_,?_⟩
 · have e1:=hle.gen j
   have e2:=h2.gen j
   have q1:C'.γ j=C.γ j:=by omega
   rw [h2.pos j (by rw [hle.pos j p q1]; exact p) (by omega),hle.pos j p q1]
 · simp only [Eff.blks]
   rw [List.set_set] at h1
   exact h1
 · simp only [Eff.av]
   exact hv.layPm hm hb' hl hz hcs hnr rfl h2
theorem alloc_born (hm:Mem Z0 M w0 C Z blks w) (hb:blks[idx]?=some dead) {cs:List AV} {vs:Array Value} {e:TypeId} (hk:QZ cs=true) (hn:noRefs cs=true) (hv:VRs Z w C cs vs.toList) :
 Res Z0 M w0 C Z blks w idx (.new ⟨true,0,1,true,cs,true⟩ (fun k=>.ptr k 0 0)) (.pointer (some ⟨w.heap.size,0,none⟩)) (w.alloc (.cells vs e)):=by
 obtain ⟨h1,h2,h3⟩:=hm.alloc (b:=⟨true,0,1,true,cs,true⟩) (arr:=vs) (e:=e) hb rfl rfl (by simp) (fun i c hi=>XH hk hi) (by have:=hv.1; simp at this; simp [this]) (w':=w.alloc (.cells vs e)) (hh:=rfl) (hos:=rfl) (htape:=rfl) (hout:=rfl) (hc:=fun i c hi=>by
  have hlt:i<vs.size:=by have:=hv.1; have h4:=(List.getElem?_eq_some_iff.1 hi).1; simp at this; simp at h4; omega
  refine ⟨vs[i],by simp [hlt],?_⟩
  have:=hv.2 i c vs[i] hi (by simp [hlt])
  simp only [if_true]; exact this.ctx (QQ hn hi))
 refine ⟨_,Z,h2,h3,h1,.ptr (by simp [Ctx.put]) rfl fun _=>⟨w.heap.size,0,by simp [Ctx.put],rfl⟩⟩
theorem alloc_reb (hm:Mem Z0 M w0 C Z blks w) {k:Nat} {b:Blk} (hbk:blks[k]?=some b) {cs:List AV} {vs:Array Value} {e:TypeId} (hk:QZ cs=true) (hn:noRefs cs=true) (hv:VRs Z w C cs vs.toList) :
 Res Z0 M w0 C Z blks w idx (.upd k ⟨true,b.gen+1,1,true,cs,true⟩ (.ptr k (b.gen+1) 0)) (.pointer (some ⟨w.heap.size,0,none⟩)) (w.alloc (.cells vs e)):=by
 have hg0:C.γ k=b.gen:=hm.gen k b hbk
 have hh:(w.alloc (.cells vs e)).heap=w.heap.push (.cells vs e):=rfl
 have hsz:(w.alloc (.cells vs e)).heap.size=w.heap.size+1:=by rw [hh]; simp
 have hok2:CtxLe C (C.put k (.loc w.heap.size 0) (b.gen+1))→Evo C Z Z w (w.alloc (.cells vs e))→yL (C.put k (.loc w.heap.size 0) (b.gen+1)) Z (w.alloc (.cells vs e)) k ⟨true,b.gen+1,1,true,cs,true⟩:=fun hle hevo=>by
  intro _
  refine ⟨fun i c hi=>XH hk hi,?_⟩
  have:(C.put k (.loc w.heap.size 0) (b.gen+1)).β k=.loc w.heap.size 0:=by simp [Ctx.put]
  simp only [this]
  refine .inl ⟨by simp,vs,e,by rw [hh]; simp,by have:=hv.1; simp at this; simp [this],fun i c hi=>?_⟩
  have hlt:i<vs.size:=by have:=hv.1; have h4:=(List.getElem?_eq_some_iff.1 hi).1; simp at this; simp at h4; omega
  refine ⟨vs[i],by simp [hlt],?_⟩
  have h5:=hv.2 i c vs[i] hi (by simp [hlt])
  simp only [if_true]
  exact (h5.ctx (QQ hn hi)).mono hevo.zero
 have key:=hm.change (b':=⟨true,b.gen+1,1,true,cs,true⟩) (w':=w.alloc (.cells vs e)) (s:=.loc w.heap.size 0) (g:=b.gen+1) hbk rfl rfl rfl (by omega)
  (fun c h1 _=>by rw [hh,Array.getElem?_push,if_neg (by omega)])
  (fun blk o arr e' hβ h=>⟨arr,by rw [hh,Array.getElem?_push,if_neg (by have:=(hm.own k blk o hβ).1; omega)]; exact h,rfl⟩)
  (by omega) (fun _ h=>by omega) rfl rfl (fun blk o h=>.inr (by simp only [Slot.loc.injEq] at h; omega)) fun hle hevo=>(hok2 hle hevo)
 obtain ⟨h1,h2,h3⟩:=key
 exact ⟨_,Z,h2,h3,h1,.ptr (by simp [Ctx.put]) rfl fun _=>⟨w.heap.size,0,by simp [Ctx.put],rfl⟩⟩
theorem yO {cs:List AV} {vs:Array Value} {e:TypeId} (hm:Mem Z0 M w0 C Z blks w) (hb:blks[idx]?=some dead) (hv:QZ cs=true→VRs Z w C cs vs.toList)
 (h:(newBox cs evs).run (blks[·]?)=some (eff,evs',obs)):Res Z0 M w0 C Z blks w idx eff (.pointer (some ⟨w.heap.size,0,none⟩)) (w.alloc (.cells vs e)):=by
 unfold newBox at h
 split at h
 · split at h
   · rename_i hk
     simp only [Rd.run,Option.some.injEq,Prod.mk.injEq] at h
     obtain ⟨rfl,-,-⟩:=h
     simp only [Bool.and_eq_true] at hk
     have:=QaG hm hb (e:=e) hk.1 (hv hk.1)
     rw [hk.2] at this
     exact this.layP (b:=⟨true,0,1,true,cs,false⟩) hb rfl (by simp) rfl
   · simp [Rd.run] at h
 · split at h
   · rename_i km gm hlast
     split at h
     · rename_i hk
       simp only [Rd.run,Option.some.injEq,Prod.mk.injEq] at h
       obtain ⟨rfl,-,-⟩:=h
       simp only [Bool.and_eq_true] at hk
       have:=QaG hm hb (e:=e) hk.1 (hv hk.1)
       have hcs:cs=cs.dropLast++[.mp km gm false]:=by
        have hne:cs ≠ []:=by rintro rfl; simp at hlast
        rw [List.getLast?_eq_some_getLast hne,Option.some.injEq] at hlast
        conv=>lhs; rw [← List.dropLast_concat_getLast hne,hlast]
       exact this.layPm (b:=⟨true,0,1,noRefs cs,cs,false⟩) hb rfl (by simp) hcs hk.2
     · simp [Rd.run] at h
   · simp [Rd.run] at h
 · split at h
   · rename_i hk
     simp only [Rd.run,Option.some.injEq,Prod.mk.injEq] at h
     obtain ⟨rfl,-,-⟩:=h
     simp only [Bool.and_eq_true] at hk
     exact alloc_born hm hb hk.1 hk.2 (hv hk.1)
   · simp [Rd.run] at h
 · obtain ⟨b,hbk,h⟩:=QC h
   split at h
   · rename_i hk
     simp only [Rd.run,Option.some.injEq,Prod.mk.injEq] at h
     obtain ⟨rfl,-,-⟩:=h
     simp only [Bool.and_eq_true] at hk
     exact alloc_reb hm hbk hk.2.1 hk.2.2 (hv hk.2.1)
   · simp [Rd.run] at h
 · split at h
   · rename_i hk
     simp only [Rd.run,Option.some.injEq,Prod.mk.injEq] at h
     obtain ⟨rfl,-,-⟩:=h
     exact QaG hm hb hk (hv hk)
   · simp [Rd.run] at h
theorem WB {t:TypeId} {cs:List AV} (h:Yl P t=some cs):∃ z,(zeroValue t).run P w=.ok z w∧(QZ cs=true→VRs Z w C cs z.cells.toList)∧(P.info? t).bind (·.zero)=some z∧cs=XE (ofV z):=by
 unfold Yl at h
 cases hz:(P.info? t).bind (·.zero) with
 | none=>simp [hz] at h
 | some z =>
  simp only [hz,Option.map_some,Option.some.injEq] at h
  subst h
  refine ⟨z,?_,fun hk=>(qK z).cells hk,rfl,rfl⟩
  cases hi:P.info? t with
  | none=>simp [hi] at hz
  | some i=>simp [hi] at hz; simp [zeroValue,typeInfo,hi,hz]
/-- A slice over a new block. -/
theorem QcH {w':World} (hm:Mem Z0 M w0 C Z blks w) (hb:blks[idx]?=some dead) {cs:List AV} {arr:Array Value} {e:TypeId} {len sz cap:Nat} {fl:Bool}
 (hsz0:sz ≠ 0) (hk:∀ (i:Nat) (c:AV),cs[i]?=some c→Xd c=true) (hl:cs.length≤arr.size)
 (hv:∀ (i:Nat) (c:AV),cs[i]?=some c→∃ v,arr[i]?=some v∧VR Z w (if fl then C0 else C) c v) (hlc:len≤cap) (hcap:cap*sz≤arr.size)
 (hh:w'.heap=w.heap.push (.cells arr e)) (hos:w'.os=w.os) (htape:w'.tape=w.tape) (hout:w'.output=w.output) (hdr:w.drawn≤w'.drawn:=by first | exact Nat.le_refl _ | exact Nat.le_succ _ | exact Nat.le_add_right _ _) :
 Res Z0 M w0 C Z blks w idx (.new ⟨true,0,sz,fl,cs,true⟩ (fun k=>.sl k 0 0 len sz)) (.slice (some ⟨w.heap.size,0,none⟩) len cap) w':=by
 obtain ⟨h1,h2,h3⟩:=hm.alloc (b:=⟨true,0,sz,fl,cs,true⟩) (arr:=arr) (e:=e) hb rfl rfl hsz0 hk hl hv hh hos htape hout hdr
 refine ⟨_,Z,h2,h3,h1,.sl (by simp [Ctx.put]) rfl fun _=>?_⟩
 have:(C.put idx (.loc w.heap.size 0) 0).β idx=.loc w.heap.size 0:=by simp [Ctx.put]
 simp only [SlOk,this]
 exact ⟨_,cap,rfl,hlc,fun _=>rfl,arr,e,by rw [hh]; simp,by omega⟩
theorem Wg (hm:Mem Z0 M w0 C Z blks w) (hb:blks[idx]?=some dead) {sz:Nat} {a:Option Addr} {fl:Bool} :
 Res Z0 M w0 C Z blks w idx (.new ⟨true,0,sz,fl,[],true⟩ (fun k=>.sl k 0 0 0 sz)) (.slice a 0 0) w:=by
 obtain ⟨h1,h2,h3⟩:=hm.unborn (b:=⟨true,0,sz,fl,[],true⟩) hb rfl rfl rfl
 refine ⟨_,Z,h2,h3,h1,.sl (by simp [Ctx.put]) rfl fun _=>?_⟩
 have:(C.put idx .unborn 0).β idx=.unborn:=by simp [Ctx.put]
 simp only [SlOk,this]
 exact ⟨trivial,a,rfl⟩
theorem storeVar_run {t:TypeId} {n:Nat} {blk p:Nat} {c:Value} {arr:Array Value} {e:TypeId} (hn:szT P t=some n) (hs:c.cells.size=n) (h1:∀ v ∈ c.cells.toList,v.oneCell'=true)
 (hh:w.heap[blk]?=some (.cells arr e (0,0))) (hp:p+n≤arr.size) :
 (storeVar t ⟨blk,p,none⟩ c).run P w=.ok () (w.setRow blk (arr.toList.take p++c.cells.toList++arr.toList.drop (p+n)).toArray):=by
 have:=run_storeCells_at P blk p e c.cells.toList 0 arr w hh (by simp; omega) h1
 simp only [storeVar,Sem.run_bind,Xo hn,Result.andThen_ok,hs,ne_eq,not_true_eq_false,if_false,Sem.run_pure,this]
 simp [hs]
theorem storeA_sound {t:TypeId} {a x:AV} {ca cx:Value} (hm:Mem Z0 M w0 C Z blks w) (ha:VR Z w C a ca) (hx:VR Z w C x cx)
 (h:(storeA P t a x evs).run (blks[·]?)=some (eff,evs',obs)) (ho:AllP obs):∃ w',(Instr.storeAt t ca cx).run P w=.ok () w'∧Res Z0 M w0 C Z blks w idx eff undef w':=by
 unfold storeA at h
 split at h
 · rename_i n k g off hn
   simp only at h
   split at h
   · rename_i hc
     simp only [Bool.and_eq_true,beq_iff_eq] at hc
     obtain ⟨hlen,hk⟩:=hc
     obtain ⟨b,hb,h⟩:=QC h
     · have hbz:=WM h
       obtain ⟨hlive,ob,h,hg⟩:=QR h
       simp only [Rd.run,Option.some.injEq,Prod.mk.injEq] at h
       obtain ⟨rfl,-,rfl⟩:=h
       obtain ⟨hoff,ho⟩:=ho
       obtain ⟨blk,o,hβ,rfl⟩:=KG hm hb (hg ho) ha
       have hvs:=hx.cells hk
       have hok:=hm.blk k b hb hlive
       obtain ⟨hkc,hok⟩:=hok
       simp only [hβ] at hok
       obtain ⟨arr,e,hh,hsz,hcells⟩:=hok.cells hbz
       have hcs:cx.cells.size=n:=by have:=hvs.1; simp at this; omega
       have hone:∀ v ∈ cx.cells.toList,v.oneCell'=true:=by
        intro v hv
        obtain ⟨i,hi⟩:=List.mem_iff_getElem?.1 hv
        have hlt:i<(XE x).length:=by have:=(List.getElem?_eq_some_iff.1 hi).1; have:=hvs.1; omega
        exact (hvs.2 i _ v (List.getElem?_eq_getElem hlt) hi).one (XH hk (List.getElem?_eq_getElem hlt))
       have hst:=storeVar_run (P:=P) (p:=o+off) hn hcs hone hh (by omega)
       refine ⟨_,by simp only [Instr.storeAt,Instr.sureAddr,Sem.run_bind,Sem.run_pure,Result.andThen_ok,hst]; rfl,?_⟩
       have hC:C.put k (.loc blk o) b.gen=C:=by
        have e1:=hm.gen k b hb
        cases C with
        | mk β γ =>
         simp only [Ctx.put,Ctx.mk.injEq]
         constructor
         · funext j; by_cases e:j=k
           · subst e; simp; exact hβ.symm
           · simp [e]
         · funext j; by_cases e:j=k
           · subst e; simp; exact e1.symm
           · simp [e]
       have hgetA:∀ i,(arr.toList.take (o+off)++cx.cells.toList++arr.toList.drop (o+off+n))[i]?=if o+off≤i∧i<o+off+n then cx.cells.toList[i - (o+off)]? else arr.toList[i]?:=by
        intro i
        have:=ya (arr:=arr.toList) (vs:=cx.cells.toList) (p:=o+off) (i:=i) (by simp [hcs]; omega)
        simpa [hcs] using this
       have hch:=hm.change (w':=w.setRow blk (arr.toList.take (o+off)++cx.cells.toList++arr.toList.drop (o+off+n)).toArray) (b':={ b with cells:=Qv b.cells off (XE x),flat:=b.flat && noRefs (XE x) }) (s:=.loc blk o) (g:=b.gen) hb
        rfl rfl rfl (by simp) (fun c hc hne=>setRow_other w blk c _ (fun e=>hne o (by rw [e]; exact hβ)))
        (fun blk2 o2 arr2 e2 h2 h3=>by
          rw [hβ] at h2; simp only [Slot.loc.injEq] at h2; obtain ⟨rfl,rfl⟩:=h2
          rw [hh] at h3; simp only [Option.some.injEq,Obj.cells.injEq] at h3; obtain ⟨rfl,rfl,-⟩:=h3
          exact ⟨_,setRow_heap w blk arr _ e _ hh,by simp [hcs]; omega⟩)
        (by rw [hm.gen k b hb]; exact Nat.le_refl _) (fun _ _=>hβ.symm) hlive rfl (fun blk2 o2 h2=>by simp only [Slot.loc.injEq] at h2; obtain ⟨rfl,rfl⟩:=h2; exact .inl ⟨_,hβ⟩)
        (fun hle hevo _=>by
          refine ⟨fun i c hi=>?_,?_⟩
          · rw [Vd _ _ _ _ (by omega)] at hi
            split at hi
            · exact XH hk hi
            · exact hkc i c hi
          · simp only [hC,hβ]
            refine .inl ⟨hbz,_,e,setRow_heap w blk arr _ e _ hh,by simp [YO,hcs]; omega,fun i c hi=>?_⟩
            rw [Vd _ _ _ _ (by omega)] at hi
            simp only [List.getElem?_toArray,hgetA]
            split at hi
            · rename_i hin
              have hin2:o+off≤o+i∧o+i<o+off+n:=by omega
              rw [if_pos hin2]
              have hlt:i - off<cx.cells.toList.length:=by simp [hcs]; omega
              refine ⟨cx.cells.toList[i - off],by rw [show o+i - (o+off)=i - off by omega]; exact List.getElem?_eq_getElem hlt,?_⟩
              have hv0:=hvs.2 (i - off) c _ hi (List.getElem?_eq_getElem hlt)
              cases hf:(b.flat && noRefs (XE x)) with
              | true =>
               simp only [if_true]
               have hnr:noRefs (XE x)=true:=by simp only [Bool.and_eq_true] at hf; exact hf.2
               exact (hv0.ctx (C':=C0) (QQ hnr hi)).mono hevo.zero
              | false=>simp only [Bool.false_eq_true,if_false]; exact hv0.mono hevo
            · rename_i hin
              have hin2:¬ (o+off≤o+i∧o+i<o+off+n):=by omega
              rw [if_neg hin2]
              obtain ⟨v,hv1,hv2⟩:=hcells i c hi
              refine ⟨v,by simpa using hv1,?_⟩
              have hv3:VR Z w (if (b.flat && noRefs (XE x))=true then C0 else C) c v:=by
               cases hf:b.flat with
               | true =>
                simp only [hf,if_true] at hv2
                split
                · exact hv2
                · exact hv2.of0
               | false=>simpa [hf] using hv2
              cases hf:(b.flat && noRefs (XE x)) with
              | true=>simp only [hf,if_true] at hv3 ⊢; exact hv3.mono hevo.zero
              | false=>simp only [hf,Bool.false_eq_true,if_false] at hv3 ⊢; exact hv3.mono hevo)
       rw [hC] at hch
       exact ⟨C,Z,hch.2.1,hch.2.2,hch.1,.junk _⟩
   · simp [Rd.run] at h
 · simp [Rd.run] at h
end
end Ax
namespace Ax
open Go
section
variable {P:Program} {Z0 M Z:Nat→Prop} {w0 w:World} {C:Ctx} {blks:List Blk} {evs:List EV} {eff:Eff} {evs':List EV} {obs:List Prop} {idx:Nat}
theorem YN (w:World) (o:Obj):(w.drew.alloc o).heap[w.heap.size]?=some o:=by
 show (w.heap.push o)[w.heap.size]?=some o
 simp
theorem YE {cells:List AV} {off n:Nat} {S:List AV} {nr:Bool} (h:WD cells off n evs=some (S,nr,evs',obs)) (ho:AllP obs):(cells.drop off).take n=S∧S.length=n∧nr=noRefs S:=by
 unfold WD at h
 split at h
 · simp only [Option.some.injEq,Prod.mk.injEq] at h
   obtain ⟨rfl,rfl,-,rfl⟩:=h
   exact ⟨ho.1,ho.2.1,ho.2.2.1.symm⟩
 · cases h1:takeN cells off n with
   | none=>simp [h1] at h
   | some c =>
    simp only [h1,Option.map_some,Option.some.injEq,Prod.mk.injEq] at h
    obtain ⟨rfl,rfl,-,rfl⟩:=h
    exact ⟨(QbJ h1).1,(QbJ h1).2,rfl⟩
/-- The cells that come in,as the model reads them: wherever the world has not turned them. -/
structure Src (P:Program) (Z:Nat→Prop) (w:World) (C:Ctx) (sz:Nat) (S:List AV) (x:Value) (m:Nat) (news:List Value):Prop where
 len:(Builtin.lenOf x).run P w=.ok m w
 run:∀ w':World,w'.heap=w.heap→(Builtin.firstCells sz m x).run P w'=.ok news.toArray w'
 size:S.length=m*sz
 vrs:VRs Z w C S news
 cell:∀ (i:Nat) (c:AV),S[i]?=some c→Xd c=true
theorem Qaz {blk o:Nat} {cells S:List AV} {off m sz cap:Nat} (hc:Wb Z w C blk o cells) (hk:∀ (i:Nat) (c:AV),cells[i]?=some c→Xd c=true)
 (h1:(cells.drop off).take (m*sz)=S) (h2:S.length=m*sz):∃ news,Src P Z w C sz S (.slice (some ⟨blk,o+off,none⟩) m cap) m news:=by
 have key:∀ j (c:AV),S[j]?=some c→∃ v,w.cell? ⟨blk,o+off+j,none⟩=some v∧VR Z w C c v∧Xd c=true:=by
  intro j c hj
  rw [← h1,List.getElem?_take] at hj
  split at hj
  · rw [List.getElem?_drop] at hj
    obtain ⟨v,h1,h2⟩:=hc _ c hj
    exact ⟨v,by rw [Nat.add_assoc]; exact h1,h2,hk _ c hj⟩
  · cases hj
 let news:=(List.range S.length).map fun j=>(w.cell? ⟨blk,o+off+j,none⟩).getD undef
 have hn:∀ j v,news[j]?=some v→j<S.length∧w.cell? ⟨blk,o+off+j,none⟩=some v:=by
  intro j v hj
  have hlt:j<S.length:=by have:=(List.getElem?_eq_some_iff.1 hj).1; simpa [news] using this
  obtain ⟨u,h3,-⟩:=key j _ (List.getElem?_eq_getElem hlt)
  simp [news,hlt,h3] at hj
  exact ⟨hlt,by rw [h3,hj]⟩
 refine ⟨news,rfl,fun w' hw=>?_,h2,⟨by simp [news],fun i c v hi hv=>?_⟩,fun i c hi=>(key i c hi).choose_spec.2.2⟩
 · refine run_firstCells_some (P:=P) w' sz m ⟨blk,o+off,none⟩ m cap news (by simp [news,h2]) fun j v hj=>?_
   rw [Addr.add_lit]
   have:=(hn j v hj).2
   unfold World.cell? at this ⊢
   rw [hw]; exact this
 · obtain ⟨u,h3,h4,-⟩:=key i c hi
   have:=(hn i v hv).2
   rw [h3] at this; cases this
   exact h4
theorem QbL {sz cap:Nat} {a:Option Addr}:Src P Z w C sz [] (.slice a 0 cap) 0 []:=by
 refine ⟨rfl,fun w' hw=>?_,by simp,⟨rfl,by simp⟩,by simp⟩
 cases a with
 | none=>simp [Builtin.firstCells]
 | some a=>simp [Builtin.firstCells,loadCells,loadCellsFrom]
theorem YM {t u ty e e' sz:Nat} {base:Option Addr} {sLen sCap m:Nat} {x:Value} {S:List AV} {news:List Value} (ht:P.underlying t=some (.slice e)) (hu:P.underlying u=some (.slice e'))
 (hs:szT P e=some sz) (hsrc:Src P Z w C sz S x m news) (hfit:sLen+m≤sCap) {w':World}
 (hst:match base with | some a=>(storeCells (a.add (sLen*sz)) news).run P w=.ok () w' | none=>w'=w) :
 (Builtin.append_ #[t,u] ty #[.slice base sLen sCap,x]).run P w=.ok (.slice base (sLen+m) sCap) w':=by
 cases base with
 | none =>
  simp only at hst; rw [hst]
  simp [Builtin.append_,run_underlying ht,run_underlying hu,Xo hs,hsrc.len,hfit,hsrc.run w rfl]
 | some a =>
  simp only at hst
  simp [Builtin.append_,run_underlying ht,run_underlying hu,Xo hs,hsrc.len,hfit,hsrc.run w rfl,hst]
theorem Ve {t u ty e e' sz:Nat} {base:Option Addr} {sLen sCap m:Nat} {x:Value} {S:List AV} {news olds:List Value} {i:TypeInfo} {z:Value} (ht:P.underlying t=some (.slice e)) (hu:P.underlying u=some (.slice e'))
 (hi:P.info? e=some i) (hsz:i.size=sz) (hz:i.zero=some z) (hsrc:Src P Z w C sz S x m news) (hmore:sCap<sLen+m) (hb:sLen+m≤2147483648) (hbytes:i.bytes≤65536)
 (hold:(Builtin.firstCells sz sLen (.slice base sLen sCap)).run P w.drew=.ok olds.toArray w.drew) :
 (Builtin.append_ #[t,u] ty #[.slice base sLen sCap,x]).run P w =
   .ok (.slice (some ⟨w.heap.size,0,none⟩) (sLen+m) (grownCap w (sLen+m) sCap e))
    (w.drew.alloc (.cells (olds.toArray++news.toArray++Builtin.zeroCells z.cells (grownCap w (sLen+m) sCap e - (sLen+m))) e)):=by
 have hn:¬ (sLen+m≤sCap):=by omega
 have h63':¬ (9223372036854775807<((sLen:Int)+(m:Int))):=by omega
 have hb2:(sLen+m)*i.bytes≤140737488355328:=by
  have:(sLen+m)*i.bytes≤2147483648*65536:=Nat.mul_le_mul hb hbytes
  omega
 have h48':¬ (281474976710656<Builtin.nextslicecap (sLen+m) sCap*i.bytes):=by have:=growslice_fits (bytes:=i.bytes) hmore hb2; omega
 have hf:=hsrc.run w.drew rfl
 subst hsz
 simp [Builtin.append_,run_underlying ht,run_underlying hu,Go.sizeOf,typeInfo,zeroValue,hi,hz,hsrc.len,hn,h63',h48',Question.forced,hf,hold,newRow,grownCap]
 congr 2
 apply Array.ext'
 simp [List.append_assoc]
theorem qr {w:World} {need old e:Nat}:need≤grownCap w need old e:=by
 simp only [grownCap,Question.cut]; omega
theorem Vx (z:Array Value) (n:Nat):(Builtin.zeroCells z n).size=n*z.size:=by simp [Builtin.zeroCells]
theorem Vc {t u ty e e' sz:Nat} {dst:AV} {S:List AV} {m:Nat} {cd x:Value} {news:List Value} {ob0:List Prop} (hm:Mem Z0 M w0 C Z blks w) (hb:blks[idx]?=some dead)
 (hd:VR Z w C dst cd) (ht:P.underlying t=some (.slice e)) (hu:P.underlying u=some (.slice e')) (hs:szT P e=some sz) (hsrc:Src P Z w C sz S x m news)
 {nr:Bool} (h:(appA P e sz dst S nr m evs ob0).run (blks[·]?)=some (eff,evs',obs)) (ho:AllP obs) (hnr:nr=noRefs S) :
 AllP ob0∧∃ c w',(Builtin.append_ #[t,u] ty #[cd,x]).run P w=.ok c w'∧Res Z0 M w0 C Z blks w idx eff c w':=by
 subst hnr
 unfold appA at h
 split at h
 · simp [Rd.run] at h
 rename_i hchk
 simp only [Bool.or_eq_true,not_or,Bool.not_eq_true,Bool.not_eq_false',decide_eq_true_eq,bne_eq_false_iff_eq] at hchk
 obtain ⟨⟨hbytes,hzl⟩,hsz0⟩:=hchk
 have hsz0:sz ≠ 0:=by simpa using hsz0
 obtain ⟨i,hi⟩:∃ i,P.info? e=some i:=by
  cases hq:P.info? e with
  | none=>simp [szT,hq] at hs
  | some i=>exact ⟨i,rfl⟩
 have hisz:i.size=sz:=by simpa [szT,hi] using hs
 have hby:i.bytes≤65536:=by simpa [Program.bytesOf,hi] using hbytes
 obtain ⟨z,hz,hzsz⟩:∃ z,i.zero=some z∧z.cells.size=sz:=by
  cases hzz:Yl P e with
  | none=>simp [hzz] at hzl
  | some cs =>
   obtain ⟨z,-,-,hz2,hz3⟩:=WB (P:=P) (w:=w) (Z:=Z) (C:=C) hzz
   refine ⟨z,by simpa [hi] using hz2,?_⟩
   simp only [hzz,Option.map_some,Option.some.injEq] at hzl
   rw [hz3] at hzl
   rw [← hzl]
   unfold ofV
   split
   · rfl
   · simp [XE,Value.cells]
   · rename_i h1 h2
     have:z.cells=#[z]:=by cases z <;> first | rfl | exact (h2 _ rfl).elim
     rw [this]
     unfold ofV1
     split <;> rfl
 split at h
 · -- nil
   simp only [Rd.run,Option.some.injEq,Prod.mk.injEq] at h
   obtain ⟨rfl,-,rfl⟩:=h
   obtain ⟨hm1,ho⟩:=ho
   refine ⟨ho,?_⟩
   cases hd
   by_cases hm0:m=0
   · subst hm0
     have hS0:S=[]:=List.length_eq_zero_iff.1 (by simpa using hsrc.size)
     subst hS0
     have:=YM (ty:=ty) (base:=none) (sLen:=0) (sCap:=0) (w':=w) ht hu hs hsrc (by omega) rfl
     exact ⟨_,_,this,Wg hm hb⟩
   · have:=Ve (ty:=ty) (base:=none) (sLen:=0) (sCap:=0) (olds:=[]) ht hu hi hisz hz hsrc (by omega) (by omega) hby (by simp [Builtin.firstCells])
     refine ⟨_,_,this,?_⟩
     simp only [Nat.zero_add]
     have hsz2:news.length=m*sz:=by rw [← hsrc.vrs.1]; exact hsrc.size
     have hge:=qr (w:=w) (need:=m) (old:=0) (e:=e)
     refine QcH (arr:=[].toArray++news.toArray++Builtin.zeroCells z.cells (grownCap w m 0 e - m)) (e:=e) hm hb hsz0 hsrc.cell (by simp [hsrc.vrs.1]) (fun j c hj=>?_) hge ?_ rfl rfl rfl rfl
     · have hlt:j<news.length:=by rw [← hsrc.vrs.1]; exact (List.getElem?_eq_some_iff.1 hj).1
       refine ⟨news[j],by simp [Array.getElem?_append,hlt],?_⟩
       have hv:=hsrc.vrs.2 j c news[j] hj (by simp [hlt])
       cases hf:noRefs S with
       | true=>simp only [if_true]; exact hv.ctx (QQ hf hj)
       | false=>simpa using hv
     · simp only [Array.size_append,List.size_toArray,List.length_nil,hsz2,Vx,hzsz,Nat.zero_add]
       rw [← Nat.add_mul]
       exact Nat.le_of_eq (by congr 1; omega)
 · rename_i k g off len sz'
   split at h
   · simp [Rd.run] at h
   rename_i hszz
   have hszz:sz'=sz:=by simpa using hszz
   subst hszz
   obtain ⟨b,hbk,h⟩:=QC h
   split at h
   rotate_left
   · simp [Rd.run] at h
   rename_i hlive hgrow
   split at h
   · simp [Rd.run] at h
   rename_i hflz
   simp only [Bool.or_eq_true,beq_iff_eq,not_or] at hflz
   obtain ⟨hfl,hbz⟩:=hflz
   simp only [Rd.run,Option.some.injEq,Prod.mk.injEq] at h
   obtain ⟨rfl,-,rfl⟩:=h
   obtain ⟨hg,hend,hlm,ho⟩:=ho
   refine ⟨ho,?_⟩
   have hok:=KC hm hbk hg hd
   have hblk:=hm.blk k b hbk hlive
   obtain ⟨hkc,hblk⟩:=hblk
   have hγ:=hm.gen k b hbk
   have hkc':∀ (i:Nat) (c:AV),(b.cells.drop off++S)[i]?=some c→Xd c=true:=by
    intro i c hi
    rw [List.getElem?_append] at hi
    split at hi
    · rw [List.getElem?_drop] at hi; exact hkc _ c hi
    · exact hsrc.cell _ c hi
   have hnl:news.length=m*sz':=by rw [← hsrc.vrs.1]; exact hsrc.size
   have hvS:∀ {w':World},Evo C Z Z w w'→∀ (j:Nat) (c:AV) (v:Value),S[j]?=some c→news[j]?=some v→CtxLe C (C.put k (.unborn) (b.gen+1)) ∨ True→VR Z w' (if b.flat then C0 else C) c v:=by
    intro w' hevo j c v hj hv _
    have h0:=hsrc.vrs.2 j c v hj hv
    cases hf:b.flat with
    | true =>
     simp only [if_true]
     have hnr:noRefs S=true:=by simpa [hf] using hfl
     exact (h0.ctx (C':=C0) (QQ hnr hj)).mono hevo.zero
    | false=>simp only [Bool.false_eq_true,if_false]; exact h0.mono hevo
   have lift:∀ {w':World} {C':Ctx} {c:AV} {v:Value},CtxLe C C'→VR Z w' (if b.flat then C0 else C) c v→VR Z w' (if b.flat then C0 else C') c v:=by
    intro w' C' c v hle hv
    cases hf:b.flat with
    | true=>simpa [hf] using hv
    | false=>simp only [hf,Bool.false_eq_true,if_false] at hv ⊢; exact hv.grow hle
   have hputβ:∀ s,(C.put k s (b.gen+1)).β k=s:=fun s=>by simp [Ctx.put]
   have hputγ:∀ s,(C.put k s (b.gen+1)).γ k=b.gen+1:=fun s=>by simp [Ctx.put]
   unfold SlOk at hok
   cases hβ:C.β k with
   | absent=>simp [hβ] at hok
   | unborn =>
    simp only [hβ] at hok hblk
    obtain ⟨rfl,a,rfl⟩:=hok
    have hoff:off=0:=by simpa [hblk] using hend
    subst hoff
    by_cases hm0:m=0
    · subst hm0
      have hS0:S=[]:=List.length_eq_zero_iff.1 (by simpa using hsrc.size)
      have hn0:news=[]:=List.length_eq_zero_iff.1 (by simpa using hnl)
      subst hS0; subst hn0
      have:=YM (ty:=ty) (base:=a) (sLen:=0) (sCap:=0) (w':=w) ht hu hs hsrc (by omega) (by cases a <;> simp [storeCells])
      refine ⟨_,_,this,?_⟩
      obtain ⟨h1,h2,h3⟩:=hm.change (b':={ b with gen:=b.gen+1,cells:=b.cells.drop 0++[] }) (w':=w) (s:=.unborn) (g:=b.gen+1) hbk rfl rfl rfl (Nat.le_refl _) (fun _ _ _=>rfl)
       (fun blk o arr e h _=>by rw [hβ] at h; cases h) (by omega) (fun _ h=>by omega) hlive rfl (fun _ _ h=>by cases h) (fun hle hevo _=>⟨by simp [hblk],by simp [hputβ,hblk]⟩)
      exact ⟨_,Z,h2,h3,h1,.sl (by simp [hputγ]) rfl fun _=>by simp only [SlOk,hputβ]; exact ⟨trivial,a,rfl⟩⟩
    · have:=Ve (ty:=ty) (base:=a) (sLen:=0) (sCap:=0) (olds:=[]) ht hu hi hisz hz hsrc (by omega) (by omega) hby (by cases a <;> simp [Builtin.firstCells,loadCells,loadCellsFrom])
      refine ⟨_,_,this,?_⟩
      simp only [Nat.zero_add]
      have hge:=qr (w:=w) (need:=m) (old:=0) (e:=e)
      have hasz:([].toArray++news.toArray++Builtin.zeroCells z.cells (grownCap w m 0 e - m)).size=grownCap w m 0 e*sz':=by
       simp only [Array.size_append,List.size_toArray,List.length_nil,hnl,Vx,hzsz,Nat.zero_add]
       rw [← Nat.add_mul]; congr 1; omega
      obtain ⟨h1,h2,h3⟩:=hm.change (b':={ b with gen:=b.gen+1,cells:=b.cells.drop 0++S }) (w':=w.drew.alloc (.cells ([].toArray++news.toArray++Builtin.zeroCells z.cells (grownCap w m 0 e - m)) e)) (s:=.loc w.heap.size 0) (g:=b.gen+1) hbk rfl rfl rfl (by simp)
       (fun c h1 _=>Go.RowKit.Below.heap_alloc w.drew _ _ h1) (fun blk o arr e h _=>by rw [hβ] at h; cases h) (by omega) (fun _ h=>by omega) hlive rfl (fun _ _ h=>.inr (by simp only [Slot.loc.injEq] at h; simp; omega))
       (fun hle hevo _=>⟨hkc',by
         simp only [hputβ]
         refine .inl ⟨hbz,_,e,YN w _,by simp [hblk,hsrc.vrs.1],fun j c hj=>?_⟩
         simp only [hblk,List.drop_nil,List.nil_append] at hj
         have hlt:j<news.length:=by rw [← hsrc.vrs.1]; exact (List.getElem?_eq_some_iff.1 hj).1
         exact ⟨news[j],by simp [Array.getElem?_append,hlt],lift hle (hvS hevo j c _ hj (by simp [hlt]) (.inr trivial))⟩⟩)
      refine ⟨_,Z,h2,h3,h1,.sl (by simp [hputγ]) rfl fun _=>?_⟩
      simp only [SlOk,hputβ]
      exact ⟨_,_,rfl,hge,fun _=>rfl,_,e,YN w _,by rw [hasz]; omega⟩
   | loc blk o =>
    simp only [hβ] at hok hblk
    obtain ⟨a,cap,rfl,hlc,ha,arr,te,hh,hcap⟩:=hok
    obtain ⟨arr',te',hh',hsz,hcells⟩:=hblk.cells hbz
    rw [hh] at hh'; simp only [Option.some.injEq,Obj.cells.injEq] at hh'; obtain ⟨rfl,rfl,-⟩:=hh'
    by_cases hfit:len+m≤cap
    · -- in place
      by_cases hc0:cap=0
      · subst hc0
        obtain rfl:len=0:=by omega
        obtain rfl:m=0:=by omega
        have hS0:S=[]:=List.length_eq_zero_iff.1 (by simpa using hsrc.size)
        have hn0:news=[]:=List.length_eq_zero_iff.1 (by simpa using hnl)
        subst hS0; subst hn0
        have:=YM (ty:=ty) (base:=a) (sLen:=0) (sCap:=0) (w':=w) ht hu hs hsrc (by omega) (by cases a <;> simp [storeCells])
        refine ⟨_,_,this,?_⟩
        have hend2:off=b.cells.length:=by simpa using hend
        obtain ⟨h1,h2,h3⟩:=hm.change (b':={ b with gen:=b.gen+1,cells:=b.cells.drop off++[] }) (w':=w) (s:=.loc blk (o+off)) (g:=b.gen+1) hbk rfl rfl rfl (Nat.le_refl _) (fun _ _ _=>rfl)
         (fun blk o arr e h h'=>⟨arr,h',rfl⟩) (by omega) (fun _ h=>by omega) hlive rfl (fun b2 o2 h=>by simp only [Slot.loc.injEq] at h; obtain ⟨rfl,rfl⟩:=h; exact .inl ⟨_,hβ⟩)
         (fun hle hevo _=>⟨hkc',by
           simp only [hputβ]
           refine .inl ⟨hbz,arr,te,hh,by simp [hend2]; omega,fun j c hj=>?_⟩
           simp [hend2] at hj⟩)
        refine ⟨_,Z,h2,h3,h1,.sl (by simp [hputγ]) rfl fun _=>?_⟩
        simp only [SlOk,hputβ]
        exact ⟨a,0,rfl,by omega,fun h=>absurd rfl h,arr,te,hh,by omega⟩
      · obtain rfl:=ha hc0
        have hfits:o+off+len*sz'+news.length≤arr.size:=by
         rw [hnl]
         have:(len+m)*sz'≤cap*sz':=Nat.mul_le_mul_right _ hfit
         rw [Nat.add_mul] at this; omega
        have hone:∀ v ∈ news,v.oneCell'=true:=by
         intro v hv
         obtain ⟨j,hj⟩:=List.mem_iff_getElem?.1 hv
         have hlt:j<S.length:=by rw [hsrc.vrs.1]; exact (List.getElem?_eq_some_iff.1 hj).1
         exact (hsrc.vrs.2 j _ v (List.getElem?_eq_getElem hlt) hj).one (hsrc.cell j _ (List.getElem?_eq_getElem hlt))
        have hst:=run_storeCells_at P blk (o+off+len*sz') te news 0 arr w hh (by omega) hone
        have:=YM (ty:=ty) (base:=some ⟨blk,o+off,none⟩) (sLen:=len) (sCap:=cap) ht hu hs hsrc hfit (by
         simp only [Addr.add_lit]; exact hst)
        refine ⟨_,_,this,?_⟩
        simp only [Nat.add_zero]
        have hgetA:∀ i,(arr.toList.take (o+off+len*sz')++news++arr.toList.drop (o+off+len*sz'+news.length))[i]?=if o+off+len*sz'≤i∧i<o+off+len*sz'+news.length then news[i - (o+off+len*sz')]? else arr.toList[i]? :=
         fun i=>ya (by simpa using hfits)
        obtain ⟨h1,h2,h3⟩:=hm.change (b':={ b with gen:=b.gen+1,cells:=b.cells.drop off++S }) (w':=w.setRow blk (arr.toList.take (o+off+len*sz')++news++arr.toList.drop (o+off+len*sz'+news.length)).toArray) (s:=.loc blk (o+off)) (g:=b.gen+1) hbk rfl rfl rfl (by simp)
         (fun c hc hne=>setRow_other w blk c _ (fun e=>hne o (by rw [e]; exact hβ)))
         (fun blk2 o2 arr2 e2 h2 h3=>by
           rw [hβ] at h2; simp only [Slot.loc.injEq] at h2; obtain ⟨rfl,rfl⟩:=h2
           rw [hh] at h3; simp only [Option.some.injEq,Obj.cells.injEq] at h3; obtain ⟨rfl,rfl,-⟩:=h3
           exact ⟨_,setRow_heap w blk arr _ te _ hh,by simp; omega⟩)
         (by omega) (fun _ h=>by omega) hlive rfl (fun b2 o2 h=>by simp only [Slot.loc.injEq] at h; obtain ⟨rfl,rfl⟩:=h; exact .inl ⟨_,hβ⟩)
         (fun hle hevo _=>⟨hkc',by
           simp only [hputβ]
           refine .inl ⟨hbz,_,te,setRow_heap w blk arr _ te _ hh,by simp [hsrc.vrs.1]; omega,fun j c hj=>?_⟩
           simp only [List.getElem?_toArray,hgetA]
           rw [List.getElem?_append] at hj
           split at hj
           · rename_i hlt
             simp at hlt
             have hin:¬ (o+off+len*sz'≤o+off+j∧o+off+j<o+off+len*sz'+news.length):=by omega
             rw [if_neg hin]
             rw [List.getElem?_drop] at hj
             obtain ⟨v,hv1,hv2⟩:=hcells _ c hj
             refine ⟨v,by rw [Nat.add_assoc]; simpa using hv1,lift hle ?_⟩
             cases hf:b.flat with
             | true=>simp only [hf,if_true] at hv2 ⊢; exact hv2.mono hevo.zero
             | false=>simp only [hf,Bool.false_eq_true,if_false] at hv2 ⊢; exact hv2.mono hevo
           · rename_i hlt
             simp at hlt hj
             have hlt2:j - (b.cells.length - off)<news.length:=by rw [← hsrc.vrs.1]; exact (List.getElem?_eq_some_iff.1 hj).1
             have hin:o+off+len*sz'≤o+off+j∧o+off+j<o+off+len*sz'+news.length:=by omega
             rw [if_pos hin,show o+off+j - (o+off+len*sz')=j - (b.cells.length - off) by omega]
             exact ⟨news[j - (b.cells.length - off)],List.getElem?_eq_getElem hlt2,lift hle (hvS hevo _ c _ hj (List.getElem?_eq_getElem hlt2) (.inr trivial))⟩⟩)
        refine ⟨_,Z,h2,h3,h1,.sl (by simp [hputγ]) rfl fun _=>?_⟩
        simp only [SlOk,hputβ]
        exact ⟨_,cap,rfl,hfit,fun _=>by simp,_,te,setRow_heap w blk arr _ te _ hh,by simp; omega⟩
    · -- a new row
      have hcm:cap<len+m:=by omega
      have hold:∃ olds:List Value,(Builtin.firstCells sz' len (.slice a len cap)).run P w.drew=.ok olds.toArray w.drew∧olds.length=len*sz'∧∀ j v,olds[j]?=some v→arr[o+off+j]?=some v:=by
       by_cases hc0:cap=0
       · subst hc0
         obtain rfl:len=0:=by omega
         exact ⟨[],by cases a <;> simp [Builtin.firstCells,loadCells,loadCellsFrom],by simp,by simp⟩
       · obtain rfl:=ha hc0
         refine ⟨(arr.toList.drop (o+off)).take (len*sz'),?_,?_,?_⟩
         · refine run_firstCells_some (P:=P) w.drew sz' len ⟨blk,o+off,none⟩ len cap _ ?_ fun j v hj=>?_
           · simp; omega
           · rw [Addr.add_lit,World.cell?_drew,Yy hh]
             rw [List.getElem?_take] at hj
             split at hj
             · simpa using hj
             · cases hj
         · simp; omega
         · intro j v hj
           rw [List.getElem?_take] at hj
           split at hj
           · simpa using hj
           · cases hj
      obtain ⟨olds,hold,hol,hoc⟩:=hold
      have:=Ve (ty:=ty) (base:=a) (sLen:=len) (sCap:=cap) (olds:=olds) ht hu hi hisz hz hsrc hcm hlm hby hold
      refine ⟨_,_,this,?_⟩
      have hge:=qr (w:=w) (need:=len+m) (old:=cap) (e:=e)
      have hasz:(olds.toArray++news.toArray++Builtin.zeroCells z.cells (grownCap w (len+m) cap e - (len+m))).size=grownCap w (len+m) cap e*sz':=by
       simp only [Array.size_append,List.size_toArray,hnl,hol,Vx,hzsz]
       rw [← Nat.add_mul,← Nat.add_mul]; congr 1; omega
      obtain ⟨h1,h2,h3⟩:=hm.change (b':={ b with gen:=b.gen+1,cells:=b.cells.drop off++S }) (w':=w.drew.alloc (.cells (olds.toArray++news.toArray++Builtin.zeroCells z.cells (grownCap w (len+m) cap e - (len+m))) e)) (s:=.loc w.heap.size 0) (g:=b.gen+1) hbk rfl rfl rfl (by simp)
       (fun c h1 _=>Go.RowKit.Below.heap_alloc w.drew _ _ h1)
       (fun blk2 o2 arr2 e2 h2 h3=>⟨arr2,by rw [Go.RowKit.Below.heap_alloc w.drew _ _ (hm.own k blk2 o2 h2).1]; exact h3,rfl⟩) (by omega) (fun _ h=>by omega) hlive rfl (fun _ _ h=>.inr (by simp only [Slot.loc.injEq] at h; simp; omega))
       (fun hle hevo _=>⟨hkc',by
         simp only [hputβ]
         refine .inl ⟨hbz,_,e,YN w _,?_,fun j c hj=>?_⟩
         · simp only [List.length_append,List.length_drop,Array.size_append,List.size_toArray,hol,hsrc.vrs.1]; omega
         · rw [List.getElem?_append] at hj
           split at hj
           · rename_i hlt
             simp at hlt
             rw [List.getElem?_drop] at hj
             obtain ⟨v,hv1,hv2⟩:=hcells _ c hj
             have hlt2:j<olds.length:=by omega
             have:olds[j]=v:=by have:=hoc j olds[j] (by simp [hlt2]); rw [Nat.add_assoc,hv1] at this; simpa using this.symm
             refine ⟨v,by simp [Array.getElem?_append,show j<olds.length+news.length by omega,hlt2,this],lift hle ?_⟩
             cases hf:b.flat with
             | true=>simp only [hf,if_true] at hv2 ⊢; exact hv2.mono hevo.zero
             | false=>simp only [hf,Bool.false_eq_true,if_false] at hv2 ⊢; exact hv2.mono hevo
           · rename_i hlt
             simp at hlt hj
             have hlt2:j - (b.cells.length - off)<news.length:=by rw [← hsrc.vrs.1]; exact (List.getElem?_eq_some_iff.1 hj).1
             have hol2:olds.length=b.cells.length - off:=by omega
             refine ⟨news[j - (b.cells.length - off)],?_,lift hle (hvS hevo _ c _ hj (List.getElem?_eq_getElem hlt2) (.inr trivial))⟩
             simp only [Nat.zero_add,Array.getElem?_append,Array.size_append,List.size_toArray]
             rw [if_pos (by omega),if_neg (by omega),hol2]
             simp [hlt2]⟩)
      refine ⟨_,Z,h2,h3,h1,.sl (by simp [hputγ]) rfl fun _=>?_⟩
      simp only [SlOk,hputβ]
      exact ⟨_,_,rfl,hge,fun _=>rfl,_,e,YN w _,by rw [hasz]; omega⟩
 · simp [Rd.run] at h
end
end Ax
namespace Ax
open Go
section
variable {P:Program} {Z0 M Z:Nat→Prop} {w0 w:World} {C:Ctx} {blks:List Blk} {evs:List EV} {eff:Eff} {evs':List EV} {obs:List Prop} {idx:Nat}
theorem Wa {t u ty e':Nat} {dst src:AV} {cd cs:Value} (hm:Mem Z0 M w0 C Z blks w) (hb:blks[idx]?=some dead)
 (hd:VR Z w C dst cd) (hs:VR Z w C src cs) (hu:P.underlying u=some (.slice e'))
 (h:(yK P t dst src evs).run (blks[·]?)=some (eff,evs',obs)) (ho:AllP obs) :
 ∃ c w',(Builtin.append_ #[t,u] ty #[cd,cs]).run P w=.ok c w'∧Res Z0 M w0 C Z blks w idx eff c w':=by
 unfold yK at h
 split at h
 · rename_i e ht
   split at h
   · rename_i sz hsz
     split at h
     · cases hs
       exact (Vc (ob0:=[]) hm hb hd ht hu hsz QbL h ho rfl).2
     · rename_i row off m
       split at h
       · rename_i S nr evs2 obs2 hS
         by_cases hm0:m=0
         · subst hm0
           have hSl:AllP obs2→S=[]:=fun h2=>List.length_eq_zero_iff.1 (by simpa using (YE hS h2).2.1)
           have key:∀ {S':List AV},S'=[]→Src P Z w C sz S' cs 0 []:=by
            rintro S' rfl
            cases hs <;> exact QbL
           -- the obligations stand at the list's end
           have hob:AllP obs2:=by
            revert h; unfold appA; intro h
            split at h
            · simp [Rd.run] at h
            split at h
            · simp only [Rd.run,Option.some.injEq,Prod.mk.injEq] at h
              obtain ⟨-,-,rfl⟩:=h; exact ho.2
            · split at h
              · simp [Rd.run] at h
              obtain ⟨b,-,h⟩:=QC h
              split at h
              · split at h
                · simp [Rd.run] at h
                · simp only [Rd.run,Option.some.injEq,Prod.mk.injEq] at h
                  obtain ⟨-,-,rfl⟩:=h; exact ho.2.2.2
              · simp [Rd.run] at h
            · simp [Rd.run] at h
           exact (Vc hm hb hd ht hu hsz (key (hSl hob)) h ho (YE hS hob).2.2).2
         · cases hs with
           | rsl0=>exact absurd rfl hm0
           | @rsl _ _ _ _ cap blk o cv hz hl hc hk hr =>
            have hob:AllP obs2:=by
             revert h; unfold appA; intro h
             split at h
             · simp [Rd.run] at h
             split at h
             · simp only [Rd.run,Option.some.injEq,Prod.mk.injEq] at h
               obtain ⟨-,-,rfl⟩:=h; exact ho.2
             · split at h
               · simp [Rd.run] at h
               obtain ⟨b,-,h⟩:=QC h
               split at h
               · split at h
                 · simp [Rd.run] at h
                 · simp only [Rd.run,Option.some.injEq,Prod.mk.injEq] at h
                   obtain ⟨-,-,rfl⟩:=h; exact ho.2.2.2
               · simp [Rd.run] at h
             · simp [Rd.run] at h
            obtain ⟨h1,h2,h3⟩:=YE hS hob
            have hca:Wb Z w C blk o row:=fun i c hi=>⟨_,hc i (List.getElem?_eq_some_iff.1 hi).1,(hr i c hi).of0⟩
            obtain ⟨news,hsrc⟩:=Qaz (P:=P) (cap:=cap) hca hk h1 h2
            exact (Vc hm hb hd ht hu hsz hsrc h ho h3).2
       · simp [Rd.run] at h
     · rename_i k g off m sz'
       split at h
       · simp [Rd.run] at h
       rename_i hszz
       obtain rfl:sz'=sz:=by simpa using hszz
       obtain ⟨b,hbk,h⟩:=QC h
       have hbz:=WM h
       obtain ⟨hlive,ob1,h,hg⟩:=QR h
       split at h
       · rename_i S nr evs2 obs2 hS
         split at h
         · have hob:AllP (ob1++obs2):=by
            revert h; unfold appA; intro h
            split at h
            · simp [Rd.run] at h
            split at h
            · simp only [Rd.run,Option.some.injEq,Prod.mk.injEq] at h
              obtain ⟨-,-,rfl⟩:=h; exact ho.2
            · split at h
              · simp [Rd.run] at h
              obtain ⟨b,-,h⟩:=QC h
              split at h
              · split at h
                · simp [Rd.run] at h
                · simp only [Rd.run,Option.some.injEq,Prod.mk.injEq] at h
                  obtain ⟨-,-,rfl⟩:=h; exact ho.2.2.2
              · simp [Rd.run] at h
            · simp [Rd.run] at h
           obtain ⟨ho1,ho2⟩:=Qj.1 hob
           obtain ⟨h1,h2,h3⟩:=YE hS ho2
           have hok:=KC hm hbk (hg ho1) hs
           have hblk:=hm.blk k b hbk hlive
           unfold SlOk at hok
           split at hok
           · rename_i blk o hβ
             obtain ⟨a,cap,rfl,hlc,ha,-⟩:=hok
             by_cases hm0:m=0
             · subst hm0
               have hS0:S=[]:=List.length_eq_zero_iff.1 (by simpa using h2)
               subst hS0
               exact (Vc hm hb hd ht hu hsz QbL h ho h3).2
             · obtain rfl:=ha (by omega)
               obtain ⟨news,hsrc⟩:=Qaz (P:=P) (cap:=cap) (yL.cellsAt (hm.blk k b hbk) hlive hbz hβ) hblk.1 h1 h2
               exact (Vc hm hb hd ht hu hsz hsrc h ho h3).2
           · obtain ⟨rfl,a,rfl⟩:=hok
             have hS0:S=[]:=List.length_eq_zero_iff.1 (by simpa using h2)
             subst hS0
             exact (Vc hm hb hd ht hu hsz QbL h ho h3).2
           · exact hok.elim
         · simp [Rd.run] at h
       · simp [Rd.run] at h
     · simp [Rd.run] at h
   · simp [Rd.run] at h
 · simp [Rd.run] at h
/-! ### copy -/
theorem QaW (hm:Mem Z0 M w0 C Z blks w) {k g off n sz len cap:Nat} {S:List AV} {ob2:List Prop} {news:List Value} {cd:Value} (hd:VR Z w C (.sl k g off len sz) cd)
 (hS:VRs Z w C S news) (hk:∀ (i:Nat) (c:AV),S[i]?=some c→Xd c=true) (hnr:noRefs S=true) (hsl:AllP ob2→S.length=n*sz) (hlen:n≤len)
 (h:(Wo k g off n sz S ob2 evs).run (blks[·]?)=some (eff,evs',obs)) (ho:AllP obs) :
 ∃ blk o cap' w',cd=.slice (some ⟨blk,o+off,none⟩) len cap'∧(storeCells ⟨blk,o+off,none⟩ news).run P w=.ok () w'∧AllP ob2∧n ≠ 0∧Res Z0 M w0 C Z blks w idx eff (goInt n) w':=by
 unfold Wo at h
 obtain ⟨b,hb,h⟩:=QC h
 have hbz:=WM h
 obtain ⟨hlive,ob,h,hg⟩:=QR h
 simp only [Rd.run,Option.some.injEq,Prod.mk.injEq] at h
 obtain ⟨rfl,-,rfl⟩:=h
 obtain ⟨hoff,hn0,ho⟩:=ho
 obtain ⟨ho1,ho2⟩:=Qj.1 ho
 have hSl:=hsl ho2
 have hok0:=KC hm hb (hg ho1) hd
 have hok:=hm.blk k b hb hlive
 obtain ⟨hkc,hok⟩:=hok
 unfold SlOk at hok0
 split at hok0
 · rename_i blk o hβ
   obtain ⟨a,cap',rfl,hlc,ha,-⟩:=hok0
   obtain rfl:=ha (by omega)
   simp only [hβ] at hok
   obtain ⟨arr,e,hh,hsz,hcells⟩:=hok.cells hbz
   have hnl:news.length=n*sz:=by have:=hS.1; omega
   have hone:∀ v ∈ news,v.oneCell'=true:=by
    intro v hv
    obtain ⟨i,hi⟩:=List.mem_iff_getElem?.1 hv
    have hlt:i<S.length:=by have:=(List.getElem?_eq_some_iff.1 hi).1; omega
    exact (hS.2 i _ v (List.getElem?_eq_getElem hlt) hi).one (hk i _ (List.getElem?_eq_getElem hlt))
   have hst:=run_storeCells_at P blk (o+off) e news 0 arr w hh (by omega) hone
   rw [Nat.add_zero] at hst
   refine ⟨blk,o,cap',_,rfl,hst,ho2,hn0,?_⟩
   have hC:C.put k (.loc blk o) b.gen=C:=by
    have e1:=hm.gen k b hb
    cases C with
    | mk β γ =>
     simp only [Ctx.put,Ctx.mk.injEq]
     constructor
     · funext j; by_cases e:j=k
       · subst e; simp; exact hβ.symm
       · simp [e]
     · funext j; by_cases e:j=k
       · subst e; simp; exact e1.symm
       · simp [e]
   have hgetA:∀ i,(arr.toList.take (o+off)++news++arr.toList.drop (o+off+news.length))[i]?=if o+off≤i∧i<o+off+n*sz then news[i - (o+off)]? else arr.toList[i]?:=by
    intro i
    have:=ya (arr:=arr.toList) (vs:=news) (p:=o+off) (i:=i) (by simp; omega)
    simpa [hnl] using this
   have hch:=hm.change (w':=w.setRow blk (arr.toList.take (o+off)++news++arr.toList.drop (o+off+news.length)).toArray) (b':={ b with cells:=Qv b.cells off S }) (s:=.loc blk o) (g:=b.gen) hb
    rfl rfl rfl (by simp) (fun c hc hne=>setRow_other w blk c _ (fun e=>hne o (by rw [e]; exact hβ)))
    (fun blk2 o2 arr2 e2 h2 h3=>by
      rw [hβ] at h2; simp only [Slot.loc.injEq] at h2; obtain ⟨rfl,rfl⟩:=h2
      rw [hh] at h3; simp only [Option.some.injEq,Obj.cells.injEq] at h3; obtain ⟨rfl,rfl,-⟩:=h3
      exact ⟨_,setRow_heap w blk arr _ e _ hh,by simp [hnl]; omega⟩)
    (by rw [hm.gen k b hb]; exact Nat.le_refl _) (fun _ _=>hβ.symm) hlive rfl (fun blk2 o2 h2=>by simp only [Slot.loc.injEq] at h2; obtain ⟨rfl,rfl⟩:=h2; exact .inl ⟨_,hβ⟩)
    (fun hle hevo _=>by
      refine ⟨fun i c hi=>?_,?_⟩
      · rw [Vd _ _ _ _ (by omega)] at hi
        split at hi
        · exact hk _ c hi
        · exact hkc i c hi
      · simp only [hC,hβ]
        refine .inl ⟨hbz,_,e,setRow_heap w blk arr _ e _ hh,by simp [YO,hnl]; omega,fun i c hi=>?_⟩
        rw [Vd _ _ _ _ (by omega)] at hi
        simp only [List.getElem?_toArray,hgetA]
        split at hi
        · rename_i hin
          have hin2:o+off≤o+i∧o+i<o+off+n*sz:=by omega
          rw [if_pos hin2]
          have hlt:i - off<news.length:=by omega
          refine ⟨news[i - off],by rw [show o+i - (o+off)=i - off by omega]; exact List.getElem?_eq_getElem hlt,?_⟩
          have hv0:=hS.2 (i - off) c _ hi (List.getElem?_eq_getElem hlt)
          have hv1:=(hv0.ctx (C':=C0) (QQ hnr hi)).mono hevo.zero
          show VR _ _ (if b.flat=true then C0 else C) c _
          split
          · exact hv1
          · exact hv1.of0
        · rename_i hin
          have hin2:¬ (o+off≤o+i∧o+i<o+off+n*sz):=by omega
          rw [if_neg hin2]
          obtain ⟨v,hv1,hv2⟩:=hcells i c hi
          refine ⟨v,by simpa using hv1,?_⟩
          show VR _ _ (if b.flat=true then C0 else C) c _
          cases hf:b.flat with
          | true=>simp only [hf,if_true] at hv2 ⊢; exact hv2.mono hevo.zero
          | false=>simp only [hf,Bool.false_eq_true,if_false] at hv2 ⊢; exact hv2.mono hevo)
   rw [hC] at hch
   exact ⟨C,Z,hch.2.1,hch.2.2,hch.1,.int _ _⟩
 · obtain ⟨rfl,-⟩:=hok0
   exact absurd (Nat.le_zero.1 hlen) hn0
 · exact hok0.elim
theorem copySrc {blk o:Nat} {cells S:List AV} {off n m sz cap:Nat} (hc:Wb Z w C blk o cells) (hk:∀ (i:Nat) (c:AV),cells[i]?=some c→Xd c=true)
 (h1:(cells.drop off).take (n*sz)=S) (h2:S.length=n*sz):∃ news:List Value,(Builtin.firstCells sz n (.slice (some ⟨blk,o+off,none⟩) m cap)).run P w=.ok news.toArray w∧VRs Z w C S news∧∀ (i:Nat) (c:AV),S[i]?=some c→Xd c=true:=by
 have key:∀ j (c:AV),S[j]?=some c→∃ v,w.cell? ⟨blk,o+off+j,none⟩=some v∧VR Z w C c v∧Xd c=true:=by
  intro j c hj
  rw [← h1,List.getElem?_take] at hj
  split at hj
  · rw [List.getElem?_drop] at hj
    obtain ⟨v,h1,h2⟩:=hc _ c hj
    exact ⟨v,by rw [Nat.add_assoc]; exact h1,h2,hk _ c hj⟩
  · cases hj
 let news:=(List.range S.length).map fun j=>(w.cell? ⟨blk,o+off+j,none⟩).getD undef
 have hn:∀ j v,news[j]?=some v→j<S.length∧w.cell? ⟨blk,o+off+j,none⟩=some v:=by
  intro j v hj
  have hlt:j<S.length:=by have:=(List.getElem?_eq_some_iff.1 hj).1; simpa [news] using this
  obtain ⟨u,h3,-⟩:=key j _ (List.getElem?_eq_getElem hlt)
  simp [news,hlt,h3] at hj
  exact ⟨hlt,by rw [h3,hj]⟩
 refine ⟨news,?_,⟨by simp [news],fun i c v hi hv=>?_⟩,fun i c hi=>(key i c hi).choose_spec.2.2⟩
 · refine run_firstCells_some (P:=P) w sz n ⟨blk,o+off,none⟩ m cap news (by simp [news,h2]) fun j v hj=>?_
   rw [Addr.add_lit]
   exact (hn j v hj).2
 · obtain ⟨u,h3,h4,-⟩:=key i c hi
   have:=(hn i v hv).2
   rw [h3] at this; cases this
   exact h4
theorem copyA_sound {t ty:TypeId} {ats:Array TypeId} {dst src:AV} {cd cs:Value} (hat:ats[0]?=some t) (hm:Mem Z0 M w0 C Z blks w) (hd:VR Z w C dst cd) (hs:VR Z w C src cs)
 (h:(copyA P t dst src evs).run (blks[·]?)=some (eff,evs',obs)) (ho:AllP obs) :
 ∃ c w',(Builtin.copy_ ats ty #[cd,cs]).run P w=.ok c w'∧Res Z0 M w0 C Z blks w idx eff c w':=by
 unfold copyA at h
 split at h
 · rename_i e ht
   split at h
   · rename_i sz k g off len sz' hsz
     split at h
     · simp [Rd.run] at h
     rename_i hszz
     obtain rfl:sz'=sz:=by simpa using hszz
     split at h
     · rename_i row off2 m
       split at h
       · rename_i S evs2 obs2 hS
         have hob:AllP obs2∧Nat.min m len ≠ 0:=by
          revert h; unfold Wo; intro h
          obtain ⟨b,-,h⟩:=QC h
          obtain ⟨-,ob,h,-⟩:=QR h
          simp only [Rd.run,Option.some.injEq,Prod.mk.injEq] at h
          obtain ⟨-,-,rfl⟩:=h
          exact ⟨(Qj.1 ho.2.2).2,ho.2.1⟩
         obtain ⟨h1,h2,h3⟩:=YE hS hob.1
         cases hs with
         | rsl0=>exact absurd (Nat.zero_min _) hob.2
         | @rsl _ _ _ _ cap blk o cv hz hl hc hk hr =>
          have hca:Wb Z w C blk o row:=fun i c hi=>⟨_,hc i (List.getElem?_eq_some_iff.1 hi).1,(hr i c hi).of0⟩
          obtain ⟨news,n1,n2,n3⟩:=copySrc (P:=P) (n:=Nat.min m len) (m:=m) (cap:=cap) hca hk h1 h2
          obtain ⟨blk',o',cap',w',rfl,q2,-,-,q3⟩:=QaW (P:=P) (cap:=cap) hm hd n2 n3 h3.symm (fun _=>h2) (Nat.min_le_right _ _) h ho
          refine ⟨_,w',?_,q3⟩
          simp [Builtin.copy_,hat,run_underlying ht,Xo hsz,Builtin.lenOf,n1,q2]
       · simp [Rd.run] at h
     · rename_i k2 g2 off2 m sz2
       split at h
       · simp [Rd.run] at h
       rename_i hsz2
       obtain rfl:sz2=sz':=by simpa using hsz2
       obtain ⟨b2,hbk,h⟩:=QC h
       have hbz:=WM h
       obtain ⟨hlive,ob2,h,hg⟩:=QR h
       split at h
       · rename_i S evs2 obs2 hS
         have hob:AllP (ob2++obs2)∧Nat.min m len ≠ 0:=by
          revert h; unfold Wo; intro h
          obtain ⟨b,-,h⟩:=QC h
          obtain ⟨-,ob,h,-⟩:=QR h
          simp only [Rd.run,Option.some.injEq,Prod.mk.injEq] at h
          obtain ⟨-,-,rfl⟩:=h
          exact ⟨(Qj.1 ho.2.2).2,ho.2.1⟩
         obtain ⟨ho1,ho2⟩:=Qj.1 hob.1
         obtain ⟨h1,h2,h3⟩:=YE hS ho2
         have hok:=KC hm hbk (hg ho1) hs
         have hblk:=hm.blk k2 b2 hbk hlive
         unfold SlOk at hok
         split at hok
         · rename_i blk o hβ
           obtain ⟨a,cap,rfl,hlc,ha,-⟩:=hok
           have hm0:m ≠ 0:=fun e=>hob.2 (by rw [e]; exact Nat.zero_min _)
           obtain rfl:=ha (by omega)
           obtain ⟨news,n1,n2,n3⟩:=copySrc (P:=P) (n:=Nat.min m len) (m:=m) (cap:=cap) (yL.cellsAt (hm.blk k2 b2 hbk) hlive hbz hβ) hblk.1 h1 h2
           obtain ⟨blk',o',cap',w',rfl,q2,-,-,q3⟩:=QaW (P:=P) (cap:=cap) hm hd n2 n3 h3.symm (fun _=>h2) (Nat.min_le_right _ _) h ho
           refine ⟨_,w',?_,q3⟩
           simp [Builtin.copy_,hat,run_underlying ht,Xo hsz,Builtin.lenOf,n1,q2]
         · obtain ⟨rfl,-⟩:=hok
           exact absurd (Nat.zero_min _) hob.2
         · exact hok.elim
       · simp [Rd.run] at h
     · simp [Rd.run] at h
   · simp [Rd.run] at h
 · simp [Rd.run] at h
theorem slLen {k g off len sz:Nat} {c:Value} (hm:Mem Z0 M w0 C Z blks w) {b:Blk} (hb:blks[k]?=some b) (hg:g=b.gen) (h:VR Z w C (.sl k g off len sz) c):∃ a cap,c=.slice a len cap:=by
 have hok:=KC hm hb hg h
 unfold SlOk at hok
 split at hok
 · obtain ⟨a,cap,rfl,-⟩:=hok; exact ⟨a,cap,rfl⟩
 · obtain ⟨rfl,a,rfl⟩:=hok; exact ⟨a,0,rfl⟩
 · exact hok.elim
theorem rslLen {row:List AV} {off len:Nat} {c:Value} (h:VR Z w C (.rsl row off len) c):∃ a cap,c=.slice a len cap:=by
 cases h with
 | rsl=>exact ⟨_,_,rfl⟩
 | rsl0=>exact ⟨_,_,rfl⟩
theorem yV {t ty e:TypeId} {ats:Array TypeId} {sz m len dc sc:Nat} {d a:Option Addr} (hat:ats[0]?=some t) (ht:P.underlying t=some (.slice e)) (hsz:szT P e=some sz) (hn:Nat.min m len=0) :
 (Builtin.copy_ ats ty #[.slice d len dc,.slice a m sc]).run P w=.ok (goInt 0) w:=by
 have hl:∀ (x:Addr),(loadCells x 0).run P w=.ok #[] w:=fun x=>by simpa using run_loadCells_list (P:=P) w x [] (by simp)
 cases d <;> cases a <;> simp [Builtin.copy_,hat,run_underlying ht,Xo hsz,Builtin.lenOf,Builtin.firstCells,hn,storeCells,hl]
theorem copyB_sound {t ty:TypeId} {ats:Array TypeId} {dst src:AV} {cd cs:Value} (hat:ats[0]?=some t) (hm:Mem Z0 M w0 C Z blks w) (hd:VR Z w C dst cd) (hs:VR Z w C src cs)
 (h:(copyB P t dst src evs).run (blks[·]?)=some (eff,evs',obs)) (ho:AllP obs) :
 ∃ c w',(Builtin.copy_ ats ty #[cd,cs]).run P w=.ok c w'∧Res Z0 M w0 C Z blks w idx eff c w':=by
 unfold copyB at h
 split at h
 · unfold copy0A at h
   split at h
   · rename_i e ht
     split at h
     · rename_i sz k g off len sz' hsz
       split at h
       · rename_i row off2 m
         obtain ⟨b,hb,h⟩:=QC h
         obtain ⟨-,ob,h,hg⟩:=QR h
         have:=Qp h; simp only [Prod.mk.injEq] at this; obtain ⟨rfl,-,rfl⟩:=this
         obtain ⟨a1,c1,rfl⟩:=slLen hm hb (hg ho.2) hd
         obtain ⟨a2,c2,rfl⟩:=rslLen hs
         exact ⟨_,w,yV hat ht hsz ho.1,C,Z,CtxLe.refl _,⟨fun _ h=>h,fun _ _=>rfl,fun _ _ _ arr _ _ h=>⟨arr,h,rfl⟩⟩,hm,.int _ _⟩
       · rename_i k2 g2 off2 m sz2
         obtain ⟨b,hb,h⟩:=QC h
         obtain ⟨-,ob,h,hg⟩:=QR h
         obtain ⟨b2,hb2,h⟩:=QC h
         obtain ⟨-,ob2,h,hg2⟩:=QR h
         have:=Qp h; simp only [Prod.mk.injEq] at this; obtain ⟨rfl,-,rfl⟩:=this
         obtain ⟨ho1,ho2⟩:=Qj.1 ho.2
         obtain ⟨a1,c1,rfl⟩:=slLen hm hb (hg ho1) hd
         obtain ⟨a2,c2,rfl⟩:=slLen hm hb2 (hg2 ho2) hs
         exact ⟨_,w,yV hat ht hsz ho.1,C,Z,CtxLe.refl _,⟨fun _ h=>h,fun _ _=>rfl,fun _ _ _ arr _ _ h=>⟨arr,h,rfl⟩⟩,hm,.int _ _⟩
       · simp [Rd.run] at h
     · simp [Rd.run] at h
   · simp [Rd.run] at h
 · exact copyA_sound hat hm hd hs h ho
theorem QaE {e sz:Nat} {dst:AV} {S:List AV} {nr:Bool} {m k:Nat} {b:Blk} {v:AV} {ob0:List Prop} (h:(appA P e sz dst S nr m evs ob0).run (blks[·]?)=some (.upd k b v,evs',obs)):k<blks.length:=by
 unfold appA at h
 split at h
 · simp [Rd.run] at h
 split at h
 · simp [Rd.run] at h
 · split at h
   · simp [Rd.run] at h
   · obtain ⟨b',hb',h⟩:=QC h
     split at h
     · split at h
       · simp [Rd.run] at h
       · simp only [Rd.run,Option.some.injEq,Prod.mk.injEq,Eff.upd.injEq] at h
         obtain ⟨⟨rfl,-,-⟩,-,-⟩:=h
         exact (List.getElem?_eq_some_iff.1 hb').1
     · simp [Rd.run] at h
 · simp [Rd.run] at h
theorem Wz {t:TypeId} {dst src:AV} {k:Nat} {b:Blk} {v:AV} (h:(yK P t dst src evs).run (blks[·]?)=some (.upd k b v,evs',obs)):k<blks.length:=by
 unfold yK at h
 split at h
 · split at h
   · split at h
     · exact QaE h
     · split at h
       · exact QaE h
       · simp [Rd.run] at h
     · split at h
       · simp [Rd.run] at h
       · obtain ⟨b',hb',h⟩:=QC h
         obtain ⟨_,ob,h,_⟩:=QR h
         split at h
         · split at h
           · exact QaE h
           · simp [Rd.run] at h
         · simp [Rd.run] at h
     · simp [Rd.run] at h
   · simp [Rd.run] at h
 · simp [Rd.run] at h
theorem run_layA {x:R} {r:Eff × List EV × List Prop} (h:(x.bind layA).run (blks[·]?)=some r):∃ q,x.run (blks[·]?)=some q∧(layA q).run (blks[·]?)=some r:=by
 induction x with
 | ok a=>exact ⟨a,rfl,h⟩
 | fail=>cases h
 | get k f ih =>
  simp only [Rd.bind] at h
  obtain ⟨b,hb,h⟩:=QC h
  obtain ⟨r,h1,h2⟩:=ih b h
  exact ⟨r,by simp only [Rd.run,hb]; exact h1,h2⟩
theorem appendF_turn {t:TypeId} {dst src:AV} {k:Nat} {b:Blk} {v:AV} (h:(yJ P t dst src evs).run (blks[·]?)=some (.upd k b v,evs',obs)):k<blks.length:=by
 unfold yJ at h
 split at h
 · obtain ⟨⟨eff1,evs2,obs1⟩,h1,h2⟩:=run_layA h
   unfold layA at h2
   split at h2
   · rename_i heq
     simp only [Prod.mk.injEq] at heq
     obtain ⟨rfl,rfl,rfl⟩:=heq
     split at h2
     · simp only [Rd.run,Option.some.injEq,Prod.mk.injEq,Eff.upd.injEq] at h2
       obtain ⟨⟨rfl,-,-⟩,-,-⟩:=h2
       exact Wz h1
     · simp [Rd.run] at h2
   · split at h2
     · simp [Rd.run] at h2
     · simp [Rd.run] at h2
   · simp [Rd.run] at h2
 · exact Wz h
theorem QcG {t u ty e':Nat} {dst src:AV} {cd cs:Value} (hm:Mem Z0 M w0 C Z blks w) (hb:blks[idx]?=some dead)
 (hd:VR Z w C dst cd) (hs:VR Z w C src cs) (hu:P.underlying u=some (.slice e'))
 (h:(yJ P t dst src evs).run (blks[·]?)=some (eff,evs',obs)) (ho:AllP obs) :
 ∃ c w',(Builtin.append_ #[t,u] ty #[cd,cs]).run P w=.ok c w'∧Res Z0 M w0 C Z blks w idx eff c w':=by
 unfold yJ at h
 split at h
 · rename_i evs1
   obtain ⟨⟨eff1,evs2,obs1⟩,h1,h2⟩:=run_layA h
   unfold layA at h2
   split at h2
   · rename_i k b k' g off len sz evs3 obs3 heq
     simp only [Prod.mk.injEq] at heq
     obtain ⟨rfl,rfl,rfl⟩:=heq
     split at h2
     · rename_i hl hf hk
       simp only [Rd.run,Option.some.injEq,Prod.mk.injEq] at h2
       obtain ⟨rfl,-,rfl⟩:=h2
       obtain ⟨hg,ho⟩:=ho
       obtain rfl:=Nat.eq_of_beq_eq_true hk
       obtain ⟨c,w',r1,r2⟩:=Wa (ty:=ty) hm hb hd hs hu h1 ho
       exact ⟨c,w',r1,r2.lay (Wz h1) (by simpa using (Bool.and_eq_true_iff.1 hl).1) (by simpa using (Bool.and_eq_true_iff.1 hl).2) hf hg⟩
     · simp [Rd.run] at h2
   · rename_i b mk evs3 obs3 heq
     simp only [Prod.mk.injEq] at heq
     obtain ⟨rfl,rfl,rfl⟩:=heq
     split at h2
     · rename_i hl hf
       simp only [Rd.run,Option.some.injEq,Prod.mk.injEq] at h2
       obtain ⟨rfl,-,rfl⟩:=h2
       obtain ⟨hg,ho⟩:=ho
       obtain ⟨c,w',r1,r2⟩:=Wa (ty:=ty) hm hb hd hs hu h1 ho
       refine ⟨c,w',r1,?_⟩
       have hk:=hg idx
       cases hmk:mk idx with
       | sl k g off len sz =>
        rw [hmk] at hk
        simp only [slOf,Bool.and_eq_true] at hk
        obtain rfl:=Nat.eq_of_beq_eq_true hk.1
        have hgg:=Nat.eq_of_beq_eq_true hk.2
        have r3:Res Z0 M w0 C Z blks w idx (.upd idx b (.sl idx g off len sz)) c w':=by
         obtain ⟨C',Z',q1,q2,q3,q4⟩:=r2
         exact ⟨C',Z',q1,q2,q3,by simp only [Eff.av] at q4 ⊢; rw [hmk] at q4; exact q4⟩
        obtain ⟨C',Z',q1,q2,q3,q4⟩:=r3.lay (List.getElem?_eq_some_iff.1 hb).1 (by simpa using (Bool.and_eq_true_iff.1 hl).1) (by simpa using (Bool.and_eq_true_iff.1 hl).2) hf hgg
        exact ⟨C',Z',q1,q2,q3,by simp only [Eff.av,hmk,rslOf] at q4 ⊢; exact q4⟩
       | _=>rw [hmk] at hk; simp [slOf] at hk
     · simp [Rd.run] at h2
   · simp [Rd.run] at h2
 · exact Wa hm hb hd hs hu h ho
def VRo (Z:Nat→Prop) (w:World) (C:Ctx) (o:Option AV) (co:Option Value):Prop :=
 match o,co with
 | none,none=>True
 | some v,some c=>VR Z w C v c
 | _,_=>False
theorem bnd_sound {d:Nat} {o:Option AV} {l:Nat} {o1:List Prop} (h:bnd d o=some (l,o1)) (ho:AllP o1) {co:Option Value} (hv:VRo Z w C o co) :
 (o=none∧co=none∧l=d) ∨ ∃ k n,co=some (.int k n)∧0≤n∧l=n.toNat:=by
 unfold bnd at h
 split at h
 · simp only [Option.some.injEq,Prod.mk.injEq] at h
   cases co with
   | none=>exact .inl ⟨rfl,rfl,h.1.symm⟩
   | some c=>exact hv.elim
 · simp only [Option.some.injEq,Prod.mk.injEq] at h
   obtain ⟨rfl,rfl⟩:=h
   cases co with
   | none=>exact hv.elim
   | some c=>cases hv; exact .inr ⟨_,_,rfl,ho.1,rfl⟩
 · cases h
theorem Xb {k:IntKind} {n:Int} {y:Nat} {code:BoundsCode} (h0:0≤n) (h:n.toNat≤y):(Instr.sliceBound (.int k n) y code).run P w=.ok n.toNat w:=by
 have:n≤(y:Int):=by omega
 simp [Instr.sliceBound,asIntOf,h0,this]
theorem Xq {isSlice:Bool} {len cap l h:Nat} {lo hi:Option Value} (hl:(lo=none∧l=0) ∨ ∃ k n,lo=some (.int k n)∧0≤n∧l=n.toNat)
 (hh:(hi=none∧h=len) ∨ ∃ k n,hi=some (.int k n)∧0≤n∧h=n.toNat) (h1:l≤h) (h2:h≤cap) :
 (Instr.sliceBounds isSlice len cap lo hi none).run P w=.ok (l,h,cap) w:=by
 rcases hl with ⟨rfl,rfl⟩ | ⟨k,n,rfl,hn,rfl⟩ <;> rcases hh with ⟨rfl,rfl⟩ | ⟨k',n',rfl,hn',rfl⟩
 · simp [Instr.sliceBounds]
 · simp [Instr.sliceBounds,Xb hn' h2]
 · simp [Instr.sliceBounds,Xb hn h1]
 · simp [Instr.sliceBounds,Xb hn' h2,Xb hn h1]
theorem Kc {o:Option AV} {co:Option Value} {d l:Nat} {o1:List Prop} (h:bnd d o=some (l,o1)) (ho:AllP o1) (hv:VRo Z w C o co) :
 (co=none∧l=d) ∨ ∃ k n,co=some (.int k n)∧0≤n∧l=n.toNat:=by
 rcases bnd_sound (Z:=Z) (w:=w) (C:=C) (co:=co) h ho hv with ⟨-,h1,h2⟩ | h1
 · exact .inl ⟨h1,h2⟩
 · exact .inr h1
theorem sliceA_sound {t:TypeId} {x:AV} {lo hi mx:Option AV} {cx:Value} {clo chi cmx:Option Value} (hm:Mem Z0 M w0 C Z blks w) (hb:blks[idx]?=some dead) (hx:VR Z w C x cx)
 (hlo:VRo Z w C lo clo) (hhi:VRo Z w C hi chi) (hmx:VRo Z w C mx cmx)
 (h:(sliceA P t x lo hi mx evs).run (blks[·]?)=some (eff,evs',obs)) (ho:AllP obs) :
 ∃ c w',(Instr.sliceAt t cx clo chi cmx).run P w=.ok c w'∧Res Z0 M w0 C Z blks w idx eff c w':=by
 have row:∀ {row:List AV} {blk o off l h cap s:Nat} (cv:Nat→Value),Z blk→(∀ (i:Nat),i<row.length→w.cell? ⟨blk,o+i,none⟩=some (cv i))→(∀ (i:Nat) (c:AV),row[i]?=some c→Xd c=true) →
  (∀ (i:Nat) (c:AV),row[i]?=some c→VR Z w C0 c (cv i))→l≤h→h≤cap→VR Z w C (.rsl row (off+l*s) (h - l)) (.slice (if cap=l then some ⟨blk,o+off,none⟩ else some ⟨blk,o+(off+l*s),none⟩) (h - l) (cap - l)):=by
  intro row blk o off l h cap s cv hz hc hk hr h1 h2
  by_cases e:h - l=0
  · rw [e]; exact .rsl0
  · rw [if_neg (by omega)]; exact .rsl cv hz (by omega) hc hk hr
 unfold sliceA at h
 split at h
 · -- a row
   rename_i e row' off len ht
   cases cmx <;> simp [VRo] at hmx
   split at h
   · rename_i s l o1 hh o2 hs hl2 hh2
     have:=Qp h; simp only [Prod.mk.injEq] at this; obtain ⟨rfl,-,rfl⟩:=this
     obtain ⟨c1,c2,c3⟩:=ho
     obtain ⟨q1,q2⟩:=Qj.1 c3
     have L:=Kc hl2 q1 hlo; have H:=Kc hh2 q2 hhi
     refine Yf.res hm ?_
     cases hx with
     | @rsl _ _ _ _ cap blk o cv hz hlc hc hk hr =>
      refine .mk ?_ (row cv hz hc hk hr c1 (Nat.le_trans c2 hlc))
      simp only [Instr.sliceAt,Sem.run_bind,run_underlying ht,Result.andThen_ok,Instr.slice,Xq L H c1 (Nat.le_trans c2 hlc),Xo hs,Sem.run_pure]
      congr 2
      split <;> simp [Addr.add_lit,Nat.add_assoc]
     | @rsl0 _ _ _ cap a =>
      obtain rfl:hh=0:=by omega
      obtain rfl:l=0:=by omega
      refine .mk (v:=.rsl row' (off+0*s) (0 - 0)) (c:=.slice (if cap=0 then a else a.map (·.add (0*s))) (0 - 0) (cap - 0)) ?_ .rsl0
      simp only [Instr.sliceAt,Sem.run_bind,run_underlying ht,Result.andThen_ok,Instr.slice,Xq L H (Nat.le_refl _) (Nat.zero_le cap),Xo hs,Sem.run_pure]
   · simp [Rd.run] at h
 · -- a block of the call's own
   rename_i e k g off len sz ht
   cases cmx <;> simp [VRo] at hmx
   split at h
   · rename_i s l o1 hh o2 hs hl2 hh2
     split at h
     · simp [Rd.run] at h
     rename_i hsz
     obtain rfl:s=sz:=by simpa using hsz
     obtain ⟨b,hbk,h⟩:=QC h
     obtain ⟨hlive,ob,h,hg⟩:=QR h
     have:=Qp h; simp only [Prod.mk.injEq] at this; obtain ⟨rfl,-,rfl⟩:=this
     obtain ⟨c1,c2,c3⟩:=ho
     obtain ⟨q12,q3⟩:=Qj.1 c3
     obtain ⟨q1,q2⟩:=Qj.1 q12
     have L:=Kc hl2 q1 hlo; have H:=Kc hh2 q2 hhi
     have hok:=KC hm hbk (hg q3) hx
     have hgen:=hm.gen k b hbk
     refine Yf.res hm ?_
     unfold SlOk at hok
     split at hok
     · rename_i blk o hβ
       obtain ⟨a,cap,rfl,hlc,ha,arr,te,hh2,hcap⟩:=hok
       refine .mk (c:=.slice (if cap=l then a else a.map (·.add (l*s))) (hh - l) (cap - l)) ?_ (.sl (by rw [hgen,hg q3]; exact Nat.le_refl _) rfl fun _=>?_)
       · simp only [Instr.sliceAt,Sem.run_bind,run_underlying ht,Result.andThen_ok,Instr.slice,Xq L H c1 (Nat.le_trans c2 hlc),Xo hs,Sem.run_pure]
       · simp only [SlOk,hβ]
         refine ⟨_,cap - l,rfl,by omega,fun hne=>?_,arr,te,hh2,?_⟩
         · rw [if_neg (by omega),ha (by omega)]; simp [Addr.add_lit,Nat.add_assoc]
         · have:(cap - l)*s+l*s=cap*s:=by rw [← Nat.add_mul]; congr 1; omega
           omega
     · rename_i hβ
       obtain ⟨rfl,a,rfl⟩:=hok
       obtain rfl:hh=0:=by omega
       obtain rfl:l=0:=by omega
       refine .mk (c:=.slice a 0 0) ?_ (.sl (by rw [hgen,hg q3]; exact Nat.le_refl _) rfl fun _=>?_)
       · simp only [Instr.sliceAt,Sem.run_bind,run_underlying ht,Result.andThen_ok,Instr.slice,Xq L H (Nat.le_refl _) (Nat.le_refl _),Xo hs,Sem.run_pure]
         rfl
       · simp only [SlOk,hβ]; exact ⟨trivial,a,rfl⟩
     · exact hok.elim
   · simp [Rd.run] at h
 · -- nil
   rename_i e ht
   cases cmx <;> simp [VRo] at hmx
   split at h
   · rename_i s l o1 hh o2 hs hl2 hh2
     have:=Qp h; simp only [Prod.mk.injEq] at this; obtain ⟨rfl,-,rfl⟩:=this
     obtain ⟨c1,c2,c3⟩:=ho
     obtain ⟨q1,q2⟩:=Qj.1 c3
     have L:=Kc hl2 q1 hlo; have H:=Kc hh2 q2 hhi
     obtain rfl:hh=0:=by omega
     obtain rfl:l=0:=by omega
     refine Yf.res hm ?_
     cases hx
     refine .mk ?_ .nilSl
     simp only [Instr.sliceAt,Sem.run_bind,run_underlying ht,Result.andThen_ok,Instr.slice,Xq L H (Nat.le_refl _) (Nat.le_refl _),Xo hs,Sem.run_pure]
     rfl
   · simp [Rd.run] at h
 · -- an array of the call's own
   rename_i n e k g off ht
   cases cmx <;> simp [VRo] at hmx
   split at h
   · rename_i s l o1 hh o2 hs hl2 hh2
     obtain ⟨b,hbk,h⟩:=QC h
     have hbz:=WM h
     obtain ⟨hlive,ob,h,hg⟩:=QR h
     have:=Qp h; simp only [Prod.mk.injEq] at this; obtain ⟨rfl,-,rfl⟩:=this
     obtain ⟨c1,c2,c4,c3⟩:=ho
     obtain ⟨q12,q3⟩:=Qj.1 c3
     obtain ⟨q1,q2⟩:=Qj.1 q12
     have L:=Kc hl2 q1 hlo; have H:=Kc hh2 q2 hhi
     obtain ⟨blk,o,hβ,rfl⟩:=KG hm hbk (hg q3) hx
     have hgen:=hm.gen k b hbk
     have hblk:=hm.blk k b hbk hlive
     simp only [hβ] at hblk
     obtain ⟨-,hblk⟩:=hblk
     obtain ⟨arr,te,hhp,hsz,-⟩:=hblk.cells hbz
     refine Yf.res hm (.mk (c:=.slice (some (if n=l then ⟨blk,o+off,none⟩ else ⟨blk,o+(off+l*s),none⟩)) (hh - l) (n - l)) ?_ (.sl (by rw [hgen,hg q3]; exact Nat.le_refl _) rfl fun _=>?_))
     · simp only [Instr.sliceAt,Sem.run_bind,run_underlying ht,Result.andThen_ok,Instr.sureAddr,Sem.run_pure,Xq L H c1 c2,Xo hs,Addr.add_lit,Nat.add_assoc]
     · simp only [SlOk,hβ]
       refine ⟨_,n - l,rfl,by omega,fun hne=>by rw [if_neg (by omega)],arr,te,hhp,?_⟩
       have:(n - l)*s+l*s=n*s:=by rw [← Nat.add_mul]; congr 1; omega
       omega
   · simp [Rd.run] at h
 · -- an array in a row
   rename_i n e row' off ht
   cases cmx <;> simp [VRo] at hmx
   split at h
   · rename_i s l o1 hh o2 hs hl2 hh2
     have:=Qp h; simp only [Prod.mk.injEq] at this; obtain ⟨rfl,-,rfl⟩:=this
     obtain ⟨c1,c2,c3⟩:=ho
     obtain ⟨q1,q2⟩:=Qj.1 c3
     have L:=Kc hl2 q1 hlo; have H:=Kc hh2 q2 hhi
     refine Yf.res hm ?_
     cases hx with
     | @rptr _ _ _ blk o cv hz hc hk hr =>
      refine .mk ?_ (row cv hz hc hk hr c1 c2)
      simp only [Instr.sliceAt,Sem.run_bind,run_underlying ht,Result.andThen_ok,Instr.sureAddr,Sem.run_pure,Xq L H c1 c2,Xo hs,Addr.add_lit,Nat.add_assoc]
      congr 2
      split <;> rfl
   · simp [Rd.run] at h
 · -- without room
   rename_i e row' off len kk m ht
   cases cmx with
   | none=>simp [VRo] at hmx
   | some cm =>
    cases hmx
    split at h
    · rename_i s l o1 hh o2 hs hl2 hh2
      simp only [Rd.run,Option.some.injEq,Prod.mk.injEq] at h
      obtain ⟨rfl,-,rfl⟩:=h
      obtain ⟨c1,c2,c4,c5,c3⟩:=ho
      obtain ⟨q1,q2⟩:=Qj.1 c3
      subst c1
      split at hh2
      · rename_i his
        have L:=Kc hl2 q1 hlo; have H:=Kc hh2 q2 hhi
        have H':∃ k n,chi=some (.int k n)∧0≤n∧l=n.toNat:=by
         rcases H with ⟨h1,-⟩ | h1
         · cases hi with
           | none=>simp at his
           | some v=>rw [h1] at hhi; exact hhi.elim
         · exact h1
        obtain ⟨k2,n2,rfl,hn2,hl3⟩:=H'
        have run:∀ {a:Option Addr} {cap:Nat},l≤cap→(Instr.sliceAt t (.slice a len cap) clo (some (.int k2 n2)) (some (.int kk m))).run P w=.ok (.slice a 0 0) w:=by
         intro a cap hlc
         have hb1:(Instr.sliceBounds true len cap clo (some (.int k2 n2)) (some (.int kk m))).run P w=.ok (l,l,l) w:=by
          rcases L with ⟨rfl,rfl⟩ | ⟨k3,n3,rfl,hn3,rfl⟩
          · simp [Instr.sliceBounds,Xb c4 (show m.toNat≤cap by omega),c5,Xb hn2 (show n2.toNat≤0 by omega),← hl3]
          · simp [Instr.sliceBounds,Xb c4 (show m.toNat≤cap by omega),c5,Xb hn2 (show n2.toNat≤n3.toNat by omega),← hl3,Xb hn3 (Nat.le_refl _)]
         simp only [Instr.sliceAt,Sem.run_bind,run_underlying ht,Result.andThen_ok,Instr.slice,hb1,Xo hs,Sem.run_pure,if_true,Nat.sub_self]
        cases hx with
        | rsl cv hz hlc hc hk hr=>exact ⟨_,_,run (by omega),Wg hm hb⟩
        | rsl0=>exact ⟨_,_,run (by omega),Wg hm hb⟩
      · cases hh2
    · simp [Rd.run] at h
 · simp [Rd.run] at h
end
end Ax
namespace Ax
open Go
theorem Qcq {α:Type} (l:List α):∀ (n i:Nat),i<n*l.length→(List.replicate n l).flatten[i]?=l[i % l.length]?
 | 0,i,h=>by simp at h
 | n+1,i,h=>by
  rw [List.replicate_succ,List.flatten_cons,List.getElem?_append]
  by_cases h1:i<l.length
  · rw [if_pos h1,Nat.mod_eq_of_lt h1]
  · have hl:0<l.length:=by
     rcases Nat.eq_zero_or_pos l.length with h0 | h0
     · rw [h0] at h; simp at h
     · exact h0
    rw [if_neg h1,Qcq l n (i - l.length) (by rw [Nat.succ_mul] at h; omega)]
    rw [Nat.mod_eq_sub_mod (by omega:l.length≤i)]
theorem fold_get (vs:List Value):∀ (k:Nat) (arr:Array Value) (off i:Nat),off+k+vs.length≤arr.size →
 ((vs.zipIdx k).foldl (fun cs (x:Value × Nat)=>cs.setIfInBounds (off+x.2) x.1) arr)[i]?=if off+k≤i∧i<off+k+vs.length then vs[i - (off+k)]? else arr[i]?:=by
 induction vs with
 | nil=>intro k arr off i h; simp; omega
 | cons v vs ih =>
  intro k arr off i h
  simp only [List.length_cons] at h
  rw [List.zipIdx_cons,List.foldl_cons,ih (k+1) _ off i (by simp; omega)]
  rw [Array.getElem?_setIfInBounds]
  by_cases h1:off+k=i
  · subst h1
    have:¬ (off+(k+1)≤off+k∧off+k<off+(k+1)+vs.length):=by omega
    simp only [this,if_false,if_true,List.length_cons]
    rw [if_pos (by omega),if_pos (by omega)]
    simp
  · by_cases h2:off+(k+1)≤i∧i<off+(k+1)+vs.length
    · rw [if_pos h2,if_pos (by simp; omega),show i - (off+k)=(i - (off+(k+1)))+1 by omega]
      simp
    · rw [if_neg h2,if_neg h1,if_neg (by simp; omega)]
theorem fold_size (off:Nat):∀ (l:List (Value × Nat)) (arr:Array Value),(l.foldl (fun cs (x:Value × Nat)=>cs.setIfInBounds (off+x.2) x.1) arr).size=arr.size
 | [],_=>rfl
 | x :: l,arr=>by rw [List.foldl_cons,fold_size off l]; simp
section
variable {P:Program} {Z0 M Z:Nat→Prop} {w0 w:World} {C:Ctx} {blks:List Blk} {evs:List EV} {eff:Eff} {evs':List EV} {obs:List Prop} {idx:Nat}
theorem WO {size:Nat→Option (Nat × Nat)}:∀ {parts:List (Nat × AV)} {cparts:List (Nat × Value)} {cells cs:List AV} {arr:Array Value},
 fillA size cells parts=some cs→parts.length=cparts.length→(∀ (i:Nat) (p:Nat × AV) (q:Nat × Value),parts[i]?=some p→cparts[i]?=some q→p.1=q.1∧VR Z w C p.2 q.2) →
 VRs Z w C cells arr.toList→QZ cells=true→∃ arr',Instr.fill size arr cparts=some arr'∧VRs Z w C cs arr'.toList∧QZ cs=true∧cs.length=cells.length
 | [],cparts,cells,cs,arr,h,hl,hp,hv,hk=>by
  cases cparts with
  | cons _ _=>simp at hl
  | nil=>simp [fillA] at h; subst h; exact ⟨arr,rfl,hv,hk,rfl⟩
 | (i,v) :: parts,cparts,cells,cs,arr,h,hl,hp,hv,hk=>by
  cases cparts with
  | nil=>simp at hl
  | cons q cparts =>
   obtain ⟨i',c⟩:=q
   obtain ⟨e1,hvc⟩:=hp 0 _ _ rfl rfl
   simp only at e1 hvc; subst e1
   simp only [fillA] at h
   split at h
   · rename_i off n hsz
     split at h
     · rename_i hc
       simp only [Bool.and_eq_true,beq_iff_eq,decide_eq_true_eq] at hc
       obtain ⟨⟨h1,h2⟩,h3⟩:=hc
       have hcs:=hvc.cells h3
       have hsize:c.cells.size=n:=by have:=hcs.1; simp at this; omega
       have harr:cells.length=arr.size:=by have:=hv.1; simpa using this
       have hnew:VRs Z w C (Qv cells off (XE v)) (c.cells.zipIdx.foldl (fun cs (x:Value × Nat)=>cs.setIfInBounds (off+x.2) x.1) arr).toList:=by
        have hget:∀ j,(c.cells.zipIdx.foldl (fun cs (x:Value × Nat)=>cs.setIfInBounds (off+x.2) x.1) arr)[j]?=if off≤j∧j<off+n then c.cells.toList[j - off]? else arr[j]?:=by
         intro j
         have:=fold_get c.cells.toList 0 arr off j (by simp [hsize]; omega)
         simp only [Nat.add_zero,Array.length_toList,hsize] at this
         rw [← this,← Array.foldl_toList]
         simp
        have hsz2:(c.cells.zipIdx.foldl (fun cs (x:Value × Nat)=>cs.setIfInBounds (off+x.2) x.1) arr).size=arr.size:=by
         rw [← Array.foldl_toList]; exact fold_size off _ _
        refine ⟨by rw [YO,harr]; exact hsz2.symm,fun j a b ha hb=>?_⟩
        rw [Vd _ _ _ _ (by omega)] at ha
        rw [Array.getElem?_toList,hget] at hb
        rw [h1] at ha
        split at ha
        · rename_i hin; rw [if_pos hin] at hb; exact hcs.2 _ a b ha hb
        · rename_i hin; rw [if_neg hin] at hb; exact hv.2 _ a b ha (by simpa using hb)
       have hk2:QZ (Qv cells off (XE v))=true:=by
        refine List.all_eq_true.2 fun a ha=>?_
        obtain ⟨j,hj⟩:=List.mem_iff_getElem?.1 ha
        rw [Vd _ _ _ _ (by omega)] at hj
        split at hj
        · exact XH h3 hj
        · exact XH hk hj
       obtain ⟨arr',r1,r2,r3,r4⟩:=WO h (by simpa using hl) (fun j p q a b=>hp (j+1) p q (by simpa using a) (by simpa using b)) hnew hk2
       refine ⟨arr',?_,r2,r3,by rw [r4,YO]⟩
       simp only [Instr.fill,hsz]
       rw [if_neg (by simp [hsize]; omega)]
       exact r1
     · cases h
   · cases h
theorem zip_parts {parts:Array (Nat × Operand)} {ev:Operand→AV} {ρ:Operand→Value} (hv:∀ x,VR Z w C (ev x) (ρ x)) :
 (parts.toList.map fun p=>(p.1,ev p.2)).length=(parts.map fun (i,x)=>(i,ρ x)).toList.length ∧
 ∀ (i:Nat) (p:Nat × AV) (q:Nat × Value),(parts.toList.map fun p=>(p.1,ev p.2))[i]?=some p→((parts.map fun (i,x)=>(i,ρ x)).toList)[i]?=some q→p.1=q.1∧VR Z w C p.2 q.2:=by
 refine ⟨by simp,fun i p q h1 h2=>?_⟩
 simp only [List.getElem?_map,Array.toList_map] at h1 h2
 cases h:parts.toList[i]? with
 | none=>simp [h] at h1
 | some x=>simp [h] at h1 h2; rw [← h1,← h2]; exact ⟨rfl,hv _⟩
theorem mapM_sizes (fs:List Field) (h:fs.all (fun f=>(szT P f.type).isSome)=true) :
 (fs.mapM fun (f:Field)=>do pure (f.offset,← Go.sizeOf f.type)).run P w=.ok (fs.map fun (f:Field)=>(f.offset,(szT P f.type).getD 0)) w:=by
 induction fs with
 | nil=>rfl
 | cons f fs ih =>
  simp only [List.all_cons,Bool.and_eq_true] at h
  obtain ⟨n,hn⟩:=Option.isSome_iff_exists.1 h.1
  simp only [List.mapM_cons,Sem.run_bind,Xo hn,Result.andThen_ok,Sem.run_pure,ih h.2,List.map_cons,hn,Option.getD_some]
theorem buildA_sound {t:TypeId} {parts:Array (Nat × Operand)} {ev:Operand→AV} {ρ:Operand→Value} (hv:∀ x,VR Z w C (ev x) (ρ x))
 (h:(buildA P t (parts.toList.map fun p=>(p.1,ev p.2)) evs).run (blks[·]?)=some (eff,evs',obs)) :
 Yf P Z w C eff (Instr.build t (parts.map fun (i,x)=>(i,ρ x))):=by
 obtain ⟨z1,z2⟩:=zip_parts (parts:=parts) hv
 unfold buildA at h
 split at h
 · rename_i z fs hz ht
   split at h
   · rename_i cs hf
     split at h
     · rename_i hall
       rw [Bool.and_eq_true] at hall
       obtain ⟨hall,hzk⟩:=hall
       have:=Qp h; simp only [Prod.mk.injEq] at this; obtain ⟨rfl,-,-⟩:=this
       obtain ⟨zv,hzr,hzc,-,-⟩:=WB (P:=P) (w:=w) (Z:=Z) (C:=C) hz
       obtain ⟨arr',r1,r2,-,-⟩:=WO hf z1 z2 (hzc hzk) hzk
       refine .mk (c:=.agg arr') ?_ (.agg (by simpa using r2.1) fun i c v a b=>r2.2 i c v a (by simpa using b))
       have hm:(fs.mapM fun (f:Field)=>do pure (f.offset,← Go.sizeOf f.type)).run P w=.ok (fs.map fun (f:Field)=>(f.offset,(szT P f.type).getD 0)) w:=by
        rw [← Array.toArray_toList (xs:=fs),List.mapM_toArray]
        simp only [Sem.run_map,mapM_sizes fs.toList hall,Result.andThen_ok,List.map_toArray]
       have hplace:Instr.fill (fun x=>(fs.map fun f=>(f.offset,(szT P f.type).getD 0))[x]?) zv.cells (parts.map fun (i,x)=>(i,ρ x)).toList=some arr':=by
        rw [← r1]
        congr 1
        funext i
        cases hfi:fs[i]? with
        | none=>simp [hfi]
        | some f =>
         have:(szT P f.type).isSome=true:=List.all_eq_true.1 hall f (by simpa using Array.mem_of_getElem? hfi)
         obtain ⟨n,hn⟩:=Option.isSome_iff_exists.1 this
         simp [hfi,hn]
       simp only [Instr.build,Sem.run_bind,hzr,Result.andThen_ok,run_underlying ht,hm,hplace,Sem.run_pure]
     · simp [Rd.run] at h
   · simp [Rd.run] at h
 · rename_i z n e hz ht
   split at h
   · rename_i m hm
     split at h
     · rename_i cs hf
       split at h
       rotate_left
       · simp [Rd.run] at h
       rename_i hzk
       have:=Qp h; simp only [Prod.mk.injEq] at this; obtain ⟨rfl,-,-⟩:=this
       obtain ⟨zv,hzr,hzc,-,-⟩:=WB (P:=P) (w:=w) (Z:=Z) (C:=C) hz
       obtain ⟨arr',r1,r2,-,-⟩:=WO hf z1 z2 (hzc hzk) hzk
       refine .mk (c:=.agg arr') ?_ (.agg (by simpa using r2.1) fun i c v a b=>r2.2 i c v a (by simpa using b))
       simp only [Instr.build,Sem.run_bind,hzr,Result.andThen_ok,run_underlying ht,Xo hm,r1,Sem.run_pure]
     · simp [Rd.run] at h
   · simp [Rd.run] at h
 · simp [Rd.run] at h
theorem VO {t : TypeId} {len : Nat} {parts : Array (Nat × Operand)} {ev : Operand → AV} {ρ : Operand → Value} (hm : Mem Z0 M w0 C Z blks w) (hb : blks[idx]? = some dead) (hv : ∀ x, VR Z w C (ev x) (ρ x))
    (h : (Vj P t len (parts.toList.map fun p => (p.1, ev p.2)) evs).run (blks[·]?) = some (eff, evs', obs)) :
    ∃ c w', (Instr.buildSlice t len (parts.map fun (i, x) => (i, ρ x))).run P w = .ok c w' ∧ Res Z0 M w0 C Z blks w idx eff c w' := by
  obtain ⟨z1, z2⟩ := zip_parts (parts := parts) hv
  unfold Vj at h
  split at h
  · rename_i e ht
    split at h
    · rename_i n z hn hz
      split at h
      · rename_i hc
        simp only [Bool.and_eq_true, beq_iff_eq, decide_eq_true_eq] at hc
        obtain ⟨⟨⟨hzl, hzk⟩, hsmall⟩, hn00⟩ := hc
        have hn00 : n ≠ 0 := by simpa using hn00
        split at h
        · rename_i cs hf
          simp only [Rd.run, Option.some.injEq, Prod.mk.injEq] at h
          obtain ⟨rfl, -, -⟩ := h
          obtain ⟨zv, hzr, hzc, -, -⟩ := WB (P := P) (w := w) (Z := Z) (C := C) hz
          have hzv := hzc hzk
          have hzs : zv.cells.size = n := by have := hzv.1; simp at this; omega
          let arr0 : Array Value := (Array.range (len * n)).map fun i => zv.cells[i % zv.cells.size]!
          have hfl : (List.replicate len z).flatten.length = len * n := by simp [hzl]
          have h0 : VRs Z w C (List.replicate len z).flatten arr0.toList := by
            refine ⟨by simp [arr0, hzl], fun i c v a b => ?_⟩
            have hi : i < len * n := by have := (List.getElem?_eq_some_iff.1 a).1; omega
            have hn0 : 0 < n := by rcases Nat.eq_zero_or_pos n with e | e; · subst e; simp at hi
                                   · exact e
            have hmod : i % n < n := Nat.mod_lt _ hn0
            rw [Qcq z len i (by rw [hzl]; exact hi), hzl] at a
            have : v = zv.cells[i % n]'(by omega) := by
              simp [arr0, hi, hzs, hmod] at b
              rw [← b]
            rw [this]
            exact hzv.2 (i % n) c _ a (by simp [hzs, hmod])
          have hk0 : QZ (List.replicate len z).flatten = true := by
            refine List.all_eq_true.2 fun a ha => ?_
            simp only [List.mem_flatten, List.mem_replicate] at ha
            obtain ⟨l, ⟨-, rfl⟩, ha⟩ := ha
            exact List.all_eq_true.1 hzk a ha
          obtain ⟨arr', r1, r2, r3, r4⟩ := WO hf z1 z2 h0 hk0
          have hlen : cs.length = len * n := by rw [r4, hfl]
          have hsz : arr'.size = len * n := by have := r2.1; simp at this; omega
          refine ⟨_, _, ?_, QcH (w' := w.alloc (.cells arr' e)) (arr := arr') (e := e) (cap := len) hm hb hn00 (fun i c hi => XH r3 hi) (by omega) (fun i c hi => ?_) (Nat.le_refl _) (by omega) rfl rfl rfl rfl⟩
          · have hr1 : Instr.fill (fun i => some (i * n, n)) arr0 (parts.map fun (i, x) => (i, ρ x)).toList = some arr' := r1
            have hns : ¬ (len * n > 2 ^ 24) := by omega
            simp only [Instr.buildSlice, Sem.run_bind, run_underlying ht, Result.andThen_ok, Xo hn, hns, if_false]
            by_cases e0 : len * n = 0
            · have ha0 : arr0 = #[] := by simp [arr0, e0]
              rw [ha0] at hr1
              simp only [e0, Array.range_zero', Array.map_empty, if_true, Sem.run_pure, Result.andThen_ok, Sem.run_bind, hr1]
              simp [newRow]
            · simp only [e0, if_false, Sem.run_bind, hzr, Sem.run_pure, Result.andThen_ok]
              rw [show (Array.range (len * n)).map (fun i => zv.cells[i % zv.cells.size]!) = arr0 from rfl, hr1]
              simp [newRow]
          · have hlt : i < arr'.size := by have := (List.getElem?_eq_some_iff.1 hi).1; omega
            refine ⟨arr'[i], by simp [hlt], ?_⟩
            have := r2.2 i c arr'[i] hi (by simp [hlt])
            cases hf : noRefs cs with
            | true => simp only [if_true]; exact this.ctx (QQ hf hi)
            | false => simpa using this
        · simp [Rd.run] at h
      · simp [Rd.run] at h
    · simp [Rd.run] at h
  · simp [Rd.run] at h


theorem layNew_sound {b:Blk} {mk:Nat→AV} {evs3:List EV} {obs3:List Prop} {c:Value} {w':World} (hb:blks[idx]?=some dead) (r2:Res Z0 M w0 C Z blks w idx (.new b mk) c w')
 (h:(layA (.new b mk,evs3,obs3)).run (blks[·]?)=some (eff,evs',obs)) (ho:AllP obs):Res Z0 M w0 C Z blks w idx eff c w':=by
 unfold layA at h
 simp only at h
 split at h
 · rename_i hl hf
   simp only [Rd.run,Option.some.injEq,Prod.mk.injEq] at h
   obtain ⟨rfl,-,rfl⟩:=h
   obtain ⟨hg,-⟩:=ho
   have hk:=hg idx
   cases hmk:mk idx with
   | sl k g off len sz =>
    rw [hmk] at hk
    simp only [slOf,Bool.and_eq_true] at hk
    obtain rfl:=Nat.eq_of_beq_eq_true hk.1
    have hgg:=Nat.eq_of_beq_eq_true hk.2
    have r3:Res Z0 M w0 C Z blks w idx (.upd idx b (.sl idx g off len sz)) c w':=by
     obtain ⟨C',Z',q1,q2,q3,q4⟩:=r2
     exact ⟨C',Z',q1,q2,q3,by simp only [Eff.av] at q4 ⊢; rw [hmk] at q4; exact q4⟩
    obtain ⟨C',Z',q1,q2,q3,q4⟩:=r3.lay (List.getElem?_eq_some_iff.1 hb).1 (by simpa using (Bool.and_eq_true_iff.1 hl).1) (by simpa using (Bool.and_eq_true_iff.1 hl).2) hf hgg
    exact ⟨C',Z',q1,q2,q3,by simp only [Eff.av,hmk,rslOf] at q4 ⊢; exact q4⟩
   | _=>rw [hmk] at hk; simp [slOf] at hk
 · simp [Rd.run] at h
theorem layN_sound {x:R} {s:Sem Value} (hb:blks[idx]?=some dead) (hx:∀ {eff evs' obs},x.run (blks[·]?)=some (eff,evs',obs)→∃ c w',s.run P w=.ok c w'∧Res Z0 M w0 C Z blks w idx eff c w')
 (h:(layN x).run (blks[·]?)=some (eff,evs',obs)) (ho:AllP obs):∃ c w',s.run P w=.ok c w'∧Res Z0 M w0 C Z blks w idx eff c w':=by
 unfold layN at h
 split at h
 · rename_i b mk evs1 obs1
   obtain ⟨c,w',r1,r2⟩:=hx (eff:=.new b mk) (evs':=evs1) (obs:=obs1) rfl
   exact ⟨c,w',r1,layNew_sound hb r2 h ho⟩
 · simp [Rd.run] at h
theorem yI {t:TypeId} {len:Nat} {parts:Array (Nat × Operand)} {ev:Operand→AV} {ρ:Operand→Value} (hm:Mem Z0 M w0 C Z blks w) (hb:blks[idx]?=some dead) (hv:∀ x,VR Z w C (ev x) (ρ x))
 (h:(VY P t len (parts.toList.map fun p=>(p.1,ev p.2)) evs).run (blks[·]?)=some (eff,evs',obs)) (ho:AllP obs) :
 ∃ c w',(Instr.buildSlice t len (parts.map fun (i,x)=>(i,ρ x))).run P w=.ok c w'∧Res Z0 M w0 C Z blks w idx eff c w':=by
 unfold VY at h
 split at h
 · exact layN_sound hb (fun h=>VO hm hb hv h) h ho
 · exact VO hm hb hv h
theorem wrap64_id {n:Int} (h0:0≤n) (h:n≤2147483648):IntKind.i64.wrap n=n:=InR.wrap (k:=.i64) ⟨by omega,by omega⟩
theorem Kb {t : TypeId} {l c : AV} {cl cc : Value} (hm : Mem Z0 M w0 C Z blks w) (hb : blks[idx]? = some dead) (hl : VR Z w C l cl) (hc : VR Z w C c cc)
    (h : (WL P t l c evs).run (blks[·]?) = some (eff, evs', obs)) (ho : AllP obs) :
    ∃ v w', (Instr.makeSlice t cl cc).run P w = .ok v w' ∧ Res Z0 M w0 C Z blks w idx eff v w' := by
  unfold WL at h
  split at h
  · rename_i e l c ht
    cases hl; cases hc
    split at h
    · rename_i n z hn hz
      split at h
      · rename_i hchk
        simp only [Bool.and_eq_true, beq_iff_eq, decide_eq_true_eq] at hchk
        obtain ⟨⟨⟨⟨hzl, hzk⟩, hzr2⟩, hby⟩, hn00⟩ := hchk
        have hn00 : n ≠ 0 := by simpa using hn00
        simp only [Rd.run, Option.some.injEq, Prod.mk.injEq] at h
        obtain ⟨rfl, -, rfl⟩ := h
        obtain ⟨⟨h0, h1, h2⟩, -⟩ := ho
        obtain ⟨zv, hzr, hzc, hzi, -⟩ := WB (P := P) (w := w) (Z := Z) (C := C) hz
        have hzv := hzc hzk
        have hzs : zv.cells.size = n := by have := hzv.1; simp at this; omega
        obtain ⟨i, hi⟩ : ∃ i, P.info? e = some i := by
          cases hq : P.info? e with
          | none => simp [hq] at hzi
          | some i => exact ⟨i, rfl⟩
        have hbi : i.bytes ≤ 65536 := by simpa [Program.bytesOf, hi] using hby
        let arr0 : Array Value := (Array.range (c.toNat * n)).map fun j => zv.cells[j % zv.cells.size]!
        have hasz : arr0.size = c.toNat * n := by simp [arr0]
        refine ⟨_, _, ?_, QcH (w' := w.alloc (.cells arr0 e)) (arr := arr0) (e := e) (len := l.toNat) (cap := c.toNat) (sz := n) (fl := true) hm hb hn00 (fun j a ha => ?_) (by simp [hasz, hzl]) (fun j a ha => ?_) (by omega) (by omega) rfl rfl rfl rfl⟩
        · have hbig : ∀ {x : Int}, 0 ≤ x → x ≤ 2147483648 → ¬ (281474976710656 < (i.bytes : Int) * x) := by
            intro x hx0 hx
            have : (i.bytes : Int) * x ≤ 65536 * 2147483648 := Int.mul_le_mul (by omega) hx hx0 (by omega)
            omega
          have hl0 : ¬ l < 0 := by omega
          have hc0 : ¬ c < 0 := by omega
          have hlc : ¬ c < l := by omega
          have ti : (typeInfo e).run P w = .ok i w := by simp [typeInfo, hi]
          simp only [Instr.makeSlice, Sem.run_bind, run_underlying ht, Result.andThen_ok, asInt, asIntOf, Sem.run_pure, ti, wrap64_id h0 (by omega : l ≤ 2147483648), wrap64_id (by omega : (0 : Int) ≤ c) h2]
          have hcond : ((decide (c < 0) || decide ((i.bytes : Int) * c > 2 ^ 48)) || decide (l < 0) || decide (l > c)) = false := by
            have := hbig (by omega : (0 : Int) ≤ c) h2
            have h48 : ((2 : Int) ^ 48) = 281474976710656 := by decide
            simp only [Bool.or_eq_false_iff, decide_eq_false_iff_not, h48]
            exact ⟨⟨⟨hc0, this⟩, hl0⟩, by omega⟩
          rw [hcond]
          simp only [Bool.false_eq_true, if_false, Sem.run_pure, Result.andThen_ok, Sem.run_bind, run_askRoom, Xo hn]
          by_cases e0 : c.toNat * n = 0
          · have ha0 : arr0 = #[] := by simp [arr0, e0]
            rw [ha0]
            simp only [e0, Array.range_zero', Array.map_empty, if_true, Sem.run_pure, Result.andThen_ok]
            simp [newRow]
          · simp only [e0, if_false, Sem.run_bind, hzr, Sem.run_pure, Result.andThen_ok]
            rw [show (Array.range (c.toNat * n)).map (fun i => zv.cells[i % zv.cells.size]!) = arr0 from rfl]
            simp [newRow]
        · have hmem := List.mem_iff_getElem?.2 ⟨j, ha⟩
          simp only [List.mem_flatten, List.mem_replicate] at hmem
          obtain ⟨l', ⟨-, rfl⟩, hmem⟩ := hmem
          exact List.all_eq_true.1 hzk a hmem
        · have hj : j < c.toNat * n := by have := (List.getElem?_eq_some_iff.1 ha).1; simp [hzl] at this; omega
          have hn0 : 0 < n := by rcases Nat.eq_zero_or_pos n with e | e; · subst e; simp at hj
                                 · exact e
          have hmod : j % n < n := Nat.mod_lt _ hn0
          rw [Qcq z c.toNat j (by rw [hzl]; exact hj), hzl] at ha
          refine ⟨zv.cells[j % n]'(by omega), by simp [arr0, hj, hzs, hmod], ?_⟩
          simp only [if_true]
          exact (hzv.2 (j % n) a _ ha (by simp [hzs, hmod])).ctx (QQ hzr2 ha)
      · simp [Rd.run] at h
    · simp [Rd.run] at h
  · simp [Rd.run] at h

end
end Ax
namespace Ax
open Go
theorem Rd.run_bind {α β:Type} (gb:Nat→Option Blk):∀ (x:Rd α) (g:α→Rd β),(x.bind g).run gb=(x.run gb).bind fun a=>(g a).run gb
 | .ok a,g=>rfl
 | .fail,g=>rfl
 | .get k f,g=>by
  simp only [Rd.bind,Rd.run]
  cases gb k with
  | none=>rfl
  | some b=>exact Rd.run_bind gb (f b) g
theorem bind_some {α β:Type} {gb:Nat→Option Blk} {x:Rd α} {g:α→Rd β} {r:β} (h:(x.bind g).run gb=some r):∃ a,x.run gb=some a∧(g a).run gb=some r:=by
 rw [Rd.run_bind] at h
 cases hx:x.run gb with
 | none=>simp [hx] at h
 | some a=>exact ⟨a,rfl,by simpa [hx] using h⟩
theorem qQ {gb:Nat→Option Blk} {f:AV→Rd (AV × List Prop)}:∀ {cs cs':List AV} {ob:List Prop},(frzL f cs).run gb=some (cs',ob)→AllP ob →
 cs'.length=cs.length∧∀ (i:Nat) (c:AV),cs[i]?=some c→∃ c' o,cs'[i]?=some c'∧(f c).run gb=some (c',o)∧AllP o
 | [],cs',ob,h,ho=>by simp [frzL,Rd.run] at h; obtain ⟨rfl,-⟩:=h; simp
 | c :: cs,cs',ob,h,ho=>by
  simp only [frzL] at h
  obtain ⟨⟨c',o1⟩,h1,h⟩:=bind_some h
  obtain ⟨⟨ds,o2⟩,h2,h⟩:=bind_some h
  simp only [Rd.run,Option.some.injEq,Prod.mk.injEq] at h
  obtain ⟨rfl,rfl⟩:=h
  obtain ⟨a1,a2⟩:=Qj.1 ho
  obtain ⟨l,r⟩:=qQ h2 a2
  refine ⟨by simp [l],fun i d hi=>?_⟩
  cases i with
  | zero=>simp at hi; subst hi; exact ⟨c',o1,rfl,h1,a1⟩
  | succ i=>exact r i d (by simpa using hi)
theorem Qag {gb:Nat→Option Blk} {f:AV→Rd (AV × List Prop)} {b:Blk} {g:Nat} {k:List AV→List Prop→Rd (AV × List Prop)} {r:AV × List Prop}
 (h:(frzB f b g k).run gb=some r):b.live=true∧∃ cs o1 o2,(k cs (o1++o2)).run gb=some r∧(b.sz ≠ 0∧(AllP o1→g=b.gen))∧((b.flat=true∧cs=b.cells∧o2=[]) ∨ (b.flat=false∧(frzL f b.cells).run gb=some (cs,o2))):=by
 cases hl:b.live with
 | false=>simp [frzB,hl,Rd.run] at h
 | true =>
  simp only [frzB,hl] at h
  split at h
  · simp [Rd.run] at h
  · rename_i hcz
    simp only [Bool.or_eq_true,beq_iff_eq,not_or] at hcz
    obtain ⟨hc,hz⟩:=hcz
    refine ⟨rfl,?_⟩
    have hg:AllP (bif b.grow then [g=b.gen] else [])→g=b.gen:=by
     intro ho
     cases hgr:b.grow with
     | true=>simp [hgr] at ho; exact ho.1
     | false=>simpa [hgr] using hc
    split at h
    · rename_i hf
      exact ⟨b.cells,_,[],by simpa using h,⟨hz,hg⟩,.inl ⟨hf,rfl,rfl⟩⟩
    · rename_i hf
      obtain ⟨⟨cs,o⟩,h1,h2⟩:=bind_some h
      exact ⟨cs,_,o,h2,⟨hz,hg⟩,.inr ⟨by simpa using hf,h1⟩⟩
theorem frz_cell {gb:Nat→Option Blk}:∀ {n:Nat} {v v':AV} {ob:List Prop},(frz n v).run gb=some (v',ob)→Xd v=true→Xd v'=true
 | 0,v,v',ob,h,hk=>by simp [frz,Rd.run] at h
 | n+1,v,v',ob,h,hk=>by
  cases v <;> simp only [frz] at h <;> first
   | (simp [Xd] at hk; done)
   | (simp [Rd.run] at h; done)
   | (obtain ⟨b,-,h⟩:=QC h
      split at h
      · simp only [Rd.run,Option.some.injEq,Prod.mk.injEq] at h; obtain ⟨rfl,-⟩:=h; rfl
      · simp [Rd.run] at h)
   | (simp only [Rd.run,Option.some.injEq,Prod.mk.injEq] at h; obtain ⟨rfl,-⟩:=h; exact hk)
   | (obtain ⟨b,-,h⟩:=QC h
      obtain ⟨-,cs,o1,o2,h,-,-⟩:=Qag h
      simp only [Rd.run,Option.some.injEq,Prod.mk.injEq] at h; obtain ⟨rfl,-⟩:=h; rfl)
   | (obtain ⟨⟨a,o1⟩,h1,h⟩:=bind_some h
      simp only [Rd.run,Option.some.injEq,Prod.mk.injEq] at h; obtain ⟨rfl,-⟩:=h; rfl)
   | (obtain ⟨⟨a,o1⟩,h1,h⟩:=bind_some h
      obtain ⟨⟨c,o2⟩,h2,h⟩:=bind_some h
      simp only [Rd.run,Option.some.injEq,Prod.mk.injEq] at h; obtain ⟨rfl,-⟩:=h; rfl)
def ZL (C:Ctx) (Z:Nat→Prop) (b:Nat):Prop:=Z b ∨ ∃ k o,C.β k=.loc b o
section
variable {P:Program} {Z0 M Z Z':Nat→Prop} {w0 w w':World} {C:Ctx} {blks:List Blk} {evs:List EV} {eff:Eff} {evs':List EV} {obs:List Prop} {idx:Nat}
theorem VR.zmono {v:AV} {c:Value} (h:VR Z w C v c) (hz:∀ b,Z b→Z' b):VR Z' w C v c:=h.mono ⟨hz,fun _ _=>rfl,fun k blk o arr e _ h=>⟨arr,h,rfl⟩⟩
theorem Yc (hm:Mem Z0 M w0 C Z blks w):∀ {n:Nat} {v v':AV} {ob:List Prop} {c:Value},(frz n v).run (blks[·]?)=some (v',ob)→AllP ob→VR Z w C v c→VR (ZL C Z) w C0 v' c
 | 0,v,v',ob,c,h,ho,hv=>by simp [frz,Rd.run] at h
 | n+1,v,v',ob,c,h,ho,hv=>by
  have lst:∀ {cs cs':List AV} {ob:List Prop} {arr:Array Value},(frzL (frz n) cs).run (blks[·]?)=some (cs',ob)→AllP ob→cs.length=arr.size→(∀ (i:Nat) (c:AV) (v:Value),cs[i]?=some c→arr[i]?=some v→VR Z w C c v) →
   cs'.length=arr.size∧∀ (i:Nat) (c:AV) (v:Value),cs'[i]?=some c→arr[i]?=some v→VR (ZL C Z) w C0 c v:=by
   intro cs cs' ob arr h ho hl hv
   obtain ⟨l,r⟩:=qQ h ho
   refine ⟨by omega,fun i c v h1 h2=>?_⟩
   have hlt:i<cs.length:=by have:=(List.getElem?_eq_some_iff.1 h1).1; omega
   obtain ⟨c',o,r1,r2,r3⟩:=r i _ (List.getElem?_eq_getElem hlt)
   rw [h1] at r1; cases r1
   exact Yc hm r2 r3 (hv i _ v (List.getElem?_eq_getElem hlt) h2)
  have blk:∀ {k:Nat} {b:Blk} {bl o:Nat} {cs:List AV} {o2:List Prop},blks[k]?=some b→b.live=true→b.sz ≠ 0→C.β k=.loc bl o→AllP o2 →
   ((b.flat=true∧cs=b.cells∧o2=[]) ∨ (b.flat=false∧(frzL (frz n) b.cells).run (blks[·]?)=some (cs,o2))) →
   ∃ cv:Nat→Value,(∀ i,i<cs.length→w.cell? ⟨bl,o+i,none⟩=some (cv i))∧(∀ (i:Nat) (c:AV),cs[i]?=some c→Xd c=true)∧∀ (i:Nat) (c:AV),cs[i]?=some c→VR (ZL C Z) w C0 c (cv i):=by
   intro k b bl o cs o2 hb hl hz hβ ho2 hcs
   obtain ⟨hk,h1⟩:=hm.blk k b hb hl
   simp only [hβ] at h1
   obtain ⟨arr,e,hh,hsz,hc⟩:=h1.cells hz
   refine ⟨fun i=>arr.getD (o+i) undef,?_⟩
   rcases hcs with ⟨hf,rfl,-⟩ | ⟨hf,hfr⟩
   · refine ⟨fun i hi=>?_,hk,fun i c hi=>?_⟩
     · rw [Yy hh]; simp [Array.getD,show o+i<arr.size by omega]
     · obtain ⟨v,h2,h3⟩:=hc i c hi
       simp only [hf,if_true] at h3
       have:arr.getD (o+i) undef=v:=by
        have hlt:=(Array.getElem?_eq_some_iff.1 h2).1
        simp [Array.getD,hlt]; exact (Array.getElem?_eq_some_iff.1 h2).2
       show VR (ZL C Z) w C0 c (arr.getD (o+i) undef)
       rw [this]; exact h3.zmono fun b hz=>.inl hz
   · obtain ⟨l,r⟩:=qQ hfr ho2
     refine ⟨fun i hi=>?_,fun i c hi=>?_,fun i c hi=>?_⟩
     · rw [Yy hh]; simp [Array.getD,show o+i<arr.size by omega]
     · have hlt:i<b.cells.length:=by have:=(List.getElem?_eq_some_iff.1 hi).1; omega
       obtain ⟨c',o',r1,r2,r3⟩:=r i _ (List.getElem?_eq_getElem hlt)
       rw [hi] at r1; cases r1
       exact frz_cell r2 (hk i _ (List.getElem?_eq_getElem hlt))
     · have hlt:i<b.cells.length:=by have:=(List.getElem?_eq_some_iff.1 hi).1; omega
       obtain ⟨c',o',r1,r2,r3⟩:=r i _ (List.getElem?_eq_getElem hlt)
       rw [hi] at r1; cases r1
       obtain ⟨v,h2,h3⟩:=hc i _ (List.getElem?_eq_getElem hlt)
       simp only [hf,Bool.false_eq_true,if_false] at h3
       have:arr.getD (o+i) undef=v:=by
        have hlt:=(Array.getElem?_eq_some_iff.1 h2).1
        simp [Array.getD,hlt]; exact (Array.getElem?_eq_some_iff.1 h2).2
       show VR (ZL C Z) w C0 c (arr.getD (o+i) undef)
       rw [this]
       exact Yc hm r2 r3 h3
  cases v <;> simp only [frz] at h
  case ptr k g off =>
   obtain ⟨b,hb,h⟩:=QC h
   obtain ⟨hl,cs,o1,o2,h,⟨hbz,hg⟩,hcs⟩:=Qag h
   simp only [Rd.run,Option.some.injEq,Prod.mk.injEq] at h; obtain ⟨rfl,rfl⟩:=h
   obtain ⟨a1,a2⟩:=Qj.1 ho
   obtain ⟨bl,o,hβ,rfl⟩:=KG hm hb (hg a1) hv
   obtain ⟨cv,b1,b2,b3⟩:=blk hb hl hbz hβ a2 hcs
   exact .rptr cv (.inr ⟨k,o,hβ⟩) b1 b2 b3
  case sl k g off len sz =>
   obtain ⟨b,hb,h⟩:=QC h
   obtain ⟨hl,cs,o1,o2,h,⟨hbz,hg⟩,hcs⟩:=Qag h
   simp only [Rd.run,Option.some.injEq,Prod.mk.injEq] at h; obtain ⟨rfl,rfl⟩:=h
   obtain ⟨a1,a2⟩:=Qj.1 ho
   have hok:=KC hm hb (hg a1) hv
   unfold SlOk at hok
   split at hok
   · rename_i bl o hβ
     obtain ⟨a,cap,rfl,hlc,ha,-⟩:=hok
     obtain ⟨cv,b1,b2,b3⟩:=blk hb hl hbz hβ a2 hcs
     by_cases hlen:len=0
     · subst hlen; exact .rsl0
     · obtain rfl:=ha (by omega)
       exact .rsl cv (.inr ⟨k,o,hβ⟩) hlc b1 b2 b3
   · obtain ⟨rfl,a,rfl⟩:=hok
     exact .rsl0
   · exact hok.elim
  case agg cs =>
   obtain ⟨⟨cs',o1⟩,h1,h⟩:=bind_some h
   simp only [Rd.run,Option.some.injEq,Prod.mk.injEq] at h; obtain ⟨rfl,rfl⟩:=h
   cases hv with
   | agg hl hv=>obtain ⟨q1,q2⟩:=lst h1 ho hl hv; exact .agg q1 q2
  case tup cs =>
   obtain ⟨⟨cs',o1⟩,h1,h⟩:=bind_some h
   simp only [Rd.run,Option.some.injEq,Prod.mk.injEq] at h; obtain ⟨rfl,rfl⟩:=h
   cases hv with
   | tup hl hv=>obtain ⟨q1,q2⟩:=lst h1 ho hl hv; exact .tup q1 q2
  case clos f a c =>
   obtain ⟨⟨a',o1⟩,h1,h⟩:=bind_some h
   obtain ⟨⟨c',o2⟩,h2,h⟩:=bind_some h
   simp only [Rd.run,Option.some.injEq,Prod.mk.injEq] at h; obtain ⟨rfl,rfl⟩:=h
   obtain ⟨a1,a2⟩:=Qj.1 ho
   cases hv with
   | clos hl hv hl' hv' =>
    obtain ⟨q1,q2⟩:=lst h1 a1 hl hv
    obtain ⟨q3,q4⟩:=lst h2 a2 hl' hv'
    exact .clos q1 q2 q3 q4
  case mp k g it =>
   obtain ⟨b,hb,h⟩:=QC h
   split at h
   · rename_i hl hz hf hg _
     simp only [Rd.run,Option.some.injEq,Prod.mk.injEq] at h; obtain ⟨rfl,-⟩:=h
     cases hv with
     | mp h1 ho' h2 =>
      obtain ⟨bl,o,hβ,rfl⟩:=h2 (by rw [hm.gen k b hb]; simpa using hg)
      obtain ⟨-,q⟩:=hm.blk k b hb hl
      simp only [hβ] at q
      rcases q with ⟨q,-⟩ | ⟨-,ob',q1,q2⟩
      · exact absurd hz q
      · rw [hf] at q2
        simp only [XK,if_true] at q2
        obtain ⟨es,rfl,e1,e2,e3⟩:=q2
        exact .rmap es (.inr ⟨k,o,hβ⟩) q1 e1 e2 fun i c e p1 p2=>(e3 i c e p1 p2).zmono fun b hz=>.inl hz
   · simp [Rd.run] at h
  case ifc t u =>
   obtain ⟨⟨u',o1⟩,h1,h⟩:=bind_some h
   simp only [Rd.run,Option.some.injEq,Prod.mk.injEq] at h; obtain ⟨rfl,rfl⟩:=h
   cases hv with
   | ifc hv=>exact .ifc (Yc hm h1 ho hv)
  case pm row k g off =>
   simp only [Rd.run,Option.some.injEq,Prod.mk.injEq] at h; obtain ⟨rfl,-⟩:=h
   cases hv with
   | pm cv hz hc hk hr hcm hv=>exact (VR.rptr (C:=C0) cv hz hc hk hr).zmono fun b hz=>.inl hz
  all_goals
   simp only [Rd.run,Option.some.injEq,Prod.mk.injEq] at h; obtain ⟨rfl,-⟩:=h
   exact (hv.ctx (by rfl)).zmono fun b hz=>.inl hz
theorem WN (hm:Mem Z0 M w0 C Z blks w) {n:Nat} {cs cs':List AV} {ob:List Prop} {vs:List Value} (h:(frzL (frz n) cs).run (blks[·]?)=some (cs',ob)) (ho:AllP ob) (hv:VRs Z w C cs vs) :
 VRs (ZL C Z) w C0 cs' vs:=by
 obtain ⟨l,r⟩:=qQ h ho
 refine ⟨by rw [l]; exact hv.1,fun i c v h1 h2=>?_⟩
 have hlt:i<cs.length:=by have:=(List.getElem?_eq_some_iff.1 h1).1; omega
 obtain ⟨c',o,r1,r2,r3⟩:=r i _ (List.getElem?_eq_getElem hlt)
 rw [h1] at r1; cases r1
 exact Yc hm r2 r3 (hv.2 i _ v (List.getElem?_eq_getElem hlt) h2)
mutual
theorem Qcm {gb:Nat→Option Blk}:∀ (v:AV) {n:Nat} {v':AV} {ob:List Prop},Xf v=true→(frz n v).run gb=some (v',ob)→v'=v
 | v,0,v',ob,hn,h=>by simp [frz,Rd.run] at h
 | .bool _,n+1,v',ob,hn,h=>by simp [frz,Rd.run] at h; exact h.1.symm
 | .int _ _,n+1,v',ob,hn,h=>by simp [frz,Rd.run] at h; exact h.1.symm
 | .nilPtr,n+1,v',ob,hn,h=>by simp [frz,Rd.run] at h; exact h.1.symm
 | .ptr _ _ _,n+1,v',ob,hn,h=>by simp [Xf] at hn
 | .rptr _ _,n+1,v',ob,hn,h=>by simp [frz,Rd.run] at h; exact h.1.symm
 | .nilSl,n+1,v',ob,hn,h=>by simp [frz,Rd.run] at h; exact h.1.symm
 | .sl _ _ _ _ _,n+1,v',ob,hn,h=>by simp [Xf] at hn
 | .rsl _ _ _,n+1,v',ob,hn,h=>by simp [frz,Rd.run] at h; exact h.1.symm
 | .nilFunc,n+1,v',ob,hn,h=>by simp [frz,Rd.run] at h; exact h.1.symm
 | .opq _,n+1,v',ob,hn,h=>by simp [frz,Rd.run] at h; exact h.1.symm
 | .junk,n+1,v',ob,hn,h=>by simp [frz,Rd.run] at h; exact h.1.symm
 | .mp _ _ _,n+1,v',ob,hn,h=>by simp [Xf] at hn
 | .pm _ _ _ _,n+1,v',ob,hn,h=>by simp [Xf] at hn
 | .rmap _,n+1,v',ob,hn,h=>by simp [frz,Rd.run] at h; exact h.1.symm
 | .ifc t v,n+1,v',ob,hn,h=>by
  simp only [frz] at h
  obtain ⟨⟨w',o1⟩,h1,h⟩:=bind_some h
  simp only [Rd.run,Option.some.injEq,Prod.mk.injEq] at h; obtain ⟨rfl,rfl⟩:=h
  rw [Qcm v (by simpa [Xf] using hn) h1]
 | .agg cs,n+1,v',ob,hn,h=>by
  simp only [frz] at h
  obtain ⟨⟨cs',o1⟩,h1,h⟩:=bind_some h
  simp only [Rd.run,Option.some.injEq,Prod.mk.injEq] at h; obtain ⟨rfl,rfl⟩:=h
  rw [frzL_same cs (by simpa [Xf] using hn) h1]
 | .tup cs,n+1,v',ob,hn,h=>by
  simp only [frz] at h
  obtain ⟨⟨cs',o1⟩,h1,h⟩:=bind_some h
  simp only [Rd.run,Option.some.injEq,Prod.mk.injEq] at h; obtain ⟨rfl,rfl⟩:=h
  rw [frzL_same cs (by simpa [Xf] using hn) h1]
 | .clos f a c,n+1,v',ob,hn,h=>by
  simp only [frz] at h
  simp only [Xf,Bool.and_eq_true] at hn
  obtain ⟨⟨a',o1⟩,h1,h⟩:=bind_some h
  obtain ⟨⟨c',o2⟩,h2,h⟩:=bind_some h
  simp only [Rd.run,Option.some.injEq,Prod.mk.injEq] at h; obtain ⟨rfl,rfl⟩:=h
  rw [frzL_same a hn.1 h1,frzL_same c hn.2 h2]
theorem frzL_same {gb:Nat→Option Blk}:∀ (cs:List AV) {n:Nat} {cs':List AV} {ob:List Prop},noRefs cs=true→(frzL (frz n) cs).run gb=some (cs',ob)→cs'=cs
 | [],n,cs',ob,hn,h=>by simp [frzL,Rd.run] at h; exact h.1
 | c :: cs,n,cs',ob,hn,h=>by
  simp only [noRefs,Bool.and_eq_true] at hn
  simp only [frzL] at h
  obtain ⟨⟨c',o1⟩,h1,h⟩:=bind_some h
  obtain ⟨⟨ds,o2⟩,h2,h⟩:=bind_some h
  simp only [Rd.run,Option.some.injEq,Prod.mk.injEq] at h; obtain ⟨rfl,rfl⟩:=h
  rw [Qcm c hn.1 h1,frzL_same cs hn.2 h2]
end
mutual
theorem WG {C C':Ctx}:∀ {v:AV} {c:Value},Yn v=true→VR Z w C v c→VR Z' w' C' v c
 | .bool _,c,hs,h=>by cases h; exact .bool _
 | .int _ _,c,hs,h=>by cases h; exact .int _ _
 | .nilPtr,c,hs,h=>by cases h; exact .nilPtr
 | .nilSl,c,hs,h=>by cases h; exact .nilSl
 | .nilFunc,c,hs,h=>by cases h; exact .nilFunc
 | .agg cs,c,hs,h=>by
  cases h with
  | agg hl h=>exact .agg hl (scalars_any (by simpa [Yn] using hs) h)
 | .tup cs,c,hs,h=>by
  cases h with
  | tup hl h=>exact .tup hl (scalars_any (by simpa [Yn] using hs) h)
 | .ptr ..,c,hs,h=>by simp [Yn] at hs
 | .rptr ..,c,hs,h=>by simp [Yn] at hs
 | .sl ..,c,hs,h=>by simp [Yn] at hs
 | .rsl ..,c,hs,h=>by simp [Yn] at hs
 | .clos ..,c,hs,h=>by simp [Yn] at hs
 | .opq ..,c,hs,h=>by simp [Yn] at hs
 | .junk,c,hs,h=>by simp [Yn] at hs
theorem scalars_any {C C':Ctx}:∀ {cs:List AV} {arr:Array Value},scalars cs=true→(∀ (i:Nat) (c:AV) (v:Value),cs[i]?=some c→arr[i]?=some v→VR Z w C c v) →
 ∀ (i:Nat) (c:AV) (v:Value),cs[i]?=some c→arr[i]?=some v→VR Z' w' C' c v
 | [],arr,hs,h,i,c,v,h1,h2=>by simp at h1
 | d :: cs,arr,hs,h,0,c,v,h1,h2=>by
  simp only [scalars,Bool.and_eq_true] at hs
  simp at h1; subst h1
  exact WG hs.1 (h 0 _ v rfl h2)
 | d :: cs,arr,hs,h,i+1,c,v,h1,h2=>by
  simp only [scalars,Bool.and_eq_true] at hs
  exact scalars_any (arr:=arr.extract 1 arr.size) hs.2 (fun i c v a b=>h (i+1) c v (by simpa using a) (by
   rw [Array.getElem?_extract] at b; split at b
   · rw [Nat.add_comm] at b; exact b
   · cases b)) i c v (by simpa using h1) (by
     have hlt:=(Array.getElem?_eq_some_iff.1 h2).1
     rw [Array.getElem?_extract]
     rw [if_pos (by omega),Nat.add_comm]; exact h2)
end
/-- Behind a call of a function that only reads. -/
theorem Mem.call (hm:Mem Z0 M w0 C Z blks w) (hf:Fr w (fun _=>False) w'):Mem Z0 M w0 C (Zx Z w w') blks w'∧Evo C Z (Zx Z w w') w w':=by
 have hevo:Evo C Z (Zx Z w w') w w':=⟨fun b h=>.inl h,fun b hz=>hf.same b (hm.zlt b hz) (fun h=>h),fun k blk o arr e hb h=>⟨arr,by rw [hf.same blk (hm.own k blk o hb).1 (fun h=>h)]; exact h,rfl⟩⟩
 refine ⟨⟨fun k b hb hl=>?_,hm.gen,hm.dd,hm.dom,hm.inj,fun k b o h=>?_,fun b hz=>?_,fun b hz=>.inl (hm.z0 b hz),fun b hz=>?_,?_⟩,hevo⟩
 · obtain ⟨h1,h2⟩:=hm.blk k b hb hl
   refine ⟨h1,?_⟩
   cases hs:C.β k with
   | absent=>simp [hs] at h2
   | unborn=>simp only [hs] at h2 ⊢; exact h2
   | loc blk o =>
    simp only [hs] at h2 ⊢
    exact h2.next (hf.same blk (hm.own k blk o hs).1 (fun h=>h)) (fun c v h=>h.mono hevo.zero) (fun _ c v _ h=>h.mono hevo)
 · obtain ⟨h1,h2,h3⟩:=hm.own k b o h
   exact ⟨Nat.lt_of_lt_of_le h1 hf.size,fun hz=>hz.elim h2 fun hz=>by omega,h3⟩
 · rcases hz with hz | hz
   · exact Nat.lt_of_lt_of_le (hm.zlt b hz) hf.size
   · exact hz.2
 · rcases hz with hz | hz
   · exact hm.zsub b hz
   · exact .inr (.inr (Nat.le_trans hm.frame.size hz.1))
 · exact ⟨hf.os.trans hm.frame.os,hf.tape.trans hm.frame.tape,hf.output.trans hm.frame.output,Nat.le_trans hm.frame.size hf.size,Nat.le_trans hm.frame.dr hf.dr,
    fun b h1 h2=>(hf.same b (Nat.lt_of_lt_of_le h1 hm.frame.size) (fun h=>h)).trans (hm.frame.same b h1 h2)⟩
/-- How an operation goes on: with a value,without one,or by a call. -/
def OpOk (P:Program) (o:Oper) (ρ:Operand→Value) (w:World) (Q:Value→World→Prop):Prop :=
 (∃ c w',(execOp ρ o).run P w=.ok (.value c) w'∧Q c w') ∨ (∃ w',(execOp ρ o).run P w=.ok .skip w'∧Q undef w') ∨
 (∃ f args,(execOp ρ o).run P w=.ok (.enter f args) w∧Calls P f args w fun e w'=>∃ v,e=.returned v∧Q v w')
theorem newSl_res {v:Value} {len sz:Nat} {cells:List AV} (hm:Mem Z0 M w0 C Z blks w) (hb:blks[idx]?=some dead) (hfr:Fr w (fun _=>False) w') (h:NewSl w w' v len sz cells) (hz:sz ≠ 0) :
 Res Z0 M w0 C Z blks w idx (.new ⟨true,0,sz,true,cells,true⟩ (fun k=>.sl k 0 0 len sz)) v w':=by
 have habs:=hm.dd idx dead hb rfl
 have hgen:C.γ idx=0:=hm.gen idx dead hb
 rcases h with ⟨rfl,rfl,a,rfl⟩ | ⟨blk,o,a,cap,arr,e,rfl,h1,h2,h3,h4,h5,h6,h7⟩
 · have hβ:(C.put idx .unborn 0).β idx=.unborn:=by simp [Ctx.put]
   have hγ:(C.put idx .unborn 0).γ idx=0:=by simp [Ctx.put]
   obtain ⟨q1,q2,q3⟩:=hm.change (b':=⟨true,0,sz,true,[],true⟩) (w':=w') (s:=.unborn) (g:=0) (hdr:=hfr.dr) hb hfr.os hfr.tape hfr.output hfr.size (fun c hc _=>hfr.same c hc (fun h=>h))
    (fun b2 o2 _ _ h _=>by rw [habs] at h; cases h) (by omega) (fun h=>absurd habs h) rfl rfl (fun b2 o2 h=>by cases h)
    (fun hle hevo _=>⟨fun i c hi=>by simp at hi,by simp only [hβ]⟩)
   refine ⟨_,Z,q2,q3,q1,.sl (by rw [hγ]; exact Nat.le_refl _) rfl fun _=>?_⟩
   unfold SlOk
   rw [hβ]
   exact ⟨rfl,a,rfl⟩
 have hlt:blk<w'.heap.size:=(Array.getElem?_eq_some_iff.1 h4).1
 have hβ:(C.put idx (.loc blk o) 0).β idx=.loc blk o:=by simp [Ctx.put]
 have hγ:(C.put idx (.loc blk o) 0).γ idx=0:=by simp [Ctx.put]
 obtain ⟨q1,q2,q3⟩:=hm.change (b':=⟨true,0,sz,true,cells,true⟩) (w':=w') (s:=.loc blk o) (g:=0) (hdr:=hfr.dr) hb hfr.os hfr.tape hfr.output hfr.size (fun c hc _=>hfr.same c hc (fun h=>h))
  (fun b2 o2 _ _ h _=>by rw [habs] at h; cases h) (by omega) (fun h=>absurd habs h) rfl rfl (fun b2 o2 h=>by simp only [Slot.loc.injEq] at h; obtain ⟨rfl,rfl⟩:=h; exact .inr ⟨h3,hlt⟩)
  (fun hle hevo _=>⟨fun i c hi=>(h7 i c hi).1,by
    simp only [hβ]
    exact .inl ⟨hz,arr,e,h4,h6,fun i c hi=>by
     obtain ⟨u,r1,r2⟩:=(h7 i c hi).2
     exact ⟨u,r1,r2 Z _⟩⟩⟩)
 refine ⟨_,Z,q2,q3,q1,.sl (by rw [hγ]; exact Nat.le_refl _) rfl fun _=>?_⟩
 unfold SlOk
 rw [hβ]
 exact ⟨a,cap,rfl,h1,by simpa using h2,arr,e,h4,by simpa using h5⟩
theorem QaA {fv:AV} {args:List AV} {cf:Value} {cargs:Array Value} (hm:Mem Z0 M w0 C Z blks w) (hb:blks[idx]?=some dead) (hf:VR Z w C fv cf) (ha:VRs Z w C args cargs.toList)
 (h:(callA P fv args evs).run (blks[·]?)=some (eff,evs',obs)) (ho:AllP obs) :
 ∃ (d:Deferred) (f:FuncId) (args':Array Value),(Deferred.ofValue cf cargs).run P w=.ok d w∧(invoke d.target d.args).run P w=.ok (.enter f args') w ∧
  Calls P f args' w fun e w'=>∃ v,e=.returned v∧Res Z0 M w0 C Z blks w idx eff v w':=by
 unfold callA at h
 split at h
 · rename_i res r
   replace hf:=hf.pmW
   replace ha:=ha.pmW
   obtain ⟨⟨fv',o1⟩,h1,h⟩:=bind_some h
   obtain ⟨⟨args',o2⟩,h2,h⟩:=bind_some h
   simp only at h
   split at h
   · rename_i hc
     have:=Qp h; simp only [Prod.mk.injEq] at this; obtain ⟨rfl,-,rfl⟩:=this
     obtain ⟨hp,ho⟩:=ho
     obtain ⟨ho1,ho2⟩:=Qj.1 ho
     rw [Bool.and_eq_true,Bool.or_eq_true,Bool.and_eq_true] at hc
     obtain ⟨hc,hnr⟩:=hc
     by_cases hn:Xf (pmW fv)=true∧noRefs (pmWs args)=true
     · rw [Qcm (pmW fv) hn.1 h1,frzL_same (pmWs args) hn.2 h2] at hp
       obtain ⟨d,f,as1,r1,r2,r3⟩:=hp Z w cf cargs hm.zlt (hf.ctx hn.1) ⟨ha.1,fun i c v a b=>(ha.2 i c v a b).ctx (QQ hn.2 a)⟩
       refine ⟨d,f,as1,r1,r2,r3.mono ?_⟩
       rintro e w' ⟨v,rfl,hv,hfr⟩
       obtain ⟨q1,q2⟩:=hm.call hfr
       exact ⟨v,rfl,C,Zx Z w w',.refl C,q2,q1,hv.of0⟩
     · have hs:Yn res=true:=hc.resolve_left hn
       obtain ⟨d,f,as1,r1,r2,r3⟩:=hp (ZL C Z) w cf cargs (fun b hz=>by
        rcases hz with hz | ⟨k,o,hb⟩
        · exact hm.zlt b hz
        · exact (hm.own k b o hb).1) (Yc hm h1 ho1 hf) (WN hm h2 ho2 ha)
       refine ⟨d,f,as1,r1,r2,r3.mono ?_⟩
       rintro e w' ⟨v,rfl,hv,hfr⟩
       obtain ⟨q1,q2⟩:=hm.call hfr
       exact ⟨v,rfl,C,Zx Z w w',.refl C,q2,q1,WG hs hv⟩
   · simp [Rd.run] at h
 · rename_i res r
   obtain ⟨⟨fv',o1⟩,h1,h⟩:=bind_some h
   obtain ⟨⟨args',o2⟩,h2,h⟩:=bind_some h
   simp only at h
   split at h
   · rename_i hnr
     have:=Qp h; simp only [Prod.mk.injEq] at this; obtain ⟨rfl,-,rfl⟩:=this
     obtain ⟨hp,ho⟩:=ho
     obtain ⟨ho1,ho2⟩:=Qj.1 ho
     obtain ⟨d,f,as1,r1,r2,r3⟩:=hp (ZL C Z) w cf cargs (fun b hz=>by
      rcases hz with hz | ⟨k,o,hb⟩
      · exact hm.zlt b hz
      · exact (hm.own k b o hb).1) (Yc hm h1 ho1 hf) (WN hm h2 ho2 ha)
     refine ⟨d,f,as1,r1,r2,r3.mono ?_⟩
     rintro e w' ⟨v,rfl,hv,hfr⟩
     obtain ⟨q1,q2⟩:=hm.call hfr
     exact ⟨v,rfl,C,Zx Z w w',.refl C,q2,q1,(hv.zmono fun b hb=>.inr hb).of0⟩
   · simp [Rd.run] at h
 · rename_i len sz sz' cells r
   obtain ⟨⟨fv',o1⟩,h1,h⟩:=bind_some h
   obtain ⟨⟨args',o2⟩,h2,h⟩:=bind_some h
   simp only at h
   split at h
   · rename_i hc
     simp only [Rd.run,Option.some.injEq,Prod.mk.injEq] at h
     obtain ⟨rfl,-,rfl⟩:=h
     simp only [Bool.and_eq_true,bne_iff_ne,ne_eq] at hc
     obtain ⟨hp,ho⟩:=ho
     obtain ⟨ho1,ho2⟩:=Qj.1 ho
     obtain ⟨d,f,as1,r1,r2,r3⟩:=hp (ZL C Z) w cf cargs (fun b hz=>by
      rcases hz with hz | ⟨k,o,hb⟩
      · exact hm.zlt b hz
      · exact (hm.own k b o hb).1) (Yc hm h1 ho1 hf) (WN hm h2 ho2 ha)
     refine ⟨d,f,as1,r1,r2,r3.mono ?_⟩
     rintro e w' ⟨v,rfl,hv,hfr⟩
     exact ⟨v,rfl,newSl_res hm hb hfr hv hc.2⟩
   · simp [Rd.run] at h
 · rename_i k res b' r
   obtain ⟨b,hbk,h⟩:=QC h
   simp only [Rd.run,Option.some.injEq,Prod.mk.injEq] at h
   obtain ⟨rfl,-,rfl⟩:=h
   obtain ⟨d,f,as1,r1,r2,r3⟩:=ho.1 Z0 M w0 w C Z blks cf cargs hm hbk hf ha
   refine ⟨d,f,as1,r1,r2,r3.mono ?_⟩
   rintro e w' ⟨v,rfl,C',Z',q1,q2,q3,q4⟩
   exact ⟨v,rfl,C',Z',q1,q2,q3,q4⟩
 · simp [Rd.run] at h
end
end Ax
namespace Ax
open Go
section
variable {P:Program} {Z0 M Z Z':Nat→Prop} {w0 w w':World} {C:Ctx} {blks:List Blk} {evs:List EV} {eff:Eff} {evs':List EV} {obs:List Prop} {idx:Nat}
theorem yf {r:Nat} {ob ob':Obj} (h:w.heap[r]?=some ob) (hn:∀ c t f,ob ≠ .cells c t f):(setObj r ob').run P w=.ok () (w.putObj r ob'):=by
 simp only [setObj,Sem.run,h]
 all_goals first | rfl | (exact absurd rfl (hn _ _ _)) | (cases ob <;> first | rfl | exact absurd rfl (hn _ _ _))
theorem yg {o:Obj}:(newObj o).run P w=.ok w.heap.size (w.alloc o):=by
 rfl
theorem eqIn_int (d:Nat) {t:TypeId} {k q:IntKind} (x y:Int) (h:P.underlying t=some (.int q)):(Op.equalIn (d+1) t (.int k x) (.int k y)).run P w=.ok (x == y) w:=by
 simp [Op.equalIn,run_underlying h]
theorem check_int (em:Bool) (d:Nat) {t:TypeId} {k q:IntKind} (x:Int) (h:P.underlying t=some (.int q)):(Instr.checkKey em (d+1) t (.int k x)).run P w=.ok () w:=by
 simp [Instr.checkKey,run_underlying h]
theorem KZ {t:TypeId} {a b:AV} {ca cb:Value} {r:Bool} (ha:VR Z w C a ca) (hb:VR Z w C b cb) (h:qO P t a b=some r):(Op.equal t ca cb).run P w=.ok r w:=by
 unfold qO at h
 split at h
 · rename_i k k1 x k2 y hd
   cases ha; cases hb
   split at h
   · rename_i hk
     simp only [beq_iff_eq] at hk; subst hk
     simp only [Option.some.injEq] at h; subst h
     exact eqIn_int 9999 _ _ hd
   · cases h
 iterate 2
  · rename_i xs ys hd
    obtain ⟨ax,rfl,h1⟩:=Yj ha
    obtain ⟨ay,rfl,h2⟩:=Yj hb
    cases hts:Xr P 20 t with
    | none=>simp [hts] at h
    | some ts =>
     simp only [hts,Option.bind_some] at h
     have hag:Xe P t=some true:=by simp [Xe,hd]
     exact (Kk (P:=P) (w:=w) 10000 (by omega) hts _ _ _ (VW h1 h2 h)).1 hag
 · cases h
theorem plain_one {d t:Nat} {ts:List (Option IntKind)} (h:Xr P d t=some ts) (ha:Xe P t=some false):ts.length=1:=by
 cases d with
 | zero=>simp [Xr] at h
 | succ d =>
  simp only [Xr] at h
  split at h
  · simp only [Option.some.injEq] at h; subst h; rfl
  · simp only [Option.some.injEq] at h; subst h; rfl
  · rename_i hd; simp [Xe,hd] at ha
  · rename_i hd; simp [Xe,hd] at ha
  · cases h
theorem part_got {t n:Nat} {ag:Bool} (hs:szT P t=some n) (ha:Xe P t=some ag) (h1:ag=false→n=1) {xs:List Value} {o:Nat} (ho:o+n≤xs.length) :
 ∃ a,(part t xs.toArray o).run P w=.ok a w∧(ag=true→a=.agg ((xs.drop o).take n).toArray):=by
 have key:xs.toArray.extract o (o+n)=((xs.drop o).take n).toArray:=by simp [List.take_drop,Nat.add_comm]
 cases ag with
 | true=>exact ⟨_,by simp only [part,Sem.run_bind,Yb ha,Result.andThen_ok,if_true,Xo hs,Sem.run_pure,key],fun _=>rfl⟩
 | false =>
  have hlt:o<xs.length:=by have:=h1 rfl; omega
  exact ⟨xs[o],by simp [part,Yb ha,hlt],fun e=>by cases e⟩
theorem KH (em : Bool) : ∀ {d t : Nat} {ts : List (Option IntKind)} (D : Nat), d ≤ D → Xr P d t = some ts →
    (Xe P t = some true → ∀ xs : List Value, xs.length = ts.length → (Instr.checkKey em D t (.agg xs.toArray)).run P w = .ok () w) ∧
    (Xe P t = some false → ∀ x, (Instr.checkKey em D t x).run P w = .ok () w)
  | 0, t, ts, D, hD, h => by simp [Xr] at h
  | d + 1, t, ts, 0, hD, h => by omega
  | d + 1, t, ts, D + 1, hD, h => by
    have one : ∀ {e n ag ts1} {xs : List Value} {o : Nat}, szT P e = some n → Xe P e = some ag → Xr P d e = some ts1 → n = ts1.length → o + n ≤ xs.length →
        ∃ a, (part e xs.toArray o).run P w = .ok a w ∧ (Instr.checkKey em D e a).run P w = .ok () w := by
      intro e n ag ts1 xs o h1 h2 h3 h4 h5
      have ih := KH em D (by omega) h3
      obtain ⟨a, p1, p2⟩ := part_got (w := w) h1 h2 (fun e => by subst e; rw [h4]; exact plain_one h3 h2) h5
      refine ⟨a, p1, ?_⟩
      cases ag with
      | true => rw [p2 rfl]; exact ih.1 h2 _ (by simp; omega)
      | false => exact ih.2 h2 a
    simp only [Xr] at h
    split at h
    · rename_i hd
      exact ⟨fun ha => by simp [Xe, hd] at ha, fun _ x => by simp [Instr.checkKey, run_underlying hd]⟩
    · rename_i k hd
      exact ⟨fun ha => by simp [Xe, hd] at ha, fun _ x => by simp [Instr.checkKey, run_underlying hd]⟩
    · rename_i fs hd
      refine ⟨fun _ xs hl => ?_, fun ha => by simp [Xe, hd] at ha⟩
      split at h
      · cases h
      · rw [Instr.checkKey]
        simp only [Sem.run_bind, run_underlying hd, Result.andThen_ok]
        rw [← Array.forIn_toList]
        have key : ∀ (l : List Field) (o : Nat) (ts : List (Option IntKind)), qI P (Xr P d) l o = some ts → o + ts.length ≤ xs.length →
            (forIn l PUnit.unit (fun f _ => do
              if f.name ≠ "_" then Instr.checkKey em D f.type (← part f.type xs.toArray f.offset)
              pure (ForInStep.yield PUnit.unit) : Field → PUnit → Sem (ForInStep PUnit))).run P w = .ok PUnit.unit w := by
          intro l
          induction l with
          | nil => intro o ts _ _; simp
          | cons fd l ihl =>
            intro o ts h ho
            simp only [qI] at h
            split at h
            · rename_i ts1 n ag h1 h2 h3
              split at h
              · cases h
              · rename_i hc
                simp only [Bool.or_eq_true, not_or, Bool.not_eq_true, bne_eq_false_iff_eq, beq_eq_false_iff_ne] at hc
                obtain ⟨⟨c1, c2⟩, c3⟩ := hc
                cases hr : qI P (Xr P d) l (o + n) with
                | none => simp [hr] at h
                | some ts2 =>
                  simp [hr] at h; subst h
                  simp only [List.length_append] at ho
                  obtain ⟨a, p1, p2⟩ := one (xs := xs) (o := o) h2 h3 h1 c3 (by omega)
                  have ih2 := ihl (o + n) ts2 hr (by omega)
                  simp only [List.forIn_cons, Sem.run_bind, ne_eq, c1, not_false_eq_true, if_true, c2, p1, p2, Result.andThen_ok, Sem.run_pure]
                  exact ih2
            · cases h
        have := key fs.toList 0 ts h (by omega)
        first
        | exact this
        | (simp only [Sem.run_bind] at this ⊢; rw [this]; rfl)
        | (rw [this]; rfl)
    · rename_i n e hd
      refine ⟨fun _ xs hl => ?_, fun ha => by simp [Xe, hd] at ha⟩
      cases hts : Xr P d e with
      | none => simp [hts] at h
      | some ts1 =>
        simp only [hts, Option.bind_some] at h
        split at h
        · rename_i hsz
          simp only [Option.some.injEq] at h; subst h
          have hsz' : szT P e = some ts1.length := by simpa using hsz
          obtain ⟨ag, hag⟩ : ∃ ag, Xe P e = some ag := by
            cases hu : P.underlying e with
            | none => cases d <;> simp [Xr, hu] at hts
            | some u => cases u <;> exact ⟨_, by simp [Xe, hu]; rfl⟩
          have hll : xs.length = n * ts1.length := by simpa using hl
          have key : ∀ (m i : Nat), i + m ≤ n → (forIn (List.range' i m) PUnit.unit (fun i _ => do
              let s ← Go.sizeOf e
              let v ← part e xs.toArray (i * s)
              let _ ← Instr.checkKey em D e v
              pure (ForInStep.yield PUnit.unit) : Nat → PUnit → Sem (ForInStep PUnit))).run P w = .ok PUnit.unit w := by
            intro m
            induction m with
            | zero => intro i hi; simp
            | succ m ih =>
              intro i hi
              have hle : i * ts1.length + ts1.length ≤ xs.length := by
                rw [hll, ← Nat.succ_mul]; exact Nat.mul_le_mul_right _ (by omega)
              obtain ⟨v, p1, p2⟩ := one (xs := xs) (o := i * ts1.length) hsz' hag hts rfl hle
              rw [List.range'_succ, List.forIn_cons]
              simp only [Sem.run_bind, Xo hsz', Result.andThen_ok, p1, p2, Sem.run_pure]
              exact ih (i + 1) (by omega)
          have := key n 0 (by omega)
          rw [Instr.checkKey]
          simp only [Sem.run_bind, run_underlying hd, Result.andThen_ok]
          rw [Std.Legacy.Range.forIn_eq_forIn_range']
          simp only [Std.Legacy.Range.size, Nat.sub_zero, Nat.add_sub_cancel, Nat.div_one, Sem.run_bind]
          first
          | exact this
          | (have h2 := this; simp only [Sem.run_bind] at h2; rw [h2]; rfl)
          | (rw [this]; rfl)
        · cases h
    · cases h

theorem qN {t:TypeId} {k:AV} {ck:Value} (hv:VR Z w C k ck) (h:keyOk P t k=true) (em:Bool):(Instr.checkKey em 10000 t ck).run P w=.ok () w:=by
 unfold keyOk at h
 split at h
 · rename_i kk k1 n hd
   cases hv
   exact check_int em 9999 _ hd
 iterate 2
  · rename_i xs hd
    obtain ⟨ax,rfl,h1⟩:=Yj hv
    have hag:Xe P t=some true:=by simp [Xe,hd]
    split at h
    · rename_i ts hts
      have hl:ax.toList.length=ts.length:=by have:=h1.1; simp at this h; simp; omega
      have:=(KH (w:=w) em 10000 (by omega) hts).1 hag ax.toList hl
      simpa using this
    · cases h
 · cases h
theorem keyOk_und {t:TypeId} {k:AV} (h:keyOk P t k=true):∃ d,P.underlying t=some d:=by
 unfold keyOk at h
 split at h
 iterate 3 · rename_i hd; exact ⟨_,hd⟩
 · cases h
/-- The entries,as they lie in a map. -/
def Ents (Z:Nat→Prop) (w:World) (cells:List AV) (es:List MapEntry):Prop :=
 cells.length=es.length∧∀ (i:Nat) (c:AV) (e:MapEntry),cells[i]?=some c→es[i]?=some e→VR Z w C0 c (.func (.func 0) #[e.key] #[e.val])
theorem yE {k v:AV} {a b:Value} {C:Ctx} (h:VR Z w C (.clos 0 [k] [v]) (.func (.func 0) #[a] #[b])):VR Z w C k a∧VR Z w C v b:=by
 cases h with
 | clos h1 h2 h3 h4=>exact ⟨h2 0 _ _ rfl rfl,h4 0 _ _ rfl rfl⟩
theorem Ents.cons {cells:List AV} {c:AV} {es:List MapEntry} (h:Ents Z w (c :: cells) es):∃ e es',es=e :: es'∧VR Z w C0 c (.func (.func 0) #[e.key] #[e.val])∧Ents Z w cells es':=by
 cases es with
 | nil=>simp [Ents] at h
 | cons e es=>exact ⟨e,es,rfl,h.2 0 _ _ rfl rfl,by simpa using h.1,fun i a b h1 h2=>h.2 (i+1) a b (by simpa using h1) (by simpa using h2)⟩
theorem find_none {t:TypeId} {k:AV} {ck:Value} (hv:VR Z w C0 k ck):∀ {cells:List AV} {es:List MapEntry} (i:Nat),Ents Z w cells es→Xw P t k cells →
 (∃ d,P.underlying t=some d∧(Instr.findNow d ck es i=some none ∨ (Instr.findNow d ck es i=none∧(Instr.findAsking t ck es i).run P w=.ok none w))) ∨ cells=[]
 | [],es,i,h,hn=>.inr rfl
 | c :: cells,es,i,h,hn=>by
  left
  obtain ⟨e,es,rfl,he,hr⟩:=h.cons
  obtain ⟨k',v,rfl,hk⟩:=hn c (by simp)
  obtain ⟨hek,-⟩:=yE he
  have heq:=KZ hv hek hk
  have ih:=find_none hv (i+1) hr (fun c hc=>hn c (by simp [hc]))
  have hnil:cells=[]→es=[]:=fun h0=>by subst h0; exact List.length_eq_zero_iff.1 (by have:=hr.1; simpa using this.symm)
  unfold qO at hk
  split at hk
  · rename_i kk k1 x k2 y hd
    cases hv
    generalize hy:e.key=ey at hek heq
    cases hek
    split at hk
    · rename_i hkk
      simp only [beq_iff_eq] at hkk; subst hkk
      simp only [Option.some.injEq] at hk
      refine ⟨_,hd,.inl ?_⟩
      simp only [Instr.findNow,hy,Instr.sameNow,if_true,hk]
      rcases ih with ⟨d,q1,q2⟩ | q
      · rw [hd] at q1; cases q1
        rcases q2 with q2 | ⟨q2,-⟩
        · exact q2
        · -- an int's key is found at once
          exfalso
          revert q2
          have:∀ (es:List MapEntry) (cells:List AV) (i:Nat),Ents Z w cells es→Xw P t (.int k1 x) cells→Instr.findNow (.int kk) (.int k1 x) es i ≠ none:=by
           intro es
           induction es with
           | nil=>intro cells i _ _ h; simp [Instr.findNow] at h
           | cons e es ihh =>
            intro cells i he hn
            cases cells with
            | nil=>simp [Ents] at he
            | cons c cells =>
             obtain ⟨e',es',heq',he1,hr1⟩:=he.cons
             simp only [List.cons.injEq] at heq'
             obtain ⟨rfl,rfl⟩:=heq'
             obtain ⟨k',v,rfl,hk⟩:=hn c (by simp)
             obtain ⟨hek,-⟩:=yE he1
             unfold qO at hk
             rw [hd] at hk
             cases k' <;> simp at hk
             generalize hy:e.key=ey at hek
             cases hek
             obtain ⟨rfl,hk⟩:=hk
             simp only [Instr.findNow,hy,Instr.sameNow,if_true]
             rw [show (x == _)=false by simpa using hk]
             exact ihh cells (i+1) hr1 (fun c hc=>hn c (by simp [hc]))
          exact this es cells (i+1) hr (fun c hc=>hn c (by simp [hc]))
      · rw [hnil q]; rfl
    · cases hk
  iterate 2
   · rename_i xs ys hd
     obtain ⟨ax,rfl,h1⟩:=Yj hv
     generalize hy:e.key=ey at hek heq
     obtain ⟨ay,rfl,h2⟩:=Yj hek
     refine ⟨_,hd,.inr ⟨by simp [Instr.findNow,hy,Instr.sameNow],?_⟩⟩
     simp only [Instr.findAsking,hy,Sem.run_bind,heq,Result.andThen_ok,Bool.false_eq_true,if_false]
     rcases ih with ⟨d,q1,q2⟩ | q
     · rw [hd] at q1; cases q1
       rcases q2 with q2 | ⟨-,q2⟩
       · cases es with
         | nil=>simp [Instr.findAsking]
         | cons e' es' =>
          exfalso
          cases cells with
          | nil=>simp [Ents] at hr
          | cons c cells =>
           obtain ⟨e2,es2,heq',he1,hr1⟩:=hr.cons
           simp only [List.cons.injEq] at heq'
           obtain ⟨rfl,rfl⟩:=heq'
           simp [Instr.findNow,Instr.sameNow] at q2
       · exact q2
     · rw [hnil q]; simp [Instr.findAsking]
  · cases hk
theorem yS {t:TypeId} {k:AV} {ck:Value} {d:TypeDesc} (hd:P.underlying t=some d) (hv:VR Z w C0 k ck) {cells:List AV} {es:List MapEntry} (h:Ents Z w cells es) (hn:Xw P t k cells):(Instr.findKey t ck es).run P w=.ok none w:=by
 simp only [Instr.findKey,Sem.run_bind,run_underlying hd,Result.andThen_ok]
 rcases find_none (P:=P) hv 0 h hn with ⟨d',q1,q2⟩ | q
 · rw [hd] at q1; cases q1
   rcases q2 with q2 | ⟨q2,q3⟩
   · simp [q2]
   · simp [q2,q3]
 · subst q
   have:es=[]:=List.length_eq_zero_iff.1 (by have:=h.1; simpa using this.symm)
   subst this
   simp [Instr.findNow]
theorem find_some {t:TypeId} {k:AV} {ck:Value} (hv:VR Z w C0 k ck):∀ {cells:List AV} {es:List MapEntry} {i:Nat} {v:AV} (j:Nat),Ents Z w cells es→XY P t k cells i v →
 ∃ e,es[i]?=some e∧VR Z w C0 v e.val∧∃ d,P.underlying t=some d∧(Instr.findNow d ck es j=some (some (j+i,e.val)) ∨ (Instr.findNow d ck es j=none∧(Instr.findAsking t ck es j).run P w=.ok (some (j+i,e.val)) w))
 | [],es,i,v,j,h,⟨k',hk,_⟩=>by simp at hk
 | c :: cells,es,0,v,j,h,⟨k',hc,hk,hkn⟩=>by
  obtain ⟨e,es,rfl,he,hr⟩:=h.cons
  simp only [List.getElem?_cons_zero,Option.some.injEq] at hc; subst hc
  obtain ⟨hek,hev⟩:=yE he
  have heq:=KZ hv hek hk
  refine ⟨e,rfl,hev,?_⟩
  unfold qO at hk
  split at hk
  · rename_i kk k1 x k2 y hd
    cases hv
    generalize hy:e.key=ey at hek heq
    cases hek
    split at hk
    · rename_i hkk
      simp only [beq_iff_eq] at hkk; subst hkk
      simp only [Option.some.injEq] at hk
      exact ⟨_,hd,.inl (by simp [Instr.findNow,hy,Instr.sameNow,hk])⟩
    · cases hk
  iterate 2
   · rename_i xs ys hd
     obtain ⟨ax,rfl,h1⟩:=Yj hv
     generalize hy:e.key=ey at hek heq
     obtain ⟨ay,rfl,h2⟩:=Yj hek
     exact ⟨_,hd,.inr ⟨by simp [Instr.findNow,hy,Instr.sameNow],by simp [Instr.findAsking,hy,heq]⟩⟩
  · cases hk
 | c :: cells,es,i+1,v,j,h,⟨k',hc,hk,hn⟩=>by
  obtain ⟨e,es,rfl,he,hr⟩:=h.cons
  obtain ⟨e',g1,g2,d,g3,g4⟩:=find_some hv (i:=i) (v:=v) (j+1) hr ⟨k',by simpa using hc,hk,fun c hc=>hn c (by simp [hc])⟩
  refine ⟨e',by simpa using g1,g2,d,g3,?_⟩
  obtain ⟨k0,v0,rfl,hk0⟩:=hn c (by simp)
  obtain ⟨hek,hev⟩:=yE he
  have heq:=KZ hv hek hk0
  rw [show j+(i+1)=j+1+i by omega]
  unfold qO at hk0
  split at hk0
  · rename_i kk k1 x k2 y hd
    rw [hd] at g3; cases g3
    cases hv
    generalize hy:e.key=ey at hek heq
    cases hek
    split at hk0
    · rename_i hkk
      simp only [beq_iff_eq] at hkk; subst hkk
      simp only [Option.some.injEq] at hk0
      rcases g4 with g4 | ⟨g4,g5⟩
      · exact .inl (by simp only [Instr.findNow,hy,Instr.sameNow,if_true,hk0]; exact g4)
      · refine .inr ⟨by simp only [Instr.findNow,hy,Instr.sameNow,if_true,hk0]; exact g4,?_⟩
        simp only [Instr.findAsking,hy,Sem.run_bind,heq,Result.andThen_ok,Bool.false_eq_true,if_false]; exact g5
    · cases hk0
  iterate 2
   · rename_i xs ys hd
     rw [hd] at g3; cases g3
     obtain ⟨ax,rfl,h1⟩:=Yj hv
     generalize hy:e.key=ey at hek heq
     obtain ⟨ay,rfl,h2⟩:=Yj hek
     refine .inr ⟨by simp [Instr.findNow,hy,Instr.sameNow],?_⟩
     simp only [Instr.findAsking,hy,Sem.run_bind,heq,Result.andThen_ok,Bool.false_eq_true,if_false]
     rcases g4 with g4 | ⟨-,g5⟩
     · exfalso
       cases es with
       | nil=>simp at g1
       | cons e2 es2=>simp [Instr.findNow,Instr.sameNow] at g4
     · exact g5
  · cases hk0
theorem yR {t:TypeId} {k:AV} {ck:Value} (hv:VR Z w C0 k ck) {cells:List AV} {es:List MapEntry} {i:Nat} {v:AV} (h:Ents Z w cells es) (hn:XY P t k cells i v) :
 ∃ e,es[i]?=some e∧VR Z w C0 v e.val∧(Instr.findKey t ck es).run P w=.ok (some (i,e.val)) w:=by
 obtain ⟨e,h1,h2,d,h3,h4⟩:=find_some (P:=P) hv 0 h hn
 refine ⟨e,h1,h2,?_⟩
 rw [Nat.zero_add] at h4
 simp only [Instr.findKey,Sem.run_bind,run_underlying h3,Result.andThen_ok]
 rcases h4 with h4 | ⟨h4,h5⟩
 · simp [h4]
 · simp [h4,h5]
theorem XK.ents {flat:Bool} {cells:List AV} {ob:Obj} (hf:flat=true) (h:XK C Z w flat cells ob):∃ es,ob=.map es es.size∧Ents Z w cells es.toList∧∀ (i:Nat) (e:MapEntry),es[i]?=some e→e.born=i:=by
 subst hf
 simp only [XK,if_true] at h
 obtain ⟨es,a,b,c,d⟩:=h
 exact ⟨es,a,⟨by simpa using b,fun i x e h1 h2=>d i x e h1 (by simpa using h2)⟩,c⟩
theorem KW {kt et t:TypeId} {k:AV} {ok:Bool} {cells:List AV} {ck:Value} {es:Array MapEntry} {blk:Nat} (ht:P.underlying t=some (.map kt et)) (hkC:VR Z w C k ck) (hh:w.heap[blk]?=some (.map es es.size)) (he:Ents Z w cells es.toList)
 (h:(lookA P kt et k ok cells evs).run (blks[·]?)=some (eff,evs',obs)) (ho:AllP obs):Yf P Z w C eff (Instr.lookup t (.map (some blk)) ck ok):=by
 unfold lookA at h
 split at h
 · simp [Rd.run] at h
 rename_i hko
 simp only [Bool.or_eq_true,Bool.not_eq_true',not_or,Bool.not_eq_false] at hko
 obtain ⟨hko,hnr⟩:=hko
 have hk:VR Z w C0 k ck:=hkC.ctx hnr
 obtain ⟨d,hd⟩:∃ d,P.underlying kt=some d:=by
  unfold keyOk at hko
  split at hko
  iterate 3 · rename_i hd; exact ⟨_,hd⟩
  · cases hko
 have hget:(getObj blk).run P w=.ok (.map es es.size) w:=Xy hh (by intro c t f; simp)
 split at h
 · rename_i i v r
   have:=Qp h; simp only [Prod.mk.injEq] at this; obtain ⟨rfl,-,rfl⟩:=this
   obtain ⟨e,h1,h2,h3⟩:=yR (P:=P) hk he ho.1
   refine .mk (c:=if ok then .tuple #[e.val,.bool true] else e.val) ?_ ?_
   · simp only [Instr.lookup,Sem.run_bind,run_underlying ht,Result.andThen_ok,hget,Sem.run_pure,qN hk hko,h3]
   · cases ok with
     | true =>
      refine .tup rfl fun i c v h1' h2'=>?_
      match i,h1',h2' with
      | 0,h1',h2'=>simp at h1' h2'; subst h1'; subst h2'; exact h2.of0
      | 1,h1',h2'=>simp at h1' h2'; subst h1'; subst h2'; exact .bool _
      | i+2,h1',h2'=>simp at h1'
     | false=>exact h2.of0
 · split at h
   · rename_i z hz
     have:=Qp h; simp only [Prod.mk.injEq] at this; obtain ⟨rfl,-,rfl⟩:=this
     have h3:=yS (P:=P) hd hk he ho.1
     have hzr:(zeroValue et).run P w=.ok z w:=by
      cases hi:P.info? et with
      | none=>simp [hi] at hz
      | some i=>simp [hi] at hz; simp [zeroValue,typeInfo,hi,hz]
     refine .mk (c:=if ok then .tuple #[z,.bool false] else z) ?_ ?_
     · simp only [Instr.lookup,Sem.run_bind,run_underlying ht,Result.andThen_ok,hget,Sem.run_pure,qN hk hko,h3,hzr]
     · cases ok with
       | true =>
        refine .tup rfl fun i c v h1' h2'=>?_
        match i,h1',h2' with
        | 0,h1',h2'=>simp at h1' h2'; subst h1'; subst h2'; exact qK z
        | 1,h1',h2'=>simp at h1' h2'; subst h1'; subst h2'; exact .bool _
        | i+2,h1',h2'=>simp at h1'
       | false=>exact qK z
   · simp [Rd.run] at h
 · simp [Rd.run] at h
end
end Ax
namespace Ax
open Go
section
variable {P:Program} {Z0 M Z Z':Nat→Prop} {w0 w w':World} {C:Ctx} {blks:List Blk} {evs:List EV} {eff:Eff} {evs':List EV} {obs:List Prop} {idx:Nat}
theorem QaV:∀ {ts:List (Option IntKind)} {xs ys:List AV} {as bs:List Value},VRs Z w C0 xs as→VRs Z w C0 ys bs→QN ts xs ys=some true→bs.length=as.length∧∀ p ∈ bs.zip as,Instr.sameBits 9999 p.1 p.2=true
 | [],[],[],as,bs,hx,hy,h=>by
  have ha:as=[]:=List.length_eq_zero_iff.1 hx.1.symm
  have hb:bs=[]:=List.length_eq_zero_iff.1 hy.1.symm
  subst ha hb; simp
 | [],[],y :: ys,as,bs,hx,hy,h=>by simp [QN] at h
 | [],x :: xs,ys,as,bs,hx,hy,h=>by simp [QN] at h
 | t :: ts,[],ys,as,bs,hx,hy,h=>by cases t <;> simp [QN] at h
 | t :: ts,x :: xs,[],as,bs,hx,hy,h=>by cases t <;> cases x <;> simp [QN] at h
 | t :: ts,x :: xs,y :: ys,[],bs,hx,hy,h=>by simp [VRs] at hx
 | t :: ts,x :: xs,y :: ys,a :: as,[],hx,hy,h=>by simp [VRs] at hy
 | t :: ts,x :: xs,y :: ys,a :: as,b :: bs,hx,hy,h=>by
  have tx:VRs Z w C0 xs as:=⟨by have:=hx.1; simpa using this,fun i c v p q=>hx.2 (i+1) c v (by simpa using p) (by simpa using q)⟩
  have ty:VRs Z w C0 ys bs:=⟨by have:=hy.1; simpa using this,fun i c v p q=>hy.2 (i+1) c v (by simpa using p) (by simpa using q)⟩
  have hxa:=hx.2 0 _ _ rfl rfl
  have hyb:=hy.2 0 _ _ rfl rfl
  have key:QN ts xs ys=some true∧Instr.sameBits 9999 b a=true:=by
   cases t with
   | none =>
    cases x with
    | bool x =>
     cases y with
     | bool y =>
      simp only [QN] at h
      cases he:QN ts xs ys with
      | none=>rw [he] at h; cases h
      | some r =>
       rw [he] at h
       simp only [Option.map_some,Option.some.injEq,Bool.and_eq_true,beq_iff_eq] at h
       obtain ⟨rfl,rfl⟩:=h
       exact ⟨rfl,by cases hxa; cases hyb; simp [Instr.sameBits]⟩
     | _=>simp [QN] at h
    | _=>simp [QN] at h
   | some k =>
    cases x with
    | int k1 x =>
     cases y with
     | int k2 y =>
      simp only [QN] at h
      split at h
      · rename_i hk
        simp only [Bool.and_eq_true,beq_iff_eq] at hk
        obtain ⟨rfl,rfl⟩:=hk
        cases he:QN ts xs ys with
        | none=>rw [he] at h; cases h
        | some r =>
         rw [he] at h
         simp only [Option.map_some,Option.some.injEq,Bool.and_eq_true,beq_iff_eq] at h
         obtain ⟨rfl,rfl⟩:=h
         exact ⟨rfl,by cases hxa; cases hyb; simp [Instr.sameBits]⟩
      · cases h
     | _=>simp [QN] at h
    | _=>simp [QN] at h
  obtain ⟨r1,r2⟩:=QaV tx ty key.1
  refine ⟨by simp [r1],fun p hp=>?_⟩
  simp only [List.zip_cons_cons,List.mem_cons] at hp
  rcases hp with rfl | hp
  · exact key.2
  · exact r2 p hp
/-- Keys that are equal are the same,bit by bit. -/
theorem same_key {t:TypeId} {k k':AV} {ck ce:Value} (hk:VR Z w C0 k ck) (hk':VR Z w C0 k' ce) (h:qO P t k k'=some true):Instr.sameBits 10000 ce ck=true:=by
 unfold qO at h
 split at h
 · cases hk; cases hk'
   split at h
   · rename_i e
     simp only [beq_iff_eq] at e; subst e
     simp only [Option.some.injEq,beq_iff_eq] at h; subst h
     simp [Instr.sameBits]
   · cases h
 iterate 2
  · obtain ⟨ax,rfl,h1⟩:=Yj hk
    obtain ⟨ay,rfl,h2⟩:=Yj hk'
    rename_i xs ys _
    cases hts:Xr P 20 t with
    | none=>simp [hts] at h
    | some ts =>
     simp only [hts,Option.bind_some] at h
     obtain ⟨r1,r2⟩:=QaV h1 h2 h
     simp only [Instr.sameBits,Bool.and_eq_true,beq_iff_eq,List.all_eq_true]
     exact ⟨by simpa using r1,fun p hp=>r2 p hp⟩
 · cases h
theorem map_write (hm:Mem Z0 M w0 C Z blks w) {kk blk o:Nat} {b:Blk} {es es':Array MapEntry} {cells':List AV} {av:AV} {c:Value} (hb:blks[kk]?=some b) (hl:b.live=true) (hz:b.sz=0) (hf:b.flat=true)
 (hβ:C.β kk=.loc blk o) (q1:w.heap[blk]?=some (.map es es.size)) (hk:∀ (i:Nat) (c:AV),cells'[i]?=some c→Xd c=true) (hbn:∀ (i:Nat) (e:MapEntry),es'[i]?=some e→e.born=i) (he':Ents Z w cells' es'.toList) (hv:VR Z w C0 av c) :
 Res Z0 M w0 C Z blks w idx (.upd kk { b with cells:=cells' } av) c (w.putObj blk (.map es' es'.size)):=by
 have hC:C.put kk (.loc blk o) b.gen=C:=by
  have e1:=hm.gen kk b hb
  cases C with
  | mk β γ =>
   simp only [Ctx.put,Ctx.mk.injEq]
   constructor
   · funext j; by_cases e:j=kk
     · subst e; simp; exact hβ.symm
     · simp [e]
   · funext j; by_cases e:j=kk
     · subst e; simp; exact e1.symm
     · simp [e]
 have hblt:blk<w.heap.size:=(hm.own kk blk o hβ).1
 have hch:=hm.change (w':=w.putObj blk (.map es' es'.size)) (b':={ b with cells:=cells' }) (s:=.loc blk o) (g:=b.gen) hb
  rfl rfl rfl (by simp) (fun c hc hne=>World.putObj_heap_other (fun e=>hne o (by rw [e]; exact hβ)))
  (fun blk2 o2 arr2 e2 h2 h3=>by
    rw [hβ] at h2; simp only [Slot.loc.injEq] at h2; obtain ⟨rfl,rfl⟩:=h2
    rw [q1] at h3; cases h3)
  (by rw [hm.gen kk b hb]; exact Nat.le_refl _) (fun _ _=>hβ.symm) hl rfl (fun blk2 o2 h2=>by simp only [Slot.loc.injEq] at h2; obtain ⟨rfl,rfl⟩:=h2; exact .inl ⟨_,hβ⟩)
  (fun hle hevo _=>by
    refine ⟨hk,?_⟩
    simp only [hC,hβ]
    refine .inr ⟨hz,_,World.putObj_heap_same hblt,?_⟩
    simp only [XK,hf,if_true]
    exact ⟨es',rfl,by have:=he'.1; simpa using this,hbn,fun i c e hi he=>(he'.2 i c e hi (by simpa using he)).mono hevo.zero⟩)
 rw [hC] at hch
 exact ⟨C,Z,hch.2.1,hch.2.2,hch.1,(hv.mono hch.2.2.zero).of0⟩
theorem ent_mk {k v:AV} {a b:Value} (h1:VR Z w C0 k a) (h2:VR Z w C0 v b):VR Z w C0 (.clos 0 [k] [v]) (.func (.func 0) #[a] #[b]) :=
 .clos rfl (fun i c v p q=>by
  match i,p,q with
  | 0,p,q=>simp at p q; subst p; subst q; exact h1
  | i+1,p,q=>simp at p) rfl (fun i c v p q=>by
  match i,p,q with
  | 0,p,q=>simp at p q; subst p; subst q; exact h2
  | i+1,p,q=>simp at p)
end
end Ax