/- A part of the proof: several texts, one behind the other. -/
import Derived.Test.YtideokfbnegkjaaMA
import Derived.RangeFuncRecord
import Derived.Laws.Sem
import Derived.Orders
import Derived.Shelf.Abstract
import Derived.ProofKit
import Derived.OpenShut
import Derived.WideShapes
import Derived.WideKeyArgs
import Derived.ChangeSame
set_option linter.unusedVariables false
set_option linter.unusedSimpArgs false
/- The walk: the abstract machine goes on as the model's machine does. -/
namespace Ax
open Go

structure Env where
  Z0 : Nat → Prop
  M : Nat → Prop
  w0 : World
  b : Frame
  cs : List Frame
  Fin : Machine → Prop
  gA : List AV := []
  gV : List Value := []

def Reach (P : Program) (m : Machine) (F : Machine → Prop) : Prop := ∃ m', Steps P m m' ∧ F m'

theorem Reach.step {P : Program} {m m' : Machine} {F : Machine → Prop} (h : Steps P m m') (h' : Reach P m' F) : Reach P m F :=
  let ⟨x, a, b⟩ := h'; ⟨x, h.trans a, b⟩

/-- From here on, in whatever memory fits, the frame comes to what is asked. -/
def G (P : Program) (E : Env) (K : List Item) (st : St) : Prop :=
  ∀ (C : Ctx) (Z : Nat → Prop) (a : Act) (w : World), Rel E.Z0 E.M E.w0 E.gA E.gV C Z st a w → Reach P (lone (E.b.atR a K) E.cs w) E.Fin

section
variable {P : Program} {E : Env} {K K' : List Item} {st st' : St}

theorem G.of_step (h : ∀ (a : Act) (w : World), step P (lone (E.b.atR a K) E.cs w) = .next (lone (E.b.atR a K') E.cs w)) (hg : G P E K' st) : G P E K st :=
  fun C Z a w hr => .step (.one (h a w)) (hg C Z a w hr)

def putA (tmps : List AV) (dst : Option Nat) (v : AV) : List AV :=
  match dst with
  | some d => tmps.set d v
  | none => tmps

theorem VRs.put {Z : Nat → Prop} {w : World} {C : Ctx} {tmps : List AV} {a : Act} {v : AV} {c : Value} (h : VRs Z w C tmps a.tmps.toList) (hv : VR Z w C v c) (dst : Option Nat) :
    VRs Z w C (putA tmps dst v) (a.put dst c).tmps.toList := by
  cases dst with
  | none => exact h
  | some d =>
    refine ⟨by simpa [putA, Act.put] using h.1, fun i x y h1 h2 => ?_⟩
    simp only [putA] at h1
    simp only [Act.put, Array.toList_setIfInBounds] at h2
    rw [List.getElem?_set] at h1 h2
    split at h1
    · rename_i e
      rw [if_pos e] at h2
      split at h1
      · split at h2
        · cases h1; cases h2; exact hv
        · cases h2
      · cases h1
    · rename_i e
      rw [if_neg e] at h2
      exact h.2 i x y h1 h2

theorem evalO_sound {Z : Nat → Prop} {w : World} {C : Ctx} {tmps : List AV} {a : Act} (h : VRs Z w C tmps a.tmps.toList) (x : Operand) : VR Z w C (evalO tmps x) (a.eval x) := by
  cases x with
  | tmp t =>
    simp only [evalO, Act.eval]
    by_cases ht : t < tmps.length
    · have hl : t < a.tmps.size := by exact Nat.lt_of_lt_of_eq ht h.1
      have := h.2 t tmps[t] a.tmps[t] (by simp [ht]) (by simp [hl])
      simpa [List.getD, Array.getD, ht, hl] using this
    · simp [List.getD, List.getElem?_eq_none (Nat.le_of_not_lt ht)]; exact .junk _
  | const v => exact ofV_sound v
  | global g => exact .junk _
  | func f => exact .clos rfl (by simp) rfl (by simp)

def wantedA (ops : Array Oper) (tmps : List AV) (o : Oper) : Option Bool :=
  match o.guard with
  | none => some true
  | some (j, want) =>
    match (ops[j]?).bind (·.dst) with
    | some d => match tmps[d]? with
      | some (.bool c) => some (c == want)
      | some (.tup _) => some false
      | _ => none
    | none => none

theorem wantedA_sound {Z : Nat → Prop} {w : World} {C : Ctx} {ops : Array Oper} {tmps : List AV} {a : Act} {o : Oper} {b : Bool} (h : VRs Z w C tmps a.tmps.toList) (hw : wantedA ops tmps o = some b) :
    Region.wanted o (yielded ops a.tmps) = b := by
  unfold wantedA at hw
  unfold Region.wanted
  cases hg : o.guard with
  | none => simp [hg] at hw; simpa using hw
  | some g =>
    obtain ⟨j, want⟩ := g
    simp only [hg] at hw ⊢
    cases hd : (ops[j]?).bind (·.dst) with
    | none => simp [hd] at hw
    | some d =>
      simp only [hd] at hw
      have key : ∀ v, tmps[d]? = some v → ∃ c, a.tmps[d]? = some c ∧ VR Z w C v c := by
        intro v hv
        have hlt : d < a.tmps.size := by exact Nat.lt_of_lt_of_eq (List.getElem?_eq_some_iff.1 hv).1 h.1
        exact ⟨a.tmps[d], by simp [hlt], h.2 d v _ hv (by simp [hlt])⟩
      split at hw
      · rename_i c hc
        obtain ⟨c', h1, h2⟩ := key _ hc
        cases h2
        simp only [Option.some.injEq] at hw
        simp [yielded, hd, h1, ← hw]
      · rename_i vs hc
        obtain ⟨c', h1, h2⟩ := key _ hc
        cases h2
        simp only [Option.some.injEq] at hw
        simp [yielded, hd, h1, ← hw]
      · cases hw

def effBlks (blks : List Blk) : Eff → List Blk
  | .val _ => blks
  | .new b _ => blks ++ [b]
  | .upd k b _ => blks.set k b

def isGuard (ops : Array Oper) (i : Nat) : Bool := ops.toList.any fun o => match o.guard with | some (j, _) => j == i | none => false

/-- A test's outcome, where later operations hang on it, is told. -/
def conc (tmps : List AV) (g : Bool) (dst : Option Nat) (evs : List EV) : Option (List AV × List EV × List Prop) :=
  match g, dst with
  | true, some d => match tmps[d]?, evs with
    | some (.bool c), .b x :: r => some (tmps.set d (.bool x), r, [c = x])
    | _, _ => none
  | _, _ => some (tmps, evs, [])

def opA (P : Program) (ops : Array Oper) (i : Nat) (o : Oper) (st : St) (evs : List EV) : Option (St × List EV × List Prop) :=
  match wantedA ops st.tmps o with
  | none => none
  | some false => some (⟨putA st.tmps o.dst (.tup []), st.blks⟩, evs, [])
  | some true =>
    match (aop P o (evalO st.tmps) evs).run (st.blks[·]?) with
    | none => none
    | some (eff, evs, obs) =>
      match conc (putA st.tmps o.dst (eff.av st.blks.length)) (isGuard ops i) o.dst evs with
      | none => none
      | some (tmps, evs, obs2) => some (⟨tmps, effBlks st.blks eff⟩, evs, obs ++ obs2)

def opsA (P : Program) (ops : Array Oper) : List Nat → St → List EV → Option (St × List EV × List Prop)
  | [], st, evs => some (st, evs, [])
  | i :: rest, st, evs =>
    match ops[i]? with
    | none => none
    | some o => match opA P ops i o st evs with
      | none => none
      | some (st, evs, obs) => match opsA P ops rest st evs with
        | none => none
        | some (st, evs, obs2) => some (st, evs, obs ++ obs2)

theorem Rd.run_mono {α : Type} {gb gb' : Nat → Option Blk} (h : ∀ k b, gb k = some b → gb' k = some b) : ∀ {x : Rd α} {r : α}, x.run gb = some r → x.run gb' = some r
  | .ok a, r, hr => hr
  | .fail, r, hr => by cases hr
  | .get k f, r, hr => by
    obtain ⟨b, hb, hr⟩ := run_get hr
    simp only [Rd.run, h k b hb]
    exact Rd.run_mono h hr

theorem Mem.push {Z0 M Z : Nat → Prop} {w0 w : World} {C : Ctx} {blks : List Blk} (hm : Mem Z0 M w0 C Z blks w) : Mem Z0 M w0 C Z (blks ++ [dead]) w := by
  have key : ∀ {k : Nat} {b : Blk}, (blks ++ [dead])[k]? = some b → blks[k]? = some b ∨ (k = blks.length ∧ b = dead) := by
    intro k b h
    rw [List.getElem?_append] at h
    split at h
    · exact .inl h
    · rename_i hk
      have h0 : k - blks.length = 0 := by have := (List.getElem?_eq_some_iff.1 h).1; simp at this; omega
      rw [h0] at h; simp at h
      exact .inr ⟨by omega, h.symm⟩
  refine ⟨fun k b h => ?_, fun k b h => ?_, fun k b h hd => ?_, fun k h => hm.dom k (by simp at h; omega), hm.inj, hm.own, hm.zlt, hm.z0, hm.zsub, hm.frame⟩
  · rcases key h with h | ⟨-, rfl⟩
    · exact hm.blk k b h
    · intro h; simp [dead] at h
  · rcases key h with h | ⟨rfl, rfl⟩
    · exact hm.gen k b h
    · exact (hm.dom _ (Nat.le_refl _)).2
  · rcases key h with h | ⟨rfl, rfl⟩
    · exact hm.dd k b h hd
    · exact (hm.dom _ (Nat.le_refl _)).1

theorem Mem.pop {Z0 M Z : Nat → Prop} {w0 w : World} {C : Ctx} {blks : List Blk} (hm : Mem Z0 M w0 C Z (blks ++ [dead]) w) : Mem Z0 M w0 C Z blks w := by
  have key : ∀ {k : Nat} {b : Blk}, blks[k]? = some b → (blks ++ [dead])[k]? = some b := fun {k b} h => by
    rw [List.getElem?_append_left (List.getElem?_eq_some_iff.1 h).1]; exact h
  refine ⟨fun k b h => hm.blk k b (key h), fun k b h => hm.gen k b (key h), fun k b h => hm.dd k b (key h), fun k h => ?_, hm.inj, hm.own, hm.zlt, hm.z0, hm.zsub, hm.frame⟩
  rcases Nat.lt_or_ge blks.length k with h1 | h1
  · exact hm.dom k (by simp; omega)
  · obtain rfl : k = blks.length := by omega
    have hd : (blks ++ [dead])[blks.length]? = some dead := by simp
    exact ⟨hm.dd _ _ hd rfl, hm.gen _ _ hd⟩

theorem Marks.evo {C : Ctx} {Z Z' M : Nat → Prop} {w0 w w' : World} {ds : List Deferred} (h : Marks Z M w0 ds w) (he : Evo C Z Z' w w') : Marks Z' M w0 ds w' := by
  obtain ⟨Ds, h1, h2, h3⟩ := h
  exact ⟨Ds, h1, h2, fun D hD => ⟨he.zsub D (h3 D hD).1, (h3 D hD).2.1, by rw [he.same D (h3 D hD).1]; exact (h3 D hD).2.2⟩⟩

theorem VRs.next {C C' : Ctx} {Z Z' : Nat → Prop} {w w' : World} {cs : List AV} {vs : List Value} (h : VRs Z w C cs vs) (hle : CtxLe C C') (he : Evo C Z Z' w w') : VRs Z' w' C' cs vs :=
  ⟨h.1, fun i c v a b => ((h.2 i c v a b).mono he).grow hle⟩

theorem conc_sound {Z : Nat → Prop} {w : World} {C : Ctx} {tmps tmps' : List AV} {vs : List Value} {g : Bool} {dst : Option Nat} {evs evs' : List EV} {obs : List Prop} (h : VRs Z w C tmps vs)
    (hc : conc tmps g dst evs = some (tmps', evs', obs)) (ho : AllP obs) : VRs Z w C tmps' vs := by
  unfold conc at hc
  split at hc
  · rename_i d
    split at hc
    · rename_i c x r hd
      simp only [Option.some.injEq, Prod.mk.injEq] at hc
      obtain ⟨rfl, -, rfl⟩ := hc
      refine ⟨by simpa using h.1, fun i a b h1 h2 => ?_⟩
      rw [List.getElem?_set] at h1
      split at h1
      · rename_i e
        subst e
        split at h1
        · cases h1
          rw [← ho.1]
          exact h.2 _ _ b hd h2
        · cases h1
      · exact h.2 i a b h1 h2
    · cases hc
  · simp only [Option.some.injEq, Prod.mk.injEq] at hc
    obtain ⟨rfl, -, -⟩ := hc
    exact h

theorem not_defer {o : Oper} {ev : Operand → AV} {evs : List EV} {gb : Nat → Option Blk} {r : Eff × List EV × List Prop} (h : (aop P o ev evs).run gb = some r) : ∀ c, o.op ≠ .defer c := by
  intro c hc
  simp [aop, hc, Rd.run] at h

theorem okv_no {gb : Nat → Option Blk} {v : AV} {evs evs' : List EV} {obs obs' : List Prop} {k : Nat} {b : Blk} {u : AV} (h : (okv v evs obs).run gb = some (.upd k b u, evs', obs')) : False := by
  have := run_okv h; simp at this

theorem genOk_upd {blks : List Blk} {k : Nat} {b : Blk} {g : Nat} {f : List Prop → R} {r : Eff × List EV × List Prop} (hb : blks[k]? = some b) (h : (genOk b g f).run (blks[·]?) = some r) : ∃ ob, (f ob).run (blks[·]?) = some r :=
  let ⟨_, ob, h, _⟩ := genOk_run h; ⟨ob, h⟩

/-- Which block an operation turns: one that it has read. -/
def Turns (blks : List Blk) (x : R) : Prop := ∀ (k : Nat) (b : Blk) (v : AV) (evs' : List EV) (obs : List Prop), x.run (blks[·]?) = some (.upd k b v, evs', obs) → k < blks.length

theorem Turns.okv {blks : List Blk} {v : AV} {evs : List EV} {obs : List Prop} : Turns blks (okv v evs obs) := fun _ _ _ _ _ h => (okv_no h).elim
theorem Turns.fail {blks : List Blk} : Turns blks .fail := fun _ _ _ _ _ h => by cases h
theorem Turns.new {blks : List Blk} {b : Blk} {mk : Nat → AV} {evs : List EV} {obs : List Prop} : Turns blks (.ok (.new b mk, evs, obs)) := fun _ _ _ _ _ h => by simp [Rd.run] at h
theorem Turns.get {blks : List Blk} {k : Nat} {f : Blk → R} (h : ∀ b, blks[k]? = some b → Turns blks (f b)) : Turns blks (.get k f) := fun _ _ _ _ _ hr => by
  obtain ⟨b, hb, hr⟩ := run_get hr; exact h b hb _ _ _ _ _ hr
theorem Turns.gen {blks : List Blk} {b : Blk} {g : Nat} {f : List Prop → R} (h : ∀ ob, Turns blks (f ob)) : Turns blks (genOk b g f) := fun _ _ _ _ _ hr => by
  obtain ⟨_, ob, hr, _⟩ := genOk_run hr; exact h ob _ _ _ _ _ hr
theorem Turns.arith {blks : List Blk} {k : IntKind} {n : Int} {ob : List Prop} {evs : List EV} : Turns blks (arith k n ob evs) := by
  unfold Ax.arith; split <;> exact .okv
theorem Turns.bind {α : Type} {blks : List Blk} {x : Rd α} {f : α → R} (h : ∀ a, Turns blks (f a)) : Turns blks (x.bind f) := fun _ _ _ _ _ hr => by
  obtain ⟨a, _, hr⟩ := bind_some hr; exact h a _ _ _ _ _ hr

theorem Turns.app {blks : List Blk} {e sz : Nat} {dst : AV} {S : List AV} {nr : Bool} {m : Nat} {evs : List EV} {obs : List Prop} : Turns blks (appA P e sz dst S nr m evs obs) := by
  unfold appA
  split
  · exact .fail
  split
  · exact .new
  · split
    · exact .fail
    · intro k b v evs' obs' hr
      obtain ⟨b', hb, hr⟩ := run_get hr
      split at hr
      · split at hr
        · cases hr
        · simp only [Rd.run, Option.some.injEq, Prod.mk.injEq, Eff.upd.injEq] at hr
          obtain ⟨⟨rfl, -, -⟩, -, -⟩ := hr
          exact (List.getElem?_eq_some_iff.1 hb).1
      · cases hr
  · exact .fail

theorem Turns.appF {blks : List Blk} {t : TypeId} {d s : AV} {evs : List EV} : Turns blks (appendF P t d s evs) := fun _ _ _ _ _ h => appendF_turn h

theorem Turns.store {blks : List Blk} {t : TypeId} {a x : AV} {evs : List EV} : Turns blks (storeA P t a x evs) := by
  unfold storeA
  split
  · simp only
    split
    · intro k b v evs' obs' hr
      obtain ⟨b', hb, hr⟩ := run_get hr
      · obtain ⟨_, ob, hr, _⟩ := genOk_run hr
        simp only [Rd.run, Option.some.injEq, Prod.mk.injEq, Eff.upd.injEq] at hr
        obtain ⟨⟨rfl, -, -⟩, -, -⟩ := hr
        exact (List.getElem?_eq_some_iff.1 hb).1
    · exact .fail
  · exact .fail

theorem Turns.aop {blks : List Blk} {o : Oper} {ev : Operand → AV} {evs : List EV} : Turns blks (aop P o ev evs) := by
  unfold Ax.aop
  split
  case h_9 => exact .store
  all_goals (try unfold newBox); (try unfold buildA); (try unfold buildSliceA); (try unfold loadA); (try unfold binA); (try unfold unA); (try unfold makeSliceA); (try unfold sliceA); (try unfold fieldA); (try unfold fieldVA); (try unfold indexA); (try unfold indexVA); (try unfold callA); (try unfold lenA)
  all_goals repeat' (first | exact .okv | exact .fail | exact .new | exact .arith | exact .app | exact .appF | (refine .get fun b hb => ?_) | (refine .gen fun ob => ?_) | (refine .bind fun a => ?_) | split)

/-- Only a block that is there is turned. -/
theorem aop_upd {blks : List Blk} {o : Oper} {ev : Operand → AV} {evs evs' : List EV} {obs : List Prop} {k : Nat} {b : Blk} {v : AV} (h : (aop P o ev evs).run (blks[·]?) = some (.upd k b v, evs', obs)) : k < blks.length :=
  Turns.aop k b v evs' obs h

/-- One operation. -/
theorem op_step {ops : Array Oper} {i : Nat} {o : Oper} {rest : List Nat} {k : List Item} {evs evs' : List EV} {obs : List Prop} (ho : ops[i]? = some o) (hk : E.b.kind = .normal)
    (h : opA P ops i o st evs = some (st', evs', obs)) (hob : AllP obs) (hg : G P E (.inRegion ops rest :: k) st') : G P E (.inRegion ops (i :: rest) :: k) st := by
  intro C Z a w hr
  unfold opA at h
  split at h
  · cases h
  · rename_i hw
    simp only [Option.some.injEq, Prod.mk.injEq] at h
    obtain ⟨rfl, -, -⟩ := h
    have hwc := wantedA_sound hr.tmp hw
    have hs := stepR_op_skip (P := P) (b := E.b) (a := a) (k := k) (cs := E.cs) (w := w) (ops := ops) (i := i) (rest := rest) (by simp [ho, hwc])
    simp only [ho, Option.bind_some] at hs
    refine .step (.one hs) (hg C Z _ w ⟨hr.tmp.put (.tup (by simp) (by simp)) o.dst, hr.mem, ?_, hr.gh⟩)
    cases hd : o.dst <;> exact hr.marks
  · rename_i hw
    have hwc := wantedA_sound hr.tmp hw
    split at h
    · cases h
    · rename_i eff evs1 obs1 ha
      split at h
      · cases h
      · rename_i tmps evs2 obs2 hc
        simp only [Option.some.injEq, Prod.mk.injEq] at h
        obtain ⟨rfl, -, rfl⟩ := h
        obtain ⟨ob1, ob2⟩ := AllP_append.1 hob
        have hpush := hr.mem.push
        have ha' := Rd.run_mono (gb' := fun k => (st.blks ++ [dead])[k]?) (fun k b h => by rw [List.getElem?_append_left (List.getElem?_eq_some_iff.1 h).1]; exact h) ha
        have hop := aop_sound (idx := st.blks.length) hpush (by simp) (evalO_sound hr.tmp) ha' ob1
        have hgo := stepGR_op (P := P) (b := E.b) (k := k) (cs := E.cs) (w := w) (rest := rest) ho hwc
        rw [Oper.semAt_eq _ _ _ (not_defer ha)] at hgo
        have hfin : ∀ v, (E.b.atR a (.inRegion ops (i :: rest) :: k)).finish v = E.b.atR (a.put o.dst v) (.inRegion ops rest :: k) := by
          intro v; rw [Frame.finish_atR, ho]; rfl
        -- behind it
        have next : ∀ (c : Value) (w' : World), Res E.Z0 E.M E.w0 C Z (st.blks ++ [dead]) w st.blks.length eff c w' → Reach P (lone (E.b.atR (a.put o.dst c) (.inRegion ops rest :: k)) E.cs w') E.Fin := by
          rintro c w' ⟨C', Z', hle, hevo, hm, hv⟩
          refine hg C' Z' _ w' ⟨conc_sound ((hr.tmp.next hle hevo).put hv o.dst) hc ob2, ?_, ?_, hr.gh.next hle hevo⟩
          · cases eff with
            | val v => exact hm.pop
            | new b mk =>
              have e : (st.blks ++ [dead]).set st.blks.length b = st.blks ++ [b] := by simp
              simpa [Eff.blks, effBlks, e] using hm
            | upd kk b v =>
              have hkk : kk < st.blks.length := aop_upd ha
              have e : (st.blks ++ [dead]).set kk b = st.blks.set kk b ++ [dead] := List.set_append_left kk b hkk
              exact Mem.pop (by simpa [Eff.blks, effBlks, e] using hm)
          · have : (a.put o.dst c).defers = a.defers := by cases o.dst <;> rfl
            rw [this]; exact hr.marks.evo hevo
        rcases hop with ⟨c, w', hrun, hq⟩ | ⟨w', hrun, hq⟩ | ⟨f, args, hrun, hcall⟩
        · refine .step (.one (step_lone_go ?_)) (next c w' hq)
          rw [hgo, ← hfin]; simp [stepG.apply, hrun]
        · refine .step (.one (step_lone_go ?_)) (next undef w' hq)
          rw [hgo, ← hfin]; simp [stepG.apply, hrun]
        · obtain ⟨e, w'', fr, ⟨v, rfl, hq⟩, hsteps, -, hleave⟩ := hcall (E.b.atR a (.inRegion ops (i :: rest) :: k) :: E.cs)
          have henter : step P (lone (E.b.atR a (.inRegion ops (i :: rest) :: k)) E.cs w) =
              .next (lone (Frame.enter P f args .normal) (E.b.atR a (.inRegion ops (i :: rest) :: k) :: E.cs) w) :=
            step_lone_go (by rw [hgo]; simp [stepG.apply, hrun, Frame.atR])
          refine .step (Steps.head henter (hsteps.trans (.one ?_))) (next v w'' hq)
          rw [← hfin]; exact step_leave_returned hleave

end
end Ax

/- The walk over a path of code; a function's end; what may be forgotten at a loop's head. -/
namespace Ax
open Go

section
variable {P : Program} {E : Env} {K K' : List Item} {st st' : St}

theorem ops_step {ops : Array Oper} {k : List Item} (hk : E.b.kind = .normal) : ∀ {is : List Nat} {st st' : St} {evs evs' : List EV} {obs : List Prop},
    opsA P ops is st evs = some (st', evs', obs) → AllP obs → G P E k st' → G P E (.inRegion ops is :: k) st
  | [], st, st', evs, evs', obs, h, ho, hg => by
    simp only [opsA, Option.some.injEq, Prod.mk.injEq] at h
    obtain ⟨rfl, -, -⟩ := h
    exact .of_step (fun a w => stepR_region_end) hg
  | i :: is, st, st', evs, evs', obs, h, ho, hg => by
    simp only [opsA] at h
    split at h
    · cases h
    · rename_i o hoi
      split at h
      · cases h
      · rename_i st1 evs1 obs1 h1
        split at h
        · cases h
        · rename_i st2 evs2 obs2 h2
          simp only [Option.some.injEq, Prod.mk.injEq] at h
          obtain ⟨rfl, -, rfl⟩ := h
          obtain ⟨a1, a2⟩ := AllP_append.1 ho
          exact op_step hoi hk h1 a1 (ops_step hk h2 a2 hg)

/-! ### Forgetting: temporaries that are written before they are read, blocks that nothing leads to -/
mutual
def refsBelow (n : Nat) : AV → Bool
  | .ptr k _ _ => decide (k < n)
  | .sl k _ _ _ _ => decide (k < n)
  | .agg cs => refsBelows n cs
  | .tup cs => refsBelows n cs
  | .clos _ a b => refsBelows n a && refsBelows n b
  | _ => true
def refsBelows (n : Nat) : List AV → Bool
  | [] => true
  | c :: cs => refsBelow n c && refsBelows n cs
end

/-- 'live': the temporaries that are kept. -/
def keepT (live : List Nat) : Nat → List AV → List AV
  | _, [] => []
  | i, v :: vs => (bif live.contains i then v else .junk) :: keepT live (i + 1) vs

def weak (live : List Nat) (n : Nat) (st : St) : Option St :=
  let tmps := keepT live 0 st.tmps
  let blks := st.blks.take n
  if refsBelows n tmps && (blks.all fun b => !b.live || b.flat || refsBelows n b.cells) then some ⟨tmps, blks⟩ else none

theorem refsBelows_get : ∀ {n : Nat} {cs : List AV} {i : Nat} {c : AV}, refsBelows n cs = true → cs[i]? = some c → refsBelow n c = true
  | n, [], _, _, _, h => by simp at h
  | n, d :: cs, 0, c, hn, h => by simp [refsBelows] at hn h; rw [← h]; exact hn.1
  | n, d :: cs, i + 1, c, hn, h => by simp [refsBelows] at hn h; exact refsBelows_get hn.2 h

def Ctx.cut (C : Ctx) (n : Nat) : Ctx := ⟨fun k => if k < n then C.β k else .absent, fun k => if k < n then C.γ k else 0⟩

theorem VR.cut {C : Ctx} {Z : Nat → Prop} {w : World} {n : Nat} {v : AV} {c : Value} (h : VR Z w C v c) (hn : refsBelow n v = true) : VR Z w (C.cut n) v c := by
  induction h with
  | bool b => exact .bool b
  | int k n => exact .int k n
  | nilPtr => exact .nilPtr
  | @ptr C₁ k g off c hg ho h =>
    have hk : k < n := by simpa [refsBelow] using hn
    exact .ptr (by simp [Ctx.cut, hk]; exact hg) ho (by simp [Ctx.cut, hk]; exact h)
  | rptr cv hz hc hk hr ih => exact .rptr cv hz hc hk hr
  | nilSl => exact .nilSl
  | @sl C₁ k g off len sz c hg ho h =>
    have hk : k < n := by simpa [refsBelow] using hn
    exact .sl (by simp [Ctx.cut, hk]; exact hg) ho (by simp only [SlOk, Ctx.cut, hk, if_true]; exact h)
  | rsl cv hz hl hc hk hr ih => exact .rsl cv hz hl hc hk hr
  | rsl0 => exact .rsl0
  | agg hl h ih => exact .agg hl fun i c v h1 h2 => ih i c v h1 h2 (refsBelows_get (by simpa [refsBelow] using hn) h1)
  | tup hl h ih => exact .tup hl fun i c v h1 h2 => ih i c v h1 h2 (refsBelows_get (by simpa [refsBelow] using hn) h1)
  | clos hl h hl' h' ih ih' =>
    simp only [refsBelow, Bool.and_eq_true] at hn
    exact .clos hl (fun i c v h1 h2 => ih i c v h1 h2 (refsBelows_get hn.1 h1)) hl' (fun i c v h1 h2 => ih' i c v h1 h2 (refsBelows_get hn.2 h1))
  | nilFunc => exact .nilFunc
  | opq v => exact .opq v
  | junk v => exact .junk v

theorem keepT_length (live : List Nat) : ∀ (i : Nat) (vs : List AV), (keepT live i vs).length = vs.length
  | _, [] => rfl
  | i, v :: vs => by simp [keepT, keepT_length live (i + 1) vs]

theorem keepT_get (live : List Nat) : ∀ (i : Nat) (vs : List AV) (j : Nat) (x : AV), (keepT live i vs)[j]? = some x → vs[j]? = some x ∨ (x = .junk ∧ j < vs.length)
  | _, [], j, x, h => by simp [keepT] at h
  | i, v :: vs, 0, x, h => by
    simp only [keepT, List.getElem?_cons_zero, Option.some.injEq] at h
    cases hc : live.contains i with
    | true => rw [hc] at h; exact .inl (by rw [← h]; rfl)
    | false => rw [hc] at h; exact .inr ⟨h.symm, by simp⟩
  | i, v :: vs, j + 1, x, h => by
    simp only [keepT, List.getElem?_cons_succ] at h
    rcases keepT_get live (i + 1) vs j x h with h | ⟨h1, h2⟩
    · exact .inl (by simpa using h)
    · exact .inr ⟨h1, by simp; omega⟩

theorem weak_step {live : List Nat} {n : Nat} (hgh : refsBelows n E.gA = true) (h : weak live n st = some st') (hg : G P E K st') : G P E K st := by
  intro C Z a w hr
  simp only [weak] at h
  split at h
  · rename_i hc
    simp only [Option.some.injEq] at h
    subst h
    rw [Bool.and_eq_true] at hc
    obtain ⟨h1, h2⟩ := hc
    refine hg (C.cut n) Z a w ⟨⟨by rw [keepT_length]; exact hr.tmp.1, fun i c v hi hv => ?_⟩, ?_, hr.marks, ⟨hr.gh.1, fun i c v hi hv => (hr.gh.2 i c v hi hv).cut (refsBelows_get hgh hi)⟩⟩
    · have hb := refsBelows_get h1 hi
      rcases keepT_get _ _ _ _ _ hi with h3 | ⟨rfl, -⟩
      · exact (hr.tmp.2 i c v h3 hv).cut hb
      · exact .junk _
    · have hm := hr.mem
      have hget : ∀ {k : Nat} {b : Blk}, (st.blks.take n)[k]? = some b → k < n ∧ st.blks[k]? = some b := by
        intro k b hb
        rw [List.getElem?_take] at hb
        split at hb
        · exact ⟨‹_›, hb⟩
        · cases hb
      refine ⟨fun k b hb hl => ?_, fun k b hb => ?_, fun k b hb hd => ?_, fun k hk => ?_, fun k k' c o o' e1 e2 => ?_, fun k c o e1 => ?_, hm.zlt, hm.z0, hm.zsub, hm.frame⟩
      · obtain ⟨hkn, hb'⟩ := hget hb
        obtain ⟨q1, q2⟩ := hm.blk k b hb' hl
        refine ⟨q1, ?_⟩
        simp only [Ctx.cut, hkn, if_true]
        cases hs : C.β k with
        | absent => simp [hs] at q2
        | unborn => simp only [hs] at q2 ⊢; exact q2
        | loc blk o =>
          simp only [hs] at q2 ⊢
          obtain ⟨arr, e, r1, r2, r3⟩ := q2
          refine ⟨arr, e, r1, r2, fun i c hi => ?_⟩
          obtain ⟨v, s1, s2⟩ := r3 i c hi
          refine ⟨v, s1, ?_⟩
          cases hf : b.flat with
          | true => simpa [hf] using s2
          | false =>
            simp only [hf, Bool.false_eq_true, if_false] at s2 ⊢
            have := List.all_eq_true.1 h2 b (List.mem_of_getElem? hb)
            simp only [hl, hf, Bool.not_true, Bool.false_or] at this
            exact s2.cut (refsBelows_get this hi)
      · obtain ⟨hkn, hb'⟩ := hget hb
        simp only [Ctx.cut, hkn, if_true]; exact hm.gen k b hb'
      · obtain ⟨hkn, hb'⟩ := hget hb
        simp only [Ctx.cut, hkn, if_true]; exact hm.dd k b hb' hd
      · simp only [List.length_take] at hk
        simp only [Ctx.cut]
        by_cases hkn : k < n
        · simp only [hkn, if_true]; exact hm.dom k (by omega)
        · simp [hkn]
      · simp only [Ctx.cut] at e1 e2
        split at e1 <;> split at e2 <;> first | exact hm.inj k k' c o o' e1 e2 | cases e1 | cases e2
      · simp only [Ctx.cut] at e1
        split at e1
        · exact hm.own k c o e1
        · cases e1
  · cases h

/-! ### A function's end -/
/-- Cells lie on; what is no row of cells may have turned. -/
structure EvoC (w w' : World) : Prop where
  cells : ∀ (b : Nat) (arr : Array Value) (e : TypeId) (fz : Nat × Nat), w.heap[b]? = some (Obj.cells arr e fz) → w'.heap[b]? = some (Obj.cells arr e fz)
  size : w'.heap.size = w.heap.size

theorem EvoC.cell {w w' : World} (h : EvoC w w') {a : Addr} {v : Value} (hc : w.cell? a = some v) : w'.cell? a = some v := by
  unfold World.cell? at hc ⊢
  split at hc
  · rename_i c e f hb; rw [h.cells _ _ _ _ hb]; exact hc
  · cases hc

theorem VR.evoC {C : Ctx} {Z : Nat → Prop} {w w' : World} {v : AV} {c : Value} (h : VR Z w C v c) (he : EvoC w w') : VR Z w' C v c := by
  induction h with
  | bool b => exact .bool b
  | int k n => exact .int k n
  | nilPtr => exact .nilPtr
  | ptr hg ho h => exact .ptr hg ho h
  | rptr cv hz hc hk hr ih => exact .rptr cv hz (fun i hi => he.cell (hc i hi)) hk ih
  | nilSl => exact .nilSl
  | sl hg ho h =>
    refine .sl hg ho fun e => ?_
    have h1 := h e
    unfold SlOk at h1 ⊢
    split at h1
    · obtain ⟨a, cap, h2, h3, h4, arr, e', h5, h6⟩ := h1
      exact ⟨a, cap, h2, h3, h4, arr, e', he.cells _ _ _ _ h5, h6⟩
    · exact h1
    · exact h1.elim
  | rsl cv hz hl hc hk hr ih => exact .rsl cv hz hl (fun i hi => he.cell (hc i hi)) hk ih
  | rsl0 => exact .rsl0
  | agg hl h ih => exact .agg hl ih
  | tup hl h ih => exact .tup hl ih
  | clos hl h hl' h' ih ih' => exact .clos hl ih hl' ih'
  | nilFunc => exact .nilFunc
  | opq v => exact .opq v
  | junk v => exact .junk v

theorem Mem.evoC {Z0 M Z : Nat → Prop} {w0 w w' : World} {C : Ctx} {blks : List Blk} (hm : Mem Z0 M w0 C Z blks w) (he : EvoC w w') (hf : Fr w0 M w') : Mem Z0 M w0 C Z blks w' := by
  refine ⟨fun k b hb hl => ?_, hm.gen, hm.dd, hm.dom, hm.inj, fun k b o h => ?_, fun b hz => by rw [he.size]; exact hm.zlt b hz, hm.z0, hm.zsub, hf⟩
  · obtain ⟨q1, q2⟩ := hm.blk k b hb hl
    refine ⟨q1, ?_⟩
    cases hs : C.β k with
    | absent => simp [hs] at q2
    | unborn => simp only [hs] at q2 ⊢; exact q2
    | loc blk o =>
      simp only [hs] at q2 ⊢
      obtain ⟨arr, e, r1, r2, r3⟩ := q2
      refine ⟨arr, e, he.cells _ _ _ _ r1, r2, fun i c hi => ?_⟩
      obtain ⟨v, s1, s2⟩ := r3 i c hi
      exact ⟨v, s1, s2.evoC he⟩
  · rw [he.size]; exact hm.own k b o h

/-- The results, as the abstract machine reads them. -/
def resA (P : Program) (st : St) : List ResultVar → List EV → Option (List AV × List EV × List Prop)
  | [], evs => some ([], evs, [])
  | .tmp t :: rs, evs => match resA P st rs evs with
    | some (vs, evs, obs) => some (st.tmps.getD t .junk :: vs, evs, obs)
    | none => none
  | .cell a t :: rs, evs => match (loadA P t (st.tmps.getD a .junk) evs).run (st.blks[·]?) with
    | some (.val v, evs, o1) => match resA P st rs evs with
      | some (vs, evs, obs) => some (v :: vs, evs, o1 ++ obs)
      | none => none
    | _ => none

def finA (P : Program) (fn : Func) (st : St) (evs : List EV) : Option (AV × List Prop) :=
  match resA P st fn.results.toList evs with
  | some (vs, [], o1) =>
    match (frz 8 (match vs with | [v] => v | vs => .tup vs)).run (st.blks[·]?) with
    | some (r, o2) => some (r, o1 ++ o2)
    | none => none
  | _ => none

theorem tmps_get {C : Ctx} {Z : Nat → Prop} {w : World} {tmps : List AV} {arr : Array Value} (h : VRs Z w C tmps arr.toList) (t : Tmp) : VR Z w C (tmps.getD t .junk) (arr.getD t undef) :=
  evalO_sound (a := ⟨arr, []⟩) h (.tmp t)

def resF (arr : Array Value) : ResultVar → Sem Value
  | .tmp t => pure (arr.getD t undef)
  | .cell a t => do loadVar t (← asAddr (arr.getD a undef))

theorem resA_sound {C : Ctx} {Z Z0 M : Nat → Prop} {w0 w : World} {arr : Array Value} (hm : Mem Z0 M w0 C Z st.blks w) (ht : VRs Z w C st.tmps arr.toList) :
    ∀ {rs : List ResultVar} {evs evs' : List EV} {vs : List AV} {obs : List Prop}, resA P st rs evs = some (vs, evs', obs) → AllP obs →
      ∃ cs : List Value, (rs.mapM (resF arr)).run P w = .ok cs w ∧ VRs Z w C vs cs
  | [], evs, evs', vs, obs, h, ho => by
    simp only [resA, Option.some.injEq, Prod.mk.injEq] at h
    obtain ⟨rfl, -, -⟩ := h
    exact ⟨[], rfl, rfl, by simp⟩
  | .tmp t :: rs, evs, evs', vs, obs, h, ho => by
    simp only [resA] at h
    split at h
    · rename_i vs1 evs1 obs1 h1
      simp only [Option.some.injEq, Prod.mk.injEq] at h
      obtain ⟨rfl, -, rfl⟩ := h
      obtain ⟨cs, r1, r2⟩ := resA_sound hm ht h1 ho
      refine ⟨arr.getD t undef :: cs, by simp only [List.mapM_cons, resF, Sem.run_bind, Sem.run_pure, Result.andThen_ok, r1], by simp [r2.1], fun i c v a b => ?_⟩
      cases i with
      | zero => simp only [List.getElem?_cons_zero, Option.some.injEq] at a b; rw [← a, ← b]; exact tmps_get ht t
      | succ i => exact r2.2 i c v (by simpa using a) (by simpa using b)
    · cases h
  | .cell a t :: rs, evs, evs', vs, obs, h, ho => by
    simp only [resA] at h
    split at h
    · rename_i v evs1 o1 hl
      split at h
      · rename_i vs1 evs2 obs2 h1
        simp only [Option.some.injEq, Prod.mk.injEq] at h
        obtain ⟨rfl, -, rfl⟩ := h
        obtain ⟨a1, a2⟩ := AllP_append.1 ho
        obtain ⟨cs, r1, r2⟩ := resA_sound hm ht h1 a2
        obtain ⟨v', c, e1, e2, e3⟩ := loadA_sound hm (tmps_get ht a) hl a1
        cases e1
        have hload : (do loadVar t (← asAddr (arr.getD a undef)) : Sem Value).run P w = .ok c w := by
          unfold Instr.loadAt at e2
          cases hv : arr.getD a undef <;> simp only [hv, Instr.sureAddr] at e2 <;> try (simp at e2; done)
          rename_i p
          cases p with
          | none => simp at e2
          | some p => simpa [hv, asAddr] using e2
        refine ⟨c :: cs, by simp only [List.mapM_cons, resF, Sem.run_bind, Sem.run_pure, Result.andThen_ok, r1] at hload ⊢; rw [hload]; simp only [Result.andThen_ok, r1], by simp [r2.1], fun i c' v'' p q => ?_⟩
        cases i with
        | zero => simp only [List.getElem?_cons_zero, Option.some.injEq] at p q; rw [← p, ← q]; exact e3
        | succ i => exact r2.2 i c' v'' (by simpa using p) (by simpa using q)
      · cases h
    · cases h

end
end Ax

/- A function's end, and what it is as a whole. -/
namespace Ax
open Go

section
variable {P : Program} {E : Env} {K K' : List Item} {st st' : St}

def Ended (P : Program) (f : FuncId) (cs : List Frame) (Post : Value → World → Prop) (m : Machine) : Prop :=
  ∃ v w' fr, m = lone fr cs w' ∧ fr.fn = f ∧ fr.leaving P w' (.returned v) ∧ Post v w'

theorem collect_all {cs : List Frame} {M Z : Nat → Prop} {w0 : World} : ∀ (Ds : List Nat) (fr : Frame) (w : World), fr.mode = .returning → fr.defers = Ds.map mark → Ds.Nodup →
    (∀ D ∈ Ds, Z D ∧ (M D ∨ w0.heap.size ≤ D) ∧ w.heap[D]? = some (.deferred (some []))) →
    ∃ w', Steps P (lone fr cs w) (lone { fr with defers := [] } cs w') ∧ EvoC w w' ∧ (Fr w0 M w → Fr w0 M w')
  | [], fr, w, hm, hd, hn, h => by
    refine ⟨w, ?_, ⟨fun _ _ _ _ h => h, rfl⟩, fun h => h⟩
    have : fr = { fr with defers := [] } := by cases fr; simp at hd; simp [hd]
    rw [← this]; exact .refl _ _
  | D :: Ds, fr, w, hm, hd, hn, h => by
    obtain ⟨h1, h2, h3⟩ := h D (by simp)
    have s1 := step_collected (P := P) (cs := cs) (fr := fr) (by rw [hm]; simp) (d := mark D) (ds := Ds.map mark) (by simpa using hd) rfl (run_takeDeferred h3)
    obtain ⟨w', s2, e2, f2⟩ := collect_all (M := M) Ds { fr with defers := [] ++ Ds.map mark } (w.putObj D (.deferred none)) hm rfl (List.nodup_cons.1 hn).2 fun D' hD' => by
      obtain ⟨a, b, c⟩ := h D' (by simp [hD'])
      refine ⟨a, b, ?_⟩
      have : D ≠ D' := fun e => (List.nodup_cons.1 hn).1 (e ▸ hD')
      simp [World.putObj, this, c]
    refine ⟨w', .trans (.one s1) s2, ⟨fun b arr e fz hb => e2.cells b arr e fz ?_, by rw [e2.size]; simp [World.putObj]⟩, fun hf => f2 ?_⟩
    · have : D ≠ b := by rintro rfl; rw [h3] at hb; cases hb
      simp [World.putObj, this, hb]
    · refine ⟨hf.os, hf.tape, hf.output, by simpa [World.putObj] using hf.size, fun b hb hM => ?_⟩
      have : D ≠ b := by rintro rfl; rcases h2 with h2 | h2; exact hM h2; omega
      simp [World.putObj, this]; exact hf.same b hb hM

def tupV : List Value → Value
  | [v] => v
  | cs => .tuple cs.toArray

theorem results_run {fn : Func} {arr : Array Value} {w : World} {cs : List Value}
    (h : (fn.results.toList.mapM (resF arr)).run P w = .ok cs w) :
    (results fn arr).run P w = .ok (tupV cs) w := by
  have hF : results fn arr = (do let vs ← fn.results.mapM (resF arr); pure (if h : vs.size = 1 then vs[0] else .tuple vs) : Sem Value) := by
    unfold results
    congr 2
  rw [hF, Array.mapM_eq_mapM_toList]
  simp only [Sem.run_bind, map_eq_pure_bind, Sem.run_pure]
  rw [h]
  simp only [Result.andThen_ok, Sem.run_pure]
  split
  · rename_i h1
    match cs, h1 with
    | [v], _ => rfl
  · rename_i h1
    match cs, h1 with
    | [], _ => rfl
    | [v], h1 => simp at h1
    | a :: b :: c, _ => rfl

def tupA : List AV → AV
  | [v] => v
  | vs => .tup vs

theorem tupA_sound {Z : Nat → Prop} {w : World} {C : Ctx} {vs : List AV} {cs : List Value} (h : VRs Z w C vs cs) : VR Z w C (tupA vs) (tupV cs) := by
  obtain ⟨h1, h2⟩ := h
  match vs, cs, h1 with
  | [], [], _ => exact .tup rfl (by simp)
  | [v], [c], _ => exact h2 0 v c rfl rfl
  | a :: b :: r, a' :: b' :: r', h1 => exact .tup (by simpa using h1) fun i c v p q => h2 i c v p (by simpa using q)

/-- The end of a function's body. -/
theorem G_end {fn : Func} {evs evs' : List EV} {vs : List AV} {obs : List Prop} {Post : Value → World → Prop}
    (hr : E.b.roundOf = none) (hk : E.b.kind = .normal) (hf : P.funcs[E.b.fn]? = some fn) (hfin : E.Fin = Ended P E.b.fn E.cs Post)
    (h : resA P st fn.results.toList evs = some (vs, evs', obs)) (ho : AllP obs)
    (hp : ∀ (C : Ctx) (Z : Nat → Prop) (w : World) (v : Value), Mem E.Z0 E.M E.w0 C Z st.blks w → VR Z w C (tupA vs) v → Post v w)
    (hK : K = [] ∨ ∃ k, K = .code .ret :: k) : G P E K st := by
  intro C Z a w hrel
  have hs : step P (lone (E.b.atR a K) E.cs w) = .next (lone { E.b.atR a K with mode := .returning } E.cs w) := by
    rcases hK with rfl | ⟨k, rfl⟩
    · exact stepR_end hr
    · exact stepR_ret hr
  obtain ⟨Ds, d1, d2, d3⟩ := hrel.marks
  obtain ⟨w', s2, e2, f2⟩ := collect_all (P := P) (cs := E.cs) (M := E.M) (w0 := E.w0) Ds { E.b.atR a K with mode := .returning } w rfl d2 d1 d3
  have hm' := hrel.mem.evoC e2 (f2 hrel.mem.frame)
  have ht' : VRs Z w' C st.tmps a.tmps.toList := ⟨hrel.tmp.1, fun i c v p q => (hrel.tmp.2 i c v p q).evoC e2⟩
  obtain ⟨cs, r1, r2⟩ := resA_sound hm' ht' h ho
  refine ⟨_, .trans (.one hs) s2, ?_⟩
  rw [hfin]
  exact ⟨_, w', _, rfl, rfl, ⟨rfl, rfl, hk, fn, hf, results_run r1⟩, hp C Z w' _ hm' (tupA_sound r2)⟩

/-- A function that only reads what it is handed. -/
def Pure (P : Program) (f : FuncId) (args : List AV) (res : AV) : Prop :=
  ∀ (Z : Nat → Prop) (w : World) (cargs : Array Value), (∀ b, Z b → b < w.heap.size) → VRs Z w C0 args cargs.toList →
    Calls P f cargs w fun e w' => ∃ v, e = .returned v ∧ VR (Zx Z w w') w' C0 res v ∧ Fr w (fun _ => False) w'

def unds : Nat → List AV
  | 0 => []
  | n + 1 => .tup [] :: unds n

theorem unds_eq : ∀ n, unds n = List.replicate n (.tup [])
  | 0 => rfl
  | n + 1 => by simp [unds, unds_eq n, List.replicate_succ]

/-- The frame of a called function, and what it must come to. -/
def callEnv (P : Program) (f : FuncId) (Z : Nat → Prop) (M : Nat → Prop) (w : World) (cs : List Frame) (Post : Value → World → Prop) : Env :=
  ⟨Z, M, w, { (default : Frame) with fn := f, kind := .normal }, cs, Ended P f cs Post, [], []⟩

def PureE (P : Program) (f : FuncId) (res : AV) (E : Env) : Prop :=
  E.b.roundOf = none ∧ E.b.kind = .normal ∧ E.b.fn = f ∧ (∀ b, ¬ E.M b) ∧
    E.gA = [] ∧ E.Fin = Ended P f E.cs fun v w' => VR (Zx E.Z0 E.w0 w') w' C0 res v ∧ Fr E.w0 (fun _ => False) w'

theorem mem_nil {Z : Nat → Prop} {w : World} (hz : ∀ b, Z b → b < w.heap.size) : Mem Z (fun _ => False) w C0 Z [] w :=
  ⟨by simp, by simp, by simp, fun _ _ => ⟨rfl, rfl⟩, fun _ _ _ _ _ h => by simp [C0] at h, fun _ _ _ h => by simp [C0] at h, hz, fun _ h => h, fun _ h => .inl h, Fr.refl _ _⟩

theorem pure_of {f : FuncId} {fn : Func} {c : Code} {args : List AV} {res : AV} (hf : P.funcs[f]? = some fn) (hb : fn.body = some c)
    (h : ∀ E, PureE P f res E → G P E [.code c] ⟨args ++ unds (fn.ntmps - args.length), []⟩) : Pure P f args res := by
  intro Z w cargs hz ha cs
  have hE : PureE P f res (callEnv P f Z (fun _ => False) w cs fun v w' => VR (Zx Z w w') w' C0 res v ∧ Fr w (fun _ => False) w') :=
    ⟨rfl, rfl, rfl, fun _ h => h, rfl, rfl⟩
  have henter : Frame.enter P f cargs .normal = ({ (default : Frame) with fn := f, kind := .normal } : Frame).atR { tmps := cargs ++ Array.replicate (fn.ntmps - cargs.size) undef, defers := [] } [.code c] := by
    simp only [Frame.enter, Frame.atR, hf, hb, Option.map_some, Option.getD_some, Option.bind_some]; rfl
  have hl : args.length = cargs.size := by simpa using ha.1
  obtain ⟨m', s, v, w', fr, rfl, r1, r2, r3⟩ := h _ hE C0 Z { tmps := cargs ++ Array.replicate (fn.ntmps - cargs.size) undef, defers := [] } w
    ⟨⟨by simp [unds_eq, hl], fun i x y p q => by
        simp only [Array.toList_append, Array.toList_replicate] at q
        rw [unds_eq] at p
        by_cases hi : i < args.length
        · rw [List.getElem?_append_left hi] at p
          rw [List.getElem?_append_left (by simpa [← hl] using hi)] at q
          exact ha.2 i x y p q
        · rw [List.getElem?_append_right (by omega)] at p
          rw [List.getElem?_append_right (by simp; omega)] at q
          have p' := List.mem_replicate.1 (List.mem_of_getElem? p)
          have q' := List.mem_replicate.1 (List.mem_of_getElem? q)
          rw [p'.2, q'.2]
          exact .tup rfl (by simp)⟩, mem_nil hz, ⟨[], .nil, rfl, by simp⟩, ⟨rfl, fun _ _ _ h _ => by cases h⟩⟩
  rw [henter]
  exact ⟨.returned v, w', fr, ⟨v, rfl, r3⟩, s, r1, r2⟩

/-- The end of a function that only reads: its result, laid down. -/
theorem G_pure {f : FuncId} {fn : Func} {evs evs' : List EV} {vs : List AV} {obs o2 : List Prop} {res : AV} (hE : PureE P f res E) (hf : P.funcs[f]? = some fn)
    (h : resA P st fn.results.toList evs = some (vs, evs', obs)) (ho : AllP obs) (h2 : (frz 8 (tupA vs)).run (st.blks[·]?) = some (res, o2)) (ho2 : AllP o2)
    (hK : K = [] ∨ ∃ k, K = .code .ret :: k) : G P E K st := by
  obtain ⟨e1, e2, rfl, e4, -, e5⟩ := hE
  refine G_end e1 e2 hf e5 h ho (fun C Z w v hm hv => ⟨?_, ?_⟩) hK
  · refine (frz_sound hm h2 ho2 hv).zmono fun b hb => ?_
    rcases hb with hb | ⟨k, o, hb⟩
    · rcases hm.zsub b hb with hb' | hb' | hb'
      · exact .inl hb'
      · exact absurd hb' (e4 b)
      · exact .inr ⟨hb', hm.zlt b hb⟩
    · obtain ⟨q1, q2, q3⟩ := hm.own k b o hb
      exact .inr ⟨q3.resolve_left (e4 b), q1⟩
  · have := hm.frame
    exact ⟨this.os, this.tape, this.output, this.size, fun b hb _ => this.same b hb (e4 b)⟩

end
end Ax

/- Regions whose operations may be taken in any order that their edges allow. -/
namespace Ax
open Go

section
variable {P : Program} {E : Env} {K K' : List Item} {st st' : St}

theorem aop_congr {o : Oper} {ev ev' : Operand → AV} {evs : List EV} (h : ∀ x ∈ o.op.operands, ev x = ev' x) : aop P o ev evs = aop P o ev' evs := by
  obtain ⟨dst, op, type, pos, after, guard⟩ := o
  have pairs : ∀ ps : Array (Nat × Operand), (∀ x ∈ (ps.toList.map (·.2)).toArray, ev x = ev' x) → (ps.toList.map fun p => (p.1, ev p.2)) = (ps.toList.map fun p => (p.1, ev' p.2)) := fun ps hp =>
    List.map_congr_left fun p hm => by rw [hp p.2 (by simp; exact ⟨p.1, by simpa using hm⟩)]
  cases op <;> simp only [Op.operands] at h <;> simp only [aop]
  case build t ps => rw [pairs ps h]
  case buildSlice t n ps => rw [pairs ps h]
  case makeFunc fn first captured =>
    cases fn <;> simp only
    rw [List.map_congr_left (l := first.toList) fun x hx => h x (by simp; exact .inl (by simpa using hx)), List.map_congr_left (l := captured.toList) fun x hx => h x (by simp; exact .inr (by simpa using hx))]
  case call c =>
    obtain ⟨callee, args, ats⟩ := c
    have hargs : args.toList.map ev = args.toList.map ev' := List.map_congr_left fun x hx => h x (by simp [Call.operands]; exact .inr (by simpa using hx))
    cases callee with
    | value f => have hf : ev f = ev' f := h f (by simp [Call.operands]); simp only [hf, hargs]
    | invoke r m => rfl
    | builtin b => simp only [hargs]
  case slice t x lo hi mx => cases lo <;> cases hi <;> cases mx <;> simp_all
  all_goals (first | rfl | (simp_all; done))

theorem Rd.run_congr {α : Type} {gb gb' : Nat → Option Blk} : ∀ {x : Rd α} {r : α}, (∀ k ∈ x.log gb, gb' k = gb k) → x.run gb = some r → x.run gb' = some r ∧ x.log gb' = x.log gb
  | .ok a, r, h, hr => ⟨hr, rfl⟩
  | .fail, r, h, hr => by cases hr
  | .get k f, r, h, hr => by
    obtain ⟨b, hb, hr⟩ := run_get hr
    have hk : gb' k = some b := by rw [h k (by simp [Rd.log, hb]), hb]
    obtain ⟨h1, h2⟩ := Rd.run_congr (gb' := gb') (fun j hj => h j (by simp [Rd.log, hb, hj])) hr
    exact ⟨by simp only [Rd.run, hk]; exact h1, by simp only [Rd.log, hk, hb, h2]⟩

def conc1 (g : Bool) (v : AV) (evs : List EV) : Option (AV × List EV × List Prop) :=
  match g with
  | true => (match v, evs with
    | .bool c, .b x :: r => some (.bool x, r, [c = x])
    | _, _ => none)
  | false => some (v, evs, [])

theorem conc1_sound {Z : Nat → Prop} {w : World} {C : Ctx} {g : Bool} {v tv : AV} {c : Value} {evs evs' : List EV} {obs : List Prop} (h : VR Z w C v c)
    (hc : conc1 g v evs = some (tv, evs', obs)) (ho : AllP obs) : VR Z w C tv c := by
  unfold conc1 at hc
  split at hc
  · split at hc
    · simp only [Option.some.injEq, Prod.mk.injEq] at hc
      obtain ⟨rfl, -, rfl⟩ := hc
      rw [← ho.1]; exact h
    · cases hc
  · simp only [Option.some.injEq, Prod.mk.injEq] at hc
    obtain ⟨rfl, -, -⟩ := hc
    exact h

structure Rec where
  dst : Option Nat
  tv : AV
  blk : Option (Nat × Blk)
  rt : List Nat
  rb : List Nat
  fresh : Bool

def app1 (s : St) (r : Rec) : St := ⟨putA s.tmps r.dst r.tv, match r.blk with | some (k, b) => s.blks.set k b | none => s.blks⟩

def recA (P : Program) (ops : Array Oper) (idx i : Nat) (o : Oper) (st : St) (evs : List EV) : Option (Rec × List EV × List Prop) :=
  match wantedA ops st.tmps o with
  | none => none
  | some false => some (⟨o.dst, .tup [], none, o.looksAt ops, [], false⟩, evs, [])
  | some true =>
    match (aop P o (evalO st.tmps) evs).run (st.blks[·]?) with
    | none => none
    | some (eff, evs1, o1) =>
      match conc1 (isGuard ops i) (eff.av idx) evs1 with
      | none => none
      | some (tv, evs2, o2) =>
        match eff with
        | .val _ => some (⟨o.dst, tv, none, o.looksAt ops, (aop P o (evalO st.tmps) evs).log (st.blks[·]?), false⟩, evs2, o1 ++ o2)
        | .upd k b _ => some (⟨o.dst, tv, some (k, b), o.looksAt ops, (aop P o (evalO st.tmps) evs).log (st.blks[·]?), false⟩, evs2, o1 ++ o2)
        | .new b _ => match st.blks[idx]? with
          | some ⟨false, 0, 0, true, [], false⟩ => some (⟨o.dst, tv, some (idx, b), o.looksAt ops, idx :: (aop P o (evalO st.tmps) evs).log (st.blks[·]?), true⟩, evs2, o1 ++ o2)
          | _ => none

theorem Mem.pushN {Z0 M Z : Nat → Prop} {w0 w : World} {C : Ctx} {blks : List Blk} (hm : Mem Z0 M w0 C Z blks w) : ∀ m, Mem Z0 M w0 C Z (blks ++ List.replicate m dead) w
  | 0 => by simpa using hm
  | m + 1 => by
    rw [List.replicate_succ', ← List.append_assoc]
    exact (hm.pushN m).push

theorem Mem.popN {Z0 M Z : Nat → Prop} {w0 w : World} {C : Ctx} {blks : List Blk} : ∀ m, Mem Z0 M w0 C Z (blks ++ List.replicate m dead) w → Mem Z0 M w0 C Z blks w
  | 0, hm => by simpa using hm
  | m + 1, hm => by
    rw [List.replicate_succ', ← List.append_assoc] at hm
    exact hm.pop.popN m

/-- One operation, with its new block's place told. -/
theorem op_core {ops : Array Oper} {i idx : Nat} {o : Oper} {rest : List Nat} {k : List Item} {eff : Eff} {tv : AV} {g : Bool} {evs evs1 evs2 : List EV} {obs1 obs2 : List Prop} (ho : ops[i]? = some o) (hk : E.b.kind = .normal)
    (hw : wantedA ops st.tmps o = some true) (ha : (aop P o (evalO st.tmps) evs).run (st.blks[·]?) = some (eff, evs1, obs1)) (ob1 : AllP obs1)
    (hc : conc1 g (eff.av idx) evs1 = some (tv, evs2, obs2)) (ob2 : AllP obs2) (hidx : st.blks[idx]? = some dead)
    (hg : G P E (.inRegion ops rest :: k) ⟨putA st.tmps o.dst tv, eff.blks idx st.blks⟩) : G P E (.inRegion ops (i :: rest) :: k) st := by
  intro C Z a w hr
  have hwc := wantedA_sound hr.tmp hw
  have hop := aop_sound (idx := idx) hr.mem hidx (evalO_sound hr.tmp) ha ob1
  have hgo := stepGR_op (P := P) (b := E.b) (k := k) (cs := E.cs) (w := w) (rest := rest) ho hwc
  rw [Oper.semAt_eq _ _ _ (not_defer ha)] at hgo
  have hfin : ∀ v, (E.b.atR a (.inRegion ops (i :: rest) :: k)).finish v = E.b.atR (a.put o.dst v) (.inRegion ops rest :: k) := by
    intro v; rw [Frame.finish_atR, ho]; rfl
  have next : ∀ (c : Value) (w' : World), Res E.Z0 E.M E.w0 C Z st.blks w idx eff c w' → Reach P (lone (E.b.atR (a.put o.dst c) (.inRegion ops rest :: k)) E.cs w') E.Fin := by
    rintro c w' ⟨C', Z', hle, hevo, hm, hv⟩
    refine hg C' Z' _ w' ⟨(hr.tmp.next hle hevo).put (conc1_sound hv hc ob2) o.dst, hm, ?_, hr.gh.next hle hevo⟩
    have : (a.put o.dst c).defers = a.defers := by cases o.dst <;> rfl
    rw [this]; exact hr.marks.evo hevo
  rcases hop with ⟨c, w', hrun, hq⟩ | ⟨w', hrun, hq⟩ | ⟨f, args, hrun, hcall⟩
  · refine .step (.one (step_lone_go ?_)) (next c w' hq)
    rw [hgo, ← hfin]; simp [stepG.apply, hrun]
  · refine .step (.one (step_lone_go ?_)) (next undef w' hq)
    rw [hgo, ← hfin]; simp [stepG.apply, hrun]
  · obtain ⟨e, w'', fr, ⟨v, rfl, hq⟩, hsteps, -, hleave⟩ := hcall (E.b.atR a (.inRegion ops (i :: rest) :: k) :: E.cs)
    have henter : step P (lone (E.b.atR a (.inRegion ops (i :: rest) :: k)) E.cs w) =
        .next (lone (Frame.enter P f args .normal) (E.b.atR a (.inRegion ops (i :: rest) :: k) :: E.cs) w) :=
      step_lone_go (by rw [hgo]; simp [stepG.apply, hrun, Frame.atR])
    refine .step (Steps.head henter (hsteps.trans (.one ?_))) (next v w'' hq)
    rw [← hfin]; exact step_leave_returned hleave

theorem G_push {m : Nat} (hg : G P E K ⟨st.tmps, st.blks ++ List.replicate m dead⟩) : G P E K st :=
  fun C Z a w hr => hg C Z a w ⟨hr.tmp, hr.mem.pushN m, hr.marks, hr.gh⟩

theorem G_pop {tmps : List AV} {blks : List Blk} {m : Nat} (hg : G P E K ⟨tmps, blks⟩) : G P E K ⟨tmps, blks ++ List.replicate m dead⟩ :=
  fun C Z a w hr => hg C Z a w ⟨hr.tmp, Mem.popN m hr.mem, hr.marks, hr.gh⟩

theorem eff_idx {eff : Eff} {blks : List Blk} {j j' : Nat} (h : ∀ b mk, eff ≠ .new b mk) : eff.blks j blks = eff.blks j' blks ∧ eff.av j = eff.av j' := by
  cases eff with
  | val v => exact ⟨rfl, rfl⟩
  | upd k b v => exact ⟨rfl, rfl⟩
  | new b mk => exact absurd rfl (h b mk)

theorem rec_step {ops : Array Oper} {i idx : Nat} {o : Oper} {rest : List Nat} {k : List Item} {r : Rec} {evs evs' : List EV} {obs : List Prop} (ho : ops[i]? = some o) (hk : E.b.kind = .normal)
    (h : recA P ops idx i o st evs = some (r, evs', obs)) (hob : AllP obs) (hg : G P E (.inRegion ops rest :: k) (app1 st r)) : G P E (.inRegion ops (i :: rest) :: k) st := by
  unfold recA at h
  split at h
  · cases h
  · rename_i hw
    simp only [Option.some.injEq, Prod.mk.injEq] at h
    obtain ⟨rfl, -, -⟩ := h
    intro C Z a w hr
    have hwc := wantedA_sound hr.tmp hw
    have hs := stepR_op_skip (P := P) (b := E.b) (a := a) (k := k) (cs := E.cs) (w := w) (ops := ops) (i := i) (rest := rest) (by simp [ho, hwc])
    simp only [ho, Option.bind_some] at hs
    refine .step (.one hs) (hg C Z _ w ⟨hr.tmp.put (.tup (by simp) (by simp)) o.dst, hr.mem, ?_, hr.gh⟩)
    cases hd : o.dst <;> exact hr.marks
  · rename_i hw
    split at h
    · cases h
    · rename_i eff evs1 obs1 ha
      split at h
      · cases h
      · rename_i tv evs2 obs2 hc
        -- where nothing is new, the place is a dead one behind
        have old : (∀ b mk, eff ≠ .new b mk) → G P E (.inRegion ops rest :: k) ⟨putA st.tmps o.dst tv, eff.blks st.blks.length st.blks⟩ → AllP obs1 → AllP obs2 → G P E (.inRegion ops (i :: rest) :: k) st := by
          intro hn hg ob1 ob2
          refine G_push (m := 1) ?_
          have ha' := Rd.run_mono (gb' := fun k => (st.blks ++ [dead])[k]?) (fun k b h => by rw [List.getElem?_append_left (List.getElem?_eq_some_iff.1 h).1]; exact h) ha
          refine op_core (st := ⟨st.tmps, st.blks ++ [dead]⟩) (idx := st.blks.length) ho hk hw ha' ob1 (tv := tv) (by rw [(eff_idx (blks := st.blks) (j := st.blks.length) (j' := idx) hn).2]; exact hc) ob2 (by simp) ?_
          have : eff.blks st.blks.length (st.blks ++ [dead]) = eff.blks st.blks.length st.blks ++ List.replicate 1 dead := by
            cases eff with
            | val v => rfl
            | new b mk => exact absurd rfl (hn b mk)
            | upd kk b v => exact List.set_append_left kk b (aop_upd ha)
          rw [this]
          exact G_pop hg
        split at h
        · simp only [Option.some.injEq, Prod.mk.injEq] at h
          obtain ⟨rfl, -, rfl⟩ := h
          obtain ⟨ob1, ob2⟩ := AllP_append.1 hob
          exact old (by simp) hg ob1 ob2
        · simp only [Option.some.injEq, Prod.mk.injEq] at h
          obtain ⟨rfl, -, rfl⟩ := h
          obtain ⟨ob1, ob2⟩ := AllP_append.1 hob
          exact old (by simp) hg ob1 ob2
        · split at h
          · rename_i hidx
            simp only [Option.some.injEq, Prod.mk.injEq] at h
            obtain ⟨rfl, -, rfl⟩ := h
            obtain ⟨ob1, ob2⟩ := AllP_append.1 hob
            exact op_core ho hk hw ha ob1 hc ob2 hidx hg
          · cases h

theorem mem_looks {ops : Array Oper} {o : Oper} {t : Nat} (h : .tmp t ∈ o.op.operands) : t ∈ o.looksAt ops :=
  List.mem_append_left _ (List.mem_filterMap.2 ⟨.tmp t, by simpa using h, rfl⟩)

theorem recA_congr {ops : Array Oper} {i idx : Nat} {o : Oper} {r : Rec} {evs evs' : List EV} {obs : List Prop} (h : recA P ops idx i o st evs = some (r, evs', obs))
    (ht : ∀ t ∈ r.rt, st'.tmps[t]? = st.tmps[t]?) (hb : ∀ k ∈ r.rb, st'.blks[k]? = st.blks[k]?) : recA P ops idx i o st' evs = some (r, evs', obs) := by
  have hrt : r.rt = o.looksAt ops := by
    unfold recA at h
    repeat' (split at h)
    all_goals first | (cases h; done) | (simp only [Option.some.injEq, Prod.mk.injEq] at h; obtain ⟨rfl, -, -⟩ := h; rfl)
  rw [hrt] at ht
  have hwa : wantedA ops st'.tmps o = wantedA ops st.tmps o := by
    unfold wantedA
    cases hg : o.guard with
    | none => rfl
    | some g =>
      obtain ⟨j, want⟩ := g
      simp only
      cases hd : (ops[j]?).bind (·.dst) with
      | none => rfl
      | some d =>
        have : st'.tmps[d]? = st.tmps[d]? := ht d (by
          unfold Oper.looksAt
          refine List.mem_append_right _ ?_
          simp only [hg]
          rw [hd]; simp)
        simp only [this]
  have hev : ∀ x ∈ o.op.operands, evalO st.tmps x = evalO st'.tmps x := by
    intro x hx
    cases x with
    | tmp t => simp only [evalO, List.getD_eq_getElem?_getD, ht t (mem_looks hx)]
    | _ => rfl
  unfold recA at h ⊢
  rw [hwa]
  split at h
  · cases h
  · exact h
  · rename_i hw
    rw [← aop_congr (P := P) (evs := evs) hev]
    split at h
    · cases h
    · rename_i eff evs1 obs1 ha
      split at h
      · cases h
      · rename_i tv evs2 obs2 hc
        split at h
        · simp only [Option.some.injEq, Prod.mk.injEq] at h
          obtain ⟨rfl, rfl, rfl⟩ := h
          obtain ⟨h1, h2⟩ := Rd.run_congr (gb' := (st'.blks[·]?)) hb ha
          simp only [h1, hc, h2]
        · simp only [Option.some.injEq, Prod.mk.injEq] at h
          obtain ⟨rfl, rfl, rfl⟩ := h
          obtain ⟨h1, h2⟩ := Rd.run_congr (gb' := (st'.blks[·]?)) hb ha
          simp only [h1, hc, h2]
        · split at h
          · rename_i hidx
            simp only [Option.some.injEq, Prod.mk.injEq] at h
            obtain ⟨rfl, rfl, rfl⟩ := h
            obtain ⟨h1, h2⟩ := Rd.run_congr (gb' := (st'.blks[·]?)) (fun k hk => hb k (List.mem_cons_of_mem _ hk)) ha
            have h3 := hb idx (List.mem_cons_self ..)
            simp only [h1, hc, h2, h3, hidx]
          · cases h

end
end Ax

/- Whatever order is drawn: it comes to what the text's order comes to. -/
namespace Ax
open Go

section
variable {P : Program} {E : Env} {K K' : List Item} {st st' : St}

/-- The records of 'D' alone, in the text's order. -/
def mix (D : Nat → Bool) : Nat → List Rec → St → St
  | _, [], s => s
  | i, r :: rs, s => mix D (i + 1) rs (bif D i then app1 s r else s)

theorem app1_tmps_ne {s : St} {r : Rec} {t : Nat} (h : r.dst ≠ some t) : (app1 s r).tmps[t]? = s.tmps[t]? := by
  unfold app1 putA
  cases hd : r.dst with
  | none => rfl
  | some d => simp only; rw [List.getElem?_set_ne (fun e => h (by rw [hd, e]))]

theorem app1_blks_ne {s : St} {r : Rec} {k : Nat} (h : ∀ b, r.blk ≠ some (k, b)) : (app1 s r).blks[k]? = s.blks[k]? := by
  unfold app1
  cases hd : r.blk with
  | none => rfl
  | some p =>
    obtain ⟨j, b⟩ := p
    simp only; rw [List.getElem?_set_ne (fun e => h b (by rw [hd, e]))]

theorem app1_tmps_eq {s s' : St} {r : Rec} {t : Nat} (h : s.tmps[t]? = s'.tmps[t]?) : (app1 s r).tmps[t]? = (app1 s' r).tmps[t]? := by
  unfold app1 putA
  cases hd : r.dst with
  | none => exact h
  | some d =>
    simp only
    by_cases e : d = t
    · subst e; rw [List.getElem?_set_self', List.getElem?_set_self', h]
    · rw [List.getElem?_set_ne e, List.getElem?_set_ne e, h]

theorem app1_blks_eq {s s' : St} {r : Rec} {k : Nat} (h : s.blks[k]? = s'.blks[k]?) : (app1 s r).blks[k]? = (app1 s' r).blks[k]? := by
  unfold app1
  cases hd : r.blk with
  | none => exact h
  | some p =>
    obtain ⟨j, b⟩ := p
    simp only
    by_cases e : j = k
    · subst e; rw [List.getElem?_set_self', List.getElem?_set_self', h]
    · rw [List.getElem?_set_ne e, List.getElem?_set_ne e, h]

theorem mix_tmps {D D' : Nat → Bool} {t : Nat} : ∀ {a : Nat} {rs : List Rec} {s s' : St}, (∀ j r, rs[j]? = some r → r.dst = some t → D (a + j) = D' (a + j)) → s.tmps[t]? = s'.tmps[t]? →
    (mix D a rs s).tmps[t]? = (mix D' a rs s').tmps[t]?
  | a, [], s, s', h, hs => hs
  | a, r :: rs, s, s', h, hs => by
    simp only [mix]
    refine mix_tmps (fun j r' hj hd => by have := h (j + 1) r' (by simpa using hj) hd; rw [show a + 1 + j = a + (j + 1) by omega]; exact this) ?_
    by_cases hd : r.dst = some t
    · have := h 0 r rfl hd
      simp only [Nat.add_zero] at this
      rw [this]
      cases D' a with
      | false => exact hs
      | true => exact app1_tmps_eq hs
    · cases D a <;> cases D' a <;> simp only [cond_true, cond_false] <;> (try rw [app1_tmps_ne hd]) <;> (try rw [app1_tmps_ne hd]) <;> exact hs

theorem mix_blks {D D' : Nat → Bool} {k : Nat} : ∀ {a : Nat} {rs : List Rec} {s s' : St}, (∀ j r b, rs[j]? = some r → r.blk = some (k, b) → D (a + j) = D' (a + j)) → s.blks[k]? = s'.blks[k]? →
    (mix D a rs s).blks[k]? = (mix D' a rs s').blks[k]?
  | a, [], s, s', h, hs => hs
  | a, r :: rs, s, s', h, hs => by
    simp only [mix]
    refine mix_blks (fun j r' b hj hd => by have := h (j + 1) r' b (by simpa using hj) hd; rw [show a + 1 + j = a + (j + 1) by omega]; exact this) ?_
    by_cases hd : ∃ b, r.blk = some (k, b)
    · obtain ⟨b, hd⟩ := hd
      have := h 0 r b rfl hd
      simp only [Nat.add_zero] at this
      rw [this]
      cases D' a with
      | false => exact hs
      | true => exact app1_blks_eq hs
    · have hd' : ∀ b, r.blk ≠ some (k, b) := fun b e => hd ⟨b, e⟩
      cases D a <;> cases D' a <;> simp only [cond_true, cond_false] <;> (try rw [app1_blks_ne hd']) <;> (try rw [app1_blks_ne hd']) <;> exact hs

def wr2 (r r' : Rec) : Bool :=
  (match r.dst, r'.dst with | some d, some d' => Nat.beq d d' | _, _ => false) || (match r.blk, r'.blk with | some (k, _), some (k', _) => Nat.beq k k' | _, _ => false)

def wrd (r r' : Rec) : Bool :=
  (match r.dst with | some d => r'.rt.any (Nat.beq d) | none => false) || (match r.blk with | some (k, _) => r'.rb.any (Nat.beq k) | none => false)

def clash (r r' : Rec) : Bool := wr2 r r' || wrd r r' || wrd r' r

theorem wr2_symm (r r' : Rec) : wr2 r r' = wr2 r' r := by
  have hb : ∀ a b : Nat, Nat.beq a b = Nat.beq b a := fun a b => by
    rw [Bool.eq_iff_iff, Nat.beq_eq, Nat.beq_eq]; exact eq_comm
  unfold wr2
  cases r.dst <;> cases r'.dst <;> cases r.blk <;> cases r'.blk <;> simp [hb]

theorem clash_symm (r r' : Rec) : clash r r' = clash r' r := by
  unfold clash; rw [wr2_symm]
  cases wr2 r' r <;> cases wrd r r' <;> cases wrd r' r <;> rfl

theorem app1_comm {s : St} {r r' : Rec} (h : wr2 r r' = false) : app1 (app1 s r) r' = app1 (app1 s r') r := by
  simp only [wr2, Bool.or_eq_false_iff] at h
  obtain ⟨h1, h2⟩ := h
  unfold app1 putA
  simp only [St.mk.injEq]
  constructor
  · cases hd : r.dst with
    | none => cases hd' : r'.dst <;> rfl
    | some d =>
      cases hd' : r'.dst with
      | none => rfl
      | some d' =>
        simp only [hd, hd'] at h1
        exact List.set_comm _ _ fun e => by subst e; simp at h1
  · cases hd : r.blk with
    | none => cases hd' : r'.blk <;> rfl
    | some d =>
      cases hd' : r'.blk with
      | none => rfl
      | some d' =>
        simp only [hd, hd'] at h2
        exact List.set_comm _ _ fun e => by rw [e] at h2; simp at h2

theorem mix_comm {D : Nat → Bool} {r : Rec} : ∀ {a : Nat} {rs : List Rec} {s : St}, (∀ j r', rs[j]? = some r' → D (a + j) = true → wr2 r r' = false) → mix D a rs (app1 s r) = app1 (mix D a rs s) r
  | a, [], s, h => rfl
  | a, r' :: rs, s, h => by
    simp only [mix]
    have ih := fun s => mix_comm (D := D) (r := r) (a := a + 1) (rs := rs) (s := s) fun j r'' hj hd => h (j + 1) r'' (by simpa using hj) (by rw [← hd]; congr 1; omega)
    cases hD : D a with
    | false => simp only [cond_false]; exact ih s
    | true =>
      simp only [cond_true]
      rw [app1_comm (h 0 r' rfl (by simpa using hD))]; exact ih _

theorem mix_cong {D D' : Nat → Bool} : ∀ {a : Nat} {rs : List Rec} {s : St}, (∀ j, a ≤ j → D j = D' j) → mix D a rs s = mix D' a rs s
  | a, [], s, h => rfl
  | a, r' :: rs, s, h => by
    simp only [mix, h a (Nat.le_refl a)]
    exact mix_cong fun j hj => h j (by omega)

theorem mix_insert {D D' : Nat → Bool} {i : Nat} {r : Rec} (hi : D i = false) (hD : ∀ j, D' j = (D j || Nat.beq j i)) : ∀ {a : Nat} {rs : List Rec} {s : St}, a ≤ i → rs[i - a]? = some r →
    (∀ j r', rs[j]? = some r' → i < a + j → D (a + j) = true → wr2 r r' = false) → mix D' a rs s = app1 (mix D a rs s) r
  | a, [], s, ha, hr, h => by simp at hr
  | a, r0 :: rs, s, ha, hr, h => by
    simp only [mix]
    by_cases e : a = i
    · subst e
      simp only [Nat.sub_self, List.getElem?_cons_zero, Option.some.injEq] at hr
      subst hr
      have : D' a = true := by simp [hD]
      rw [this, hi, cond_true, cond_false]
      rw [mix_cong (D := D') (D' := D) fun j hj => by
        rw [hD]; have : Nat.beq j a = false := by rw [← Bool.not_eq_true, Nat.beq_eq]; omega
        simp [this]]
      exact mix_comm fun j r' hj hd => h (j + 1) r' (by simpa using hj) (by omega) (by rw [← hd]; congr 1; omega)
    · have hDa : D' a = D a := by
        rw [hD]; have : Nat.beq a i = false := by rw [← Bool.not_eq_true, Nat.beq_eq]; exact e
        simp [this]
      rw [hDa]
      refine mix_insert hi hD (by omega) ?_ fun j r' hj hlt hd => h (j + 1) r' (by simpa using hj) (by omega) (by rw [← hd]; congr 1; omega)
      have : i - a = (i - (a + 1)) + 1 := by omega
      rw [this] at hr
      simpa using hr

theorem mix_none {D : Nat → Bool} : ∀ {a : Nat} {rs : List Rec} {s : St}, (∀ j, D j = false) → mix D a rs s = s
  | a, [], s, h => rfl
  | a, r :: rs, s, h => by simp only [mix, h a, cond_false]; exact mix_none h

theorem mix_all {D : Nat → Bool} : ∀ {a : Nat} {rs : List Rec} {s : St}, (∀ j, j < rs.length → D (a + j) = true) → mix D a rs s = rs.foldl app1 s
  | a, [], s, h => rfl
  | a, r :: rs, s, h => by
    have h0 := h 0 (by simp)
    simp only [Nat.add_zero] at h0
    simp only [mix, h0, cond_true, List.foldl_cons]
    exact mix_all fun j hj => by have := h (j + 1) (by simpa using hj); rw [show a + 1 + j = a + (j + 1) by omega]; exact this

theorem mix_pre : ∀ {a i : Nat} {rs : List Rec} {s : St}, mix (fun j => Nat.blt j (a + i)) a rs s = (rs.take i).foldl app1 s
  | a, 0, rs, s => by
    have : ∀ {b : Nat} {rs : List Rec} {s : St}, a ≤ b → mix (fun j => Nat.blt j a) b rs s = s := by
      intro b rs
      induction rs generalizing b with
      | nil => intros; rfl
      | cons r rs ih =>
        intro s hb
        have : Nat.blt b a = false := by rw [← Bool.not_eq_true]; simp [Nat.blt_eq]; omega
        simp only [mix, this, cond_false]; exact ih (by omega)
    simpa using this (Nat.le_refl a)
  | a, i + 1, [], s => by simp [mix]
  | a, i + 1, r :: rs, s => by
    have : Nat.blt a (a + (i + 1)) = true := by simp [Nat.blt_eq]
    simp only [mix, this, cond_true, List.take_succ_cons, List.foldl_cons]
    have h := mix_pre (a := a + 1) (i := i) (rs := rs) (s := app1 s r)
    rw [show a + 1 + i = a + (i + 1) by omega] at h
    exact h

/-! ### The text's order -/
def recsA (P : Program) (ops : Array Oper) : Nat → List Nat → St → List EV → Option (List Rec × St × List EV × List Prop)
  | idx, [], st, evs => some ([], st, evs, [])
  | idx, i :: rest, st, evs =>
    match ops[i]? with
    | none => none
    | some o =>
      match recA P ops idx i o st evs with
      | none => none
      | some (r, evs1, o1) =>
        match recsA P ops (bif r.fresh then idx + 1 else idx) rest (app1 st r) evs1 with
        | none => none
        | some (rs, st', evs2, o2) => some (r :: rs, st', evs2, o1 ++ o2)

theorem recsA_spec {ops : Array Oper} : ∀ {a n idx : Nat} {st st' : St} {evs evs' : List EV} {rs : List Rec} {obs : List Prop}, recsA P ops idx (List.range' a n) st evs = some (rs, st', evs', obs) → AllP obs →
    rs.length = n ∧ st' = rs.foldl app1 st ∧ ∀ j r, rs[j]? = some r → ∃ o idx' evs1 evs2 obs1, ops[a + j]? = some o ∧ recA P ops idx' (a + j) o ((rs.take j).foldl app1 st) evs1 = some (r, evs2, obs1) ∧ AllP obs1
  | a, 0, idx, st, st', evs, evs', rs, obs, h, ho => by
    simp only [List.range'_zero, recsA, Option.some.injEq, Prod.mk.injEq] at h
    obtain ⟨rfl, rfl, -, -⟩ := h
    exact ⟨rfl, rfl, by simp⟩
  | a, n + 1, idx, st, st', evs, evs', rs, obs, h, ho => by
    rw [List.range'_succ] at h
    simp only [recsA] at h
    split at h
    · cases h
    · rename_i o hoi
      split at h
      · cases h
      · rename_i r evs1 o1 h1
        split at h
        · cases h
        · rename_i rs1 st1 evs2 o2 h2
          simp only [Option.some.injEq, Prod.mk.injEq] at h
          obtain ⟨rfl, rfl, -, rfl⟩ := h
          obtain ⟨ho1, ho2⟩ := AllP_append.1 ho
          obtain ⟨l, e, f⟩ := recsA_spec h2 ho2
          refine ⟨by simp [l], by simpa using e, fun j r' hj => ?_⟩
          cases j with
          | zero => simp at hj; subst hj; exact ⟨o, idx, evs, evs1, o1, by simpa using hoi, by simpa using h1, ho1⟩
          | succ j =>
            obtain ⟨o', idx', e1, e2, ob, q1, q2, q3⟩ := f j r' (by simpa using hj)
            exact ⟨o', idx', e1, e2, ob, by rw [show a + (j + 1) = a + 1 + j by omega]; exact q1, by rw [show a + (j + 1) = a + 1 + j by omega]; simpa using q2, q3⟩

/-! ### What must come before what -/
def hard (e : Edge) : Bool :=
  match e.ground with
  | .textOnly _ => false
  | .gcOnly _ => false
  | _ => true

def foldE (acc : List Nat) (i : Nat) : List Edge → Option Nat
  | [] => some 0
  | e :: es => match foldE acc i es with
    | none => none
    | some m => bif hard e then (bif Nat.blt e.on i then some (m ||| 2 ^ e.on ||| acc.getD e.on 0) else none) else some m

def ancsA : Nat → List Oper → List Nat → Option (List Nat)
  | _, [], acc => some acc
  | i, o :: os, acc => match foldE acc i o.after.toList with
    | some m => ancsA (i + 1) os (acc ++ [m])
    | none => none

theorem foldE_spec {acc : List Nat} {i : Nat} : ∀ {es : List Edge} {m : Nat}, foldE acc i es = some m →
    (∀ e ∈ es, hard e = true → e.on < i) ∧ ∀ j, m.testBit j = true → ∃ e ∈ es, hard e = true ∧ (j = e.on ∨ (acc.getD e.on 0).testBit j = true)
  | [], m, h => by simp [foldE] at h; subst h; simp
  | e :: es, m, h => by
    simp only [foldE] at h
    split at h
    · cases h
    · rename_i m' hm
      obtain ⟨h1, h2⟩ := foldE_spec hm
      cases he : hard e with
      | false =>
        simp only [he, cond_false, Option.some.injEq] at h
        subst h
        refine ⟨fun e' hm hh => ?_, fun j hj => ?_⟩
        · rcases List.mem_cons.1 hm with rfl | hm
          · rw [he] at hh; cases hh
          · exact h1 e' hm hh
        · obtain ⟨e', q1, q2⟩ := h2 j hj
          exact ⟨e', List.mem_cons_of_mem _ q1, q2⟩
      | true =>
        simp only [he, cond_true] at h
        cases hb : Nat.blt e.on i with
        | false => simp [hb] at h
        | true =>
          simp only [hb, cond_true, Option.some.injEq] at h
          subst h
          refine ⟨fun e' hm hh => ?_, fun j hj => ?_⟩
          · rcases List.mem_cons.1 hm with rfl | hm
            · simpa [Nat.blt_eq] using hb
            · exact h1 e' hm hh
          · rw [Nat.testBit_or, Nat.testBit_or, Bool.or_eq_true, Bool.or_eq_true] at hj
            rcases hj with (hj | hj) | hj
            · obtain ⟨e', q1, q2⟩ := h2 j hj
              exact ⟨e', List.mem_cons_of_mem _ q1, q2⟩
            · rw [Nat.testBit_two_pow] at hj
              exact ⟨e, by simp, he, .inl (by simpa using hj : e.on = j).symm⟩
            · exact ⟨e, by simp, he, .inr hj⟩

/-- The masks: what must lie behind, for each operation. -/
theorem ancsA_spec : ∀ {i : Nat} {os : List Oper} {acc ms : List Nat}, acc.length = i → ancsA i os acc = some ms →
    (∀ j, j < i → ms[j]? = acc[j]?) ∧ ms.length = i + os.length ∧ ∀ j o, os[j]? = some o → ∃ m, ms[i + j]? = some m ∧
      (∀ e ∈ o.after, hard e = true → e.on < i + j) ∧ ∀ p, m.testBit p = true → ∃ e ∈ o.after, hard e = true ∧ (p = e.on ∨ (ms.getD e.on 0).testBit p = true)
  | i, [], acc, ms, hl, h => by
    simp only [ancsA, Option.some.injEq] at h; subst h
    exact ⟨fun _ _ => rfl, by simpa using hl, by simp⟩
  | i, o :: os, acc, ms, hl, h => by
    simp only [ancsA] at h
    split at h
    · rename_i m hm
      obtain ⟨h1, h2, h3⟩ := ancsA_spec (i := i + 1) (acc := acc ++ [m]) (by simp [hl]) h
      refine ⟨fun j hj => by rw [h1 j (by omega), List.getElem?_append_left (by omega)], by simp [h2]; omega, fun j o' hj => ?_⟩
      cases j with
      | zero =>
        simp at hj; subst hj
        obtain ⟨f1, f2⟩ := foldE_spec hm
        refine ⟨m, ?_, fun e he hh => by simpa using f1 e (by simpa using he) hh, fun p hp => ?_⟩
        · rw [Nat.add_zero, h1 i (by omega), List.getElem?_append_right (by omega)]; simp [hl]
        · obtain ⟨e, q1, q2, q3⟩ := f2 p hp
          refine ⟨e, by simpa using q1, q2, q3.imp id fun q => ?_⟩
          have hlt := f1 e q1 q2
          have := h1 e.on (by omega)
          rw [List.getElem?_append_left (by omega)] at this
          rw [List.getD_eq_getElem?_getD] at q ⊢
          rw [this]; exact q
      | succ j =>
        obtain ⟨m', q1, q2⟩ := h3 j o' (by simpa using hj)
        rw [show i + 1 + j = i + (j + 1) by omega] at q1 q2
        exact ⟨m', q1, q2⟩
    · cases h

def later (i : Nat) (r : Rec) : List Rec → List Nat → Bool
  | r' :: rs, m :: ms => (!clash r r' || m.testBit i) && later i r rs ms
  | _, _ => true

def pairsOk : Nat → List Rec → List Nat → Bool
  | i, r :: rs, _ :: ms => later i r rs ms && pairsOk (i + 1) rs ms
  | _, _, _ => true

theorem later_spec {i : Nat} {r : Rec} : ∀ {rs : List Rec} {ms : List Nat}, later i r rs ms = true → ∀ {j : Nat} {r' : Rec} {m : Nat}, rs[j]? = some r' → ms[j]? = some m → clash r r' = true → m.testBit i = true
  | [], ms, h, j, r', m, h1, h2, h3 => by simp at h1
  | a :: rs, [], h, j, r', m, h1, h2, h3 => by simp at h2
  | a :: rs, b :: ms, h, j, r', m, h1, h2, h3 => by
    simp only [later, Bool.and_eq_true, Bool.or_eq_true, Bool.not_eq_true'] at h
    cases j with
    | zero => simp at h1 h2; subst h1; subst h2; exact h.1.resolve_left (by simp [h3])
    | succ j => exact later_spec h.2 (by simpa using h1) (by simpa using h2) h3

theorem pairsOk_spec : ∀ {a : Nat} {rs : List Rec} {ms : List Nat}, pairsOk a rs ms = true → ∀ {i j : Nat} {r r' : Rec} {m : Nat}, i < j → rs[i]? = some r → rs[j]? = some r' → ms[j]? = some m → clash r r' = true →
    m.testBit (a + i) = true
  | a, [], ms, h, i, j, r, r', m, hij, h1, h2, h3, h4 => by simp at h1
  | a, x :: rs, [], h, i, j, r, r', m, hij, h1, h2, h3, h4 => by simp at h3
  | a, x :: rs, y :: ms, h, i, j, r, r', m, hij, h1, h2, h3, h4 => by
    simp only [pairsOk, Bool.and_eq_true] at h
    obtain ⟨j, rfl⟩ : ∃ k, j = k + 1 := ⟨j - 1, by omega⟩
    cases i with
    | zero => simp at h1; subst h1; exact later_spec h.1 (by simpa using h2) (by simpa using h3) h4
    | succ i =>
      have := pairsOk_spec h.2 (i := i) (j := j) (by omega) (by simpa using h1) (by simpa using h2) (by simpa using h3) h4
      rw [show a + (i + 1) = a + 1 + i by omega]; exact this

def trim : List Blk → List Blk
  | [] => []
  | b :: bs => match trim bs, b with
    | [], ⟨false, 0, 0, true, [], false⟩ => []
    | bs, b => b :: bs

theorem trim_spec : ∀ bs : List Blk, ∃ m, bs = trim bs ++ List.replicate m dead
  | [] => ⟨0, rfl⟩
  | b :: bs => by
    obtain ⟨m, hm⟩ := trim_spec bs
    unfold trim
    split
    · rename_i h1
      rw [h1] at hm
      exact ⟨m + 1, by rw [hm]; simp [List.replicate_succ, dead]⟩
    · exact ⟨m, by rw [List.cons_append, ← hm]⟩

def mayNew (o : Oper) : Bool :=
  match o.op with
  | .alloc _ => true
  | .box .. => true
  | .build .. => true
  | .buildSlice .. => true
  | .makeSlice .. => true
  | .call _ => true
  | _ => false

def drawA (P : Program) (ops : Array Oper) (st : St) (evs : List EV) : Option (St × List EV × List Prop) :=
  match recsA P ops st.blks.length (List.range' 0 ops.size) ⟨st.tmps, st.blks ++ List.replicate (ops.toList.countP mayNew) dead⟩ evs with
  | none => none
  | some (rs, st', evs', obs) =>
    match ancsA 0 ops.toList [] with
    | none => none
    | some ms => bif pairsOk 0 rs ms then some (⟨st'.tmps, trim st'.blks⟩, evs', obs) else none

end
end Ax

/- The drawn order: the walk through it. -/
namespace Ax
open Go

section
variable {P : Program} {E : Env} {K K' : List Item} {st st' : St}

theorem binds_hard {md : Region.Mode} {e : Edge} (h : hard e = true) : Region.binds md e = true := by
  unfold hard at h; unfold Region.binds
  cases hg : e.ground <;> simp [hg] at h ⊢

theorem binds_any {e : Edge} : Region.binds .any e = hard e := by
  unfold hard; unfold Region.binds
  cases hg : e.ground <;> simp [hg]

structure Draw (P : Program) (ops : Array Oper) (st0 : St) (rs : List Rec) (ms : List Nat) : Prop where
  len : rs.length = ops.size
  mlen : ms.length = ops.size
  rec' : ∀ j r, rs[j]? = some r → ∃ o idx' evs1 evs2 obs1, ops[j]? = some o ∧ recA P ops idx' j o ((rs.take j).foldl app1 st0) evs1 = some (r, evs2, obs1) ∧ AllP obs1
  anc : ∀ j o, ops[j]? = some o → ∃ m, ms[j]? = some m ∧ (∀ e ∈ o.after, hard e = true → e.on < j) ∧ ∀ p, m.testBit p = true → ∃ e ∈ o.after, hard e = true ∧ (p = e.on ∨ (ms.getD e.on 0).testBit p = true)
  pairs : pairsOk 0 rs ms = true

/-- Downwards closed. -/
def Down (ops : Array Oper) (D : Nat → Bool) : Prop := ∀ i o, ops[i]? = some o → D i = true → ∀ e ∈ o.after, hard e = true → D e.on = true

theorem Draw.down {ops : Array Oper} {st0 : St} {rs : List Rec} {ms : List Nat} (h : Draw P ops st0 rs ms) {D : Nat → Bool} (hd : Down ops D) :
    ∀ (i : Nat) (o : Oper) (m : Nat), ops[i]? = some o → ms[i]? = some m → D i = true → ∀ p, m.testBit p = true → D p = true := by
  intro i
  induction i using Nat.strongRecOn with
  | ind i ih =>
    intro o m ho hm hD p hp
    obtain ⟨m', q1, q2, q3⟩ := h.anc i o ho
    rw [hm] at q1; cases q1
    obtain ⟨e, e1, e2, e3⟩ := q3 p hp
    have hDe := hd i o ho hD e e1 e2
    rcases e3 with rfl | e3
    · exact hDe
    · have hlt := q2 e e1 e2
      have hs : i < ops.size := (Array.getElem?_eq_some_iff.1 ho).1
      have ho' : ops[e.on]? = some ops[e.on] := by simp
      have hm' : ms[e.on]? = some (ms.getD e.on 0) := by
        have : e.on < ms.length := by rw [h.mlen]; omega
        simp [List.getD, List.getElem?_eq_getElem this]
      exact ih e.on hlt _ _ ho' hm' hDe p e3

theorem draw_one {ops : Array Oper} {st0 : St} {rs : List Rec} {ms : List Nat} (h : Draw P ops st0 rs ms) (hk : E.b.kind = .normal) {D D' : Nat → Bool} (hd : Down ops D) {i : Nat} {o : Oper} {rest : List Nat} {k : List Item}
    (ho : ops[i]? = some o) (hi : D i = false) (hpre : ∀ e ∈ o.after, hard e = true → D e.on = true) (hD' : ∀ j, D' j = (D j || Nat.beq j i))
    (hlt : ∀ j, D j = true → j < ops.size)
    (hg : G P E (.inRegion ops rest :: k) (mix D' 0 rs st0)) : G P E (.inRegion ops (i :: rest) :: k) (mix D 0 rs st0) := by
  have his : i < ops.size := (Array.getElem?_eq_some_iff.1 ho).1
  have hir : i < rs.length := by rw [h.len]; exact his
  obtain ⟨r, hr⟩ : ∃ r, rs[i]? = some r := ⟨rs[i], by simp [hir]⟩
  obtain ⟨o', idx', evs1, evs2, obs1, q1, q2, q3⟩ := h.rec' i r hr
  rw [ho] at q1; cases q1
  obtain ⟨m, m1, m2, m3⟩ := h.anc i o ho
  have anc : ∀ p, m.testBit p = true → D p = true := by
    intro p hp
    obtain ⟨e, e1, e2, e3⟩ := m3 p hp
    have hDe := hpre e e1 e2
    rcases e3 with rfl | e3
    · exact hDe
    · have hl := m2 e e1 e2
      have ho' : ops[e.on]? = some ops[e.on] := by simp
      have hm' : ms[e.on]? = some (ms.getD e.on 0) := by
        have : e.on < ms.length := by rw [h.mlen]; omega
        simp [List.getD, List.getElem?_eq_getElem this]
      exact h.down hd e.on _ _ ho' hm' hDe p e3
  -- who clashes with 'i'
  have clsh : ∀ j r', rs[j]? = some r' → clash r' r = true → (j < i → D j = true) ∧ (i < j → D j = false) := by
    intro j r' hj hc
    refine ⟨fun hji => ?_, fun hij => ?_⟩
    · exact anc j (by simpa using pairsOk_spec h.pairs hji hj hr m1 hc)
    · cases hDj : D j with
      | false => rfl
      | true =>
        have hjs := hlt j hDj
        have hm' : ms[j]? = some (ms.getD j 0) := by
          have : j < ms.length := by rw [h.mlen]; omega
          simp [List.getD, List.getElem?_eq_getElem this]
        have := pairsOk_spec h.pairs hij hr hj hm' (by rw [clash_symm]; exact hc)
        have h2 := h.down hd j ops[j] _ (by simp [hjs]) hm' hDj i (by simpa using this)
        rw [hi] at h2; cases h2
  have blt : ∀ {a b : Nat}, Nat.blt a b = decide (a < b) := fun {a b} => by
    rw [Bool.eq_iff_iff, Nat.blt_eq]; simp
  have same : ∀ j r', rs[j]? = some r' → (clash r' r = true ∨ j = i) → D j = Nat.blt j i := by
    intro j r' hj hc
    rcases Nat.lt_trichotomy j i with hlt' | rfl | hgt
    · rw [(clsh j r' hj (hc.resolve_right (by omega))).1 hlt', blt]; simp [hlt']
    · rw [hi, blt]; simp
    · rw [(clsh j r' hj (hc.resolve_right (by omega))).2 hgt, blt]; simp; omega
  have hrec : recA P ops idx' i o (mix D 0 rs st0) evs1 = some (r, evs2, obs1) := by
    refine recA_congr q2 (fun t ht => ?_) (fun kk hk => ?_)
    · have := mix_pre (a := 0) (i := i) (rs := rs) (s := st0)
      simp only [Nat.zero_add] at this
      rw [← this]
      refine mix_tmps (fun j r' hj hd => ?_) rfl
      simp only [Nat.zero_add]
      refine same j r' hj (.inl ?_)
      have hw : wrd r' r = true := by
        simp only [wrd, hd, Bool.or_eq_true, List.any_eq_true]
        exact .inl ⟨t, ht, by simp⟩
      simp [clash, hw]
    · have := mix_pre (a := 0) (i := i) (rs := rs) (s := st0)
      simp only [Nat.zero_add] at this
      rw [← this]
      refine mix_blks (fun j r' b hj hd => ?_) rfl
      simp only [Nat.zero_add]
      refine same j r' hj (.inl ?_)
      have hw : wrd r' r = true := by
        simp only [wrd, hd, Bool.or_eq_true, List.any_eq_true]
        exact .inr ⟨kk, hk, by simp⟩
      simp [clash, hw]
  refine rec_step ho hk hrec q3 ?_
  rw [← mix_insert hi hD' (Nat.zero_le i) (by simpa using hr) fun j r' hj hlt' hDj => ?_]
  · exact hg
  · simp only [Nat.zero_add] at hlt' hDj
    cases hw : wr2 r r' with
    | false => rfl
    | true =>
      have := (clsh j r' hj (by rw [clash_symm]; simp [clash, hw])).2 hlt'
      rw [this] at hDj; cases hDj

def unl (n : Nat) (listed : Array Bool) : List Nat := (List.range n).filter fun i => !listed.getD i true

theorem draw_go {ops : Array Oper} {st0 : St} {rs : List Rec} {ms : List Nat} (h : Draw P ops st0 rs ms) (hk : E.b.kind = .normal) {k : List Item} (hg : G P E k (rs.foldl app1 st0)) :
    ∀ (fuel t : Nat) (listed : Array Bool), listed.size = ops.size → (unl ops.size listed).length ≤ fuel → Down ops (fun i => listed.getD i false) →
      G P E (.inRegion ops (Region.linearise.go .any ops fuel t listed []) :: k) (mix (fun i => listed.getD i false) 0 rs st0) := by
  have fin : ∀ listed : Array Bool, listed.size = ops.size → (∀ i, i < ops.size → listed.getD i false = true) → G P E (.inRegion ops [] :: k) (mix (fun i => listed.getD i false) 0 rs st0) := by
    intro listed hs hall
    rw [mix_all fun j hj => by rw [Nat.zero_add]; exact hall j (by rw [← h.len]; exact hj)]
    exact .of_step (fun a w => stepR_region_end) hg
  have gd : ∀ (listed : Array Bool) (i : Nat), listed.size = ops.size → i < ops.size → listed.getD i true = listed.getD i false := by
    intro listed i hs hi
    have : i < listed.size := by omega
    simp [Array.getD, this]
  intro fuel
  induction fuel with
  | zero =>
    intro t listed hs hf hd
    simp only [Region.linearise.go, List.reverse_nil]
    refine fin listed hs fun i hi => ?_
    have h0 : unl ops.size listed = [] := List.length_eq_zero_iff.1 (by omega)
    cases hc : listed.getD i false with
    | true => rfl
    | false =>
      have : i ∈ unl ops.size listed := by
        unfold unl; rw [List.mem_filter, List.mem_range]
        exact ⟨hi, by rw [gd listed i hs hi, hc]; rfl⟩
      rw [h0] at this; cases this
  | succ fuel ih =>
    intro t listed hs hf hd
    simp only [Region.linearise.go]
    change G P E (.inRegion ops (match (Region.ready .any ops listed)[t % (Region.ready .any ops listed).length]? with
      | some i => Region.linearise.go .any ops fuel (t / (Region.ready .any ops listed).length) (listed.setIfInBounds i true) [i]
      | none => [].reverse) :: k) _
    cases hi : (Region.ready .any ops listed)[t % (Region.ready .any ops listed).length]? with
    | none =>
      have hnil : Region.ready .any ops listed = [] := by
        cases hr : Region.ready .any ops listed with
        | nil => rfl
        | cons x xs =>
          rw [hr] at hi
          have hlt : t % (x :: xs).length < (x :: xs).length := Nat.mod_lt _ (by simp)
          simp at hi
          simp at hlt
          omega
      simp only [List.reverse_nil]
      refine fin listed hs fun i => ?_
      induction i using Nat.strongRecOn with
      | ind i ihi =>
        intro hi'
        cases hc : listed.getD i false with
        | true => rfl
        | false =>
          have hop : ops[i]? = some ops[i] := by simp [hi']
          have : i ∈ Region.ready .any ops listed := by
            rw [mem_ready]
            refine ⟨by rw [gd listed i hs hi', hc], ops[i], hop, fun e he hb => ?_⟩
            rw [binds_any] at hb
            obtain ⟨m, m1, m2, m3⟩ := h.anc i _ hop
            have := m2 e he hb
            exact ihi e.on this (by omega)
          rw [hnil] at this; cases this
    | some i =>
      simp only
      rw [linearise_go_acc, List.reverse_singleton, List.singleton_append]
      have hmem := List.mem_of_getElem? hi
      obtain ⟨h0, o, ho, hpre⟩ := mem_ready.1 hmem
      have his : i < ops.size := (Array.getElem?_eq_some_iff.1 ho).1
      have h0' : listed.getD i false = false := by rw [← gd listed i hs his]; exact h0
      have hset : ∀ j, (listed.setIfInBounds i true).getD j false = (listed.getD j false || Nat.beq j i) := by
        intro j
        by_cases e : j = i
        · subst e
          have : j < listed.size := by omega
          simp [Array.getD, this]
        · have : Nat.beq j i = false := by rw [← Bool.not_eq_true, Nat.beq_eq]; exact e
          rw [getD_set_ne false (Ne.symm e), this, Bool.or_false]
      refine draw_one h hk hd ho h0' (fun e he hh => hpre e he (by rw [binds_any]; exact hh)) hset (fun j hj => ?_) ?_
      · rcases Nat.lt_or_ge j ops.size with h1 | h1
        · exact h1
        · have h1' : listed.size ≤ j := by omega
          simp [Array.getD, Nat.not_lt.2 h1'] at hj
      · refine ih _ _ (by simpa using hs) ?_ ?_
        · have hsub : (unl ops.size (listed.setIfInBounds i true)) = (unl ops.size listed).filter fun j => !Nat.beq j i := by
            unfold unl
            rw [List.filter_filter]
            refine List.filter_congr fun j hj => ?_
            have hj' := List.mem_range.1 hj
            rw [gd _ j (by simpa using hs) hj', hset j, gd listed j hs hj']
            cases listed.getD j false <;> cases Nat.beq j i <;> rfl
          have hlt : ((unl ops.size listed).filter fun j => !Nat.beq j i).length < (unl ops.size listed).length := by
            rw [List.length_filter_lt_length_iff_exists]
            refine ⟨i, ?_, by simp⟩
            unfold unl; rw [List.mem_filter, List.mem_range]
            exact ⟨his, by rw [h0]; rfl⟩
          rw [hsub]; omega
        · intro j oj hoj hDj e he hh
          simp only [hset] at hDj ⊢
          rw [Bool.or_eq_true] at hDj ⊢
          rcases hDj with hDj | hDj
          · exact .inl (hd j oj hoj hDj e he hh)
          · rw [Nat.beq_eq] at hDj; subst hDj
            rw [ho] at hoj; cases hoj
            exact .inl (hpre e he (by rw [binds_any]; exact hh))

/-- A region whose order is drawn. -/
theorem draw_step {ops : Array Oper} {id : Nat} {k : List Item} {evs evs' : List EV} {obs : List Prop} (hk : E.b.kind = .normal) (hmx : P.follows .mixedOrders = true)
    (h : drawA P ops st evs = some (st', evs', obs)) (ho : AllP obs) (hg : G P E k st') : G P E (.code (.region id ops true) :: k) st := by
  unfold drawA at h
  split at h
  · cases h
  · rename_i rs st1 evs1 obs1 h1
    split at h
    · cases h
    · rename_i ms hms
      cases hp : pairsOk 0 rs ms with
      | false => simp [hp] at h
      | true =>
        simp only [hp, cond_true, Option.some.injEq, Prod.mk.injEq] at h
        obtain ⟨rfl, -, rfl⟩ := h
        obtain ⟨l, e, f⟩ := recsA_spec h1 ho
        obtain ⟨a1, a2, a3⟩ := ancsA_spec (i := 0) (acc := []) rfl hms
        have hD : Draw P ops ⟨st.tmps, st.blks ++ List.replicate (ops.toList.countP mayNew) dead⟩ rs ms :=
          ⟨l, by simpa using a2, fun j r hj => by simpa using f j r hj, fun j o hj => by simpa using a3 j o (by simpa using hj), hp⟩
        have hg2 : G P E k (rs.foldl app1 ⟨st.tmps, st.blks ++ List.replicate (ops.toList.countP mayNew) dead⟩) := by
          rw [← e]
          obtain ⟨m, hm⟩ := trim_spec st1.blks
          have : st1 = ⟨st1.tmps, trim st1.blks ++ List.replicate m dead⟩ := by cases st1; simp only at hm ⊢; rw [← hm]
          rw [this]; exact G_pop hg
        intro C Z a w hr
        have hstep := stepR_region_draw (P := P) (b := E.b) (a := a) (k := k) (cs := E.cs) (w := w) (ops := ops) (id := id)
        refine .step (.one hstep) ?_
        have hrep : ∀ j, (Array.replicate ops.size false).getD j false = false := by
          intro j
          by_cases hj : j < ops.size <;> simp [Array.getD, hj]
        have hgo := draw_go hD hk hg2 ops.size (w.tape w.drawn (.order E.b.fn id)) (Array.replicate ops.size false) (by simp) (by
          unfold unl; exact Nat.le_trans (List.length_filter_le _ _) (by simp)) (by intro i o hio hDi; have := (hrep i).symm.trans hDi; cases this)
        simp only [Region.schedule, hmx, Bool.true_or, if_true]
        rw [mix_none (fun j => hrep j)] at hgo
        have ev : EvoC w { w with drawn := w.drawn + 1 } := ⟨fun _ _ _ _ h => h, rfl⟩
        have hfr := hr.mem.frame
        exact hgo C Z a { w with drawn := w.drawn + 1 } ⟨⟨hr.tmp.1, fun i c v p q => (hr.tmp.2 i c v p q).evoC ev⟩,
          (hr.mem.evoC ev ⟨hfr.os, hfr.tape, hfr.output, hfr.size, hfr.same⟩).pushN _, hr.marks, ⟨hr.gh.1, fun i c v p q => (hr.gh.2 i c v p q).evoC ev⟩⟩

end
end Ax

/- The walk over a path of code. -/
namespace Ax
open Go

section
variable {P : Program} {E : Env} {K K' : List Item} {st st' : St}

def tick : List EV → List EV
  | .hold (j + 1) :: evs => .hold j :: evs
  | evs => evs

/-- What comes next, in text order, up to where 'stop' is told: a loop's body, a range over a function, a return, a jump out of a round, or the end. -/
def walk (P : Program) : Nat → List Item → St → List EV → Option (List Item × St × List EV × List Prop)
  | 0, K, st, evs => some (K, st, evs, [])
  | n + 1, K, st, evs =>
    match K with
    | .code .skip :: k => walk P n k st evs
    | .inBlock _ :: k => walk P n k st evs
    | .code (.seq x y) :: k => walk P n (.code x :: .code y :: k) st evs
    | .code (.block id body) :: k => walk P n (.code body :: .inBlock id :: k) st evs
    | .code (.cond c x y) :: k =>
      (match evalO st.tmps c, evs with
      | .bool t, .b u :: evs => (match walk P n (.code (bif u then x else y) :: k) st evs with
        | some (K', st', evs', obs) => some (K', st', evs', (t = u) :: obs)
        | none => none)
      | _, _ => none)
    | .code (.region _ ops false) :: k => walk P n (.inRegion ops (List.range' 0 ops.size) :: k) st evs
    | .code (.region _ ops true) :: k =>
      (match drawA P ops st evs with
      | some (st1, evs1, o1) => (match walk P n k st1 evs1 with
        | some (K', st', evs', obs) => some (K', st', evs', o1 ++ obs)
        | none => none)
      | none => none)
    | .inRegion ops [] :: k => walk P n k st evs
    | .inRegion ops (i :: is) :: k =>
      (match evs with
      | .hold 0 :: evs => some (.inRegion ops (i :: is) :: k, st, evs, [])
      | evs => (match ops[i]? with
        | none => none
        | some o => (match opA P ops i o st (tick evs) with
          | none => none
          | some (st1, evs1, o1) => (match walk P n (.inRegion ops is :: k) st1 evs1 with
            | some (K', st', evs', obs) => some (K', st', evs', o1 ++ obs)
            | none => none))))
    | .code (.exit id) :: k => (match exitTo id k with
      | some k' => walk P n k' st evs
      | none => some (.code (.exit id) :: k, st, evs, []))
    | .code (.loop body) :: k => (match evs with
      | .stop :: evs => some (.code body :: .inLoop body :: k, st, evs, [])
      | evs => walk P n (.code body :: .inLoop body :: k) st evs)
    | .inLoop body :: k => (match evs with
      | .stop :: evs => some (.code body :: .inLoop body :: k, st, evs, [])
      | evs => walk P n (.code body :: .inLoop body :: k) st evs)
    | K => some (K, st, evs, [])

theorem walk_step (hk : E.b.kind = .normal) (hmx : P.follows .mixedOrders = true) : ∀ {n : Nat} {K K' : List Item} {st st' : St} {evs evs' : List EV} {obs : List Prop},
    walk P n K st evs = some (K', st', evs', obs) → AllP obs → G P E K' st' → G P E K st
  | 0, K, K', st, st', evs, evs', obs, h, ho, hg => by
    simp only [walk, Option.some.injEq, Prod.mk.injEq] at h
    obtain ⟨rfl, rfl, -, -⟩ := h
    exact hg
  | n + 1, K, K', st, st', evs, evs', obs, h, ho, hg => by
    unfold walk at h
    split at h
    · exact .of_step (fun a w => stepR_skip) (walk_step hk hmx h ho hg)
    · exact .of_step (fun a w => stepR_inBlock) (walk_step hk hmx h ho hg)
    · exact .of_step (fun a w => stepR_seq) (walk_step hk hmx h ho hg)
    · exact .of_step (fun a w => stepR_block) (walk_step hk hmx h ho hg)
    · rename_i c x y k
      split at h
      · rename_i t u evs1 hc
        split at h
        · rename_i K1 st1 evs2 obs1 h1
          simp only [Option.some.injEq, Prod.mk.injEq] at h
          obtain ⟨rfl, rfl, rfl, rfl⟩ := h
          obtain ⟨rfl, ho⟩ := ho
          have h2 := walk_step hk hmx h1 ho hg
          intro C Z a w hr
          have hv := evalO_sound hr.tmp c
          rw [hc] at hv
          generalize hcv : a.eval c = cv at hv
          cases hv
          refine .step (.one (stepR_cond hcv)) ?_
          have := h2 C Z a w hr
          cases t <;> exact this
        · cases h
      · cases h
    · rename_i id ops k
      have := walk_step hk hmx h ho hg
      rw [← List.range_eq_range'] at this
      exact .of_step (fun a w => stepR_region) this
    · rename_i id ops k
      split at h
      · rename_i st1 evs1 o1 h1
        split at h
        · rename_i K2 st2 evs2 obs2 h2
          simp only [Option.some.injEq, Prod.mk.injEq] at h
          obtain ⟨rfl, rfl, rfl, rfl⟩ := h
          obtain ⟨a1, a2⟩ := AllP_append.1 ho
          exact draw_step hk hmx h1 a1 (walk_step hk hmx h2 a2 hg)
        · cases h
      · cases h
    · exact .of_step (fun a w => stepR_region_end) (walk_step hk hmx h ho hg)
    · rename_i ops i is k
      split at h
      · simp only [Option.some.injEq, Prod.mk.injEq] at h
        obtain ⟨rfl, rfl, -, -⟩ := h
        exact hg
      · split at h
        · cases h
        · rename_i o hoi
          split at h
          · cases h
          · rename_i st1 evs1 o1 h1
            split at h
            · rename_i K2 st2 evs2 obs2 h2
              simp only [Option.some.injEq, Prod.mk.injEq] at h
              obtain ⟨rfl, rfl, rfl, rfl⟩ := h
              obtain ⟨a1, a2⟩ := AllP_append.1 ho
              exact op_step hoi hk h1 a1 (walk_step hk hmx h2 a2 hg)
            · cases h
    · rename_i id k
      split at h
      · rename_i k' hx
        exact .of_step (fun a w => stepR_exit hx) (walk_step hk hmx h ho hg)
      · simp only [Option.some.injEq, Prod.mk.injEq] at h
        obtain ⟨rfl, rfl, -, -⟩ := h
        exact hg
    · split at h
      · simp only [Option.some.injEq, Prod.mk.injEq] at h
        obtain ⟨rfl, rfl, -, -⟩ := h
        exact .of_step (fun a w => stepR_loop) hg
      · exact .of_step (fun a w => stepR_loop) (walk_step hk hmx h ho hg)
    · split at h
      · simp only [Option.some.injEq, Prod.mk.injEq] at h
        obtain ⟨rfl, rfl, -, -⟩ := h
        exact .of_step (fun a w => stepR_inLoop) hg
      · exact .of_step (fun a w => stepR_inLoop) (walk_step hk hmx h ho hg)
    · simp only [Option.some.injEq, Prod.mk.injEq] at h
      obtain ⟨rfl, rfl, -, -⟩ := h
      exact hg

/-- A function that only reads, called by its value. -/
theorem pureF_of {f : FuncId} {fn : Func} {c : Code} {first args cap : List AV} {res : AV} (hf : P.funcs[f]? = some fn) (hname : (fn.name == "runtime.NumGoroutine") = false) (hb : fn.body = some c)
    (h : Pure P f (first ++ args ++ cap) res) : PureF P (.clos f first cap) args res := by
  intro Z w cf cargs hz hcf ha
  cases hcf with
  | @clos _ _ _ _ fa ca hl h1 hl' h2 =>
    refine ⟨{ target := .fn (.func f) ca, args := fa ++ cargs }, f, fa ++ cargs ++ ca, rfl, ?_, ?_⟩
    · have := Go.Proofs.enters_of (P := P) hf hname hb (fa ++ cargs ++ ca) w
      simpa [invoke] using this
    · refine h Z w _ hz ⟨by have := ha.1; simp at this; simp [hl, hl', this], fun i x y p q => ?_⟩
      have hal : args.length = cargs.size := by simpa using ha.1
      simp only [Array.toList_append] at q
      rw [List.append_assoc] at p q
      by_cases i1 : i < first.length
      · rw [List.getElem?_append_left i1] at p
        rw [List.getElem?_append_left (by simpa [← hl] using i1)] at q
        exact h1 i x y p (by simpa using q)
      · rw [List.getElem?_append_right (by omega)] at p
        rw [List.getElem?_append_right (by simp; omega)] at q
        have e1 : fa.toList.length = first.length := by simp [hl]
        rw [e1] at q
        by_cases i2 : i - first.length < args.length
        · rw [List.getElem?_append_left i2] at p
          rw [List.getElem?_append_left (by simpa [← hal] using i2)] at q
          exact ha.2 _ x y p q
        · rw [List.getElem?_append_right (by omega)] at p
          rw [List.getElem?_append_right (by simp; omega)] at q
          have e2 : cargs.toList.length = args.length := by simp [hal]
          rw [e2] at q
          exact h2 _ x y p (by simpa using q)

end
end Ax

/- The shapes in which paths are told: to a loop's head, to the end. -/
namespace Ax
open Go

/-- The place in the code, by the tests' outcomes. -/
def kAt : Nat → List Item → List EV → List Item
  | 0, K, _ => K
  | n + 1, K, evs =>
    match K with
    | .code .skip :: k => kAt n k evs
    | .inBlock _ :: k => kAt n k evs
    | .code (.seq x y) :: k => kAt n (.code x :: .code y :: k) evs
    | .code (.block id body) :: k => kAt n (.code body :: .inBlock id :: k) evs
    | .code (.cond _ x y) :: k => (match evs with
      | .b u :: evs => kAt n (.code (bif u then x else y) :: k) evs
      | _ => K)
    | .code (.region ..) :: k => kAt n k evs
    | .inRegion .. :: k => kAt n k evs
    | .code (.exit id) :: k => (match exitTo id k with
      | some k' => kAt n k' evs
      | none => K)
    | .code (.loop body) :: k => (match evs with
      | .stop :: _ => .code body :: .inLoop body :: k
      | evs => kAt n (.code body :: .inLoop body :: k) evs)
    | .inLoop body :: k => (match evs with
      | .stop :: _ => .code body :: .inLoop body :: k
      | evs => kAt n (.code body :: .inLoop body :: k) evs)
    | K => K

def bodyAt (P : Program) (f : FuncId) : Code := ((P.funcs[f]?).bind (·.body)).getD .skip

section
variable {P : Program} {E : Env} {K K' : List Item} {st st' : St}

def isEnd : List Item → Bool
  | [] => true
  | .code .ret :: _ => true
  | _ => false

theorem isEnd_spec {K : List Item} (h : isEnd K = true) : K = [] ∨ ∃ k, K = .code .ret :: k := by
  unfold isEnd at h
  split at h
  · exact .inl rfl
  · exact .inr ⟨_, rfl⟩
  · cases h

/-- To the end: the result, laid down. -/
def endA (P : Program) (fn : Func) (n : Nat) (K : List Item) (st : St) (evs : List EV) : Option (AV × List Prop) :=
  match walk P n K st evs with
  | some (K', st', evs', o1) =>
    (match isEnd K', resA P st' fn.results.toList evs' with
    | true, some (vs, _, o2) =>
      (match (frz 8 (tupA vs)).run (st'.blks[·]?) with
      | some (r, o3) => some (r, o1 ++ (o2 ++ o3))
      | none => none)
    | _, _ => none)
  | none => none

theorem end_step {n : Nat} {f : FuncId} {fn : Func} {evs : List EV} {r res : AV} {obs : List Prop} (hE : PureE P f res E) (hf : P.funcs[f]? = some fn) (hmx : P.follows .mixedOrders = true)
    (h : endA P fn n K st evs = some (r, obs)) (ho : AllP obs) (hr : r = res) : G P E K st := by
  subst hr
  unfold endA at h
  split at h
  · rename_i K' st' evs' o1 h1
    split at h
    · rename_i vs evs2 o2 hK h2
      split at h
      · rename_i r' o3 h3
        simp only [Option.some.injEq, Prod.mk.injEq] at h
        obtain ⟨rfl, rfl⟩ := h
        obtain ⟨a1, a2⟩ := AllP_append.1 ho
        obtain ⟨a2, a3⟩ := AllP_append.1 a2
        exact walk_step hE.2.1 hmx h1 a1 (G_pure hE hf h2 a2 h3 a3 (isEnd_spec hK))
      · cases h
    · cases h
  · cases h

/-- To a loop's head, with what is no more needed forgotten. -/
def segA (P : Program) (live : List Nat) (m n : Nat) (K : List Item) (st : St) (evs : List EV) : Option (List Item × St × List Prop) :=
  match walk P n K st evs with
  | some (K', st', _, o1) => (match weak live m st' with
    | some st2 => some (K', st2, o1)
    | none => none)
  | none => none

theorem seg_step {n m : Nat} {live : List Nat} {f : FuncId} {evs : List EV} {res : AV} {obs : List Prop} (hE : PureE P f res E) (hmx : P.follows .mixedOrders = true)
    (h : segA P live m n K st evs = some (K', st', obs)) (ho : AllP obs) (hg : G P E K' st') : G P E K st := by
  unfold segA at h
  split at h
  · rename_i K1 st1 evs1 o1 h1
    split at h
    · rename_i st2 h2
      simp only [Option.some.injEq, Prod.mk.injEq] at h
      obtain ⟨rfl, rfl, rfl⟩ := h
      exact walk_step hE.2.1 hmx h1 ho (weak_step (by rw [hE.2.2.2.2.1]; rfl) h2 hg)
    · cases h
  · cases h

end
end Ax

/- Iterators: functions that call what they are handed ('yield') with one thing after the other. -/
namespace Ax
open Go

def Own (C : Ctx) (b : Nat) : Prop := ∃ k o, C.β k = .loc b o

section
variable {P : Program} {Z0 M Z F M' : Nat → Prop} {w0 w w' : World} {C C' : Ctx} {blks blks' : List Blk}

theorem Mem.apart (hm : Mem Z0 M w0 C Z blks w) (hf : Fr w F w') (h1 : ∀ b, Own C b → ¬ F b) (h2 : ∀ b, Z b → ¬ F b) (hM' : ∀ b, Own C b → M' b) : Mem Z M' w' C Z blks w' ∧ Evo C Z Z w w' := by
  have hevo : Evo C Z Z w w' := ⟨fun b h => h, fun b hz => hf.same b (hm.zlt b hz) (h2 b hz), fun k blk o arr e hb h => ⟨arr, by rw [hf.same blk (hm.own k blk o hb).1 (h1 blk ⟨k, o, hb⟩)]; exact h, rfl⟩⟩
  refine ⟨⟨fun k b hb hl => ?_, hm.gen, hm.dd, hm.dom, hm.inj, fun k b o h => ⟨Nat.lt_of_lt_of_le (hm.own k b o h).1 hf.size, (hm.own k b o h).2.1, .inl (hM' b ⟨k, o, h⟩)⟩,
    fun b hz => Nat.lt_of_lt_of_le (hm.zlt b hz) hf.size, fun b hz => hz, fun b hz => .inl hz, Fr.refl _ _⟩, hevo⟩
  obtain ⟨q1, q2⟩ := hm.blk k b hb hl
  refine ⟨q1, ?_⟩
  cases hs : C.β k with
  | absent => simp [hs] at q2
  | unborn => simp only [hs] at q2 ⊢; exact q2
  | loc blk o =>
    simp only [hs] at q2 ⊢
    obtain ⟨arr, e, h3, h4, h5⟩ := q2
    refine ⟨arr, e, by rw [hf.same blk (hm.own k blk o hs).1 (h1 blk ⟨k, o, hs⟩)]; exact h3, h4, fun i c hi => ?_⟩
    obtain ⟨v, h6, h7⟩ := h5 i c hi
    refine ⟨v, h6, ?_⟩
    cases hfl : b.flat with
    | true => simp only [hfl, if_true] at h7 ⊢; exact h7.mono hevo.zero
    | false => simp only [hfl, Bool.false_eq_true, if_false] at h7 ⊢; exact h7.mono hevo

theorem Fr.trans {w0 w w' : World} {M F : Nat → Prop} (h : Fr w0 M w) (h' : Fr w F w') (hF : ∀ b, b < w0.heap.size → ¬ M b → ¬ F b) : Fr w0 M w' :=
  ⟨h'.os.trans h.os, h'.tape.trans h.tape, h'.output.trans h.output, Nat.le_trans h.size h'.size, fun b hb hM => by
    rw [h'.same b (Nat.lt_of_lt_of_le hb h.size) (hF b hb hM)]; exact h.same b hb hM⟩

theorem Mem.keep (hm : Mem Z0 M w0 C Z blks w) (hf : Fr w F w') (h1 : ∀ b, Own C b → ¬ F b) (h2 : ∀ b, Z b → ¬ F b) (h3 : ∀ b, b < w0.heap.size → ¬ M b → ¬ F b) : Mem Z0 M w0 C Z blks w' ∧ Evo C Z Z w w' := by
  obtain ⟨a, e⟩ := hm.apart (M' := Own C) hf h1 h2 (fun _ h => h)
  exact ⟨⟨a.blk, hm.gen, hm.dd, hm.dom, hm.inj, fun k b o h => ⟨(a.own k b o h).1, (hm.own k b o h).2⟩, a.zlt, hm.z0, hm.zsub, hm.frame.trans hf h3⟩, e⟩

theorem Mem.rebase (hm : Mem Z0 M w0 C Z blks w) (hM' : ∀ b, Own C b → M' b) : Mem Z M' w C Z blks w :=
  ⟨hm.blk, hm.gen, hm.dd, hm.dom, hm.inj, fun k b o h => ⟨(hm.own k b o h).1, (hm.own k b o h).2.1, .inl (hM' b ⟨k, o, h⟩)⟩, hm.zlt, fun _ h => h, fun _ h => .inl h, Fr.refl _ _⟩

theorem Mem.back {Z' : Nat → Prop} (hm : Mem Z0 M w0 C Z blks w) (h : Mem Z M' w C' Z' blks' w') (hM : ∀ b, M' b → M b ∨ w0.heap.size ≤ b) : Mem Z0 M w0 C' Z' blks' w' := by
  have hs := hm.frame.size
  refine ⟨h.blk, h.gen, h.dd, h.dom, h.inj, fun k b o ho => ?_, h.zlt, fun b hz => h.z0 b (hm.z0 b hz), fun b hz => ?_, ?_⟩
  · obtain ⟨a, b', c⟩ := h.own k b o ho
    refine ⟨a, b', ?_⟩
    rcases c with c | c
    · exact hM b c
    · exact .inr (by omega)
  · rcases h.zsub b hz with h1 | h1 | h1
    · exact hm.zsub b h1
    · exact .inr (hM b h1)
    · exact .inr (.inr (by omega))
  · exact hm.frame.trans h.frame fun b hb hnM hm' => by
      rcases hM b hm' with h1 | h1
      · exact hnM h1
      · omega

/-! ### Whoever ranges: 'F' is what a round may turn, 'Kp' what it must find again -/
abbrev Sd := (Nat → Prop) → (Nat → Prop) → World → Prop

structure Stable (Y : Sd) : Prop where
  lt : ∀ F Kp w, Y F Kp w → ∀ b, F b ∨ Kp b → b < w.heap.size
  mv : ∀ F Kp w Mi w', Y F Kp w → Fr w Mi w' → (∀ b, Mi b → ¬ F b ∧ ¬ Kp b) → Y F Kp w'

def YCall (P : Program) (yv : Value) (cargs : Array Value) (w : World) (Q : Bool → World → Prop) : Prop :=
  ∃ l fn tm asg bd, yv = .func (.yield l) #[] #[] ∧ (Instr.yield l cargs).run P w = .ok (.round l fn tm asg bd) w ∧
    ∀ (c : Frame) (cs : List Frame), ∃ t w', Q t w' ∧ Steps P (lone (Frame.round l fn tm asg bd .normal) (c :: cs) w) (lone (c.finish (.bool t)) cs w')

def nxt (cont : Nat → Bool) (n : Nat) : Option Nat := bif cont n then some (n + 1) else none

def Yields (P : Program) (yv : Value) (Y : Option Nat → Sd) (cont : Nat → Bool) (xs : List (List AV)) : Prop :=
  ∀ i x, xs[i]? = some x → ∀ F Kp w, Y (some i) F Kp w → ∀ cargs : Array Value, VRs (fun _ => False) w C0 x cargs.toList →
    YCall P yv cargs w fun t w' => t = cont i ∧ ∃ F' Kp', Y (nxt cont i) F' Kp' w' ∧ Fr w F w' ∧ (∀ b, F' b → F b ∨ w.heap.size ≤ b) ∧ (∀ b, Kp' b → F b ∨ Kp b ∨ w.heap.size ≤ b)

def stopAt (cont : Nat → Bool) : Nat → Nat → Option Nat
  | i, 0 => some i
  | i, n + 1 => bif cont i then stopAt cont (i + 1) n else none

/-- A function value that yields these, one after the other. -/
def IterF (P : Program) (fv : AV) (xs : List (List AV)) : Prop :=
  ∀ (Z : Nat → Prop) (w : World) (cf yv : Value) (Y : Option Nat → Sd) (cont : Nat → Bool), (∀ o, Stable (Y o)) → Yields P yv Y cont xs → ∀ F Kp, (∀ b, Z b → b < w.heap.size ∧ ¬ F b) → VR Z w C0 fv cf → Y (some 0) F Kp w →
    ∃ (d : Deferred) (f : FuncId) (args' : Array Value), (Deferred.ofValue cf #[yv]).run P w = .ok d w ∧ (invoke d.target d.args).run P w = .ok (.enter f args') w ∧
      Calls P f args' w fun e w' => ∃ v, e = .returned v ∧ ∃ F' Kp', Y (stopAt cont 0 xs.length) F' Kp' w'

def At (Y : Sd) (E : Env) : Prop := ∃ F Kp, Y F Kp E.w0 ∧ (∀ b, E.M b → ¬ F b ∧ ¬ Kp b) ∧ (∀ b, E.Z0 b → ¬ F b)

/-- The iterator's own frame, 'o' the side's state. -/
structure IterE (P : Program) (f : FuncId) (xs : List (List AV)) (yv : Value) (Y : Option Nat → Sd) (cont : Nat → Bool) (e o : Option Nat) (E : Env) : Prop where
  ro : E.b.roundOf = none
  kind : E.b.kind = .normal
  fn : E.b.fn = f
  gA : E.gA = []
  stab : ∀ o, Stable (Y o)
  ylds : Yields P yv Y cont xs
  at' : At (Y o) E
  fin : E.Fin = Ended P f E.cs fun _ w' => ∃ F Kp, Y e F Kp w'

variable {E : Env} {K K' : List Item} {st st' : St}

theorem seg_stepG {n m : Nat} {live : List Nat} {evs : List EV} {obs : List Prop} (hk : E.b.kind = .normal) (hgh : refsBelows m E.gA = true) (hmx : P.follows .mixedOrders = true)
    (h : segA P live m n K st evs = some (K', st', obs)) (ho : AllP obs) (hg : G P E K' st') : G P E K st := by
  unfold segA at h
  split at h
  · rename_i K1 st1 evs1 o1 h1
    split at h
    · rename_i st2 h2
      simp only [Option.some.injEq, Prod.mk.injEq] at h
      obtain ⟨rfl, rfl, rfl⟩ := h
      exact walk_step hk hmx h1 ho (weak_step hgh h2 hg)
    · cases h
  · cases h

theorem scalars_nil {Z : Nat → Prop} {w : World} {C : Ctx} {x : List AV} {cs : List Value} (hs : scalars x = true) (h : VRs Z w C x cs) : VRs (fun _ => False) w C0 x cs :=
  ⟨h.1, fun i c v a b => scalars_any (arr := cs.toArray) hs (fun i c v a b => h.2 i c v a (by simpa using b)) i c v a (by simpa using b)⟩

theorem yield_step {f : FuncId} {xs : List (List AV)} {yv : Value} {Y : Option Nat → Sd} {cont : Nat → Bool} {e : Option Nat} {n : Nat} {x : List AV} {ops : Array Oper} {i : Nat} {o : Oper} {rest : List Nat} {k : List Item}
    {fop : Operand} {args : Array Operand} {ats : Array TypeId} (hE : IterE P f xs yv Y cont e (some n) E) (hx : xs[n]? = some x) (ho : ops[i]? = some o) (hop : o.op = .call ⟨.value fop, args, ats⟩)
    (hw : wantedA ops st.tmps o = some true) (hf : evalO st.tmps fop = .opq yv) (ha : args.toList.map (evalO st.tmps) = x) (hs : scalars x = true)
    (hg : ∀ E', IterE P f xs yv Y cont e (nxt cont n) E' → G P E' (.inRegion ops rest :: k) ⟨putA st.tmps o.dst (.bool (cont n)), st.blks⟩) : G P E (.inRegion ops (i :: rest) :: k) st := by
  intro C Z a w hr
  have hwc := wantedA_sound hr.tmp hw
  have hgo := stepGR_op (P := P) (b := E.b) (k := k) (cs := E.cs) (w := w) (rest := rest) ho hwc
  rw [Oper.semAt_eq _ _ _ (by intro c hc; rw [hop] at hc; cases hc)] at hgo
  have hfin : ∀ v, (E.b.atR a (.inRegion ops (i :: rest) :: k)).finish v = E.b.atR (a.put o.dst v) (.inRegion ops rest :: k) := by
    intro v; rw [Frame.finish_atR, ho]; rfl
  have hfv := evalO_sound hr.tmp fop
  rw [hf] at hfv
  generalize hyv : a.eval fop = yv' at hfv
  cases hfv
  obtain ⟨F, Kp, hY, hM, hZ⟩ := hE.at'
  have hlt := (hE.stab _).lt F Kp E.w0 hY
  have hYw := (hE.stab _).mv F Kp E.w0 E.M w hY hr.mem.frame hM
  have hargs : VRs Z w C x (args.map a.eval).toList := by
    rw [← ha]
    refine ⟨by simp, fun j c v p q => ?_⟩
    simp only [List.getElem?_map, Option.map_eq_some_iff] at p
    obtain ⟨y, p1, p2⟩ := p
    simp only [Array.toList_map, List.getElem?_map, p1, Option.map_some, Option.some.injEq] at q
    rw [← p2, ← q]
    exact evalO_sound hr.tmp y
  obtain ⟨l, fn, tm, asg, bd, hyl, hrun, hst⟩ := hE.ylds n x hx F Kp w hYw _ (scalars_nil hs hargs)
  obtain ⟨t, w', ⟨rfl, F', Kp', hY', hfr, hF', hKp'⟩, hsteps⟩ := hst (E.b.atR a (.inRegion ops (i :: rest) :: k)) E.cs
  have hexec : (execOp a.eval o).run P w = .ok (.round l fn tm asg bd) w := by
    obtain ⟨dst, op, ty, pos, after, guard⟩ := o
    simp only at hop
    subst hop
    simp only [execOp, resolve, hyv, hyl, Deferred.ofValue, Sem.run_bind, Sem.run_pure, Result.andThen_ok, invoke]
    simpa using hrun
  have henter : step P (lone (E.b.atR a (.inRegion ops (i :: rest) :: k)) E.cs w) =
      .next (lone (Frame.round l fn tm asg bd .normal) (E.b.atR a (.inRegion ops (i :: rest) :: k) :: E.cs) w) :=
    step_lone_go (by rw [hgo]; simp [stepG.apply, hexec])
  refine .step (Steps.head henter hsteps) ?_
  rw [hfin]
  -- behind the round
  have ownF : ∀ b, Own C b → ¬ F b ∧ ¬ Kp b := by
    rintro b ⟨k', o', hb⟩
    rcases (hr.mem.own k' b o' hb).2.2 with h | h
    · exact hM b h
    · exact ⟨fun h' => by have := hlt b (.inl h'); omega, fun h' => by have := hlt b (.inr h'); omega⟩
  have zF : ∀ b, Z b → ¬ F b := by
    intro b hb hF
    rcases hr.mem.zsub b hb with h | h | h
    · exact hZ b h hF
    · exact (hM b h).1 hF
    · have := hlt b (.inl hF); omega
  obtain ⟨Ds, d1, d2, d3⟩ := hr.marks
  have mkF : ∀ D ∈ Ds, ¬ F D ∧ ¬ Kp D := by
    intro D hD
    rcases (d3 D hD).2.1 with h | h
    · exact hM D h
    · exact ⟨fun h' => by have := hlt D (.inl h'); omega, fun h' => by have := hlt D (.inr h'); omega⟩
  obtain ⟨hmem, hevo⟩ := hr.mem.apart (M' := fun b => Own C b ∨ b ∈ Ds) hfr (fun b hb => (ownF b hb).1) zF (fun b hb => .inl hb)
  have hM' : ∀ b, Own C b ∨ b ∈ Ds → b < w.heap.size ∧ ¬ F b ∧ ¬ Kp b := by
    rintro b (h | h)
    · obtain ⟨k', o', hb⟩ := h
      exact ⟨(hr.mem.own k' b o' hb).1, ownF b ⟨k', o', hb⟩⟩
    · exact ⟨hr.mem.zlt b (d3 b h).1, mkF b h⟩
  refine hg { E with Z0 := Z, M := fun b => Own C b ∨ b ∈ Ds, w0 := w' } ⟨hE.ro, hE.kind, hE.fn, hE.gA, hE.stab, hE.ylds, ⟨F', Kp', hY', fun b hb => ?_, fun b hb => ?_⟩, hE.fin⟩ C Z _ w' ⟨?_, hmem, ?_, ?_⟩
  · obtain ⟨h1, h2, h3⟩ := hM' b hb
    exact ⟨fun h => by rcases hF' b h with h | h; exact h2 h; omega, fun h => by rcases hKp' b h with h | h | h; exact h2 h; exact h3 h; omega⟩
  · intro h
    have := hr.mem.zlt b hb
    rcases hF' b h with h | h
    · exact zF b hb h
    · omega
  · refine VRs.put ⟨hr.tmp.1, fun j c v p q => (hr.tmp.2 j c v p q).mono hevo⟩ (.bool _) o.dst
  · have : (a.put o.dst (.bool (cont n))).defers = a.defers := by cases o.dst <;> rfl
    rw [this]
    refine ⟨Ds, d1, d2, fun D hD => ⟨(d3 D hD).1, .inl (.inr hD), ?_⟩⟩
    rw [hfr.same D (hr.mem.zlt D (d3 D hD).1) (mkF D hD).1]; exact (d3 D hD).2.2
  · show VRs Z w' C E.gA E.gV
    exact ⟨hr.gh.1, fun j c v p q => (hr.gh.2 j c v p q).mono hevo⟩

/-- The iterator's end. -/
theorem iter_end {f : FuncId} {fn : Func} {xs : List (List AV)} {yv : Value} {Y : Option Nat → Sd} {cont : Nat → Bool} {e : Option Nat} {n : Nat} {evs : List EV} {obs : List Prop} (hE : IterE P f xs yv Y cont e e E) (hf : P.funcs[f]? = some fn)
    (hres : fn.results = #[]) (hmx : P.follows .mixedOrders = true)
    (h : (walk P n K st evs).map (fun r => (isEnd r.1, r.2.2.2)) = some (true, obs)) (ho : AllP obs) : G P E K st := by
  cases hw : walk P n K st evs with
  | none => simp [hw] at h
  | some r =>
    obtain ⟨K', st', evs', o1⟩ := r
    simp only [hw, Option.map_some, Option.some.injEq, Prod.mk.injEq] at h
    obtain ⟨hK, rfl⟩ := h
    obtain ⟨F, Kp, hY, hM, hZ⟩ := hE.at'
    have hfn := hE.fn
    refine walk_step hE.kind hmx hw ho (G_end (vs := []) (evs := []) (evs' := []) (obs := []) (Post := fun _ w' => ∃ F Kp, Y e F Kp w') hE.ro hE.kind (by rw [hfn]; exact hf) (by rw [hE.fin, hfn]) (by rw [hres]; rfl) trivial (fun C Z w v hm hv => ?_) (isEnd_spec hK))
    exact ⟨F, Kp, (hE.stab _).mv F Kp E.w0 E.M w hY hm.frame hM⟩

theorem iterF_of {f : FuncId} {fn : Func} {c : Code} {first cap : List AV} {xs : List (List AV)} (hf : P.funcs[f]? = some fn) (hname : (fn.name == "runtime.NumGoroutine") = false) (hb : fn.body = some c)
    (h : ∀ E yv Y cont, IterE P f xs yv Y cont (stopAt cont 0 xs.length) (some 0) E → G P E [.code c] ⟨first ++ [.opq yv] ++ cap ++ unds (fn.ntmps - (first ++ [AV.opq yv] ++ cap).length), []⟩) : IterF P (.clos f first cap) xs := by
  intro Z w cf yv Y cont hst hy F Kp hZ hcf hY
  cases hcf with
  | @clos _ _ _ _ fa ca hl h1 hl' h2 =>
    refine ⟨{ target := .fn (.func f) ca, args := fa ++ #[yv] }, f, fa ++ #[yv] ++ ca, rfl, ?_, fun cs => ?_⟩
    · have := Go.Proofs.enters_of (P := P) hf hname hb (fa ++ #[yv] ++ ca) w
      simpa [invoke] using this
    · let E : Env := ⟨Z, fun _ => False, w, { (default : Frame) with fn := f, kind := .normal }, cs, Ended P f cs fun _ w' => ∃ F Kp, Y (stopAt cont 0 xs.length) F Kp w', [], []⟩
      have hE : IterE P f xs yv Y cont (stopAt cont 0 xs.length) (some 0) E := ⟨rfl, rfl, rfl, rfl, hst, hy, ⟨F, Kp, hY, fun _ h => h.elim, fun b hb => (hZ b hb).2⟩, rfl⟩
      have hargs : VRs Z w C0 (first ++ [.opq yv] ++ cap) (fa ++ #[yv] ++ ca).toList := by
        refine ⟨by simp [hl, hl'], fun i x y p q => ?_⟩
        simp only [Array.toList_append] at q
        rw [List.append_assoc] at p q
        by_cases i1 : i < first.length
        · rw [List.getElem?_append_left i1] at p
          rw [List.getElem?_append_left (by simpa [← hl] using i1)] at q
          exact h1 i x y p (by simpa using q)
        · rw [List.getElem?_append_right (by omega)] at p
          rw [List.getElem?_append_right (by simp; omega)] at q
          have e1 : fa.toList.length = first.length := by simp [hl]
          rw [e1] at q
          by_cases i2 : i - first.length = 0
          · rw [i2] at p q; simp at p q; rw [← p, ← q]; exact .opq _
          · obtain ⟨j, hj⟩ : ∃ j, i - first.length = j + 1 := ⟨i - first.length - 1, by omega⟩
            rw [hj] at p q
            simp at p q
            exact h2 _ x y p (by simpa using q)
      have henter : Frame.enter P f (fa ++ #[yv] ++ ca) .normal = ({ (default : Frame) with fn := f, kind := .normal } : Frame).atR { tmps := (fa ++ #[yv] ++ ca) ++ Array.replicate (fn.ntmps - (fa ++ #[yv] ++ ca).size) undef, defers := [] } [.code c] := by
        simp only [Frame.enter, Frame.atR, hf, hb, Option.map_some, Option.getD_some, Option.bind_some]; rfl
      have hl2 : (first ++ [AV.opq yv] ++ cap).length = (fa ++ #[yv] ++ ca).size := by simp [hl, hl']; omega
      obtain ⟨m', s, v, w', fr, rfl, r1, r2, r3⟩ := h E yv Y cont hE C0 Z { tmps := (fa ++ #[yv] ++ ca) ++ Array.replicate (fn.ntmps - (fa ++ #[yv] ++ ca).size) undef, defers := [] } w
        ⟨⟨by rw [unds_eq, List.length_append, hl2]; simp; omega, fun i x y p q => by
            simp only [Array.toList_append (xs := fa ++ #[yv] ++ ca), Array.toList_replicate] at q
            rw [unds_eq] at p
            by_cases hi : i < (first ++ [AV.opq yv] ++ cap).length
            · rw [List.getElem?_append_left hi] at p
              rw [List.getElem?_append_left (by rw [Array.length_toList, ← hl2]; exact hi)] at q
              exact hargs.2 i x y p q
            · rw [List.getElem?_append_right (by omega)] at p
              rw [List.getElem?_append_right (by rw [Array.length_toList, ← hl2]; omega)] at q
              have p' := List.mem_replicate.1 (List.mem_of_getElem? p)
              have q' := List.mem_replicate.1 (List.mem_of_getElem? q)
              rw [p'.2, q'.2]
              exact .tup rfl (by simp)⟩, mem_nil (fun b hb => (hZ b hb).1), ⟨[], .nil, rfl, by simp⟩, ⟨rfl, fun _ _ _ h _ => by cases h⟩⟩
      rw [henter]
      exact ⟨.returned v, w', fr, ⟨v, rfl, r3⟩, s, r1, r2⟩

end
end Ax

/- Ranges over functions: whoever ranges. -/
namespace Ax
open Go

structure RoundE (gA : List AV) (E : Env) : Prop where
  ro : ∃ l, E.b.roundOf = some l
  kind : E.b.kind = .normal
  gA : E.gA = gA

/-- To have come to a place. -/
def ToCfg (KP : List Item → Prop) (SP : St → Prop) (E : Env) (m : Machine) : Prop :=
  ∃ C Z a w K st, KP K ∧ SP st ∧ Rel E.Z0 E.M E.w0 E.gA E.gV C Z st a w ∧ m = lone (E.b.atR a K) E.cs w

def isJump (jump : Code) (K : List Item) : Prop := ∃ k, K = .code jump :: k ∧ (jump = .ret ∨ ∃ id, jump = .exit id ∧ exitTo id k = none)

def putPs : List AV → List Nat → List AV → List AV
  | T, p :: ps, x :: xs => putPs (T.set p x) ps xs
  | T, _, _ => T

section
variable {P : Program} {E : Env} {K K' : List Item} {st st' : St}

theorem G_here {KP : List Item → Prop} {SP : St → Prop} (h : E.Fin = ToCfg KP SP E) (hK : KP K) (hS : SP st) : G P E K st :=
  fun C Z a w hr => ⟨_, .refl _ _, by rw [h]; exact ⟨C, Z, a, w, K, st, hK, hS, hr, rfl⟩⟩

theorem putPs_sound {Z : Nat → Prop} {w : World} {C : Ctx} : ∀ {ps : List Nat} {T x : List AV} {us : List Value} {tm : Array Value}, VRs Z w C T tm.toList → VRs Z w C x us →
    VRs Z w C (putPs T ps x) ((ps.zip us).foldl (fun tm p => tm.setIfInBounds p.1 p.2) tm).toList
  | [], T, x, us, tm, h, hx => by simpa [putPs] using h
  | p :: ps, T, [], [], tm, h, hx => by simpa [putPs] using h
  | p :: ps, T, [], a :: us, tm, h, hx => by have := hx.1; simp at this
  | p :: ps, T, b :: x, [], tm, h, hx => by have := hx.1; simp at this
  | p :: ps, T, b :: x, a :: us, tm, h, hx => by
    simp only [putPs, List.zip_cons_cons, List.foldl_cons]
    refine putPs_sound ?_ ⟨by have := hx.1; simpa using this, fun i c v p q => hx.2 (i + 1) c v (by simpa using p) (by simpa using q)⟩
    exact VRs.put (a := ⟨tm, []⟩) h (hx.2 0 b a rfl rfl) (some p)

theorem VRs.app {Z : Nat → Prop} {w : World} {C : Ctx} {a b : List AV} {c d : List Value} (h : VRs Z w C a c) (h' : VRs Z w C b d) : VRs Z w C (a ++ b) (c ++ d) := by
  refine ⟨by simp [h.1, h'.1], fun i x y p q => ?_⟩
  by_cases hi : i < a.length
  · rw [List.getElem?_append_left hi] at p
    rw [List.getElem?_append_left (by rw [← h.1]; exact hi)] at q
    exact h.2 i x y p q
  · rw [List.getElem?_append_right (by omega)] at p
    rw [List.getElem?_append_right (by rw [← h.1]; omega), ← h.1] at q
    exact h'.2 _ x y p q

theorem VRs.unapp {Z : Nat → Prop} {w : World} {C : Ctx} {a b : List AV} {c d : List Value} (hl : a.length = c.length) (h : VRs Z w C (a ++ b) (c ++ d)) : VRs Z w C a c ∧ VRs Z w C b d := by
  have h1 := h.1
  simp only [List.length_append] at h1
  refine ⟨⟨hl, fun i x y p q => ?_⟩, ⟨by omega, fun i x y p q => ?_⟩⟩
  · exact h.2 i x y (by rw [List.getElem?_append_left (List.getElem?_eq_some_iff.1 p).1]; exact p) (by rw [List.getElem?_append_left (List.getElem?_eq_some_iff.1 q).1]; exact q)
  · exact h.2 (a.length + i) x y (by rw [List.getElem?_append_right (by omega)]; simpa using p) (by rw [List.getElem?_append_right (by omega), hl]; simpa using q)

theorem VRs.mono {Z Z' : Nat → Prop} {w w' : World} {C : Ctx} {a : List AV} {c : List Value} (h : VRs Z w C a c) (he : Evo C Z Z' w w') : VRs Z' w' C a c :=
  ⟨h.1, fun i x y p q => (h.2 i x y p q).mono he⟩

theorem fr_put {w : World} {l : Nat} {o : Obj} : Fr w (· = l) (w.putObj l o) :=
  ⟨rfl, rfl, rfl, by simp, fun b hb h => World.putObj_heap_other h⟩

theorem fr_alloc {w : World} {o : Obj} {M : Nat → Prop} : Fr w M (w.alloc o) :=
  ⟨rfl, rfl, rfl, by simp, fun b hb _ => by
    show (w.heap.push o)[b]? = _
    rw [Array.getElem?_push]; rw [if_neg (by omega)]⟩

theorem Fr.weaken {w0 w : World} {M M' : Nat → Prop} (h : Fr w0 M w) (hM : ∀ b, M b → M' b) : Fr w0 M' w :=
  ⟨h.os, h.tape, h.output, h.size, fun b hb hn => h.same b hb fun hm => hn (hM b hm)⟩

/-- The side of whoever ranges: its memory, its temporaries and marks, the loop's record. -/
def RY (E : Env) (l : Nat) (tv : Array Value) (ds : List Deferred) (T : List AV) (rec : Option Nat → Loop) (Bl : Option Nat → List Blk) (o : Option Nat) : Sd := fun F Kp w =>
  ∃ C Z, Mem E.Z0 E.M E.w0 C Z (Bl o) w ∧ VRs Z w C (T ++ E.gA) (tv.toList ++ E.gV) ∧ Marks Z E.M E.w0 ds w ∧ w.heap[l]? = some (.loop (rec o)) ∧ ¬ Z l ∧ ¬ Own C l ∧ E.w0.heap.size ≤ l ∧
    (∀ b, F b ↔ (Own C b ∨ b = l)) ∧ ∀ b, Kp b ↔ (Z b ∨ b < E.w0.heap.size)

theorem lt_of_heap {w : World} {l : Nat} {o : Obj} (h : w.heap[l]? = some o) : l < w.heap.size := (Array.getElem?_eq_some_iff.1 h).1

theorem RY.stable {E : Env} {l : Nat} {tv : Array Value} {ds : List Deferred} {T : List AV} {rec : Option Nat → Loop} {Bl : Option Nat → List Blk} {o : Option Nat} : Stable (RY E l tv ds T rec Bl o) := by
  constructor
  · rintro F Kp w ⟨C, Z, hm, hv, hd, hl, hzl, hol, hwl, hF, hK⟩ b hb
    rw [hF, hK] at hb
    rcases hb with (⟨k, o', hb⟩ | rfl) | hb | hb
    · exact (hm.own k b o' hb).1
    · exact lt_of_heap hl
    · exact hm.zlt b hb
    · exact Nat.lt_of_lt_of_le hb hm.frame.size
  · rintro F Kp w Mi w' ⟨C, Z, hm, hv, hd, hl, hzl, hol, hwl, hF, hK⟩ hf hMi
    have h1 : ∀ b, Own C b → ¬ Mi b := fun b hb h => (hMi b h).1 ((hF b).2 (.inl hb))
    have h2 : ∀ b, Z b → ¬ Mi b := fun b hb h => (hMi b h).2 ((hK b).2 (.inl hb))
    obtain ⟨hm', he⟩ := hm.keep hf h1 h2 (fun b hb _ h => (hMi b h).2 ((hK b).2 (.inr hb)))
    exact ⟨C, Z, hm', hv.mono he, hd.evo he, by rw [hf.same l (lt_of_heap hl) (fun h => (hMi l h).1 ((hF l).2 (.inr rfl)))]; exact hl, hzl, hol, hwl, hF, hK⟩

/-- One round. -/
theorem round_ok {fn : FuncId} {l : Nat} {tv : Array Value} {ds : List Deferred} {T : List AV} {rec : Option Nat → Loop} {Bl : Option Nat → List Blk} {ps : Array Tmp} {assign body : Code} {D : Nat} {jump : Code} {cont : Nat → Bool}
    {i : Nat} {x : List AV} {S1 : St} (hT : T.length = tv.size) (hps : x.length = ps.size)
    (hrec : ∀ n, rec (some n) = { state := .ready, pending := none, fn, tmps := tv, params := ps, assign, body, defers := D })
    (hrecN : rec none = { state := .done, pending := some jump, fn, tmps := tv, params := ps, assign, body, defers := D })
    (hA : ∀ E', RoundE (T ++ E.gA) E' → E'.Fin = ToCfg (· = [.beginRound, .code body]) (· = S1) E' → G P E' [.code assign, .beginRound, .code body] ⟨putPs T ps.toList x, Bl (some i)⟩)
    (hB : ∀ E', RoundE (T ++ E.gA) E' → E'.Fin = ToCfg (fun K => if cont i = true then K = [] else isJump jump K) (fun st => st.blks = Bl (nxt cont i)) E' → G P E' [.code body] S1)
    {F Kp : Nat → Prop} {w : World} (hY : RY E l tv ds T rec Bl (some i) F Kp w) {cargs : Array Value} (hx : VRs (fun _ => False) w C0 x cargs.toList) :
    YCall P (.func (.yield l) #[] #[]) cargs w fun t w' => t = cont i ∧ ∃ F' Kp', RY E l tv ds T rec Bl (nxt cont i) F' Kp' w' ∧ Fr w F w' ∧ (∀ b, F' b → F b ∨ w.heap.size ≤ b) ∧ (∀ b, Kp' b → F b ∨ Kp b ∨ w.heap.size ≤ b) := by
  obtain ⟨C, Z, hm, hv, hd, hl, hzl, hol, hwl, hF, hK⟩ := hY
  have hcs : cargs.size = ps.size := by have := hx.1; simp at this; omega
  rw [hrec] at hl
  have hlw := lt_of_heap hl
  refine ⟨l, fn, _, assign, body, rfl, run_yield hl hcs, fun c cs => ?_⟩
  have hv2 := hv.unapp (by simpa using hT)
  -- the frame of the round
  let br : Frame := { (default : Frame) with fn := fn, kind := .normal, roundOf := some l }
  let tm : Array Value := (ps.zip cargs).foldl (fun tmps (t, a) => tmps.setIfInBounds t a) tv
  have hround : Frame.round l fn tm assign body .normal = br.atR { tmps := tm, defers := [] } [.code assign, .beginRound, .code body] := by
    simp [Frame.round, Frame.atR, br]
  have htm : VRs Z w C (putPs T ps.toList x) tm.toList := by
    have := putPs_sound (ps := ps.toList) (T := T) (x := x) (us := cargs.toList) (tm := tv) hv2.1 ⟨hx.1, fun i c v p q => ((hx.2 i c v p q).zmono (fun b h => h.elim)).of0⟩
    have e : tm = (ps.toList.zip cargs.toList).foldl (fun tm p => tm.setIfInBounds p.1 p.2) tv := by
      show (ps.zip cargs).foldl _ tv = _
      rw [← Array.foldl_toList, Array.toList_zip]
    rw [e]; exact this
  -- the assignment
  let E1b : Env := ⟨Z, Own C, w, br, c :: cs, fun _ => True, T ++ E.gA, tv.toList ++ E.gV⟩
  let E1 : Env := { E1b with Fin := ToCfg (· = [.beginRound, .code body]) (· = S1) E1b }
  obtain ⟨m1, s1, C1, Z1, a1, w1, K1, st1, rfl, rfl, hr1, rfl⟩ := hA E1 ⟨⟨l, rfl⟩, rfl, rfl⟩ rfl C Z { tmps := tm, defers := [] } w ⟨htm, hm.rebase (fun _ h => h), ⟨[], .nil, rfl, by simp⟩, hv⟩
  have f1 : Fr w (Own C) w1 := hr1.mem.frame
  have ownM : ∀ b, Own C b → E.M b ∨ E.w0.heap.size ≤ b := fun b ⟨k, o, h⟩ => (hm.own k b o h).2.2
  have hm1 := hm.back hr1.mem ownM
  have own1 : ∀ b, Own C1 b → Own C b ∨ w.heap.size ≤ b := fun b ⟨k, o, h⟩ => (hr1.mem.own k b o h).2.2
  have z1 : ∀ b, Z1 b → Z b ∨ Own C b ∨ w.heap.size ≤ b := fun b h => hr1.mem.zsub b h
  have hol1 : ¬ Own C1 l := fun h => by rcases own1 l h with h | h; exact hol h; omega
  have hzl1 : ¬ Z1 l := fun h => by rcases z1 l h with h | h | h; exact hzl h; exact hol h; omega
  have hl1 : w1.heap[l]? = some (.loop { state := .ready, pending := none, fn, tmps := tv, params := ps, assign, body, defers := D }) := by rw [f1.same l hlw hol]; exact hl
  -- the round begins
  have hbeg := stepR_beginRound (P := P) (b := br) (a := a1) (k := [.code body]) (cs := c :: cs) (w := w1) (l := l) rfl (run_beginRound hl1 rfl)
  obtain ⟨hm2, he2⟩ := hm1.keep (fr_put (w := w1) (l := l) (o := .loop { state := .busy, pending := none, fn, tmps := tv, params := ps, assign, body, defers := D })) (fun b hb e => hol1 (e ▸ hb)) (fun b hb e => hzl1 (e ▸ hb)) (fun b hb _ e => by omega)
  generalize hw2 : w1.putObj l (.loop { state := .busy, pending := none, fn, tmps := tv, params := ps, assign, body, defers := D }) = w2 at hbeg hm2 he2
  have f2 : Fr w1 (· = l) w2 := hw2 ▸ fr_put
  have hl2 : w2.heap[l]? = some (.loop { state := .busy, pending := none, fn, tmps := tv, params := ps, assign, body, defers := D }) := by rw [← hw2]; exact World.putObj_heap_same (Nat.lt_of_lt_of_le hlw f1.size)
  obtain ⟨Ds, d1, d2, d3⟩ := hr1.marks
  let E2b : Env := ⟨Z1, fun b => Own C1 b ∨ b ∈ Ds, w2, br, c :: cs, fun _ => True, T ++ E.gA, tv.toList ++ E.gV⟩
  let E2 : Env := { E2b with Fin := ToCfg (fun K => if cont i = true then K = [] else isJump jump K) (fun st => st.blks = Bl (nxt cont i)) E2b }
  obtain ⟨m2, s2, C2, Z2, a2, w3, K2, st2, hK2, hS2, hr2, rfl⟩ := hB E2 ⟨⟨l, rfl⟩, rfl, rfl⟩ rfl C1 Z1 a1 w2
    ⟨hr1.tmp.mono he2, hm2.rebase (fun _ h => .inl h), ⟨Ds, d1, d2, fun D' hD => ⟨(d3 D' hD).1, .inl (.inr hD), by rw [he2.same D' (d3 D' hD).1]; exact (d3 D' hD).2.2⟩⟩, hr1.gh.mono he2⟩
  have f3 : Fr w2 (fun b => Own C1 b ∨ b ∈ Ds) w3 := hr2.mem.frame
  have dsM : ∀ b, b ∈ Ds → Own C b ∨ w.heap.size ≤ b := fun b h => (d3 b h).2.1
  have m2M : ∀ b, (Own C1 b ∨ b ∈ Ds) → Own C b ∨ w.heap.size ≤ b := fun b h => h.elim (own1 b) (dsM b)
  have hs0 := hm.frame.size
  have hm3 := hm2.back hr2.mem fun b h => by
    rcases m2M b h with h | h
    · exact ownM b h
    · exact .inr (by omega)
  have own2 : ∀ b, Own C2 b → Own C b ∨ w.heap.size ≤ b := fun b ⟨k, o, h⟩ => by
    rcases (hr2.mem.own k b o h).2.2 with h | h
    · exact m2M b h
    · have e1 := f1.size; have e2 := f2.size; exact .inr (Nat.le_trans (Nat.le_trans e1 e2) h)
  have z2 : ∀ b, Z2 b → Z b ∨ Own C b ∨ w.heap.size ≤ b := fun b h => by
    rcases hr2.mem.zsub b h with h | h | h
    · exact z1 b h
    · exact .inr (m2M b h)
    · have e1 := f1.size; have e2 := f2.size; exact .inr (.inr (Nat.le_trans (Nat.le_trans e1 e2) h))
  have hol2 : ¬ Own C2 l := fun h => by rcases own2 l h with h | h; exact hol h; omega
  have hzl2 : ¬ Z2 l := fun h => by rcases z2 l h with h | h | h; exact hzl h; exact hol h; omega
  have hlw2 : l < w2.heap.size := lt_of_heap hl2
  have hl3 : w3.heap[l]? = some (.loop { state := .busy, pending := none, fn, tmps := tv, params := ps, assign, body, defers := D }) := by
    rw [f3.same l hlw2 (fun h => by rcases m2M l h with h | h; exact hol h; omega)]; exact hl2
  have hds2 : Marks Z2 E.M E.w0 ds w3 := by
    obtain ⟨Ds0, q1, q2, q3⟩ := hd
    refine ⟨Ds0, q1, q2, fun D' hD => ⟨hr2.mem.z0 D' (hr1.mem.z0 D' (q3 D' hD).1), (q3 D' hD).2.1, ?_⟩⟩
    have hz := (q3 D' hD).1
    have hlt := hm.zlt D' hz
    have hno : ¬ Own C D' := fun ⟨k, o, h⟩ => (hm.own k D' o h).2.1 hz
    have hne : D' ≠ l := fun e => hzl (e ▸ hz)
    have e1 := f1.size; have e2 := f2.size
    rw [f3.same D' (by omega) (fun h => by rcases m2M D' h with h | h; exact hno h; omega), f2.same D' (by omega) hne, f1.same D' hlt hno]
    exact (q3 D' hD).2.2
  -- the round ends
  have fin : ∀ (r' : Loop) (t : Bool), (∃ v, step P (lone (br.atR a2 K2) (c :: cs) w3) = .next (lone (c.finish v) cs (w3.putObj l (.loop r'))) ∧ v = .bool t) → t = cont i → r' = rec (nxt cont i) →
      ∃ t w', (t = cont i ∧ ∃ F' Kp', RY E l tv ds T rec Bl (nxt cont i) F' Kp' w' ∧ Fr w F w' ∧ (∀ b, F' b → F b ∨ w.heap.size ≤ b) ∧ (∀ b, Kp' b → F b ∨ Kp b ∨ w.heap.size ≤ b)) ∧
        Steps P (lone (Frame.round l fn tm assign body .normal) (c :: cs) w) (lone (c.finish (.bool t)) cs w') := by
    rintro r' t ⟨v, hstep, rfl⟩ ht hr'
    obtain ⟨hm4, he4⟩ := hm3.keep (fr_put (w := w3) (l := l) (o := .loop r')) (fun b hb e => hol2 (e ▸ hb)) (fun b hb e => hzl2 (e ▸ hb)) (fun b hb _ e => by omega)
    refine ⟨t, w3.putObj l (.loop r'), ⟨ht, fun b => Own C2 b ∨ b = l, fun b => Z2 b ∨ b < E.w0.heap.size, ⟨C2, Z2, by rw [← hS2]; exact hm4, hr2.gh.mono he4, hds2.evo he4, by rw [← hr']; exact World.putObj_heap_same (lt_of_heap hl3), hzl2, hol2, hwl, fun _ => .rfl, fun _ => .rfl⟩, ?_, ?_, ?_⟩, ?_⟩
    · have g1 : Fr w F w1 := f1.weaken fun b h => (hF b).2 (.inl h)
      have g2 : Fr w F w2 := g1.trans f2 fun b _ hn e => hn ((hF b).2 (.inr e))
      have g3 : Fr w F w3 := g2.trans f3 fun b hb hn h => by
        rcases m2M b h with h | h
        · exact hn ((hF b).2 (.inl h))
        · omega
      exact g3.trans fr_put fun b _ hn e => hn ((hF b).2 (.inr e))
    · rintro b (h | h)
      · rcases own2 b h with h | h
        · exact .inl ((hF b).2 (.inl h))
        · exact .inr h
      · exact .inl ((hF b).2 (.inr h))
    · rintro b (h | h)
      · rcases z2 b h with h | h | h
        · exact .inr (.inl ((hK b).2 (.inl h)))
        · exact .inl ((hF b).2 (.inl h))
        · exact .inr (.inr h)
      · exact .inr (.inl ((hK b).2 (.inr h)))
    · rw [hround]
      exact s1.trans (Steps.head hbeg (s2.trans (.one hstep)))
  cases hc : cont i with
  | true =>
    simp only [hc, if_true] at hK2
    subst hK2
    exact hc ▸ fin _ true ⟨_, stepR_round_end (P := P) (b := br) (a := a2) (cs := cs) (w := w3) (c := c) (l := l) rfl rfl (run_endRound none hl3), rfl⟩ hc.symm (by simp [nxt, hc, hrec])
  | false =>
    simp only [hc, Bool.false_eq_true, if_false] at hK2
    obtain ⟨k2, rfl, hj⟩ := hK2
    refine hc ▸ fin _ false ⟨_, ?_, rfl⟩ hc.symm (by simp only [nxt, hc, cond_false, hrecN]; rfl)
    rcases hj with rfl | ⟨id, rfl, hx⟩
    · exact stepR_round_ret (P := P) (b := br) (a := a2) (cs := cs) (w := w3) (c := c) (l := l) rfl rfl (run_endRound (some .ret) hl3)
    · exact stepR_round_exit (P := P) (b := br) (a := a2) (cs := cs) (w := w3) (c := c) (l := l) rfl rfl hx (run_endRound (some (.exit id)) hl3)

end
end Ax

/- The statement that ranges over a function. -/
namespace Ax
open Go

section
variable {P : Program} {E : Env} {K K' : List Item} {st st' : St}

theorem stopAt_none {cont : Nat → Bool} : ∀ {n i : Nat}, stopAt cont i n = none ∨ stopAt cont i n = some (i + n)
  | 0, i => .inr rfl
  | n + 1, i => by
    simp only [stopAt]
    cases cont i with
    | true => simpa [Nat.add_comm 1 n, Nat.add_assoc] using stopAt_none (cont := cont) (n := n) (i := i + 1)
    | false => exact .inl rfl

theorem range_step {g : Operand} {ps : Array Tmp} {assign body : Code} {k : List Item} {fv : AV} {xs : List (List AV)} {cont : Nat → Bool} {jump : Code} (Bl : Option Nat → List Blk) (S1 : Nat → St)
    (hro : E.b.roundOf = none) (hk : E.b.kind = .normal) (hfv : evalO st.tmps g = fv) (hnr : noRef fv = true) (hit : IterF P fv xs) (hB0 : Bl (some 0) = st.blks) (hps : ∀ (i : Nat) x, xs[i]? = some x → x.length = ps.size)
    (hA : ∀ i x, xs[i]? = some x → (∀ j, j < i → cont j = true) → ∀ E', RoundE (st.tmps ++ E.gA) E' → E'.Fin = ToCfg (· = [.beginRound, .code body]) (· = S1 i) E' → G P E' [.code assign, .beginRound, .code body] ⟨putPs st.tmps ps.toList x, Bl (some i)⟩)
    (hB : ∀ i x, xs[i]? = some x → (∀ j, j < i → cont j = true) → ∀ E', RoundE (st.tmps ++ E.gA) E' → E'.Fin = ToCfg (fun K => if cont i = true then K = [] else isJump jump K) (fun st => st.blks = Bl (nxt cont i)) E' → G P E' [.code body] (S1 i))
    (hend : G P E (match stopAt cont 0 xs.length with | some _ => k | none => .code jump :: k) ⟨st.tmps, Bl (stopAt cont 0 xs.length)⟩) : G P E (.code (.rangeFunc g ps assign body) :: k) st := by
  intro C Z a w hr
  have hcf := evalO_sound hr.tmp g
  rw [hfv] at hcf
  have hTl : st.tmps.length = a.tmps.size := by simpa using hr.tmp.1
  obtain ⟨Ds, d1, d2, d3⟩ := hr.marks
  have hs0 := hr.mem.frame.size
  -- the record is laid
  have hen := run_enterLoop_outer (P := P) (w := w) E.b.fn a.tmps ps assign body
  generalize hW : (w.alloc (.deferred (some []))) = wa at hen
  have fa : Fr w (fun _ => False) wa := hW ▸ fr_alloc
  have sza : wa.heap.size = w.heap.size + 1 := by rw [← hW]; simp
  have hDa : wa.heap[w.heap.size]? = some (.deferred (some [])) := by rw [← hW]; exact World.alloc_heap_new w _
  obtain ⟨hma, hea⟩ := hr.mem.call fa
  generalize hL : ({ state := .ready, pending := none, fn := E.b.fn, tmps := a.tmps, params := ps, assign, body, defers := w.heap.size } : Loop) = r0 at hen
  generalize hWb : wa.alloc (.loop r0) = wb at hen
  have fb : Fr wa (fun _ => False) wb := hWb ▸ fr_alloc
  have hlb : wb.heap[w.heap.size + 1]? = some (.loop r0) := by rw [← hWb, ← sza]; exact World.alloc_heap_new wa _
  obtain ⟨hmb, heb⟩ := hma.keep fb (fun _ _ h => h) (fun _ _ h => h) (fun _ _ _ h => h)
  have zx : ∀ b, Zx Z w wa b ↔ (Z b ∨ b = w.heap.size) := fun b => by 
    unfold Zx; rw [sza]
    exact ⟨fun h => h.imp id (fun h => by omega), fun h => h.imp id (fun h => by omega)⟩
  have hlo : ∀ b, Own C b → b < w.heap.size := fun b ⟨k', o, h⟩ => (hr.mem.own k' b o h).1
  -- the sides
  let rec' : Option Nat → Loop := fun o => match o with
    | some _ => r0
    | none => { state := .done, pending := some jump, fn := E.b.fn, tmps := a.tmps, params := ps, assign, body, defers := w.heap.size }
  let ds : List Deferred := mark w.heap.size :: a.defers
  let Y : Option Nat → Sd := fun o F Kp w1 => RY E (w.heap.size + 1) a.tmps ds st.tmps rec' Bl o F Kp w1 ∧ ∀ i, o = some i → ∀ j, j < i → cont j = true
  have hY0 : Y (some 0) (fun b => Own C b ∨ b = w.heap.size + 1) (fun b => Zx Z w wa b ∨ b < E.w0.heap.size) wb := by
    refine ⟨⟨C, Zx Z w wa, by rw [hB0]; exact hmb, ((hr.tmp.app hr.gh).mono hea).mono heb, ⟨w.heap.size :: Ds, ?_, ?_, ?_⟩, hlb, ?_, ?_, by omega, fun _ => .rfl, fun _ => .rfl⟩, fun i hi j hj => by cases hi; omega⟩
    · refine List.nodup_cons.2 ⟨fun h => ?_, d1⟩
      have := hr.mem.zlt _ (d3 _ h).1
      omega
    · simp [ds, d2]
    · intro D hD
      rcases List.mem_cons.1 hD with rfl | hD
      · exact ⟨(zx _).2 (.inr rfl), .inr hs0, by rw [fb.same _ (by omega) (fun h => h)]; exact hDa⟩
      · have hlt := hr.mem.zlt _ (d3 _ hD).1
        exact ⟨(zx _).2 (.inl (d3 _ hD).1), (d3 _ hD).2.1, by rw [fb.same _ (by omega) (fun h => h), fa.same _ hlt (fun h => h)]; exact (d3 _ hD).2.2⟩
    · rw [zx]; rintro (h | h)
      · have := hr.mem.zlt _ h; omega
      · omega
    · intro h; have := hlo _ h; omega
  have hyl : Yields P (.func (.yield (w.heap.size + 1)) #[] #[]) Y cont xs := by
    intro i x hx F Kp w' hY cargs hca
    obtain ⟨hY, hpre⟩ := hY
    have hpre := hpre i rfl
    obtain ⟨l', fn', tm', asg', bd', q1, q2, q3⟩ := round_ok (E := E) (fn := E.b.fn) (tv := a.tmps) (T := st.tmps) (ps := ps) (assign := assign) (body := body) (D := w.heap.size) (jump := jump) (S1 := S1 i) hTl (hps i x hx) (fun _ => hL.symm) rfl (hA i x hx hpre) (hB i x hx hpre) hY hca
    refine ⟨l', fn', tm', asg', bd', q1, q2, fun c cs => ?_⟩
    obtain ⟨t, w2, ⟨h1, F', Kp', h2, h3⟩, h4⟩ := q3 c cs
    refine ⟨t, w2, ⟨h1, F', Kp', ⟨h2, fun i' hi' j hj => ?_⟩, h3⟩, h4⟩
    unfold nxt at hi'
    cases hc : cont i with
    | true =>
      rw [hc] at hi'; simp only [cond_true, Option.some.injEq] at hi'
      rcases Nat.lt_or_ge j i with h | h
      · exact hpre j h
      · have : j = i := by omega
        rw [this]; exact hc
    | false => rw [hc] at hi'; cases hi'
  -- the call
  have hcf0 : VR (Zx Z w wa) wb C0 fv (a.eval g) := ((hcf.mono hea).mono heb).ctx hnr
  obtain ⟨d, f, args', hd1, hd2, hcalls⟩ := hit (Zx Z w wa) wb (a.eval g) (.func (.yield (w.heap.size + 1)) #[] #[]) Y cont (fun _ => ⟨fun F Kp w h => RY.stable.lt F Kp w h.1, fun F Kp w Mi w' h h2 h3 => ⟨RY.stable.mv F Kp w Mi w' h.1 h2 h3, h.2⟩⟩) hyl (fun b => Own C b ∨ b = w.heap.size + 1) (fun b => Zx Z w wa b ∨ b < E.w0.heap.size)
    (fun b hb => ⟨hmb.zlt b hb, by
      rw [zx] at hb
      rintro (⟨k', o, h⟩ | h)
      · rcases hb with hb | hb
        · exact (hr.mem.own k' b o h).2.1 hb
        · have := (hr.mem.own k' b o h).1; omega
      · rcases hb with hb | hb
        · have := hr.mem.zlt b hb; omega
        · omega⟩) hcf0 hY0
  have hstep := stepR_rangeFunc (P := P) (b := E.b) (a := a) (k := k) (cs := E.cs) (w := w) (g := g) (ps := ps) (assign := assign) (body := body) (l := w.heap.size + 1) (mark := [{ target := .collected w.heap.size, args := #[] }]) (w₁ := wb) (w₁' := wb) (w₂ := wb) (d := d) (f := f) (args := args')
    (by rw [hro]; exact hen) (by
      have : a.eval (.const (.func (.yield (w.heap.size + 1)) #[] #[])) = .func (.yield (w.heap.size + 1)) #[] #[] := rfl
      simp only [rangeCall, resolve, List.map_toArray, List.map_cons, List.map_nil, this]; exact hd1) hd2
  obtain ⟨e, w', fr, ⟨v, rfl, F', Kp', ⟨C', Z', hm', hv', hds', hl', hzl', hol', hwl', hF', hK'⟩, -⟩, hsteps, -, hleave⟩ := hcalls (E.b.atR { a with defers := [{ target := .collected w.heap.size, args := #[] }] ++ a.defers } (.inRangeFunc (w.heap.size + 1) :: k) :: E.cs)
  refine .step (Steps.head hstep (hsteps.trans (.one (step_leave_returned hleave)))) ?_
  rw [finish_atR_inRangeFunc]
  -- the loop is left
  obtain ⟨hm2, he2⟩ := hm'.keep (fr_put (w := w') (l := w.heap.size + 1) (o := .loop { rec' (stopAt cont 0 xs.length) with state := .exhausted })) (fun b hb e => hol' (e ▸ hb)) (fun b hb e => hzl' (e ▸ hb)) (fun b hb _ e => by omega)
  have hleft := stepR_endRangeFunc (P := P) (b := E.b) (a := { a with defers := [{ target := .collected w.heap.size, args := #[] }] ++ a.defers }) (k := k) (cs := E.cs) (run_endLoop (P := P) hl' (by
    rcases stopAt_none (cont := cont) (n := xs.length) (i := 0) with h | h
    · rw [h]; show LoopState.done ≠ _; decide
    · rw [h]; show r0.state ≠ _; rw [← hL]; show LoopState.ready ≠ _; decide))
  refine .step (.one hleft) ?_
  have hsp := hv'.unapp (by simpa using hTl)
  have hgo := hend C' Z' { a with defers := [{ target := .collected w.heap.size, args := #[] }] ++ a.defers } _ ⟨hsp.1.mono he2, hm2, hds'.evo he2, hsp.2.mono he2⟩
  rcases stopAt_none (cont := cont) (n := xs.length) (i := 0) with h | h
  · rw [h] at hgo ⊢; exact hgo
  · rw [h] at hgo ⊢
    have hpend : (rec' (some (0 + xs.length))).pending = none := by show r0.pending = none; rw [← hL]
    have hnil : ((rec' (some (0 + xs.length))).pending.map Item.code).toList ++ k = k := by rw [hpend]; rfl
    rw [hnil]; exact hgo

end
end Ax

/- Ghost steps: a nil slice taken for one over a block that is not yet there. -/
namespace Ax
open Go

section
variable {P : Program} {E : Env} {K K' : List Item} {st st' : St}

def denil (st : St) : List (Nat × Nat) → Option St
  | [] => some st
  | (t, sz) :: r => match st.tmps[t]? with
    | some .nilSl => denil ⟨st.tmps.set t (.sl st.blks.length 0 0 0 sz), st.blks ++ [⟨true, 0, sz, true, [], true⟩]⟩ r
    | _ => none

theorem denil_step : ∀ {ds : List (Nat × Nat)} {st st' : St}, denil st ds = some st' → G P E K st' → G P E K st
  | [], st, st', h, hg => by simp only [denil, Option.some.injEq] at h; subst h; exact hg
  | (t, sz) :: r, st, st', h, hg => by
    simp only [denil] at h
    split at h
    · rename_i ht
      have h1 := denil_step h hg
      intro C Z a w hr
      have hlt : t < a.tmps.size := by
        have := (List.getElem?_eq_some_iff.1 ht).1
        have h2 := hr.tmp.1
        simp at h2; omega
      have hv := hr.tmp.2 t .nilSl a.tmps[t] ht (by simp [hlt])
      generalize hc : a.tmps[t] = c at hv
      cases hv
      obtain ⟨C', Z', hle, hevo, hm, hv'⟩ := unborn_sl (a := none) (sz := sz) (fl := true) (idx := st.blks.length) hr.mem.push (by simp)
      have e : (Eff.new ⟨true, 0, sz, true, [], true⟩ (fun k => AV.sl k 0 0 0 sz)).blks st.blks.length (st.blks ++ [dead]) = st.blks ++ [⟨true, 0, sz, true, [], true⟩] := by simp [Eff.blks]
      rw [e] at hm
      have ht2 := hr.tmp.next hle hevo
      refine h1 C' Z' a w ⟨⟨by simpa using ht2.1, fun i x y p q => ?_⟩, hm, hr.marks.evo hevo, hr.gh.next hle hevo⟩
      rw [List.getElem?_set] at p
      split at p
      · rename_i e
        subst e
        split at p
        · cases p
          simp only [Array.getElem?_toList] at q
          rw [Array.getElem?_eq_getElem hlt, hc] at q
          cases q
          exact hv'
        · cases p
      · exact ht2.2 i x y p q
    · cases h

/-- To a loop's head: nil slices taken for slices, what is no more needed forgotten. -/
def segN (P : Program) (ds : List (Nat × Nat)) (live : List Nat) (m n : Nat) (K : List Item) (st : St) (evs : List EV) : Option (List Item × St × List Prop) :=
  match walk P n K st evs with
  | some (K', st', _, o1) => (match denil st' ds with
    | some st1 => (match weak live m st1 with
      | some st2 => some (K', st2, o1)
      | none => none)
    | none => none)
  | none => none

theorem segN_step {n m : Nat} {ds : List (Nat × Nat)} {live : List Nat} {evs : List EV} {obs : List Prop} (hk : E.b.kind = .normal) (hgh : refsBelows m E.gA = true) (hmx : P.follows .mixedOrders = true)
    (h : segN P ds live m n K st evs = some (K', st', obs)) (ho : AllP obs) (hg : G P E K' st') : G P E K st := by
  unfold segN at h
  split at h
  · rename_i K1 st1 evs1 o1 h1
    split at h
    · rename_i st2 h2
      split at h
      · rename_i st3 h3
        simp only [Option.some.injEq, Prod.mk.injEq] at h
        obtain ⟨rfl, rfl, rfl⟩ := h
        exact walk_step hk hmx h1 ho (denil_step h2 (weak_step hgh h3 hg))
      · cases h
    · cases h
  · cases h

theorem PureE.nogh {f : FuncId} {res : AV} (hE : PureE P f res E) (m : Nat) : refsBelows m E.gA = true := by rw [hE.2.2.2.2.1]; rfl
theorem IterE.nogh {f : FuncId} {xs : List (List AV)} {yv : Value} {Y : Option Nat → Sd} {cont : Nat → Bool} {e o : Option Nat} (hE : IterE P f xs yv Y cont e o E) (m : Nat) : refsBelows m E.gA = true := by rw [hE.gA]; rfl

end
end Ax

/- Places in the code at an operation, at a range over a function. -/
namespace Ax
open Go

/-- The place at the region behind 'r' others, by the tests' outcomes. -/
def kReg : Nat → List Item → List EV → Nat → List Item
  | 0, K, _, _ => K
  | n + 1, K, evs, r =>
    match K with
    | .code .skip :: k => kReg n k evs r
    | .inBlock _ :: k => kReg n k evs r
    | .code (.seq x y) :: k => kReg n (.code x :: .code y :: k) evs r
    | .code (.block id body) :: k => kReg n (.code body :: .inBlock id :: k) evs r
    | .code (.cond _ x y) :: k => (match evs with
      | .b u :: evs => kReg n (.code (bif u then x else y) :: k) evs r
      | _ => K)
    | .code (.region id ops d) :: k => (match r with
      | 0 => .code (.region id ops d) :: k
      | r + 1 => kReg n k evs r)
    | .inRegion .. :: k => kReg n k evs r
    | .code (.exit id) :: k => (match exitTo id k with
      | some k' => kReg n k' evs r
      | none => K)
    | .code (.loop body) :: k => kReg n (.code body :: .inLoop body :: k) evs r
    | .inLoop body :: k => kReg n (.code body :: .inLoop body :: k) evs r
    | K => K

def toOp (i : Nat) : List Item → List Item
  | .code (.region _ ops _) :: k => .inRegion ops (List.range' i (ops.size - i)) :: k
  | K => K

/-- A call of what was handed in. -/
def yieldA (K : List Item) (st : St) : Option (List Item × Option Nat × Value × List AV) :=
  match K with
  | .inRegion ops (i :: rest) :: k =>
    (match ops[i]? with
    | some o => (match o.op, wantedA ops st.tmps o with
      | .call { callee := .value f, args, argTypes := _ }, some true => (match evalO st.tmps f with
        | .opq v => some (.inRegion ops rest :: k, o.dst, v, args.toList.map (evalO st.tmps))
        | _ => none)
      | _, _ => none)
    | none => none)
  | _ => none

section
variable {P : Program} {E : Env} {K K' : List Item} {st st' : St}

theorem yield_stepA {f : FuncId} {xs : List (List AV)} {yv : Value} {Y : Option Nat → Sd} {cont : Nat → Bool} {e : Option Nat} {n : Nat} {x : List AV} {dst : Option Nat}
    (hE : IterE P f xs yv Y cont e (some n) E) (hx : xs[n]? = some x) (h : yieldA K st = some (K', dst, yv, x)) (hs : scalars x = true)
    (hg : ∀ E', IterE P f xs yv Y cont e (nxt cont n) E' → G P E' K' ⟨putA st.tmps dst (.bool (cont n)), st.blks⟩) : G P E K st := by
  unfold yieldA at h
  split at h
  · rename_i ops i rest k
    split at h
    · rename_i o ho
      split at h
      · rename_i fop args ats hop hw
        split at h
        · rename_i v hf
          simp only [Option.some.injEq, Prod.mk.injEq] at h
          obtain ⟨rfl, rfl, rfl, rfl⟩ := h
          exact yield_step hE hx ho hop hw hf rfl hs hg
        · cases h
      · cases h
    · cases h
  · cases h

def rfParts : List Item → Option (Operand × Array Tmp × Code × Code × List Item)
  | .code (.rangeFunc g ps assign body) :: k => some (g, ps, assign, body, k)
  | _ => none

def rfAssign (K : List Item) : Code := match rfParts K with
  | some (_, _, a, _, _) => a
  | none => .skip
def rfBody (K : List Item) : Code := match rfParts K with
  | some (_, _, _, b, _) => b
  | none => .skip
def rfRest (K : List Item) : List Item := match rfParts K with
  | some (_, _, _, _, k) => k
  | none => []

theorem range_stepA {fv : AV} {xs : List (List AV)} {cont : Nat → Bool} {jump : Code} {g : Operand} {ps : Array Tmp} (Bl : Option Nat → List Blk) (S1 : Nat → St)
    (hro : E.b.roundOf = none) (hk : E.b.kind = .normal) (hK : (rfParts K).map (fun r => (r.1, r.2.1)) = some (g, ps)) (hfv : evalO st.tmps g = fv) (hnr : noRef fv = true) (hit : IterF P fv xs) (hB0 : Bl (some 0) = st.blks)
    (hps : ∀ (i : Nat) x, xs[i]? = some x → x.length = ps.size)
    (hA : ∀ i x, xs[i]? = some x → (∀ j, j < i → cont j = true) → ∀ E', RoundE (st.tmps ++ E.gA) E' → E'.Fin = ToCfg (· = [.beginRound, .code (rfBody K)]) (· = S1 i) E' → G P E' [.code (rfAssign K), .beginRound, .code (rfBody K)] ⟨putPs st.tmps ps.toList x, Bl (some i)⟩)
    (hB : ∀ i x, xs[i]? = some x → (∀ j, j < i → cont j = true) → ∀ E', RoundE (st.tmps ++ E.gA) E' → E'.Fin = ToCfg (fun K => if cont i = true then K = [] else isJump jump K) (fun st => st.blks = Bl (nxt cont i)) E' → G P E' [.code (rfBody K)] (S1 i))
    (hend : G P E (match stopAt cont 0 xs.length with | some _ => rfRest K | none => .code jump :: rfRest K) ⟨st.tmps, Bl (stopAt cont 0 xs.length)⟩) : G P E K st := by
  unfold rfParts at hK
  split at hK
  · rename_i g' ps' assign body k
    simp only [Option.map_some, Option.some.injEq, Prod.mk.injEq] at hK
    obtain ⟨rfl, rfl⟩ := hK
    exact range_step Bl S1 hro hk hfv hnr hit hB0 hps hA hB hend
  · simp at hK

end
end Ax

/- Ghost steps on cells: a nil slice in a cell taken for one over a block that is not yet there. -/
namespace Ax
open Go

section
variable {P : Program} {E : Env} {K K' : List Item} {st st' : St}

theorem Ctx.put_same (C : Ctx) (k : Nat) : C.put k (C.β k) (C.γ k) = C := by
  cases C with
  | mk β γ =>
    unfold Ctx.put
    congr 1 <;> funext j <;> by_cases e : j = k <;> simp [e]

theorem denilC_step {k j sz : Nat} {b : Blk} (hk : st.blks[k]? = some b) (hl : b.live = true) (hj : b.cells[j]? = some .nilSl)
    (hg : G P E K ⟨st.tmps, (st.blks ++ [(⟨true, 0, sz, true, [], true⟩ : Blk)]).set k { b with flat := false, cells := b.cells.set j (.sl st.blks.length 0 0 0 sz) }⟩) : G P E K st := by
  intro C Z a w hr
  obtain ⟨C', Z', hle, hevo, hm, hv'⟩ := unborn_sl (a := none) (sz := sz) (fl := true) (idx := st.blks.length) hr.mem.push (by simp)
  have e : (Eff.new ⟨true, 0, sz, true, [], true⟩ (fun k => AV.sl k 0 0 0 sz)).blks st.blks.length (st.blks ++ [dead]) = st.blks ++ [⟨true, 0, sz, true, [], true⟩] := by simp [Eff.blks]
  rw [e] at hm
  have hkl : k < st.blks.length := (List.getElem?_eq_some_iff.1 hk).1
  have hk' : (st.blks ++ [(⟨true, 0, sz, true, [], true⟩ : Blk)])[k]? = some b := by rw [List.getElem?_append_left hkl]; exact hk
  have hgen := hm.gen k b hk'
  have hbk := hm.blk k b hk' hl
  have hc := hm.change (b' := { b with flat := false, cells := b.cells.set j (.sl st.blks.length 0 0 0 sz) }) (w' := w) (s := C'.β k) (g := C'.γ k) hk' rfl rfl rfl (Nat.le_refl _) (fun _ _ _ => rfl)
    (fun blk o arr e _ h => ⟨arr, h, rfl⟩) (Nat.le_refl _) (fun _ _ => rfl) hl hgen.symm (fun blk o h => .inl ⟨o, h⟩) (fun hle' hevo' _ => by
      obtain ⟨q1, q2⟩ := hbk
      refine ⟨fun i c hi => ?_, ?_⟩
      · rw [List.getElem?_set] at hi
        split at hi
        · split at hi
          · cases hi; rfl
          · cases hi
        · exact q1 i c hi
      · rw [Ctx.put_same]
        cases hs : C'.β k with
        | absent => simp [hs] at q2
        | unborn => simp only [hs] at q2; rw [q2] at hj; simp at hj
        | loc blk o =>
          simp only [hs] at q2 ⊢
          obtain ⟨arr, te, r1, r2, r3⟩ := q2
          refine ⟨arr, te, r1, by simpa using r2, fun i c hi => ?_⟩
          simp only [Bool.false_eq_true, if_false]
          rw [List.getElem?_set] at hi
          split at hi
          · rename_i eij
            subst eij
            split at hi
            · cases hi
              obtain ⟨v, s1, s2⟩ := r3 j .nilSl hj
              refine ⟨v, s1, ?_⟩
              have : v = .slice none 0 0 := by
                cases hf : b.flat with
                | true => rw [hf] at s2; simp only [if_true] at s2; cases s2; rfl
                | false => rw [hf] at s2; simp only [Bool.false_eq_true, if_false] at s2; cases s2; rfl
              rw [this]
              exact hv'.mono ⟨fun _ h => h, fun _ _ => rfl, fun _ _ _ arr _ _ h => ⟨arr, h, rfl⟩⟩
            · cases hi
          · obtain ⟨v, s1, s2⟩ := r3 i c hi
            refine ⟨v, s1, ?_⟩
            cases hf : b.flat with
            | true => rw [hf] at s2; simp only [if_true] at s2; exact s2.of0
            | false => rw [hf] at s2; simpa using s2)
  rw [Ctx.put_same] at hc
  exact hg C' Z' a w ⟨hr.tmp.next hle hevo, hc.1, hr.marks.evo hevo, hr.gh.next hle hevo⟩

end
end Ax

/- Typed rows; a place is reached with nil slices taken for slices, in temporaries and in cells. -/
namespace Ax
open Go

theorem bnT {e : Bool} (h : (!e) = true) : e = false := by cases e <;> simp_all
theorem bnF {e : Bool} (h : (!e) = false) : e = true := by cases e <;> simp_all
theorem bneT {a b : Int} (h : (a != b) = true) : ¬ (a = b) := by simpa using h
theorem bneF {a b : Int} (h : (a != b) = false) : a = b := by simpa using h

def cI (n : Int) : List AV := [.int .i64 n]
def cB (b : Bool) : List AV := [.bool b]
def rowI (l : List Int) : List AV := l.flatMap cI
def rowB (l : List Bool) : List AV := l.flatMap cB
def cLs {α : Type} (f : List α → List AV) (l : List α) : List AV := [.rsl (f l) 0 l.length]
def rowLs {α : Type} (f : List α → List AV) (l : List (List α)) : List AV := l.flatMap (cLs f)

section
variable {α : Type} (f : α → List AV) {s : Nat}

theorem row_len (hf : ∀ a, (f a).length = s) : ∀ l : List α, (l.flatMap f).length = l.length * s
  | [] => by simp
  | a :: l => by rw [List.flatMap_cons, List.length_append, row_len hf l, hf, List.length_cons, Nat.add_mul]; omega

theorem row_drop (hf : ∀ a, (f a).length = s) : ∀ {l : List α} {i : Nat} {a : α} {k : Nat}, l[i]? = some a → k ≤ s →
    (l.flatMap f).drop (0 + i * s + k) = (f a).drop k ++ (l.drop (i + 1)).flatMap f
  | [], i, a, k, h, _ => by simp at h
  | b :: l, 0, a, k, h, hk => by
    simp only [List.getElem?_cons_zero, Option.some.injEq] at h
    subst h
    rw [List.flatMap_cons, List.drop_append_of_le_length (by rw [hf]; omega)]
    simp
  | b :: l, i + 1, a, k, h, hk => by
    simp only [List.getElem?_cons_succ] at h
    rw [List.flatMap_cons, show 0 + (i + 1) * s + k = (f b).length + (0 + i * s + k) by rw [hf b, Nat.add_mul]; omega, List.drop_length_add_append]
    exact row_drop hf h hk

theorem row_part (hf : ∀ a, (f a).length = s) {k m : Nat} (hk : k + m ≤ s) {l : List α} {i : Nat} {a : α} (h : l[i]? = some a) :
    ((l.flatMap f).drop (0 + i * s + k)).take m = ((f a).drop k).take m := by
  rw [row_drop f hf h (by omega), List.take_append_of_le_length (by rw [List.length_drop, hf]; omega)]

theorem row_fits (hf : ∀ a, (f a).length = s) {k m : Nat} (hk : k + m ≤ s) {l : List α} {i : Nat} {a : α} (h : l[i]? = some a) : 0 + i * s + k + m ≤ (l.flatMap f).length := by
  rw [row_len f hf]
  have hi := (List.getElem?_eq_some_iff.1 h).1
  have : (i + 1) * s ≤ l.length * s := Nat.mul_le_mul_right s hi
  rw [Nat.add_mul] at this; omega

theorem setAt_app_left : ∀ {xs A B : List AV} {o : Nat}, o + xs.length ≤ A.length → setAt (A ++ B) o xs = setAt A o xs ++ B
  | [], A, B, o, _ => rfl
  | x :: xs, A, B, o, h => by
    simp only [List.length_cons] at h
    simp only [setAt]
    rw [List.set_append_left (h := by omega)]
    exact setAt_app_left (by simp; omega)

theorem setAt_app_right : ∀ {xs A B : List AV} {o : Nat}, setAt (A ++ B) (A.length + o) xs = A ++ setAt B o xs
  | [], A, B, o => rfl
  | x :: xs, A, B, o => by
    simp only [setAt]
    rw [List.set_append_right (h := by omega), show A.length + o - A.length = o by omega, show A.length + o + 1 = A.length + (o + 1) by omega]
    exact setAt_app_right

theorem row_set (hf : ∀ a, (f a).length = s) {k : Nat} {xs : List AV} : ∀ {l : List α} {i : Nat} {a a' : α}, l[i]? = some a → setAt (f a) k xs = f a' → k + xs.length ≤ s →
    setAt (l.flatMap f) (0 + i * s + k) xs = (l.set i a').flatMap f
  | [], i, a, a', h, _, _ => by simp at h
  | b :: l, 0, a, a', h, he, hk => by
    simp only [List.getElem?_cons_zero, Option.some.injEq] at h
    subst h
    rw [List.flatMap_cons, List.set_cons_zero, List.flatMap_cons, ← he, show 0 + 0 * s + k = k by omega, setAt_app_left (by rw [hf]; omega)]
  | b :: l, i + 1, a, a', h, he, hk => by
    simp only [List.getElem?_cons_succ] at h
    rw [List.flatMap_cons, List.set_cons_succ, List.flatMap_cons, show 0 + (i + 1) * s + k = (f b).length + (0 + i * s + k) by rw [hf b, Nat.add_mul]; omega, setAt_app_right]
    rw [row_set hf h he hk]

theorem row_app (a b : List α) : (a ++ b).flatMap f = a.flatMap f ++ b.flatMap f := by simp

end

theorem idx_ok {α : Type} {l : List α} {i : Nat} {a : α} (h : l[i]? = some a) : (0 : Int) ≤ (i : Int) ∧ (i : Int) < (l.length : Int) := by
  have := (List.getElem?_eq_some_iff.1 h).1; omega
theorem idx_ok' {α : Type} {l : List α} {i : Int} {a : α} (h0 : 0 ≤ i) (h : l[Int.toNat i]? = some a) : 0 ≤ i ∧ i < (l.length : Int) := by
  have := (List.getElem?_eq_some_iff.1 h).1; omega

section
variable {P : Program} {E : Env} {K K' : List Item} {st st' : St}

def denilC (st : St) : List (Nat × Nat × Nat) → Option St
  | [] => some st
  | (k, j, sz) :: r => match st.blks[k]? with
    | some b => (match b.live, b.cells[j]? with
      | true, some .nilSl => denilC ⟨st.tmps, (st.blks ++ [(⟨true, 0, sz, true, [], true⟩ : Blk)]).set k { b with flat := false, cells := b.cells.set j (.sl st.blks.length 0 0 0 sz) }⟩ r
      | _, _ => none)
    | none => none

theorem denilCs_step : ∀ {ds : List (Nat × Nat × Nat)} {st st' : St}, denilC st ds = some st' → G P E K st' → G P E K st
  | [], st, st', h, hg => by simp only [denilC, Option.some.injEq] at h; subst h; exact hg
  | (k, j, sz) :: r, st, st', h, hg => by
    simp only [denilC] at h
    split at h
    · rename_i b hb
      split at h
      · rename_i hl hj
        exact denilC_step hb hl hj (denilCs_step h hg)
      · cases h
    · cases h

def segC (P : Program) (ds : List (Nat × Nat)) (cs : List (Nat × Nat × Nat)) (live : List Nat) (m n : Nat) (K : List Item) (st : St) (evs : List EV) : Option (List Item × St × List Prop) :=
  match walk P n K st evs with
  | some (K', st', _, o1) => (match denil st' ds with
    | some st1 => (match denilC st1 cs with
      | some st1 => (match weak live m st1 with
        | some st2 => some (K', st2, o1)
        | none => none)
      | none => none)
    | none => none)
  | none => none

theorem segC_step {n m : Nat} {ds : List (Nat × Nat)} {cs : List (Nat × Nat × Nat)} {live : List Nat} {evs : List EV} {obs : List Prop} (hk : E.b.kind = .normal) (hgh : refsBelows m E.gA = true) (hmx : P.follows .mixedOrders = true)
    (h : segC P ds cs live m n K st evs = some (K', st', obs)) (ho : AllP obs) (hg : G P E K' st') : G P E K st := by
  unfold segC at h
  split at h
  · rename_i K1 st1 evs1 o1 h1
    split at h
    · rename_i st2 h2
      split at h
      · rename_i st3 h3
        split at h
        · rename_i st4 h4
          simp only [Option.some.injEq, Prod.mk.injEq] at h
          obtain ⟨rfl, rfl, rfl⟩ := h
          exact walk_step hk hmx h1 ho (denil_step h2 (denilCs_step h3 (weak_step hgh h4 hg)))
        · cases h
      · cases h
    · cases h
  · cases h

end
end Ax

/- A range over a function, as a fold over what it yields. -/
namespace Ax
open Go

/-- Goes through a list until a step says to stop. -/
def foldStop {σ X : Type} (step : σ → X → σ × Bool) : σ → List X → σ × Bool
  | s, [] => (s, true)
  | s, x :: xs => bif (step s x).2 then foldStop step (step s x).1 xs else ((step s x).1, false)

section
variable {σ X : Type} (step : σ → X → σ × Bool)

theorem foldStop_app : ∀ (s : σ) (a b : List X), foldStop step s (a ++ b) = bif (foldStop step s a).2 then foldStop step (foldStop step s a).1 b else foldStop step s a
  | s, [], b => rfl
  | s, x :: a, b => by
    simp only [List.cons_append, foldStop]
    cases (step s x).2 with
    | true => simpa using foldStop_app _ a b
    | false => rfl

theorem foldStop_take {s : σ} {L : List X} {i : Nat} {x : X} (h : L[i]? = some x) : foldStop step s (L.take (i + 1)) = bif (foldStop step s (L.take i)).2 then step (foldStop step s (L.take i)).1 x else foldStop step s (L.take i) := by
  rw [List.take_add_one, h, Option.toList, foldStop_app]
  cases (foldStop step s (L.take i)).2 with
  | false => rfl
  | true =>
    simp only [cond_true, foldStop]
    generalize step (foldStop step s (L.take i)).1 x = r
    obtain ⟨a, b⟩ := r
    cases b <;> rfl

def stAt (s : σ) (L : List X) (i : Nat) : σ := (foldStop step s (L.take i)).1
def contAt (s : σ) (L : List X) (i : Nat) : Bool := match L[i]? with
  | some x => (step (stAt step s L i) x).2
  | none => true

theorem all_cont {s : σ} {L : List X} : ∀ {i : Nat}, i ≤ L.length → (∀ j, j < i → contAt step s L j = true) → (foldStop step s (L.take i)).2 = true
  | 0, _, _ => rfl
  | i + 1, hi, h => by
    have ih := all_cont (i := i) (by omega) (fun j hj => h j (by omega))
    have hx : L[i]? = some L[i] := by simp [show i < L.length by omega]
    rw [foldStop_take step hx, ih, cond_true]
    have := h i (by omega)
    unfold contAt at this
    rw [hx] at this
    exact this

theorem stop_fold {s : σ} {L : List X} : ∀ (d i : Nat), i + d = L.length → (foldStop step s (L.take i)).2 = true →
    (stopAt (contAt step s L) i d = some L.length ∧ (foldStop step s L).2 = true) ∨ (stopAt (contAt step s L) i d = none ∧ (foldStop step s L).2 = false)
  | 0, i, h, h2 => .inl ⟨by simp only [stopAt]; rw [show i = L.length by omega], by rw [List.take_of_length_le (by omega)] at h2; exact h2⟩
  | d + 1, i, h, h2 => by
    have hx : L[i]? = some L[i] := by simp [show i < L.length by omega]
    have h3 := foldStop_take step (s := s) hx
    rw [h2, cond_true] at h3
    have hc : contAt step s L i = (step (stAt step s L i) L[i]).2 := by unfold contAt; rw [hx]
    simp only [stopAt]
    cases h4 : contAt step s L i with
    | true =>
      simp only [cond_true]
      exact stop_fold d (i + 1) (by omega) (by rw [h3]; rw [hc] at h4; exact h4)
    | false =>
      refine .inr ⟨rfl, ?_⟩
      rw [hc] at h4
      have h5 : foldStop step s L = foldStop step s (L.take (i + 1)) := by
        have : L = L.take (i + 1) ++ L.drop (i + 1) := (List.take_append_drop _ _).symm
        rw [this, foldStop_app]
        have e : (L.take (i + 1) ++ L.drop (i + 1)).take (i + 1) = L.take (i + 1) := by rw [List.take_append_drop]
        rw [e, h3]
        unfold stAt at h4
        rw [h4]; rfl
      rw [h5, h3]; exact h4

end

theorem foldStop_go {σ X : Type} (f : σ → X → σ) : ∀ (L : List X) (s : σ), foldStop (fun s x => (f s x, true)) s L = (L.foldl f s, true)
  | [], s => rfl
  | x :: L, s => by simp only [foldStop, cond_true, List.foldl_cons]; exact foldStop_go f L _

/-- The end of a round: what comes of it. -/
def RoundR {σ : Type} (Bl : σ → List Blk) (jump : Code) (r : σ × Bool) (E : Env) : Prop :=
  E.Fin = ToCfg (fun K => if r.2 = true then K = [] else isJump jump K) (fun st => st.blks = Bl r.1) E

def isJumpB : Code → List Item → Bool
  | .ret, .code .ret :: _ => true
  | .exit i, .code (.exit j) :: k => i == j && (exitTo j k).isNone
  | _, _ => false

theorem isJumpB_ok {jump : Code} {K : List Item} (h : isJumpB jump K = true) : isJump jump K := by
  unfold isJumpB at h
  split at h
  · exact ⟨_, rfl, .inl rfl⟩
  · simp only [Bool.and_eq_true, beq_iff_eq, Option.isNone_iff_eq_none] at h
    obtain ⟨rfl, h⟩ := h
    exact ⟨_, rfl, .inr ⟨_, rfl, h⟩⟩
  · cases h

section
variable {P : Program} {E : Env} {K K' : List Item} {st st' : St}

theorem round_go {σ : Type} {Bl : σ → List Blk} {jump : Code} {r : σ × Bool} {s' : σ} (hQ : RoundR Bl jump r E) (hr : r = (s', true)) (hs : st.blks = Bl s') : G P E [] st := by
  subst hr
  exact G_here hQ (by simp) hs

theorem round_jump {σ : Type} {Bl : σ → List Blk} {jump : Code} {r : σ × Bool} {s' : σ} (hQ : RoundR Bl jump r E) (hr : r = (s', false)) (hK : isJumpB jump K = true) (hs : st.blks = Bl s') : G P E K st := by
  subst hr
  exact G_here hQ (by simpa using isJumpB_ok hK) hs

theorem range_fold {σ X : Type} {fv : AV} {arg : X → List AV} {L : List X} {jump : Code} {g : Operand} {ps : Array Tmp} (Bl : σ → List Blk) (S1 : σ → X → St) (step : σ → X → σ × Bool) (s0 : σ)
    (hro : E.b.roundOf = none) (hk : E.b.kind = .normal) (hK : (rfParts K).map (fun r => (r.1, r.2.1)) = some (g, ps)) (hfv : evalO st.tmps g = fv) (hnr : noRef fv = true) (hit : IterF P fv (L.map arg)) (hB0 : Bl s0 = st.blks)
    (hps : ∀ x, (arg x).length = ps.size)
    (hA : ∀ s x, ∀ E', RoundE (st.tmps ++ E.gA) E' → G P E' [.beginRound, .code (rfBody K)] (S1 s x) → G P E' [.code (rfAssign K), .beginRound, .code (rfBody K)] ⟨putPs st.tmps ps.toList (arg x), Bl s⟩)
    (hB : ∀ i x s, L[i]? = some x → foldStop step s0 (L.take i) = (s, true) → ∀ E', RoundE (st.tmps ++ E.gA) E' → RoundR Bl jump (step s x) E' → G P E' [.code (rfBody K)] (S1 s x))
    (hend : ∀ s, foldStop step s0 L = (s, true) → G P E (rfRest K) ⟨st.tmps, Bl s⟩)
    (hjmp : ∀ s, foldStop step s0 L = (s, false) → G P E (.code jump :: rfRest K) ⟨st.tmps, Bl s⟩) : G P E K st := by
  have hget : ∀ {i : Nat} {a : List AV}, (L.map arg)[i]? = some a → ∃ x, L[i]? = some x ∧ a = arg x := by
    intro i a h
    simp only [List.getElem?_map, Option.map_eq_some_iff] at h
    obtain ⟨c, h1, h2⟩ := h
    exact ⟨c, h1, h2.symm⟩
  refine range_stepA (cont := contAt step s0 L) (jump := jump) (g := g) (ps := ps) (fun o => match o with
      | some i => Bl (stAt step s0 L i)
      | none => Bl (foldStop step s0 L).1) (fun i => match L[i]? with
      | some x => S1 (stAt step s0 L i) x
      | none => st) hro hk hK hfv hnr hit hB0 (fun i a h => ?_) (fun i a h hpre E' hR hfin => ?_) (fun i a h hpre E' hR hfin => ?_) ?_
  · obtain ⟨x, h1, rfl⟩ := hget h; exact hps x
  · obtain ⟨x, h1, rfl⟩ := hget h
    simp only [h1] at hfin
    exact hA _ x E' hR (G_here hfin rfl rfl)
  · obtain ⟨x, h1, rfl⟩ := hget h
    simp only [h1]
    have hi : i ≤ L.length := Nat.le_of_lt (List.getElem?_eq_some_iff.1 h1).1
    have hall := all_cont step hi hpre
    have hst : foldStop step s0 (L.take i) = (stAt step s0 L i, true) := by
      unfold stAt
      rw [← hall]
    have hc : contAt step s0 L i = (step (stAt step s0 L i) x).2 := by unfold contAt; rw [h1]
    have h3 := foldStop_take step (s := s0) h1
    rw [hall, cond_true] at h3
    refine hB i x _ h1 hst E' hR ?_
    unfold RoundR
    rw [hfin, hc]
    congr 1
    funext st1
    congr 1
    unfold nxt
    rw [hc]
    cases h4 : (step (stAt step s0 L i) x).2 with
    | true => simp only [cond_true]; unfold stAt; rw [h3]
    | false =>
      simp only [cond_false]
      have h5 : foldStop step s0 L = foldStop step s0 (L.take (i + 1)) := by
        have : L = L.take (i + 1) ++ L.drop (i + 1) := (List.take_append_drop _ _).symm
        rw [this, foldStop_app]
        have e : (L.take (i + 1) ++ L.drop (i + 1)).take (i + 1) = L.take (i + 1) := by rw [List.take_append_drop]
        rw [e, h3]
        unfold stAt at h4
        rw [h4]; rfl
      rw [h5, h3]; rfl
  · have hlen : (L.map arg).length = L.length := by simp
    rw [hlen]
    rcases stop_fold step (s := s0) (L := L) L.length 0 (by omega) rfl with ⟨h1, h2⟩ | ⟨h1, h2⟩
    · rw [h1]
      have : stAt step s0 L L.length = (foldStop step s0 L).1 := by unfold stAt; rw [List.take_of_length_le (Nat.le_refl _)]
      simp only [this]
      exact hend _ (by rw [← h2])
    · rw [h1]; exact hjmp _ (by rw [← h2])

end
end Ax

/- The arguments of a law, read: typed data and what stands for it. -/
namespace Ax
open Go Go.ChangeShapes Go.WideShapes Go.RowKit

abbrev Old (W : World) (b : Nat) : Prop := b < W.heap.size

/-- What is read as of this type stands for typed data. -/
def Dec (P : Program) (W : World) (t : TypeId) (T : Type) (F : T → List AV) (Q : T → Prop) : Prop :=
  ∀ (H : Type) (enc : TypeId × Value → H) (sp : Nat → Bool) (held : Bool) (fuel : Nat) (cs : List Value) (x : DataW H × List MemPlace),
    DataW.trod enc P W 0 sp held fuel t cs = some x → ∃ a, Q a ∧ VRs (Old W) W C0 (F a) cs

/-- The same for the fields from one on; 'off' is where they begin. -/
def DecFs (P : Program) (W : World) (fs : List Field) (off : Nat) (T : Type) (F : T → List AV) (Q : T → Prop) (tot : Nat) : Prop :=
  ∀ (H : Type) (enc : TypeId × Value → H) (sp : Nat → Bool) (held : Bool) (fuel : Nat) (cs : List Value), cs.length = tot →
    (∀ f ∈ fs, ∃ x, DataW.trod enc P W 0 sp held fuel f.type ((cs.drop f.offset).take (P.cellsOf f.type)) = some x) → ∃ a, Q a ∧ VRs (Old W) W C0 (F a) (cs.drop off)

section
variable {P : Program} {W : World} {t e : TypeId}

theorem VRs.one1 {Z : Nat → Prop} {w : World} {C : Ctx} {a : AV} {c : Value} (h : VR Z w C a c) : VRs Z w C [a] [c] :=
  ⟨rfl, fun i x y p q => by
    cases i with
    | zero => simp at p q; subst p; subst q; exact h
    | succ i => simp at p⟩

theorem dec_int {k : IntKind} (ht : P.underlying t = some (.int k)) : Dec P W t Int (fun n => [.int k n]) (fun n => k.min ≤ n ∧ n ≤ k.max) := by
  intro H enc sp held fuel cs x h
  obtain ⟨n, rfl, -, hw⟩ := DataW.trod_int ht h
  simp only [Lit.wf, Bool.and_eq_true, decide_eq_true_eq] at hw
  exact ⟨n, hw, VRs.one1 (.int _ _)⟩

theorem dec_i64 (ht : P.underlying t = some (.int .i64)) : Dec P W t Int cI (fun n => InR .i64 n) := by
  intro H enc sp held fuel cs x h
  obtain ⟨n, hn, hv⟩ := dec_int ht H enc sp held fuel cs x h
  exact ⟨n, by simpa [InR, IntKind.min, IntKind.max, IntKind.signed, IntKind.bits] using hn, hv⟩

theorem dec_bool (ht : P.underlying t = some .bool) : Dec P W t Bool cB (fun _ => True) := by
  intro H enc sp held fuel cs x h
  obtain ⟨b, rfl, -⟩ := DataW.trod_bool ht h
  exact ⟨b, trivial, VRs.one1 (.bool _)⟩

theorem Dec.map {T S : Type} {F : T → List AV} {Q : T → Prop} {F' : S → List AV} {Q' : S → Prop} (h : Dec P W t T F Q) (g : T → S) (hF : ∀ a, F' (g a) = F a) (hQ : ∀ a, Q a → Q' (g a)) : Dec P W t S F' Q' := by
  intro H enc sp held fuel cs x hx
  obtain ⟨a, q, v⟩ := h H enc sp held fuel cs x hx
  exact ⟨g a, hQ a q, by rw [hF]; exact v⟩

theorem decFs_nil {tot : Nat} : DecFs P W [] tot Unit (fun _ => []) (fun _ => True) tot := by
  intro H enc sp held fuel cs hl _
  exact ⟨(), trivial, by rw [List.drop_of_length_le (by omega)]; exact ⟨rfl, fun i x y p q => by simp at p⟩⟩

theorem decFs_cons {f : Field} {fs : List Field} {off n tot : Nat} {A B : Type} {FA : A → List AV} {QA : A → Prop} {FB : B → List AV} {QB : B → Prop} (hn : P.cellsOf f.type = n) (ho : f.offset = off)
    (D : Dec P W f.type A FA QA) (R : DecFs P W fs (off + n) B FB QB tot) (hle : off + n ≤ tot) : DecFs P W (f :: fs) off (A × B) (fun p => FA p.1 ++ FB p.2) (fun p => QA p.1 ∧ QB p.2) tot := by
  intro H enc sp held fuel cs hl h
  obtain ⟨x, hx⟩ := h f (by simp)
  obtain ⟨a, qa, va⟩ := D H enc sp held fuel _ x hx
  obtain ⟨b, qb, vb⟩ := R H enc sp held fuel cs hl fun g hg => h g (by simp [hg])
  rw [hn, ho] at va
  refine ⟨(a, b), ⟨qa, qb⟩, ?_⟩
  have e : cs.drop off = (cs.drop off).take n ++ cs.drop (off + n) := by
    rw [← List.drop_drop]; exact (List.take_append_drop _ _).symm
  rw [e]
  exact va.app vb

theorem dec_struct {fs : Array Field} {T : Type} {F : T → List AV} {Q : T → Prop} {l : List Field} {tot : Nat} (ht : P.underlying t = some (.struct fs)) (hl : fs.toList = l) (hc : P.cellsOf t = tot) (h : DecFs P W l 0 T F Q tot) : Dec P W t T F Q := by
  intro H enc sp held fuel cs x hx
  obtain ⟨xs, n, -, -, h1, h2, h3⟩ := DataW.trod_struct ht hx
  obtain ⟨a, q, v⟩ := h H enc sp held n cs (by rw [h1, hc]) fun f hf => by
    rw [← hl] at hf
    obtain ⟨i, hi⟩ := List.mem_iff_getElem?.1 hf
    have := h3 i f (by simpa using hi)
    have hlt : i < xs.length := by rw [h2]; have := (List.getElem?_eq_some_iff.1 hi).1; simpa using this
    exact ⟨xs[i], by rw [this]; simp [hlt]⟩
  exact ⟨a, q, by simpa using v⟩

theorem cells_get {W : World} {a : Addr} {n : Nat} {cs : List Value} (h : W.cells? 0 a n = some cs) : cs.length = n ∧ ∀ i, i < n → W.cell? (a.add i) = cs[i]? := by
  unfold World.cells? at h
  rw [if_pos (Nat.zero_le _)] at h
  have key : ∀ (n k : Nat) (cs : List Value), ((List.range' k n).mapM fun i => W.cell? (a.add i)) = some cs → cs.length = n ∧ ∀ i, i < n → W.cell? (a.add (k + i)) = cs[i]? := by
    intro n
    induction n with
    | zero => intro k cs h; simp at h; subst h; simp
    | succ n ih =>
      intro k cs h
      rw [List.range'_succ, List.mapM_cons] at h
      simp only [Option.bind_eq_bind, Option.bind_eq_some_iff, Option.pure_def, Option.some.injEq] at h
      obtain ⟨c, h1, cs', h2, rfl⟩ := h
      obtain ⟨i1, i2⟩ := ih (k + 1) cs' h2
      refine ⟨by simp [i1], fun i hi => ?_⟩
      cases i with
      | zero => simpa using h1
      | succ i => rw [show k + (i + 1) = k + 1 + i by omega, i2 i (by omega)]; simp
  have := key n 0 cs (by rw [← List.range_eq_range']; exact h)
  simpa using this

theorem list_of {T : Type} {Q : Nat → T → Prop} : ∀ (n k : Nat), (∀ i, k ≤ i → i < k + n → ∃ a, Q i a) → ∃ l : List T, l.length = n ∧ ∀ i a, l[i]? = some a → Q (k + i) a
  | 0, k, _ => ⟨[], rfl, by simp⟩
  | n + 1, k, h => by
    obtain ⟨a, ha⟩ := h k (Nat.le_refl _) (by omega)
    obtain ⟨l, hl, hq⟩ := list_of n (k + 1) fun i h1 h2 => h i (by omega) (by omega)
    refine ⟨a :: l, by simp [hl], fun i b hb => ?_⟩
    cases i with
    | zero => simp at hb; subst hb; exact ha
    | succ i => simp at hb; have := hq i b hb; rw [show k + (i + 1) = k + 1 + i by omega]; exact this

theorem dec_slice {T : Type} {F : T → List AV} {Q : T → Prop} {n : Nat} (ht : P.underlying t = some (.slice e)) (hc : P.cellsOf e = n) (hn : 0 < n) (hF : ∀ a, (F a).length = n) (hk : ∀ a, cellsOk (F a) = true) (D : Dec P W e T F Q) :
    Dec P W t (List T) (fun l => [.rsl (l.flatMap F) 0 l.length]) (fun l => l.length ≤ 9223372036854775807 ∧ ∀ a ∈ l, Q a) := by
  intro H enc sp held fuel cs x h
  rcases DataW.trod_slice ht h with ⟨rfl, -⟩ | ⟨a, len, cap, elems, rest, m, -, rfl, -, -, h1, h2, h3, h4, -, -⟩
  · exact ⟨[], ⟨by simp, by simp⟩, VRs.one1 .rsl0⟩
  have hel : ∀ i, i < len → ∃ b, Q b ∧ ∃ vs, W.cells? 0 (a.add (i * n)) n = some vs ∧ VRs (Old W) W C0 (F b) vs := by
    intro i hi
    have := h4 i hi
    rw [hc, List.getElem?_eq_getElem (by omega)] at this
    obtain ⟨vs, g1, g2⟩ := Option.bind_eq_some_iff.1 this
    obtain ⟨b, qb, vb⟩ := D H enc sp held m vs _ g2
    exact ⟨b, qb, vs, g1, vb⟩
  obtain ⟨l, hl, hq⟩ := list_of (Q := fun i b => Q b ∧ ∃ vs, W.cells? 0 (a.add (i * n)) n = some vs ∧ VRs (Old W) W C0 (F b) vs) len 0 fun i _ hi => hel i (by omega)
  refine ⟨l, ⟨by rw [hl]; unfold maxLen at h2; omega, fun b hb => ?_⟩, VRs.one1 ?_⟩
  · obtain ⟨i, hi⟩ := List.mem_iff_getElem?.1 hb
    exact (hq i b hi).1
  rcases Nat.eq_zero_or_pos len with h0 | h0
  · subst h0
    obtain rfl : l = [] := List.length_eq_zero_iff.1 hl
    exact .rsl0
  have hcell : ∀ j, j < len * n → ∃ v, W.cell? ⟨a.block, a.off + j, none⟩ = some v ∧ ∃ c, (l.flatMap F)[j]? = some c ∧ VR (Old W) W C0 c v ∧ isCell c = true ∧ a.spot = none := by
    intro j hj
    have hi : j / n < len := by rw [Nat.div_lt_iff_lt_mul hn]; exact hj
    have hm : j % n < n := Nat.mod_lt _ hn
    have hb : l[j / n]? = some l[j / n] := by simp [hl, hi]
    obtain ⟨-, vs, g1, g2⟩ := hq _ _ hb
    rw [Nat.zero_add] at g1
    obtain ⟨g3, g4⟩ := cells_get g1
    have g5 := g4 (j % n) hm
    have hv : vs[j % n]? = some vs[j % n] := by simp [g3, hm]
    rw [hv] at g5
    have hdm : j / n * n + j % n = j := by rw [Nat.mul_comm]; exact Nat.div_add_mod j n
    have hspot : a.spot = none := by
      have g6 := g4 0 hn
      rw [List.getElem?_eq_getElem (by omega)] at g6
      have hfirst : ∃ v0, W.cell? a = some v0 := by
        have hb0 : l[0]? = some l[0] := by simp [hl, h0]
        obtain ⟨-, vs0, k1, -⟩ := hq _ _ hb0
        obtain ⟨k3, k4⟩ := cells_get k1
        have k5 := k4 0 hn
        rw [List.getElem?_eq_getElem (by omega)] at k5
        exact ⟨_, by simpa [Addr.add] using k5⟩
      obtain ⟨v0, hv0⟩ := hfirst
      unfold World.cell? at hv0
      split at hv0
      · split at hv0
        · cases hv0
        · rename_i hsp; simpa using hsp
      · cases hv0
    have haddr : (a.add (j / n * n)).add (j % n) = ⟨a.block, a.off + j, none⟩ := by
      obtain ⟨ab, ao, asp⟩ := a
      simp only at hspot
      subst hspot
      unfold Addr.add
      split <;> split <;> simp_all <;> omega
    rw [haddr] at g5
    refine ⟨_, g5, ?_⟩
    have hrow := row_drop F hF (k := j % n) hb (by omega)
    have e1 : (l.flatMap F)[j]? = (F l[j / n])[j % n]? := by
      have := congrArg (fun l => l[0]?) hrow
      simp only [List.getElem?_drop, Nat.add_zero] at this
      rw [show 0 + j / n * n + j % n = j by omega] at this
      rw [this, List.getElem?_append_left (by rw [List.length_drop, hF]; omega), List.getElem?_drop, Nat.add_zero]
    have hF1 : (F l[j / n])[j % n]? = some ((F l[j / n])[j % n]'(by rw [hF]; exact hm)) := by simp [hF, hm]
    refine ⟨_, e1.trans hF1, g2.2 _ _ _ hF1 hv, cellsOk_get (hk _) hF1, hspot⟩
  have hrl : (l.flatMap F).length = len * n := by rw [row_len F hF, hl]
  obtain ⟨v0, c0, -, -, -, -, hspot⟩ := hcell 0 (Nat.mul_pos h0 hn)
  have haa : a = ⟨a.block, 0 + a.off, none⟩ := by
    obtain ⟨ab, ao, asp⟩ := a
    simp only at hspot ⊢
    subst hspot; simp
  have hblk : a.block < W.heap.size := by
    unfold World.cell? at c0
    split at c0
    · rename_i heq; exact (Array.getElem?_eq_some_iff.1 heq).1
    · cases c0
  rw [← hl]
  have hval : Value.slice (some a) l.length cap = Value.slice (some ⟨a.block, a.off + 0, none⟩) l.length cap := by
    congr 2
    rw [haa]; simp
  rw [hval]
  refine .rsl (o := a.off) (fun i => (W.cell? ⟨a.block, a.off + i, none⟩).getD undef) hblk (by omega) (fun i hi => ?_) (fun i c hc => ?_) (fun i c hc => ?_)
  · obtain ⟨v, h5, -⟩ := hcell i (by omega)
    rw [h5]; rfl
  · obtain ⟨v, -, c', h6, -, h7, -⟩ := hcell i (by have := (List.getElem?_eq_some_iff.1 hc).1; omega)
    rw [hc] at h6; cases h6; exact h7
  · obtain ⟨v, h5, c', h6, h7, -, -⟩ := hcell i (by have := (List.getElem?_eq_some_iff.1 hc).1; omega)
    rw [hc] at h6; cases h6; rw [h5]; exact h7

/-! ### A law's arguments -/
/-- One argument. -/
def DecA (P : Program) (W : World) (t : TypeId) (T : Type) (F : T → AV) (Q : T → Prop) : Prop :=
  ∀ (H : Type) (enc : TypeId × Value → H) (base : Nat) (v : Value) (d : DataW H) (ps : List MemPlace), Value.okWide P W .any base t v → DataW.Trod enc P W 0 (fun _ => true) true t v d ps →
    ∃ a, Q a ∧ VR (Old W) W C0 (F a) v

theorem VRs.one' {Z : Nat → Prop} {w : World} {C : Ctx} {a : AV} {c : Value} (h : VRs Z w C [a] [c]) : VR Z w C a c := h.2 0 a c rfl rfl

theorem decA_int (ht : P.underlying t = some (.int .i64)) : DecA P W t Int (fun n => .int .i64 n) (fun n => InR .i64 n) := by
  intro H enc base v d ps hok ⟨fuel, h⟩
  obtain ⟨n, rfl⟩ := okWide_int ht hok
  obtain ⟨a, q, hv⟩ := dec_i64 ht H enc _ _ fuel _ _ h
  exact ⟨a, q, hv.one'⟩

theorem decA_bool (ht : P.underlying t = some .bool) : DecA P W t Bool (fun b => .bool b) (fun _ => True) := by
  intro H enc base v d ps hok ⟨fuel, h⟩
  obtain ⟨n, rfl⟩ := okWide_bool ht hok
  obtain ⟨a, q, hv⟩ := dec_bool ht H enc _ _ fuel _ _ h
  exact ⟨a, q, hv.one'⟩

theorem decA_slice {T : Type} {F : T → AV} {Q : T → Prop} (ht : P.underlying t = some (.slice e)) (D : Dec P W t T (fun a => [F a]) Q) : DecA P W t T F Q := by
  intro H enc base v d ps hok ⟨fuel, h⟩
  obtain ⟨a, len, cap, rfl⟩ := okWide_slice ht hok
  obtain ⟨a, q, hv⟩ := D H enc _ _ fuel _ _ h
  exact ⟨a, q, hv.one'⟩

theorem decA_struct {T : Type} {F : T → List AV} {Q : T → Prop} {fs : Array Field} (ht : P.underlying t = some (.struct fs)) (D : Dec P W t T F Q) : DecA P W t T (fun a => .agg (F a)) Q := by
  intro H enc base v d ps hok ⟨fuel, h⟩
  obtain ⟨cs, rfl, -⟩ := okWide_struct ht hok
  obtain ⟨a, q, hv⟩ := D H enc _ _ fuel _ _ h
  exact ⟨a, q, .agg (by have := hv.1; simpa [Value.cells] using this) fun i c x p r => hv.2 i c x p (by simpa [Value.cells] using r)⟩

/-- All arguments; 'K': what holds of them together. -/
def DecAs (P : Program) (W : World) (ts : List TypeId) (K : List AV → Prop) : Prop :=
  ∀ (H : Type) (enc : TypeId × Value → H) (base : Nat) (vs : List Value) (ds : List (DataW H)) (ps : List MemPlace),
    (∀ (j : Nat) t v, ts[j]? = some t → vs[j]? = some v → Value.okWide P W .any base t v) → DataW.TrodAll enc P W 0 (fun _ => true) true ts vs ds ps → ∃ al, K al ∧ VRs (Old W) W C0 al vs

theorem decAs_nil {K : List AV → Prop} (h : K []) : DecAs P W [] K := by
  intro H enc base vs ds ps _ hT
  obtain ⟨rfl, rfl, rfl⟩ := trodAll_nil hT
  exact ⟨[], h, rfl, fun i x y p q => by simp at p⟩

theorem decAs_cons {ts : List TypeId} {T : Type} {F : T → AV} {Q : T → Prop} {K : List AV → Prop} (D : DecA P W t T F Q) (R : ∀ a, Q a → DecAs P W ts fun al => K (F a :: al)) : DecAs P W (t :: ts) K := by
  intro H enc base vs ds ps hok hT
  obtain ⟨v, vs', d, ds', p, q, rfl, rfl, rfl, h1, h2⟩ := trodAll_cons hT
  obtain ⟨a, qa, va⟩ := D H enc base v d p (hok 0 t v rfl rfl) h1
  obtain ⟨al, ka, vas⟩ := R a qa H enc base vs' ds' q (fun j t v ht hv => hok (j + 1) t v (by simpa using ht) (by simpa using hv)) h2
  exact ⟨_, ka, by simpa using (VRs.one1 va).app vas⟩

theorem Fr.same_at {W W' : World} (h : Fr W (fun _ => False) W') (p : MemPlace) (hp : p.block < W.heap.size) : W.sameAt W' p := by
  have := h.same p.block hp (fun h => h)
  cases p with
  | cell b off => exact cell_of_heap this
  | map b => exact this

theorem trodAll_stays {H : Type} {enc : TypeId × Value → H} {W' : World} (hl : laidOutB P = true) (h : Fr W (fun _ => False) W') {sp : Nat → Bool} : ∀ {ts : List TypeId} {vs : List Value} {ds : List (DataW H)} {ps : List MemPlace},
    (∀ t ∈ ts, P.readableRec t = true ∧ t < P.types.size) → DataW.TrodAll enc P W 0 (fun _ => true) true ts vs ds ps → (∀ p ∈ ps, sp p.block = true) → DataW.TrodAll enc P W' 0 sp true ts vs ds ps
  | [], vs, ds, ps, _, hT, _ => by
    obtain ⟨rfl, rfl, rfl⟩ := trodAll_nil hT
    rfl
  | t :: ts, vs, ds, ps, hr, hT, hs => by
    have hlt := DataW.TrodAll.lt hT
    obtain ⟨v, vs', d, ds', p, q, rfl, rfl, rfl, h1, h2⟩ := trodAll_cons hT
    refine ⟨p, q, WideElems.Trod_stays hl (hr t (by simp)).1 (hr t (by simp)).2 h1 (fun x hx => h.same_at x (hlt x (by simp [hx]))) (fun x hx => hs x (by simp [hx])),
      trodAll_stays hl h (fun t ht => hr t (by simp [ht])) h2 (fun x hx => hs x (by simp [hx])), rfl⟩

theorem Fr.keptBut {W W' : World} (h : Fr W (fun _ => False) W') (may : MemPlace → Prop) : W.keptBut W' may := by
  refine ⟨h.os, h.output, fun i hi => ?_⟩
  rw [h.same i hi (fun h => h)]
  cases hx : W.heap[i]? with
  | none => simp
  | some o => cases o <;> simp

theorem law_post {H : Type} {enc : TypeId × Value → H} {W' : World} {f : Func} {s : ChangeSpec} {args : Array Value} {ds gs : List (DataW H)} {before : List MemPlace} {tb : TypeId}
    (hW : DataW.Whole enc P f.params.toList s.vars false W args.toList ds gs before) (hv : s.vars = []) (hr : f.resultTypes = #[tb]) (hb : P.underlying tb = some .bool)
    (h1 : (s.fn H (ds ++ gs)).results = [.lit (.bool true)]) (h2 : (s.fn H (ds ++ gs)).args = ds) (h3 : (s.fn H (ds ++ gs)).vars = []) (hl : laidOutB P = true)
    (hread : ∀ t ∈ f.params.toList, P.readableRec t = true ∧ t < P.types.size) (hf : Fr W (fun _ => False) W') : s.post enc P f false true false false W args (.bool true) W' := by
  have hW' := hW
  obtain ⟨p, q, hA, hV, hpq, -, -⟩ := hW
  refine ⟨ds, gs, before, [], p, [], hW', ?_, ?_, ?_, hf.keptBut _, fun h => by cases h⟩
  · rw [h1, hr]
    exact trodAll_mk1 ⟨1, by simp [DataW.trod, Value.cells, hb]⟩
  · rw [h2]
    exact trodAll_stays hl hf hread hA fun x hx => by simpa using DataW.TrodAll.lt hA x hx
  · rw [h3, hv]; rfl

theorem Fr.frozen {W W' : World} (h : Fr W (fun _ => False) W') (a : Addr) (ha : a.block < W.heap.size) : W'.frozen? a = W.frozen? a := by
  unfold World.frozen?; rw [h.same a.block ha (fun h => h)]

end
end Ax

/- Values that say less: a nil slice is a slice of length 0. -/
namespace Ax
open Go

def AvLe (a b : AV) : Prop := ∀ (Z : Nat → Prop) (w : World) (c : Value), VR Z w C0 a c → VR Z w C0 b c
def AvLes : List AV → List AV → Prop
  | [], [] => True
  | a :: as', b :: bs => AvLe a b ∧ AvLes as' bs
  | _, _ => False

theorem AvLe.refl (a : AV) : AvLe a a := fun _ _ _ h => h
theorem AvLe.of_eq {a b : AV} (h : a = b) : AvLe a b := h ▸ AvLe.refl a
theorem nil_le {row : List AV} {off : Nat} : AvLe .nilSl (.rsl row off 0) := fun _ _ _ h => by cases h; exact .rsl0

theorem AvLes.vrs {Z : Nat → Prop} {w : World} : ∀ {as' bs : List AV} {vs : List Value}, AvLes as' bs → VRs Z w C0 as' vs → VRs Z w C0 bs vs
  | [], [], vs, _, h => h
  | a :: as', b :: bs, [], _, h => by have := h.1; simp at this
  | a :: as', b :: bs, v :: vs, hl, h => by
    have h1 : VR Z w C0 a v := h.2 0 a v rfl rfl
    have h2 : VRs Z w C0 as' vs := ⟨by have := h.1; simpa using this, fun i c v p q => h.2 (i + 1) c v (by simpa using p) (by simpa using q)⟩
    have h3 := AvLes.vrs hl.2 h2
    refine ⟨by simp [h3.1], fun i c x p q => ?_⟩
    cases i with
    | zero => simp at p q; subst p; subst q; exact hl.1 _ _ _ h1
    | succ i => exact h3.2 i c x (by simpa using p) (by simpa using q)
  | [], b :: bs, _, hl, _ => hl.elim
  | a :: as', [], _, hl, _ => hl.elim

theorem agg_le {xs ys : List AV} (h : AvLes xs ys) : AvLe (.agg xs) (.agg ys) := fun Z w c hc => by
  cases hc with
  | @agg _ _ arr hl h1 =>
    have := h.vrs (vs := arr.toList) ⟨by simpa using hl, fun i c v p q => h1 i c v p (by simpa using q)⟩
    exact .agg (by simpa using this.1) fun i c v p q => this.2 i c v p (by simpa using q)

theorem tup_le {xs ys : List AV} (h : AvLes xs ys) : AvLe (.tup xs) (.tup ys) := fun Z w c hc => by
  cases hc with
  | @tup _ _ arr hl h1 =>
    have := h.vrs (vs := arr.toList) ⟨by simpa using hl, fun i c v p q => h1 i c v p (by simpa using q)⟩
    exact .tup (by simpa using this.1) fun i c v p q => this.2 i c v p (by simpa using q)

section
variable {P : Program} {E : Env} {K K' : List Item} {st st' : St}

theorem Pure.le {f : FuncId} {args args' : List AV} {res : AV} (h : Pure P f args res) (hl : AvLes args' args) : Pure P f args' res :=
  fun Z w cargs hz ha => h Z w cargs hz (hl.vrs ha)

theorem PureF.le {fv : AV} {args args' : List AV} {res : AV} (h : PureF P fv args res) (hl : AvLes args' args) : PureF P fv args' res :=
  fun Z w cf cargs hz hf ha => h Z w cf cargs hz hf (hl.vrs ha)

theorem G.fin {F' : Machine → Prop} (h : G P { E with Fin := F' } K st) (hm : ∀ m, F' m → E.Fin m) : G P E K st := fun C Z a w hr =>
  let ⟨m', hs, hf⟩ := h C Z a w hr
  ⟨m', hs, hm m' hf⟩

theorem Ended.mono {f : FuncId} {cs : List Frame} {Q Q' : Value → World → Prop} (hq : ∀ v w, Q v w → Q' v w) {m : Machine} (h : Ended P f cs Q m) : Ended P f cs Q' m := by
  obtain ⟨v, w, fr, e, a, b, c⟩ := h
  exact ⟨v, w, fr, e, a, b, hq _ _ c⟩

theorem end_stepL {n : Nat} {f : FuncId} {fn : Func} {evs : List EV} {r res : AV} {obs : List Prop} (hE : PureE P f res E) (hf : P.funcs[f]? = some fn) (hmx : P.follows .mixedOrders = true)
    (h : endA P fn n K st evs = some (r, obs)) (ho : AllP obs) (hr : AvLe r res) : G P E K st := by
  obtain ⟨e1, e2, e3, e4, e5, e6⟩ := hE
  refine G.fin (F' := Ended P f E.cs fun v w' => VR (Zx E.Z0 E.w0 w') w' C0 r v ∧ Fr E.w0 (fun _ => False) w') (end_step ⟨e1, e2, e3, e4, e5, rfl⟩ hf hmx h ho rfl) fun m hm => ?_
  rw [e6]
  exact Ended.mono (fun v w hq => ⟨hr _ _ _ hq.1, hq.2⟩) hm

end
end Ax

/- Rows that are made or copied whole. -/
namespace Ax
open Go

theorem row_rep {α : Type} (f : α → List AV) (n : Nat) (a : α) : (List.replicate n (f a)).flatten = (List.replicate n a).flatMap f := by
  induction n with
  | zero => rfl
  | succ n ih => rw [List.replicate_succ, List.flatten_cons, ih, List.replicate_succ, List.flatMap_cons]

theorem row_all {α : Type} (f : α → List AV) {s : Nat} (hf : ∀ a, (f a).length = s) (l : List α) : ((l.flatMap f).drop 0).take (l.length * s) = l.flatMap f := by
  rw [List.drop_zero, List.take_of_length_le (by rw [row_len f hf]; exact Nat.le_refl _)]

theorem noRefs_app : ∀ {a b : List AV}, noRefs (a ++ b) = (noRefs a && noRefs b)
  | [], b => by simp [noRefs]
  | x :: a, b => by simp [noRefs, noRefs_app, Bool.and_assoc]

theorem row_nr {α : Type} (f : α → List AV) (hf : ∀ a, noRefs (f a) = true) : ∀ l : List α, noRefs (l.flatMap f) = true
  | [] => rfl
  | a :: l => by rw [List.flatMap_cons, noRefs_app, hf, row_nr f hf l]; rfl

end Ax
