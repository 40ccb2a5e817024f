/- A part of the proof: several texts, one behind the other. -/
import Derived.Test.YtemklbioijmjiaaLTopFuelC
set_option linter.unusedVariables false
set_option linter.unusedSimpArgs false
set_option maxRecDepth 100000
namespace Go.Proofs.Ytemklbioijmjiaa
open Go Ax
open Go.Proofs
/-- A number is a set of people,and these have right balances. -/
def VQ (b:List Int) (s:Int):Prop:=∃ S:Nat,s=(S:Int)∧S<2 ^ b.length∧b.length≤10∧∀ x ∈ b,-10000000000≤x∧x≤10000000000
theorem WV {b:List Int} {S:Nat} (hl:b.length≤10) (h:S<2 ^ b.length):S<1024:=Nat.lt_of_lt_of_le h (Nat.pow_le_pow_right (n:=2) (by omega) hl)
/-- The sum of the balances of the first people of a set. -/
def totP (b:List Int) (S:Nat):Nat→Int
 | 0=>0
 | i+1=>totP b S i+b.getD i 0*(if S.testBit i then 1 else 0)
def totN (b:List Int) (S:Nat):Int:=totP b S b.length
theorem qD {b:List Int} {S i:Nat} {e:Int} (h:b[i]?=some e):totP b S (i+1)=totP b S i+e*(if S.testBit i then 1 else 0):=by
 rw [totP,List.getD,h]; rfl
theorem Kw {b:List Int} {S:Nat} (hb:∀ x ∈ b,-10000000000≤x∧x≤10000000000):∀ i,i≤b.length→-(10000000000*(i:Int))≤totP b S i∧totP b S i≤10000000000*(i:Int)
 | 0,_=>by simp [totP]
 | i+1,h=>by
  have ih:=Kw (S:=S) hb i (by omega)
  have hi:b[i]?=some b[i]:=List.getElem?_eq_getElem (by omega)
  have hx:=hb _ (List.mem_of_getElem? hi)
  rw [qD hi]
  split <;> omega
def yW (S:Nat) (i:Nat) (e:Int) (s:Int × Int × List Pay):Int × Int × List Pay :=
 if S.testBit i=true then
  (s.1+e,(i:Int),if s.1<0 then s.2.2++[(⟨s.2.1,(i:Int),0 - s.1⟩:Pay)] else if s.1 > 0 then s.2.2++[(⟨(i:Int),s.2.1,s.1⟩:Pay)] else s.2.2)
 else s
def chP (b:List Int) (S:Nat):Nat→Int × Int × List Pay
 | 0=>(0,-1,[])
 | i+1=>yW S i (b.getD i 0) (chP b S i)
/-- The payments of a chain. -/
def Xa (b:List Int) (S:Nat):List Pay:=(chP b S b.length).2.2
theorem Qcy {b:List Int} {S i:Nat} {e:Int} (h:b[i]?=some e):chP b S (i+1)=yW S i e (chP b S i):=by
 rw [chP,List.getD,h]; rfl
theorem QcA {b:List Int} {S:Nat}:∀ i,i≤b.length→(chP b S i).1=totP b S i
 | 0,_=>rfl
 | i+1,h=>by
  have ih:=QcA (b:=b) (S:=S) i (by omega)
  rw [chP,totP,yW]
  cases ht:S.testBit i with
  | true=>rw [if_pos rfl,if_pos rfl,← ih]; simp
  | false=>rw [if_neg (by simp),if_neg (by simp),ih]; simp
theorem Qcz {b:List Int} {S:Nat}:∀ i,(chP b S i).2.2.length≤i
 | 0=>by simp [chP]
 | i+1=>by
  have ih:=Qcz (b:=b) (S:=S) i
  rw [chP,yW]
  split
  · simp only
    split
    · simp; omega
    · split
      · simp; omega
      · omega
  · omega
/-! ### the parts of a set,from the greatest one on -/
def argS (x:Nat):List AV:=[.int .i64 (x:Int)]
def yn (b:List Int) (S q:Nat):Bool:=(q &&& S == q) && (decide (0<q) && (lowP S q && (totN b q == 0)))
def Wk (b:List Int) (S p:Nat):List Nat:=((List.range (p+1)).filter (yn b S)).reverse
def QO (b:List Int) (S:Nat):List Nat:=Wk b S S
theorem range_cut {Q:Nat→Bool} {a:Nat}:∀ {d:Nat},(∀ q,a≤q→q<a+d→Q q=false)→(List.range (a+d)).filter Q=(List.range a).filter Q
 | 0,_=>rfl
 | d+1,h=>by
  rw [show a+(d+1)=(a+d)+1 by omega,List.range_succ,List.filter_append,range_cut fun q h1 h2=>h q h1 (by omega)]
  have:Q (a+d)=false:=h _ (by omega) (by omega)
  simp [this]
theorem partsF_zero {b:List Int} {S:Nat}:Wk b S 0=[]:=by
 unfold Wk
 simp [List.range_succ,yn]
theorem partsF_cut {b:List Int} {S p:Nat} (h0:p ≠ 0) (hp:p &&& S=p):Wk b S p=if yn b S p=true then p :: Wk b S (p - 1 &&& S) else Wk b S (p - 1 &&& S):=by
 have hlt:=@Nat.and_le_left (p - 1) S
 have hc:(List.range p).filter (yn b S)=(List.range ((p - 1 &&& S)+1)).filter (yn b S):=by
  have e:p=((p - 1 &&& S)+1)+(p - ((p - 1 &&& S)+1)):=by omega
  have:=range_cut (Q:=yn b S) (a:=(p - 1 &&& S)+1) (d:=p - ((p - 1 &&& S)+1)) fun q h1 h2=>by
   unfold yn
   by_cases hq:q &&& S=q
   · have:=sub_prev S p q hp hq (by omega)
     omega
   · simp [hq]
  rw [← e] at this
  exact this
 unfold Wk
 rw [List.range_succ,List.filter_append,hc]
 cases hQ:yn b S p <;> simp [hQ]
theorem drop_consTk {α:Type} {L:List α} {n:Nat} {a:α} {r:List α} (h:L.drop n=a :: r):L[n]?=some a∧L.drop (n+1)=r∧n<L.length:=by
 have hn:n<L.length:=by
  rcases Nat.lt_or_ge n L.length with h1 | h1
  · exact h1
  · rw [List.drop_eq_nil_of_le h1] at h; cases h
 rw [List.drop_eq_getElem_cons hn] at h
 simp only [List.cons.injEq] at h
 exact ⟨by rw [List.getElem?_eq_getElem hn,h.1],h.2,hn⟩
theorem f267b:Try.f267.body=some (Qf Try.prog 267):=by kernel_rfl
def f267K0 (P:Program):List Item:=kAt 400 [.code (Qf P 267)] [.stop]
def f267S0 (set:Int) (b:List Int) (n:Int) (i:Nat):St:=⟨([J,.int .i64 set,J,J,.int .i64 n]++jj 5 ([.rsl (rowI b) 0 b.length,.int .i64 (b.length:Int),.int .i64 (i:Int)]++Js 14)),[]⟩
def f267G0 (E:Env) (set:Int) (b:List Int) (n:Int) (i:Nat):Prop:=G Try.prog E (f267K0 Try.prog) (f267S0 set b n i )
theorem f267W (set:Int) (b:List Int) {E:Env} {rv:Int} (hE:Qr Try.prog 267 (.int .i64 rv) E)
 (h:f267G0 E set b 0 0):G Try.prog E [.code (Qf Try.prog 267)] ⟨[.rptr [.rsl (rowI b) 0 b.length] 0,.int .i64 set]++unds (Try.f267.ntmps - 2),[]⟩:=by
 exact sQ [1,4,10,11,12] 0 [.stop] [] hE trivial h
theorem f267W0 (set:Int) (b:List Int) (n:Int) (i:Nat) {E:Env} {rv:Int} (hE:Qr Try.prog 267 (.int .i64 rv) E)
 (h:(((i:Int)<(b.length:Int)→(∃ e:Int,b[i]?=some e∧(((0:Int)≤(i:Int)∧(i:Int)≤((IntKind.bits .i64:Nat):Int))∧((I6 ((e*(bits .and .i64 (set / 2 ^ (Int.toNat (i:Int))) 1):Int)))∧((I6 ((n+(e*(bits .and .i64 (set / 2 ^ (Int.toNat (i:Int))) 1)):Int)))∧((I6 ((i:Int)+1))∧f267G0 E set b (n+(e*(bits .and .i64 (set / 2 ^ (Int.toNat (i:Int))) 1))) (i+1)))))))∧(¬ ((i:Int)<(b.length:Int))→rv=n))):f267G0 E set b n i:=by
 rcases bft (decide ((i:Int)<(b.length:Int))) with hc0 | hc0
 · have h:=h.1 (odt hc0)
   obtain ⟨e,h1,h⟩:=h
   obtain ⟨q4_1,h⟩:=h
   obtain ⟨q5_1,h⟩:=h
   obtain ⟨q6_1,h⟩:=h
   obtain ⟨q7_1,h⟩:=h
   exact sQ [1,4,10,11,12] 0 [.b true,.ld (.int .i64 e),.stop] [(decide ((i:Int)<(b.length:Int)))=true,0≤(i:Int)∧(i:Int)<(b.length:Int),((rowI b).drop (0+(Int.toNat (i:Int))*1)).take 1=[.int .i64 e],(0:Int)≤(i:Int)∧(i:Int)≤((IntKind.bits .i64:Nat):Int),InR .i64 (e*(bits .and .i64 (set / 2 ^ (Int.toNat (i:Int))) 1)),InR .i64 (n+(e*(bits .and .i64 (set / 2 ^ (Int.toNat (i:Int))) 1))),InR .i64 ((i:Int)+1)] hE ⟨hc0,(Qm h1),(rp cI 1 0 1 h1),q4_1,q5_1,q6_1,q7_1,trivial⟩ h
 · have h:=h.2 (odf hc0)
   exact eL (.int .i64 n) [.b false] [(decide ((i:Int)<(b.length:Int)))=false] hE Try.func267 ⟨hc0,trivial⟩ (by exact AvLe.of_eq (by rw [h]; try rfl))
theorem f227b:Try.f227.body=some (Qf Try.prog 227):=by kernel_rfl
theorem u227 {a c k:List AV} {r:AV} (h:Pure Try.prog 227 (a++c++k) r):Qc Try.prog (.clos 227 a k) c r:=Qk Try.func227 (by kernel_rfl) f227b h
theorem f227W (set:Int) (b:List Int) {E:Env} {rv:AV} (hE:Qr Try.prog 227 rv E)
 (h:rv=(.clos 266 [] [.rptr [.int .i64 set] 0,.rptr [.rptr [.rsl (rowI b) 0 b.length] 0] 0])):G Try.prog E [.code (Qf Try.prog 227)] ⟨[.rptr [.rsl (rowI b) 0 b.length] 0,.int .i64 set]++unds (Try.f227.ntmps - 2),[]⟩:=by
 exact eL (.clos 266 [] [.rptr [.int .i64 set] 0,.rptr [.rptr [.rsl (rowI b) 0 b.length] 0] 0]) [] [] hE Try.func227 trivial (by exact AvLe.of_eq (by rw [h]; try rfl))
theorem f229b:Try.f229.body=some (Qf Try.prog 229):=by kernel_rfl
theorem u229 {a c k:List AV} {r:AV} (h:Pure Try.prog 229 (a++c++k) r):Qc Try.prog (.clos 229 a k) c r:=Qk Try.func229 (by kernel_rfl) f229b h
def f229K0 (P:Program):List Item:=kAt 400 [.code (Qf P 229)] [.stop]
def f229S0 (set:Int) (b:List Int) (i:Nat) (due:Int) (last:Int) (v0:List Pay) (g0:Nat):St:=⟨([J,.int .i64 set,J,J,.sl 0 g0 0 v0.length 3,.int .i64 due,.int .i64 last]++jj 5 ([.rsl (rowI b) 0 b.length,.int .i64 (b.length:Int),.int .i64 (i:Int)]++Js 36)),[⟨true,g0,3,true,(Qu v0),true⟩]⟩
def Qap (E:Env) (set:Int) (b:List Int) (i:Nat) (due:Int) (last:Int) (v0:List Pay):Prop:=∀ g0:Nat,G Try.prog E (f229K0 Try.prog) (f229S0 set b i due last v0 g0)
theorem f229W (set:Int) (b:List Int) {E:Env} {rv:(List Pay)} (hE:Qr Try.prog 229 (.rsl (Qu rv) 0 rv.length) E)
 (h:Qap E set b 0 0 (-1) ([])):G Try.prog E [.code (Qf Try.prog 229)] ⟨[.rptr [.rsl (rowI b) 0 b.length] 0,.int .i64 set]++unds (Try.f229.ntmps - 2),[]⟩:=by
 exact QM (n:=400) (ds:=[(4,3)]) (cs:=[]) (live:=[1,4,5,6,12,13,14]) (m:=1) (evs:=[.stop]) (obs:=[]) hE.2.1 (hE.nogh _) Vy (by kernel_rfl) trivial (h 0)
theorem f229W0 (set:Int) (b:List Int) (i:Nat) (due:Int) (last:Int) (v0:List Pay) {E:Env} {rv:(List Pay)} (hE:Qr Try.prog 229 (.rsl (Qu rv) 0 rv.length) E)
 (h:(((i:Int)<(b.length:Int)→(∃ e:Int,b[i]?=some e∧(((0:Int)≤(i:Int)∧(i:Int)≤((IntKind.bits .i64:Nat):Int))∧(((bits .and .i64 (set / 2 ^ (Int.toNat (i:Int))) 1)=0→((I6 ((i:Int)+1))∧Qap E set b (i+1) due last v0))∧(¬ ((bits .and .i64 (set / 2 ^ (Int.toNat (i:Int))) 1)=0)→((due<0→((I6 (0 - due))∧((v0.length+1)≤2147483648∧((I6 (due+e))∧((I6 ((i:Int)+1))∧Qap E set b (i+1) (due+e) (i:Int) (v0++[(⟨last,(i:Int),(0 - due)⟩:Pay)]))))))∧(¬ (due<0)→((due > 0→((v0.length+1)≤2147483648∧((I6 (due+e))∧((I6 ((i:Int)+1))∧Qap E set b (i+1) (due+e) (i:Int) (v0++[(⟨(i:Int),last,due⟩:Pay)])))))∧(¬ (due > 0)→((I6 (due+e))∧((I6 ((i:Int)+1))∧Qap E set b (i+1) (due+e) (i:Int) v0)))))))))))∧(¬ ((i:Int)<(b.length:Int))→rv=v0))):Qap E set b i due last v0:=by
 intro g0
 rcases bft (decide ((i:Int)<(b.length:Int))) with hc0 | hc0
 · have h:=h.1 (odt hc0)
   obtain ⟨e,h1,h⟩:=h
   obtain ⟨q4_1,h⟩:=h
   rcases bft ((bits .and .i64 (set / 2 ^ (Int.toNat (i:Int))) 1) == 0) with hc1 | hc1
   · have h:=h.1 (eq_of_beq hc1)
     obtain ⟨q6_2,h⟩:=h
     exact sQ [1,4,5,6,12,13,14] 1 [.b true,.ld (.int .i64 e),.b true,.stop] [(decide ((i:Int)<(b.length:Int)))=true,0≤(i:Int)∧(i:Int)<(b.length:Int),((rowI b).drop (0+(Int.toNat (i:Int))*1)).take 1=[.int .i64 e],(0:Int)≤(i:Int)∧(i:Int)≤((IntKind.bits .i64:Nat):Int),((bits .and .i64 (set / 2 ^ (Int.toNat (i:Int))) 1) == 0)=true,InR .i64 ((i:Int)+1)] hE ⟨hc0,(Qm h1),(rp cI 1 0 1 h1),q4_1,hc1,q6_2,trivial⟩ (h g0)
   · have h:=h.2 (ne_of_beq_false hc1)
     rcases bft (decide (due<0)) with hc2 | hc2
     · have h:=h.1 (odt hc2)
       obtain ⟨q7_3,h⟩:=h
       obtain ⟨h2,h⟩:=h
       obtain ⟨q12_3,h⟩:=h
       obtain ⟨q13_3,h⟩:=h
       refine sP (f229K0 Try.prog) ⟨([J,.int .i64 set,J,J,.sl 0 (g0+1) 0 (v0.length+1) 3,.int .i64 (due+e),.int .i64 (i:Int)]++jj 5 ([.rsl (rowI b) 0 b.length,.int .i64 (b.length:Int),.int .i64 ((i:Int)+1)]++Js 36)),[⟨true,(g0+1),3,true,((Qu v0)++[.int .i64 last,.int .i64 (i:Int),.int .i64 (0 - due)]),true⟩]⟩ [1,4,5,6,12,13,14] 1 [.b true,.ld (.int .i64 e),.b false,.b true,.stop] [(decide ((i:Int)<(b.length:Int)))=true,0≤(i:Int)∧(i:Int)<(b.length:Int),((rowI b).drop (0+(Int.toNat (i:Int))*1)).take 1=[.int .i64 e],(0:Int)≤(i:Int)∧(i:Int)≤((IntKind.bits .i64:Nat):Int),((bits .and .i64 (set / 2 ^ (Int.toNat (i:Int))) 1) == 0)=false,(decide (due<0))=true,InR .i64 (0 - due),g0=g0,(0+(v0.length*3))=(Qu v0).length,(v0.length+1)≤2147483648,0=0,InR .i64 (due+e),InR .i64 ((i:Int)+1)] hE ⟨hc0,(Qm h1),(rp cI 1 0 1 h1),q4_1,hc1,hc2,q7_3,rfl,(by have hx:=QG cPay (s:=3) (fun _=>rfl) v0; simp only [Qu] at hx ⊢; rw [hx]; simp),h2,rfl,q12_3,q13_3,trivial⟩ ?_
       rw [(show Qu v0++[.int .i64 last,.int .i64 (i:Int),.int .i64 (0 - due)]=Qu (v0++[(⟨last,(i:Int),(0 - due)⟩:Pay)]) from (Xz cPay v0 [(⟨last,(i:Int),(0 - due)⟩:Pay)]).symm)]; rw [(show (v0.length+1)=(v0++[(⟨last,(i:Int),(0 - due)⟩:Pay)]).length from by simp)]; exact (h (g0+1))
     · have h:=h.2 (odf hc2)
       rcases bft (decide (due > 0)) with hc3 | hc3
       · have h:=h.1 (odt hc3)
         obtain ⟨h2,h⟩:=h
         obtain ⟨q12_4,h⟩:=h
         obtain ⟨q13_4,h⟩:=h
         refine sP (f229K0 Try.prog) ⟨([J,.int .i64 set,J,J,.sl 0 (g0+1) 0 (v0.length+1) 3,.int .i64 (due+e),.int .i64 (i:Int)]++jj 5 ([.rsl (rowI b) 0 b.length,.int .i64 (b.length:Int),.int .i64 ((i:Int)+1)]++Js 36)),[⟨true,(g0+1),3,true,((Qu v0)++[.int .i64 (i:Int),.int .i64 last,.int .i64 due]),true⟩]⟩ [1,4,5,6,12,13,14] 1 [.b true,.ld (.int .i64 e),.b false,.b false,.b true,.stop] [(decide ((i:Int)<(b.length:Int)))=true,0≤(i:Int)∧(i:Int)<(b.length:Int),((rowI b).drop (0+(Int.toNat (i:Int))*1)).take 1=[.int .i64 e],(0:Int)≤(i:Int)∧(i:Int)≤((IntKind.bits .i64:Nat):Int),((bits .and .i64 (set / 2 ^ (Int.toNat (i:Int))) 1) == 0)=false,(decide (due<0))=false,(decide (due > 0))=true,g0=g0,(0+(v0.length*3))=(Qu v0).length,(v0.length+1)≤2147483648,0=0,InR .i64 (due+e),InR .i64 ((i:Int)+1)] hE ⟨hc0,(Qm h1),(rp cI 1 0 1 h1),q4_1,hc1,hc2,hc3,rfl,(by have hx:=QG cPay (s:=3) (fun _=>rfl) v0; simp only [Qu] at hx ⊢; rw [hx]; simp),h2,rfl,q12_4,q13_4,trivial⟩ ?_
         rw [(show Qu v0++[.int .i64 (i:Int),.int .i64 last,.int .i64 due]=Qu (v0++[(⟨(i:Int),last,due⟩:Pay)]) from (Xz cPay v0 [(⟨(i:Int),last,due⟩:Pay)]).symm)]; rw [(show (v0.length+1)=(v0++[(⟨(i:Int),last,due⟩:Pay)]).length from by simp)]; exact (h (g0+1))
       · have h:=h.2 (odf hc3)
         obtain ⟨q8_4,h⟩:=h
         obtain ⟨q9_4,h⟩:=h
         exact sQ [1,4,5,6,12,13,14] 1 [.b true,.ld (.int .i64 e),.b false,.b false,.b false,.stop] [(decide ((i:Int)<(b.length:Int)))=true,0≤(i:Int)∧(i:Int)<(b.length:Int),((rowI b).drop (0+(Int.toNat (i:Int))*1)).take 1=[.int .i64 e],(0:Int)≤(i:Int)∧(i:Int)≤((IntKind.bits .i64:Nat):Int),((bits .and .i64 (set / 2 ^ (Int.toNat (i:Int))) 1) == 0)=false,(decide (due<0))=false,(decide (due > 0))=false,InR .i64 (due+e),InR .i64 ((i:Int)+1)] hE ⟨hc0,(Qm h1),(rp cI 1 0 1 h1),q4_1,hc1,hc2,hc3,q8_4,q9_4,trivial⟩ (h g0)
 · have h:=h.2 (odf hc0)
   exact eL (.rsl (Qu v0) 0 v0.length) [.b false] [(decide ((i:Int)<(b.length:Int)))=false,g0=g0] hE Try.func229 ⟨hc0,rfl,trivial⟩ (by exact AvLe.of_eq (by rw [h]; try rfl))
theorem total_ok (b:List Int) (set:Int) (h:VQ b set):Pure Try.prog 267 [.rptr [.rsl (rowI b) 0 b.length] 0,.int .i64 set] (.int .i64 (totN b (Int.toNat set))):=Qt Try.func267 f267b fun E hE=>by
 obtain ⟨S,rfl,hS,hl,hb⟩:=h
 have hS2:=WV hl hS
 rw [Int.toNat_natCast] at hE
 have key:∀ (d i:Nat),i+d=b.length→f267G0 E (S:Int) b (totP b S i) i:=by
  intro d
  induction d with
  | zero =>
   intro i hd
   have:i=b.length:=by omega
   subst this
   exact f267W0 _ b _ _ (rv:=totN b S) hE ⟨fun h=>by omega,fun _=>rfl⟩
  | succ d ih =>
   intro i hd
   have hi:b[i]?=some b[i]:=List.getElem?_eq_getElem (by omega)
   have hx:=hb _ (List.mem_of_getElem? hi)
   have p1:=Kw (b:=b) (S:=S) hb i (by omega)
   have p2:=Kw (b:=b) (S:=S) hb (i+1) (by omega)
   have es:totP b S (i+1)=totP b S i+b[i]*(if S.testBit i then 1 else 0):=qD hi
   have hm:b[i]*(if S.testBit i then 1 else 0)=b[i] ∨ b[i]*(if S.testBit i then 1 else 0)=0:=by split <;> simp
   refine f267W0 _ b _ _ (rv:=totN b S) hE ⟨fun _=>⟨b[i],hi,⟨by omega,by simp [IntKind.bits]; omega⟩,?_⟩,fun h=>by omega⟩
   rw [bit_nat (by omega),← es]
   exact ⟨by omega,by omega,by omega,ih (i+1) (by omega)⟩
 have:=key b.length 0 (by omega)
 exact f267W _ b (rv:=totN b S) hE this
theorem parts_ok (b:List Int) (set:Int):Pure Try.prog 227 [.rptr [.rsl (rowI b) 0 b.length] 0,.int .i64 set] (.clos 266 [] [.rptr [.int .i64 set] 0,.rptr [.rptr [.rsl (rowI b) 0 b.length] 0] 0]):=Qt Try.func227 f227b fun E hE=>f227W set b hE rfl
theorem chain_ok (b:List Int) (set:Int) (h:VQ b set):Pure Try.prog 229 [.rptr [.rsl (rowI b) 0 b.length] 0,.int .i64 set] (.rsl (Qu (Xa b (Int.toNat set))) 0 (Xa b (Int.toNat set)).length):=Qt Try.func229 f229b fun E hE=>by
 obtain ⟨S,rfl,hS,hl,hb⟩:=h
 have hS2:=WV hl hS
 rw [Int.toNat_natCast] at hE
 have key:∀ (d i:Nat),i+d=b.length→Qap E (S:Int) b i (chP b S i).1 (chP b S i).2.1 (chP b S i).2.2:=by
  intro d
  induction d with
  | zero =>
   intro i hd
   have:i=b.length:=by omega
   subst this
   exact f229W0 _ b _ _ _ _ (rv:=Xa b S) hE ⟨fun h=>by omega,fun _=>rfl⟩
  | succ d ih =>
   intro i hd
   have hi:b[i]?=some b[i]:=List.getElem?_eq_getElem (by omega)
   have hx:=hb _ (List.mem_of_getElem? hi)
   have p1:=QcA (b:=b) (S:=S) i (by omega)
   have p2:=Kw (b:=b) (S:=S) hb i (by omega)
   have p3:=Qcz (b:=b) (S:=S) i
   have es:=Qcy (S:=S) hi
   have nx:=ih (i+1) (by omega)
   rw [es] at nx
   refine f229W0 _ b _ _ _ _ (rv:=Xa b S) hE ⟨fun _=>⟨b[i],hi,⟨by omega,by simp [IntKind.bits]; omega⟩,?_⟩,fun h=>by omega⟩
   rw [bit_nat (by omega)]
   unfold yW at nx
   cases ht:S.testBit i with
   | false =>
    rw [ht] at nx
    exact ⟨fun _=>⟨by omega,nx⟩,fun h=>absurd rfl h⟩
   | true =>
    rw [ht] at nx
    refine ⟨fun h=>absurd h (by simp),fun _=>⟨fun h1=>?_,fun h1=>⟨fun h2=>?_,fun h2=>?_⟩⟩⟩
    · rw [if_pos rfl,if_pos h1] at nx
      exact ⟨by omega,by omega,by omega,by omega,nx⟩
    · rw [if_pos rfl,if_neg h1,if_pos h2] at nx
      exact ⟨by omega,by omega,by omega,nx⟩
    · rw [if_pos rfl,if_neg h1,if_neg h2] at nx
      exact ⟨by omega,by omega,nx⟩
 exact f229W _ b (rv:=Xa b S) hE (key b.length 0 (by omega))
theorem f266b:Try.f266.body=some (Qf Try.prog 266):=by kernel_rfl
def qf (P:Program):List Item:=kAt 400 [.code (Qf P 266)] [.stop]
def WZ (yv0:Value) (b:List Int) (S:Nat) (p:Int):St:=⟨([.opq yv0,.rptr [.int .i64 (S:Int)] 0,.rptr [.rptr [.rsl (rowI b) 0 b.length] 0] 0,J,.int .i64 p]++Js 26),[]⟩
theorem p266_s (yv0:Value) (b:List Int) (S:Nat) {E:Env} {xs:List (List AV)} {yv:Value} {Y:Option Nat→Sd} {cont:Nat→Bool} {e:Option Nat} {o:Option Nat} (hE:IterE Try.prog 266 xs yv Y cont e o E)
 (hg:G Try.prog E (qf Try.prog) (WZ yv0 b S (S:Int))):G Try.prog E [.code (Qf Try.prog 266)] ⟨[.opq yv0,.rptr [.int .i64 (S:Int)] 0,.rptr [.rptr [.rsl (rowI b) 0 b.length] 0] 0]++unds (Try.f266.ntmps - 3),[]⟩ :=
 QT (n:=400) (ds:=[]) (live:=[0,1,2,4]) (m:=0) (evs:=[.stop]) (obs:=[]) hE.kind (hE.nogh _) Vy (by kernel_rfl) trivial hg
def f266Kh (P:Program):List Item:=toOp 16 (kReg 400 [.code (Qf P 266)] [.b true] 2)
def f266Sh (yv0:Value) (b:List Int) (S:Nat) (p:Int):St:=⟨[.opq yv0,.rptr [.int .i64 (S:Int)] 0,.rptr [.rptr [.rsl (rowI b) 0 b.length] 0] 0,J,.int .i64 p,J,.int .i64 p,.bool (decide (p > 0)),J,J,J,J,.int .i64 p,.int .i64 (S:Int),.int .i64 (bits .and .i64 p (S:Int)),.int .i64 (S:Int),.int .i64 (0 - (S:Int)),.int .i64 (bits .and .i64 (bits .and .i64 p (S:Int)) (0 - (S:Int))),.bool ((bits .and .i64 (bits .and .i64 p (S:Int)) (0 - (S:Int))) != 0),.bool true,.rptr [.rsl (rowI b) 0 b.length] 0,.int .i64 p,.int .i64 (totN b (Int.toNat p)),.bool ((totN b (Int.toNat p)) == 0),.bool ((totN b (Int.toNat p)) == 0),.bool true,.opq yv0,.int .i64 p,J,J,J],[]⟩
def f266Kha (P:Program):List Item:=toOp 17 (kReg 400 [.code (Qf P 266)] [.b true] 2)
def f266Sha (yv0:Value) (b:List Int) (S:Nat) (p:Int) (y:Bool):St:=⟨[.opq yv0,.rptr [.int .i64 (S:Int)] 0,.rptr [.rptr [.rsl (rowI b) 0 b.length] 0] 0,J,.int .i64 p,J,.int .i64 p,.bool (decide (p > 0)),J,J,J,J,.int .i64 p,.int .i64 (S:Int),.int .i64 (bits .and .i64 p (S:Int)),.int .i64 (S:Int),.int .i64 (0 - (S:Int)),.int .i64 (bits .and .i64 (bits .and .i64 p (S:Int)) (0 - (S:Int))),.bool ((bits .and .i64 (bits .and .i64 p (S:Int)) (0 - (S:Int))) != 0),.bool true,.rptr [.rsl (rowI b) 0 b.length] 0,.int .i64 p,.int .i64 (totN b (Int.toNat p)),.bool ((totN b (Int.toNat p)) == 0),.bool ((totN b (Int.toNat p)) == 0),.bool true,.opq yv0,.int .i64 p,.bool y,J,J],[]⟩
theorem f77_h (yv0:Value) (b:List Int) (S:Nat) (p:Int):yieldA (f266Kh Try.prog) (f266Sh yv0 b S p)=some (f266Kha Try.prog,some 28,yv0,[.int .i64 p]):=by kernel_rfl
theorem p266_0 (yv0:Value) (b:List Int) (S:Nat) (p:Int) {E:Env} {xs:List (List AV)} {yv:Value} {Y:Option Nat→Sd} {cont:Nat→Bool} {e:Option Nat} {o:Option Nat} (hE:IterE Try.prog 266 xs yv Y cont e o E) (h0:(decide (p > 0))=true) (h1:InR .i64 (0 - (S:Int))) (h2:((bits .and .i64 (bits .and .i64 p (S:Int)) (0 - (S:Int))) != 0)=true) (h3:Qc Try.prog (.clos 267 [] []) [.rptr [.rsl (rowI b) 0 b.length] 0,.int .i64 p] (.int .i64 (totN b (Int.toNat p)))) (h4:((totN b (Int.toNat p)) == 0)=true)
 (hg:G Try.prog E (f266Kh Try.prog) (f266Sh yv0 b S p)):G Try.prog E (qf Try.prog) (WZ yv0 b S p) :=
 QT (n:=400) (ds:=[]) (live:=[0,1,2,3,4,5,6,7,8,9,10,11,12,13,14,15,16,17,18,19,20,21,22,23,24,25,26,27,28,29,30]) (m:=0) (evs:=[.b true,.b true,.v (.int .i64 (totN b (Int.toNat p))),.b true,.hold 2]) (obs:=[(decide (p > 0))=true,InR .i64 (0 - (S:Int)),((bits .and .i64 (bits .and .i64 p (S:Int)) (0 - (S:Int))) != 0)=true,Qc Try.prog (.clos 267 [] []) [.rptr [.rsl (rowI b) 0 b.length] 0,.int .i64 p] (.int .i64 (totN b (Int.toNat p))),((totN b (Int.toNat p)) == 0)=true]) hE.kind (hE.nogh _) Vy (by kernel_rfl) ⟨h0,h1,h2,h3,h4,trivial⟩ hg
theorem p266_1 (yv0:Value) (b:List Int) (S:Nat) (p:Int) {E:Env} {xs:List (List AV)} {yv:Value} {Y:Option Nat→Sd} {cont:Nat→Bool} {e:Option Nat} {o:Option Nat} (hE:IterE Try.prog 266 xs yv Y cont e o E) (h0:(decide (p > 0))=true) (h1:InR .i64 (0 - (S:Int))) (h2:((bits .and .i64 (bits .and .i64 p (S:Int)) (0 - (S:Int))) != 0)=true) (h3:Qc Try.prog (.clos 267 [] []) [.rptr [.rsl (rowI b) 0 b.length] 0,.int .i64 p] (.int .i64 (totN b (Int.toNat p)))) (h4:((totN b (Int.toNat p)) == 0)=false) (h6:InR .i64 (p - 1))
 (hg:G Try.prog E (qf Try.prog) (WZ yv0 b S (bits .and .i64 (p - 1) (S:Int)))):G Try.prog E (qf Try.prog) (WZ yv0 b S p) :=
 QT (n:=400) (ds:=[]) (live:=[0,1,2,4]) (m:=0) (evs:=[.b true,.b true,.v (.int .i64 (totN b (Int.toNat p))),.b false,.b false,.stop]) (obs:=[(decide (p > 0))=true,InR .i64 (0 - (S:Int)),((bits .and .i64 (bits .and .i64 p (S:Int)) (0 - (S:Int))) != 0)=true,Qc Try.prog (.clos 267 [] []) [.rptr [.rsl (rowI b) 0 b.length] 0,.int .i64 p] (.int .i64 (totN b (Int.toNat p))),((totN b (Int.toNat p)) == 0)=false,false=false,InR .i64 (p - 1)]) hE.kind (hE.nogh _) Vy (by kernel_rfl) ⟨h0,h1,h2,h3,h4,rfl,h6,trivial⟩ hg
theorem p266_2 (yv0:Value) (b:List Int) (S:Nat) (p:Int) {E:Env} {xs:List (List AV)} {yv:Value} {Y:Option Nat→Sd} {cont:Nat→Bool} {e:Option Nat} {o:Option Nat} (hE:IterE Try.prog 266 xs yv Y cont e o E) (h0:(decide (p > 0))=true) (h1:InR .i64 (0 - (S:Int))) (h2:((bits .and .i64 (bits .and .i64 p (S:Int)) (0 - (S:Int))) != 0)=false) (h5:InR .i64 (p - 1))
 (hg:G Try.prog E (qf Try.prog) (WZ yv0 b S (bits .and .i64 (p - 1) (S:Int)))):G Try.prog E (qf Try.prog) (WZ yv0 b S p) :=
 QT (n:=400) (ds:=[]) (live:=[0,1,2,4]) (m:=0) (evs:=[.b true,.b false,.b false,.b false,.stop]) (obs:=[(decide (p > 0))=true,InR .i64 (0 - (S:Int)),((bits .and .i64 (bits .and .i64 p (S:Int)) (0 - (S:Int))) != 0)=false,false=false,false=false,InR .i64 (p - 1)]) hE.kind (hE.nogh _) Vy (by kernel_rfl) ⟨h0,h1,h2,rfl,rfl,h5,trivial⟩ hg
theorem p266_3 (yv0:Value) (b:List Int) (S:Nat) (p:Int) {E:Env} {xs:List (List AV)} {yv:Value} {Y:Option Nat→Sd} {cont:Nat→Bool} {e:Option Nat} (hE:IterE Try.prog 266 xs yv Y cont e e E) (h0:(decide (p > 0))=false):G Try.prog E (qf Try.prog) (WZ yv0 b S p) :=
 qP (n:=400) (evs:=[.b false]) (obs:=[(decide (p > 0))=false]) hE Try.func266 (by kernel_rfl) Vy (by kernel_rfl) ⟨h0,trivial⟩
theorem p266_a0 (yv0:Value) (b:List Int) (S:Nat) (p:Int) (y:Bool) {E:Env} {xs:List (List AV)} {yv:Value} {Y:Option Nat→Sd} {cont:Nat→Bool} {e:Option Nat} (hE:IterE Try.prog 266 xs yv Y cont e e E) (h0:(!y)=true):G Try.prog E (f266Kha Try.prog) (f266Sha yv0 b S p y) :=
 qP (n:=400) (evs:=[.b true]) (obs:=[(!y)=true]) hE Try.func266 (by kernel_rfl) Vy (by kernel_rfl) ⟨h0,trivial⟩
theorem p266_a1 (yv0:Value) (b:List Int) (S:Nat) (p:Int) (y:Bool) {E:Env} {xs:List (List AV)} {yv:Value} {Y:Option Nat→Sd} {cont:Nat→Bool} {e:Option Nat} {o:Option Nat} (hE:IterE Try.prog 266 xs yv Y cont e o E) (h0:(!y)=false) (h1:InR .i64 (p - 1))
 (hg:G Try.prog E (qf Try.prog) (WZ yv0 b S (bits .and .i64 (p - 1) (S:Int)))):G Try.prog E (f266Kha Try.prog) (f266Sha yv0 b S p y) :=
 QT (n:=400) (ds:=[]) (live:=[0,1,2,4]) (m:=0) (evs:=[.b false,.stop]) (obs:=[(!y)=false,InR .i64 (p - 1)]) hE.kind (hE.nogh _) Vy (by kernel_rfl) ⟨h0,h1,trivial⟩ hg
section
variable {L:List Nat} {yv:Value} {Y:Option Nat→Sd} {cont:Nat→Bool} {e:Option Nat} {b:List Int} {S:Nat}
theorem it_p (hS:S<2 ^ b.length) (hl:b.length≤10) (hb:∀ x ∈ b,-10000000000≤x∧x≤10000000000):∀ (p n:Nat) (E:Env),p≤S→p &&& S=p→IterE Try.prog 266 (L.map argS) yv Y cont e (some n) E→Xp cont n (L.length - n)=e→L.drop n=Wk b S p →
 G Try.prog E (qf Try.prog) (WZ yv b S (p:Int)):=by
 have hS2:=WV hl hS
 intro p
 induction p using Nat.strongRecOn with
 | ind p ih =>
  intro n E hp hps hE hi hL
  by_cases h0:p=0
  · subst h0
    have hn:L.length≤n:=List.drop_eq_nil_iff.1 (by rw [hL,partsF_zero])
    have e0:L.length - n=0:=by omega
    rw [e0] at hi
    simp only [Xp] at hi
    subst hi
    exact p266_3 yv b S _ hE (by simp)
  have hpi:VQ b (p:Int):=⟨p,rfl,by omega,hl,hb⟩
  have e1:bits .and .i64 ((p:Int) - 1) (S:Int)=(((p - 1) &&& S:Nat):Int):=by
   rw [show (p:Int) - 1=((p - 1:Nat):Int) by omega,and_nat (by omega) (by omega)]
  have hlt:=@Nat.and_le_left (p - 1) S
  have hq:(p - 1 &&& S) &&& S=p - 1 &&& S:=by rw [Nat.and_assoc,Nat.and_self]
  have hcut:=partsF_cut (b:=b) (S:=S) (p:=p) h0 hps
  have c0:decide ((p:Int) > 0)=true:=decide_eq_true (by omega)
  have c1:InR .i64 (0 - (S:Int)):=by show -9223372036854775808≤_∧_≤(9223372036854775807:Int); omega
  have c6:InR .i64 ((p:Int) - 1):=by show -9223372036854775808≤_∧_≤(9223372036854775807:Int); omega
  have go:∀ (E':Env) (n':Nat),IterE Try.prog 266 (L.map argS) yv Y cont e (some n') E'→Xp cont n' (L.length - n')=e→L.drop n'=Wk b S (p - 1 &&& S)→G Try.prog E' (qf Try.prog) (WZ yv b S (bits .and .i64 ((p:Int) - 1) (S:Int))):=by
   intro E' n' hE' hi' hL'
   rw [e1]
   exact ih (p - 1 &&& S) (by omega) n' E' (by omega) hq hE' hi' hL'
  have ht:Qc Try.prog (.clos 267 [] []) [.rptr [.rsl (rowI b) 0 b.length] 0,.int .i64 (p:Int)] (.int .i64 (totN b (Int.toNat (p:Int)))):=Qk Try.func267 (by kernel_rfl) f267b (total_ok b _ hpi)
  cases hlow:lowP S p with
  | false =>
   rw [hcut,if_neg (by unfold yn; rw [hlow]; simp)] at hL
   exact p266_2 yv b S _ hE c0 c1 hlow c6 (go E n hE hi hL)
  | true =>
   by_cases htot:totN b p=0
   · rw [hcut,if_pos (by unfold yn; rw [hlow,htot,hps]; simp; omega)] at hL
     obtain ⟨g1,g2,g3⟩:=drop_consTk hL
     refine p266_0 yv b S _ hE c0 c1 hlow ht (by rw [Int.toNat_natCast,htot]; rfl) ?_
     refine qj (x:=argS p) hE (by simp [g1]) (f77_h yv b S _) rfl fun E' hE'=>?_
     have hst:L.length - n=(L.length - (n+1))+1:=by omega
     rw [hst] at hi
     simp only [Xp] at hi
     cases hc:cont n with
     | true =>
      simp only [nxt,hc,cond_true] at hE' hi
      exact p266_a1 yv b S _ true hE' rfl c6 (go E' (n+1) hE' hi g2)
     | false =>
      simp only [nxt,hc,cond_false] at hE' hi
      subst hi
      exact p266_a0 yv b S _ false hE' rfl
   · rw [hcut,if_neg (by unfold yn; simp [htot])] at hL
     exact p266_1 yv b S _ hE c0 c1 hlow ht (by rw [Int.toNat_natCast]; simpa using htot) c6 (go E n hE hi hL)
end
/-- The parts of a set,one after the other. -/
theorem parts_it (b:List Int) (set:Int) (h:VQ b set):IterF Try.prog (.clos 266 [] [.rptr [.int .i64 set] 0,.rptr [.rptr [.rsl (rowI b) 0 b.length] 0] 0]) ((QO b (Int.toNat set)).map argS) :=
 iterF_of Try.func266 (by kernel_rfl) f266b fun E yv Y cont hE=>by
  obtain ⟨S,rfl,hS,hl,hb⟩:=h
  rw [Int.toNat_natCast] at hE
  have hx:((QO b S).map argS).length=(QO b S).length:=by simp
  rw [hx] at hE
  exact p266_s yv b S hE (it_p hS hl hb S 0 E (by omega) (Nat.and_self S) hE (by simp) rfl)
end Go.Proofs.Ytemklbioijmjiaa
namespace Go.Proofs.Ytemklbioijmjiaa
open Go Ax
open Go.Proofs
def sm (v:Nat→Int) (L:List Nat):Int:=(L.map v).sum
/-- So many groups of these people,each of somebody and together 0; 'c' says who is in which one. -/
def Grp (v:Nat→Int) (L:List Nat) (k:Nat):Prop:=∃ c:Nat→Nat,∀ j,1≤j→j≤k→(∃ i ∈ L,c i=j)∧sm v (L.filter fun i=>c i == j)=0
def IsMost (v:Nat→Int) (L:List Nat) (k:Nat):Prop:=∀ j,Grp v L j ↔ j≤k
theorem WE (v:Nat→Int) (P:Nat→Bool):∀ L:List Nat,sm v L=sm v (L.filter P)+sm v (L.filter fun i=>!P i)
 | []=>by simp [sm]
 | i :: L=>by
  have ih:=WE v P L
  unfold sm at *
  cases h:P i <;> simp [List.filter_cons,h] <;> omega
theorem filt {L:List Nat} {P Q R:Nat→Bool} (h:∀ i ∈ L,(P i && Q i)=R i):(L.filter P).filter Q=L.filter R:=by
 rw [List.filter_filter]
 refine List.filter_congr fun i hi=>?_
 rw [Bool.and_comm]; exact h i hi
theorem sm_lab {v:Nat→Int} {L:List Nat} {c:Nat→Nat}:∀ {k:Nat},(∀ j,1≤j→j≤k→sm v (L.filter fun i=>c i == j)=0)→sm v (L.filter fun i=>decide (1≤c i∧c i≤k))=0
 | 0,h=>by
  have:(L.filter fun i=>decide (1≤c i∧c i≤0))=[]:=List.filter_eq_nil_iff.2 fun i _=>by simp; omega
  rw [this]; rfl
 | k+1,h=>by
  have ih:=sm_lab (k:=k) fun j h1 h2=>h j h1 (by omega)
  have h1:=h (k+1) (by omega) (by omega)
  rw [WE v (fun i=>c i == k+1)]
  rw [filt (R:=fun i=>c i == k+1) (fun i _=>by
   by_cases e:c i=k+1
   · simp [e]
   · simp [e]),filt (R:=fun i=>decide (1≤c i∧c i≤k)) (fun i _=>by
   by_cases e:c i=k+1
   · simp [e]
   · simp only [show (c i == k+1)=false from by simpa using e,Bool.not_false,Bool.and_true]
     exact decide_eq_decide.2 ⟨fun h=>by omega,fun h=>by omega⟩),h1,ih]; rfl
theorem Km (v:Nat→Int) (L:List Nat):Grp v L 0:=⟨fun _=>0,fun j h1 h2=>by omega⟩
theorem Grp.le {v:Nat→Int} {L:List Nat} {k j:Nat} (h:Grp v L k) (hj:j≤k):Grp v L j:=by
 obtain ⟨c,h⟩:=h
 exact ⟨c,fun j1 a b=>h j1 a (by omega)⟩
theorem grp_nil {v:Nat→Int} {k:Nat} (h:Grp v [] k):k=0:=by
 obtain ⟨c,h⟩:=h
 apply Classical.byContradiction
 intro hk
 obtain ⟨⟨i,hi,-⟩,-⟩:=h 1 (by omega) (by omega)
 simp at hi
/-- One group more. -/
theorem grp_add {v:Nat→Int} {L:List Nat} {P:Nat→Bool} {k:Nat} (hn:∃ i ∈ L,P i=true) (h0:sm v (L.filter P)=0) (h:Grp v (L.filter fun i=>!P i) k):Grp v L (k+1):=by
 obtain ⟨c,h⟩:=h
 obtain ⟨i0,hi0,hp0⟩:=hn
 refine ⟨fun i=>if P i then k+1 else if c i≤k then c i else 0,fun j h1 h2=>?_⟩
 by_cases hj:j=k+1
 · subst hj
   refine ⟨⟨i0,hi0,by dsimp only; rw [if_pos hp0]⟩,?_⟩
   rw [← h0]
   congr 1
   refine List.filter_congr fun i _=>?_
   dsimp only
   cases hp:P i
   · by_cases hc:c i≤k
     · simp [hc]; omega
     · simp [hc]
   · simp
 · obtain ⟨⟨i,hi,hc⟩,hs⟩:=h j h1 (by omega)
   have hi:=List.mem_filter.1 hi
   have hpi:P i=false:=by simpa using hi.2
   refine ⟨⟨i,hi.1,by dsimp only; rw [hpi,if_neg (by simp),if_pos (by omega)]; exact hc⟩,?_⟩
   rw [← hs,filt (R:=fun i=>(if P i then k+1 else if c i≤k then c i else 0) == j)]
   intro x _
   cases hp:P x
   · by_cases hc:c x≤k
     · simp [hc]
     · have h3:(c x == j)=false:=by simp; omega
       have h4:((0:Nat) == j)=false:=by simp; omega
       rw [h3,if_neg (by simp),if_neg hc,h4,Bool.and_false]
   · have h3:(k+1 == j)=false:=by simp; omega
     rw [if_pos rfl,h3]; rfl
/-- They are together 0: the group of one of them. -/
theorem grp_take {v:Nat→Int} {L:List Nat} {i0 k:Nat} (h0:sm v L=0) (hi:i0 ∈ L) (h:Grp v L (k+1)):∃ P:Nat→Bool,P i0=true∧sm v (L.filter P)=0∧Grp v (L.filter fun i=>!P i) k:=by
 obtain ⟨c,h⟩:=h
 have hlab:=sm_lab (c:=c) (k:=k+1) (L:=L) (v:=v) fun j h1 h2=>(h j h1 h2).2
 have hs:=WE v (fun i=>decide (1≤c i∧c i≤k+1)) L
 -- those who are in no group go to the first one
 let d:Nat→Nat:=fun i=>if 1≤c i∧c i≤k+1 then c i else 1
 have hd:∀ i,1≤d i∧d i≤k+1:=fun i=>by simp only [d]; split <;> omega
 have hdj:∀ j,1≤j→j≤k+1→(∃ i ∈ L,d i=j)∧sm v (L.filter fun i=>d i == j)=0:=fun j h1 h2=>by
  obtain ⟨⟨i,hi,hc⟩,hz⟩:=h j h1 h2
  refine ⟨⟨i,hi,by show (if 1≤c i∧c i≤k+1 then c i else 1)=j; rw [if_pos (by omega)]; exact hc⟩,?_⟩
  by_cases hj:j=1
  · subst hj
    rw [WE v (fun i=>decide (1≤c i∧c i≤k+1)),filt (R:=fun i=>c i == 1),filt (R:=fun i=>!decide (1≤c i∧c i≤k+1))]
    · omega
    · intro x _
      by_cases hx:1≤c x∧c x≤k+1
      · simp [hx]
      · simp [d,hx]
    · intro x _
      by_cases hx:1≤c x∧c x≤k+1
      · simp [d,hx]
      · simp only [d,hx,if_false,decide_false,Bool.and_false]
        have:¬ c x=1:=by omega
        simp [this]
  · rw [← hz]
    congr 1
    refine List.filter_congr fun x _=>?_
    by_cases hx:1≤c x∧c x≤k+1
    · simp [d,hx]
    · simp only [d,hx,if_false]
      rw [show (c x == j)=false from by simp; omega,show (1 == j)=false from by simp; omega]
 refine ⟨fun i=>d i == d i0,by simp,(hdj _ (hd i0).1 (hd i0).2).2,fun i=>if d i=k+1 then d i0 else d i,fun j h1 h2=>?_⟩
 by_cases hj:j=d i0
 · obtain ⟨⟨i,hi,hc⟩,hz⟩:=hdj (k+1) (by omega) (by omega)
   refine ⟨⟨i,List.mem_filter.2 ⟨hi,by simp; omega⟩,by dsimp only; rw [if_pos hc]; exact hj.symm⟩,?_⟩
   rw [← hz,filt (R:=fun i=>d i == k+1)]
   intro x _
   show (!(d x == d i0) && (if d x=k+1 then d i0 else d x) == j)=(d x == k+1)
   by_cases hx:d x=k+1
   · have h5:(d x == d i0)=false:=by simp; omega
     have h6:(d i0 == j)=true:=by simp [hj]
     have h7:(d x == k+1)=true:=by simp [hx]
     rw [if_pos hx,h5,h6,h7]; rfl
   · have h7:(d x == k+1)=false:=by simpa using hx
     rw [if_neg hx,h7]
     by_cases hy:d x=d i0
     · have h5:(d x == d i0)=true:=by simp [hy]
       rw [h5]; rfl
     · have h5:(d x == j)=false:=by simp; omega
       rw [h5,Bool.and_false]
 · obtain ⟨⟨i,hi,hc⟩,hz⟩:=hdj j h1 (by omega)
   refine ⟨⟨i,List.mem_filter.2 ⟨hi,by simp; omega⟩,by dsimp only; rw [if_neg (by omega)]; exact hc⟩,?_⟩
   rw [← hz,filt (R:=fun i=>d i == j)]
   intro x _
   show (!(d x == d i0) && (if d x=k+1 then d i0 else d x) == j)=(d x == j)
   by_cases hx:d x=k+1
   · have h3:(d i0 == j)=false:=by simp; omega
     have h4:(d x == j)=false:=by simp; omega
     rw [if_pos hx,h3,h4,Bool.and_false]
   · rw [if_neg hx]
     by_cases hy:d x=j
     · have h5:(d x == d i0)=false:=by simp; omega
       rw [h5]; rfl
     · have h5:(d x == j)=false:=by simpa using hy
       rw [h5,Bool.and_false]
end Go.Proofs.Ytemklbioijmjiaa
namespace Go.Proofs.Ytemklbioijmjiaa
open Go Ax
open Go.Proofs
theorem row_oneW {α:Type} (c:α→AV):∀ {l:List α} {i:Nat} {e:α},l[i]?=some e→(l.flatMap fun x=>[c x])[i]?=some (c e)
 | [],i,e,h=>by simp at h
 | x :: l,0,e,h=>by simp at h; subst h; rfl
 | x :: l,i+1,e,h=>by
  have:=row_oneW c (l:=l) (i:=i) (e:=e) (by simpa using h)
  simpa using this
theorem rowOne_take {α:Type} (c:α→AV) {l:List α} {i:Nat}:(l.flatMap fun x=>[c x]).take i=(l.take i).flatMap fun x=>[c x]:=by
 induction l generalizing i with
 | nil=>simp
 | cons x l ih =>
  cases i with
  | zero=>simp
  | succ i=>simp only [List.flatMap_cons,List.cons_append,List.nil_append,List.take_succ_cons,ih]
def cKnE1 (e:Int × Int):AV:=.clos 0 [.int .i64 e.1] [.int .i64 e.2]
def cKnE (e:Int × Int):List AV:=[cKnE1 e]
def QD (l:List (Int × Int)):List AV:=l.flatMap cKnE
theorem key_kn (a b:Int):qO Try.prog 3 (.int .i64 a) (.int .i64 b)=some (a == b):=by
 have h1:Try.prog.underlying 3=some (.int .i64):=by kernel_rfl
 simp [qO,h1]
def YH (l:List (Int × Int)) (k:Int):Bool:=l.any fun e=>k == e.1
theorem knNew {l:List (Int × Int)} {k:Int} (hh:YH l k=false):Xw Try.prog 3 (.int .i64 k) (QD l):=by
 intro c hc
 obtain ⟨e,he,hc⟩:=List.mem_flatMap.1 hc
 simp only [cKnE,List.mem_singleton] at hc
 subst hc
 refine ⟨_,_,rfl,?_⟩
 rw [key_kn]
 have:=List.any_eq_false.1 hh e he
 simpa using this
def KnAt (l:List (Int × Int)) (k:Int) (i:Nat) (e:Int × Int):Prop:=l[i]?=some e∧k=e.1∧YH (l.take i) k=false
theorem knAt {l:List (Int × Int)} {k:Int} {i:Nat} {e:Int × Int} (hh:KnAt l k i e):XY Try.prog 3 (.int .i64 k) (QD l) i (.int .i64 e.2):=by
 obtain ⟨h1,h2,h3⟩:=hh
 refine ⟨_,row_oneW cKnE1 h1,?_,?_⟩
 · rw [key_kn,h2]; simp
 · rw [show (QD l).take i=QD (l.take i) from rowOne_take cKnE1]; exact knNew h3
theorem knFind {k:Int}:∀ {l:List (Int × Int)},YH l k=true→∃ i e,KnAt l k i e
 | [],h=>by simp [YH] at h
 | e :: l,h=>by
  by_cases he:k=e.1
  · exact ⟨0,e,rfl,he,rfl⟩
  · have h2:YH l k=true:=by
     unfold YH at h ⊢
     rw [List.any_cons,Bool.or_eq_true] at h
     rcases h with h | h
     · exact absurd (by simpa using h) he
     · exact h
    obtain ⟨i,x,h3,h4,h5⟩:=knFind h2
    refine ⟨i+1,x,by simpa using h3,h4,?_⟩
    unfold YH at h5 ⊢
    rw [List.take_succ_cons,List.any_cons,h5]
    simpa using he
/-! ### how many groups -/
def mostF (b:List Int):Nat→Nat→Int
 | 0,_=>0
 | f+1,S=>if S=0 then 0 else (QO b S).foldl (fun a x=>iMax a (1+mostF b f (without S x))) 0
/-- Into how many groups a set falls at the most,as the program finds it. -/
def XP (b:List Int) (S:Nat):Int:=mostF b (S+1) S
theorem XI {b:List Int} {S x:Nat} (h:x ∈ QO b S):x &&& S=x∧0<x∧lowP S x=true∧totN b x=0:=by
 unfold QO Wk at h
 rw [List.mem_reverse,List.mem_filter] at h
 have h:=h.2
 unfold yn at h
 simp only [Bool.and_eq_true,beq_iff_eq,decide_eq_true_eq] at h
 exact ⟨h.1,h.2.1,h.2.2.1,h.2.2.2⟩
theorem KR {b:List Int} {S x:Nat} (h1:x &&& S=x) (h2:0<x) (h3:lowP S x=true) (h4:totN b x=0):x ∈ QO b S:=by
 unfold QO Wk
 rw [List.mem_reverse,List.mem_filter]
 have:=@Nat.and_le_right x S
 exact ⟨List.mem_range.2 (by omega),by unfold yn; simp [h1,h2,h3,h4]⟩
theorem add_or:∀ (a b:Nat),a &&& b=0→a+b=a ||| b:=by
 intro a
 induction a using Nat.strongRecOn with
 | ind a ih =>
  intro b h
  by_cases ha:a=0
  · subst ha; rw [Nat.zero_or]; omega
  have d1:(a &&& b) / 2=a / 2 &&& b / 2:=Nat.and_div_two
  have d2:(a ||| b) / 2=a / 2 ||| b / 2:=Nat.or_div_two
  have m1:=@Nat.and_mod_two_eq_one a b
  have m2:=@Nat.or_mod_two_eq_one a b
  have:=ih (a / 2) (by omega) (b / 2) (by rw [← d1,h])
  rw [h] at m1
  omega
theorem Xi {S x:Nat} (h:x &&& S=x):without S x+x=S:=by
 have hb:∀ i,(x.testBit i && S.testBit i)=x.testBit i:=fun i=>by rw [← Nat.testBit_and,h]
 have e:without S x &&& x=0:=by
  refine Nat.eq_of_testBit_eq fun i=>?_
  rw [Nat.testBit_and,XQ,Nat.zero_testBit]
  cases x.testBit i <;> simp
 rw [add_or _ _ e]
 refine Nat.eq_of_testBit_eq fun i=>?_
 have:=hb i
 rw [Nat.testBit_or,XQ]
 cases hx:x.testBit i <;> cases hs:S.testBit i <;> simp_all
theorem Qah {α β:Type} {f g:α→β→α}:∀ {l:List β} {a:α},(∀ x ∈ l,∀ a,f a x=g a x)→l.foldl f a=l.foldl g a
 | [],_,_=>rfl
 | x :: l,a,h=>by rw [List.foldl_cons,List.foldl_cons,h x (by simp),Qah fun y hy=>h y (by simp [hy])]
theorem QbY {b:List Int}:∀ {f S:Nat},S<f→mostF b f S=XP b S
 | 0,S,h=>by omega
 | f+1,S,h=>by
  rw [XP,mostF,mostF]
  split
  · rfl
  · refine Qah fun x hx a=>?_
    have hp:=XI hx
    have hs:=Xi hp.1
    rw [QbY (f:=f) (S:=without S x) (by omega),QbY (f:=S) (S:=without S x) (by omega)]
theorem Kl {b:List Int} {S:Nat} (h0:S ≠ 0):XP b S=(QO b S).foldl (fun a x=>iMax a (1+XP b (without S x))) 0:=by
 rw [XP,mostF,if_neg h0]
 refine Qah fun x hx a=>?_
 have hp:=XI hx
 have hs:=Xi hp.1
 rw [QbY (by omega)]
theorem yp {b:List Int}:XP b 0=0:=rfl
theorem Kn {v:Nat→Int}:∀ {l:List Nat} {a:Int},a≤l.foldl (fun a x=>iMax a (v x)) a∧(∀ x ∈ l,v x≤l.foldl (fun a x=>iMax a (v x)) a)∧(l.foldl (fun a x=>iMax a (v x)) a=a ∨ ∃ x ∈ l,l.foldl (fun a x=>iMax a (v x)) a=v x)
 | [],a=>⟨Int.le_refl _,fun x hx=>by simp at hx,.inl rfl⟩
 | x :: l,a=>by
  obtain ⟨h1,h2,h3⟩:=Kn (v:=v) (l:=l) (a:=iMax a (v x))
  rw [List.foldl_cons]
  have hm:a≤iMax a (v x)∧v x≤iMax a (v x)∧(iMax a (v x)=a ∨ iMax a (v x)=v x):=by unfold iMax; split <;> omega
  refine ⟨by omega,fun y hy=>?_,?_⟩
  · rcases List.mem_cons.1 hy with rfl | hy
    · omega
    · exact h2 y hy
  · rcases h3 with h3 | ⟨y,hy,h3⟩
    · rcases hm.2.2 with h4 | h4
      · exact .inl (by omega)
      · exact .inr ⟨x,by simp,by omega⟩
    · exact .inr ⟨y,by simp [hy],h3⟩
theorem WJ {b:List Int}:∀ (S:Nat),0≤XP b S∧XP b S≤(S:Int):=by
 intro S
 induction S using Nat.strongRecOn with
 | ind S ih =>
  by_cases h0:S=0
  · subst h0; rw [yp]; omega
  · rw [Kl h0]
    obtain ⟨h1,h2,h3⟩:=Kn (v:=fun x=>1+XP b (without S x)) (l:=QO b S) (a:=0)
    refine ⟨h1,?_⟩
    rcases h3 with h3 | ⟨x,hx,h3⟩
    · rw [h3]; omega
    · have hp:=XI hx
      have hs:=Xi hp.1
      have:=ih (without S x) (by omega)
      rw [h3]; omega
/-- What is known behind a call. -/
def mapF (b:List Int):Nat→Nat→List (Int × Int)→List (Int × Int)
 | 0,_,m=>m
 | f+1,S,m=>if S=0 then m else if YH m (S:Int)=true then m else (QO b S).foldl (fun m x=>mapF b f (without S x) m) m++[((S:Int),XP b S)]
def Qz (b:List Int) (f S:Nat) (m:List (Int × Int)):Int × List (Int × Int):=(XP b S,mapF b f S m)
def KInv (b:List Int) (m:List (Int × Int)):Prop:=∀ e ∈ m,∃ S:Nat,e.1=(S:Int)∧e.2=XP b S
theorem knHas_app {l:List (Int × Int)} {e:Int × Int} {k:Int}:YH (l++[e]) k=(YH l k || k == e.1):=by
 unfold YH; rw [List.any_append]; simp
theorem KV {b:List Int}:∀ {f S:Nat} {m:List (Int × Int)},S<f→KInv b m→KInv b (mapF b f S m)∧∀ k,YH (mapF b f S m) k=true→YH m k=true ∨ k≤(S:Int)
 | 0,S,m,h,_=>by omega
 | f+1,S,m,h,hm=>by
  rw [mapF]
  split
  · exact ⟨hm,fun k hk=>.inl hk⟩
  split
  · exact ⟨hm,fun k hk=>.inl hk⟩
  have fold:∀ (l:List Nat) (m':List (Int × Int)),(∀ x ∈ l,x ∈ QO b S)→KInv b m'→(∀ k,YH m' k=true→YH m k=true ∨ k≤(S:Int)) →
   KInv b (l.foldl (fun m x=>mapF b f (without S x) m) m')∧∀ k,YH (l.foldl (fun m x=>mapF b f (without S x) m) m') k=true→YH m k=true ∨ k≤(S:Int):=by
   intro l
   induction l with
   | nil=>intro m' _ h1 h2; exact ⟨h1,h2⟩
   | cons x l ih =>
    intro m' hl h1 h2
    have hp:=XI (hl x (by simp))
    have hs:=Xi hp.1
    obtain ⟨q1,q2⟩:=KV (f:=f) (S:=without S x) (m:=m') (by omega) h1
    rw [List.foldl_cons]
    refine ih _ (fun y hy=>hl y (by simp [hy])) q1 fun k hk=>?_
    rcases q2 k hk with h3 | h3
    · exact h2 k h3
    · right; omega
  obtain ⟨q1,q2⟩:=fold (QO b S) m (fun _ h=>h) hm fun k hk=>.inl hk
  refine ⟨fun e he=>?_,fun k hk=>?_⟩
  · rcases List.mem_append.1 he with he | he
    · exact q1 e he
    · rw [List.mem_singleton] at he; subst he; exact ⟨S,rfl,rfl⟩
  · rw [knHas_app,Bool.or_eq_true] at hk
    rcases hk with hk | hk
    · exact q2 k hk
    · right; have:=eq_of_beq hk; simp only at this; omega
theorem mapF_fold {b:List Int} {f S:Nat} {m:List (Int × Int)} (h:S<f+1) (hm:KInv b m) (hn:YH m (S:Int)=false):∀ (l:List Nat),(∀ x ∈ l,x ∈ QO b S) →
 KInv b (l.foldl (fun m x=>mapF b f (without S x) m) m)∧YH (l.foldl (fun m x=>mapF b f (without S x) m) m) (S:Int)=false:=by
 have fold:∀ (l:List Nat) (m':List (Int × Int)),(∀ x ∈ l,x ∈ QO b S)→KInv b m'→YH m' (S:Int)=false →
  KInv b (l.foldl (fun m x=>mapF b f (without S x) m) m')∧YH (l.foldl (fun m x=>mapF b f (without S x) m) m') (S:Int)=false:=by
  intro l
  induction l with
  | nil=>intro m' _ h1 h2; exact ⟨h1,h2⟩
  | cons x l ih =>
   intro m' hl h1 h2
   have hp:=XI (hl x (by simp))
   have hs:=Xi hp.1
   obtain ⟨q1,q2⟩:=KV (f:=f) (S:=without S x) (m:=m') (by omega) h1
   rw [List.foldl_cons]
   refine ih _ (fun y hy=>hl y (by simp [hy])) q1 ?_
   cases hk:YH (mapF b f (without S x) m') (S:Int) with
   | false=>rfl
   | true =>
    rcases q2 _ hk with h3 | h3
    · rw [h2] at h3; cases h3
    · omega
 intro l hl
 exact fold l m hl hm hn
theorem WC {b:List Int} {S x:Nat} (h:VQ b (S:Int)):VQ b ((without S x:Nat):Int):=by
 obtain ⟨S',h1,h2,h3,h4⟩:=h
 have:S=S':=by omega
 subst this
 exact ⟨_,rfl,QaO h2,h3,h4⟩
theorem part_in {b:List Int} {S x:Nat} (h:VQ b (S:Int)) (hx:x ∈ QO b S):VQ b (x:Int):=by
 obtain ⟨S',h1,h2,h3,h4⟩:=h
 have:S=S':=by omega
 subst this
 have hp:=XI hx
 have:=Xi hp.1
 exact ⟨_,rfl,by omega,h3,h4⟩
theorem Qcp {α β γ:Type} {f:α→γ→α} {g:β→γ→β}:∀ {l:List γ} {a:α} {b:β},(l.foldl (fun s x=>(f s.1 x,g s.2 x)) (a,b)).1=l.foldl f a
 | [],_,_=>rfl
 | x :: l,a,b=>by rw [List.foldl_cons,List.foldl_cons]; exact Qcp
theorem fold_snd {α β γ:Type} {f:α→γ→α} {g:β→γ→β}:∀ {l:List γ} {a:α} {b:β},(l.foldl (fun s x=>(f s.1 x,g s.2 x)) (a,b)).2=l.foldl g b
 | [],_,_=>rfl
 | x :: l,a,b=>by rw [List.foldl_cons,List.foldl_cons]; exact fold_snd
/-- The call of 'many' gives what is said. -/
def Vm (b:List Int) (f:Nat) (st:Int) (m:List (Int × Int)):Prop :=
 Lent Try.prog 228 [.pm [.rsl (rowI b) 0 b.length] 0 0 0,.int .i64 st] [⟨true,0,0,true,QD m,false⟩] (.int .i64 (Qz b f (Int.toNat st) m).1) [⟨true,0,0,true,QD (Qz b f (Int.toNat st) m).2,false⟩]
theorem Vm.lent {b:List Int} {f:Nat} {st:Int} {m:List (Int × Int)} (h:Vm b f st m) :
 Lent Try.prog 228 [.pm [.rsl (rowI b) 0 b.length] 0 0 0,.int .i64 st] [⟨true,0,0,true,QD m,false⟩] (.int .i64 (Qz b f (Int.toNat st) m).1) [⟨true,0,0,true,QD (Qz b f (Int.toNat st) m).2,false⟩]:=h
theorem f228b:Try.f228.body=some (Qf Try.prog 228):=by kernel_rfl
def yB (P:Program):List Item:=kAt 400 [.code (Qf P 228)] [.b false,.b false]
def Vz (set:Int) (b:List Int) (m:List (Int × Int)) (f:Nat) (s:List (Int × Int) × Int):St:=⟨([J,J,.ptr 1 0 0,.ptr 2 0 0,J,J,J,.ptr 3 0 0]++jj 16 ([.clos 266 [] [.rptr [.int .i64 set] 0,.rptr [.rptr [.rsl (rowI b) 0 b.length] 0] 0]]++Js 16)),[⟨true,0,0,true,(QD s.1),false⟩,⟨true,0,1,false,[.pm [.rsl (rowI b) 0 b.length] 0 0 0],false⟩,⟨true,0,1,true,[.int .i64 set],false⟩,⟨true,0,1,true,[.int .i64 s.2],false⟩]⟩
def f228Gr0 (E:Env) (set:Int) (b:List Int) (m:List (Int × Int)) (f:Nat) (s:List (Int × Int) × Int):Prop:=G Try.prog E (yB Try.prog) (Vz set b m f s)
def f228Tr0 (set:Int) (b:List Int) (m:List (Int × Int)) (f:Nat) (s:List (Int × Int) × Int) (x:Nat):St:=⟨([J,J,.ptr 1 0 0,.ptr 2 0 0,J,J,J,.ptr 3 0 0,.int .i64 (x:Int)]++jj 15 ([.clos 266 [] [.rptr [.int .i64 set] 0,.rptr [.rptr [.rsl (rowI b) 0 b.length] 0] 0],.int .i64 (x:Int)]++Js 15)),[⟨true,0,0,true,(QD s.1),false⟩,⟨true,0,1,false,[.pm [.rsl (rowI b) 0 b.length] 0 0 0],false⟩,⟨true,0,1,true,[.int .i64 set],false⟩,⟨true,0,1,true,[.int .i64 s.2],false⟩]⟩
theorem f228W (set:Int) (b:List Int) (m:List (Int × Int)) (f:Nat) {E:Env} {rv:Int} {m2:List (Int × Int)} (hE:LentE Try.prog 228 [.pm [.rsl (rowI b) 0 b.length] 0 0 0] (.int .i64 rv) [⟨true,0,0,true,(QD m2),false⟩] E)
 (h:((set=0→rv=0∧m2=m)∧(¬ (set=0)→(((YH m set)=true→(∃ mi:Nat,True∧(∃ me:(Int × Int),KnAt m set mi me∧rv=me.2∧m2=m)))∧((YH m set)=false→f228Gr0 E set b m f (m,0)))))):G Try.prog E [.code (Qf Try.prog 228)] ⟨[.pm [.rsl (rowI b) 0 b.length] 0 0 0,.int .i64 set]++unds (Try.f228.ntmps - 2),[⟨true,0,0,true,(QD m),false⟩]⟩:=by
 rcases bft (set == 0) with hc0 | hc0
 · have h:=h.1 (eq_of_beq hc0)
   obtain ⟨qe0,qe1⟩:=h
   exact eB (.int .i64 0) [⟨true,0,0,true,(QD m),false⟩] [4] 1 [.b true] [(set == 0)=true] hE (by rw [hE.gA]; kernel_rfl) Try.func228 ⟨hc0,trivial⟩ (by rw [qe0]; try rfl) (by rw [qe1]; all_goals (first | rfl | (simp only [List.length_set]; done) | (simp only [List.length_set]; rfl) | (simp only [List.length_set,List.length_replicate]; done)))
 · have h:=h.2 (ne_of_beq_false hc0)
   rcases bft (YH m set) with hc1 | hc1
   · have h:=h.1 hc1
     obtain ⟨mi,h1,h⟩:=h
     obtain ⟨me,h2,h⟩:=h
     obtain ⟨qe0,qe1⟩:=h
     exact eB (.int .i64 me.2) [⟨true,0,0,true,(QD m),false⟩] [4] 1 [.b false,.mfound mi (.int .i64 me.2),.b true] [(set == 0)=false,XY Try.prog 3 (.int .i64 set) (QD m) mi (.int .i64 me.2),true=true] hE (by rw [hE.gA]; kernel_rfl) Try.func228 ⟨hc0,(knAt h2),rfl,trivial⟩ (by rw [qe0]; try rfl) (by rw [qe1]; all_goals (first | rfl | (simp only [List.length_set]; done) | (simp only [List.length_set]; rfl) | (simp only [List.length_set,List.length_replicate]; done)))
   · have h:=h.2 hc1
     exact sM [2,3,7,24] 4 [.b false,.mnone,.b false,.v (.clos 266 [] [.rptr [.int .i64 set] 0,.rptr [.rptr [.rsl (rowI b) 0 b.length] 0] 0])] [(set == 0)=false,Xw Try.prog 3 (.int .i64 set) (QD m),false=false,1≤1,Qc Try.prog (.clos 227 [] []) [.rptr [.rsl (rowI b) 0 b.length] 0,.int .i64 set] (.clos 266 [] [.rptr [.int .i64 set] 0,.rptr [.rptr [.rsl (rowI b) 0 b.length] 0] 0])] hE.kind (by rw [hE.gA]; kernel_rfl) ⟨hc0,(knNew hc1),rfl,(by decide),(u227 (parts_ok b set)),trivial⟩ h
theorem f228Wr0e (set:Int) (b:List Int) (m:List (Int × Int)) (f:Nat) (s:List (Int × Int) × Int) {E:Env} {rv:Int} {m2:List (Int × Int)} (hE:LentE Try.prog 228 [.pm [.rsl (rowI b) 0 b.length] 0 0 0] (.int .i64 rv) [⟨true,0,0,true,(QD m2),false⟩] E)
 (h:((YH s.1 set)=false∧rv=s.2∧m2=(s.1++[(set,s.2)]))):G Try.prog E (VD (yB Try.prog)) (Vz set b m f s):=by
 obtain ⟨h1,h⟩:=h
 obtain ⟨qe0,qe1⟩:=h
 exact eB (.int .i64 s.2) [⟨true,0,0,true,((QD s.1)++[.clos 0 [.int .i64 set] [.int .i64 s.2]]),false⟩] [4] 1 [] [Xw Try.prog 3 (.int .i64 set) (QD s.1)] hE (by rw [hE.gA]; kernel_rfl) Try.func228 ⟨(knNew h1),trivial⟩ (by rw [qe0]; try rfl) (by rw [qe1]; rw [(show QD s.1++[.clos 0 [.int .i64 set] [.int .i64 s.2]]=QD (s.1++[(set,s.2)]) from (Xz cKnE s.1 [(set,s.2)]).symm)]; all_goals (first | rfl | (simp only [List.length_set]; done) | (simp only [List.length_set]; rfl) | (simp only [List.length_set,List.length_replicate]; done)))
theorem f228Ar0 (set:Int) (b:List Int) (m:List (Int × Int)) (f:Nat) (s:List (Int × Int) × Int) (x:Nat) {E:Env} (hE:RoundE ((Vz set b m f s).tmps++[.pm [.rsl (rowI b) 0 b.length] 0 0 0]) E) (hg:G Try.prog E [.beginRound,.code (XA (yB Try.prog))] (f228Tr0 set b m f s x)):G Try.prog E [.code (Vp (yB Try.prog)),.beginRound,.code (XA (yB Try.prog))] ⟨WS (Vz set b m f s).tmps [25] (argS x),(Vz set b m f s).blks⟩ :=
 sM [0,1,2,3,4,5,6,7,8,9,10,11,12,13,14,15,16,17,18,19,20,21,22,23,24,25,26,27,28,29,30,31,32,33,34,35,36,37,38,39,40] 4 [] [] hE.kind (by rw [hE.gA]; kernel_rfl) trivial hg
theorem f228Br0 (set:Int) (b:List Int) (m:List (Int × Int)) (f:Nat) (s:List (Int × Int) × Int) (x:Nat) {rq:(List (Int × Int) × Int) × Bool} {E:Env} (hE:RoundE ((Vz set b m f s).tmps++[.pm [.rsl (rowI b) 0 b.length] 0 0 0]) E) (hQ:qi (fun s=>(Vz set b m f s).blks) (.ret) rq E)
 (h:((Vm b f (bits .andNot .i64 set (x:Int)) s.1)∧((I6 (1+(Qz b f (Int.toNat (bits .andNot .i64 set (x:Int))) s.1).1))∧rq=(((Qz b f (Int.toNat (bits .andNot .i64 set (x:Int))) s.1).2,(iMax s.2 (1+(Qz b f (Int.toNat (bits .andNot .i64 set (x:Int))) s.1).1))),true)))):G Try.prog E [.code (XA (yB Try.prog))] (f228Tr0 set b m f s x):=by
 obtain ⟨h1,h⟩:=h
 obtain ⟨q1_0,h⟩:=h
 exact sK [] ⟨(Js 41),[⟨true,0,0,true,(QD (Qz b f (Int.toNat (bits .andNot .i64 set (x:Int))) s.1).2),false⟩,⟨true,0,1,false,[.pm [.rsl (rowI b) 0 b.length] 0 0 0],false⟩,⟨true,0,1,true,[.int .i64 set],false⟩,⟨true,0,1,true,[.int .i64 (iMax s.2 (1+(Qz b f (Int.toNat (bits .andNot .i64 set (x:Int))) s.1).1))],false⟩]⟩ [] 4 [.lent [0] (.int .i64 ((Qz b f (Int.toNat (bits .andNot .i64 set (x:Int))) s.1).1)) [⟨true,0,0,true,(QD (Qz b f (Int.toNat (bits .andNot .i64 set (x:Int))) s.1).2),false⟩]] [PureU Try.prog (.clos 228 [] []) [.pm [.rsl (rowI b) 0 b.length] 0 0 0,.int .i64 (bits .andNot .i64 set (x:Int))] 0 ⟨true,0,0,true,(QD s.1),false⟩ ⟨true,0,0,true,(QD (Qz b f (Int.toNat (bits .andNot .i64 set (x:Int))) s.1).2),false⟩ (.int .i64 ((Qz b f (Int.toNat (bits .andNot .i64 set (x:Int))) s.1).1)),InR .i64 (1+(Qz b f (Int.toNat (bits .andNot .i64 set (x:Int))) s.1).1),1≤1] hE.kind (by rw [hE.gA]; kernel_rfl) ⟨(Yq (QK Try.func228 (by kernel_rfl) f228b (Vm.lent h1)) rfl rfl rfl rfl rfl rfl),q1_0,(by decide),trivial⟩ (by exact XV hQ h rfl)
theorem f228Rr0 (set:Int) (b:List Int) (m:List (Int × Int)) (f:Nat) (s0:List (Int × Int) × Int) {E:Env} {rv:Int} {m2:List (Int × Int)} (hE:LentE Try.prog 228 [.pm [.rsl (rowI b) 0 b.length] 0 0 0] (.int .i64 rv) [⟨true,0,0,true,(QD m2),false⟩] E) (step:(List (Int × Int) × Int)→(Nat)→(List (Int × Int) × Int))
 (h:VQ b set∧(∀ (i:Nat) (x:Nat) (s:List (Int × Int) × Int),(QO b (Int.toNat set))[i]?=some x→s=((QO b (Int.toNat set)).take i).foldl step s0→((Vm b f (bits .andNot .i64 set (x:Int)) s.1)∧((I6 (1+(Qz b f (Int.toNat (bits .andNot .i64 set (x:Int))) s.1).1))∧step s x=((Qz b f (Int.toNat (bits .andNot .i64 set (x:Int))) s.1).2,(iMax s.2 (1+(Qz b f (Int.toNat (bits .andNot .i64 set (x:Int))) s.1).1))))))∧(∀ s:List (Int × Int) × Int,s=(QO b (Int.toNat set)).foldl step s0→((YH s.1 set)=false∧rv=s.2∧m2=(s.1++[(set,s.2)])))):f228Gr0 E set b m f s0:=by
 have hT:(Vz set b m f s0).tmps++E.gA=(Vz set b m f s0).tmps++[.pm [.rsl (rowI b) 0 b.length] 0 0 0]:=by rw [hE.gA]
 refine VE (σ:=List (Int × Int) × Int) (X:=Nat) (arg:=argS) (L:=(QO b (Int.toNat set))) (jump:=.ret) (g:=.tmp 24) (ps:=#[25]) (fun s=>(Vz set b m f s).blks) (fun s x=>(f228Tr0 set b m f s x)) (fun s x=>(step s x,true)) s0 hE.ro hE.kind (by kernel_rfl) rfl rfl (parts_it b set h.1) rfl (fun x=>rfl) (fun s x E' hR hg=>?_) (fun i x s hx hs E' hR hQ=>?_) (fun s hs=>?_) (fun s hs=>?_)
 · rw [hT] at hR; exact f228Ar0 set b m f s x hR hg
 · rw [hT] at hR; rw [Xx] at hs; simp only [Prod.mk.injEq,and_true] at hs; refine f228Br0 set b m f s x hR hQ ?_
   have h:=h.2.1 i x s hx hs.symm
   simpa only [Prod.mk.injEq,and_true] using h
 · rw [Xx] at hs; simp only [Prod.mk.injEq,and_true] at hs; exact f228Wr0e set b m f s hE (h.2.2 s hs.symm)
 · rw [Xx] at hs; simp at hs
theorem many_ok (b:List Int):∀ (f:Nat) (S:Nat) (m:List (Int × Int)),S<f→VQ b (S:Int)→KInv b m→Vm b f (S:Int) m
 | 0,S,m,h,_,_=>by omega
 | f+1,S,m,h,hin,hm=>by
  unfold Vm
  rw [Int.toNat_natCast]
  refine lent_ofA (.pm [.rsl (rowI b) 0 b.length] 0 0 0) 0 rfl (fun n h=>by simp [refsBelows,QI] at h; exact h) Try.func228 f228b fun E hE=>?_
  refine f228W (S:Int) b m f (rv:=(Qz b (f+1) S m).1) (m2:=(Qz b (f+1) S m).2) hE ⟨fun h0=>?_,fun h0=>⟨fun hk=>?_,fun hk=>?_⟩⟩
  · have:S=0:=by omega
    subst this
    exact ⟨rfl,rfl⟩
  · obtain ⟨i,e,he⟩:=knFind hk
    refine ⟨i,trivial,e,he,?_,?_⟩
    · obtain ⟨S',h1,h2⟩:=hm e (List.mem_of_getElem? he.1)
      have:S=S':=by have:=he.2.1; omega
      subst this
      exact h2.symm
    · show mapF b (f+1) S m=m
      rw [mapF,if_neg (by omega),if_pos hk]
  · have hS0:S ≠ 0:=by omega
    have hmb:=WJ (b:=b)
    have ean:∀ x:Nat,x<1024→bits .andNot .i64 (S:Int) (x:Int)=((without S x:Nat):Int):=fun x hx=>by
     obtain ⟨S',h1,h2,h3,h4⟩:=hin
     have:=WV h3 h2
     exact QbE (by omega) (by omega)
    refine f228Rr0 (S:Int) b m f (m,0) (rv:=(Qz b (f+1) S m).1) (m2:=(Qz b (f+1) S m).2) hE (fun s x=>(mapF b f (without S x) s.1,iMax s.2 (1+XP b (without S x)))) ⟨hin,fun i x s hx hs=>?_,fun s hs=>?_⟩
    · rw [Int.toNat_natCast] at hx hs
      have hxm:=List.mem_of_getElem? hx
      have hp:=XI hxm
      have hw:=Xi hp.1
      obtain ⟨x',h1,h2,h3,h4⟩:=part_in hin hxm
      have hx':=WV h3 h2
      have e1:s.1=((QO b S).take i).foldl (fun m x=>mapF b f (without S x) m) m:=by
       rw [hs]; exact Qcp (f:=fun m x=>mapF b f (without S x) m) (g:=fun a x=>iMax a (1+XP b (without S x)))
      obtain ⟨q1,q2⟩:=mapF_fold (f:=f) h hm hk ((QO b S).take i) (fun y hy=>List.mem_of_mem_take hy)
      rw [← e1] at q1
      rw [ean x (by omega),Int.toNat_natCast]
      have hb:=hmb (without S x)
      obtain ⟨S',g1,g2,g3,g4⟩:=hin
      have gS:=WV g3 g2
      exact ⟨many_ok b f (without S x) s.1 (by omega) (WC ⟨S',g1,g2,g3,g4⟩) q1,by show _≤1+XP b (without S x)∧1+XP b (without S x)≤_; omega,rfl⟩
    · rw [Int.toNat_natCast] at hs
      have e1:s.1=(QO b S).foldl (fun m x=>mapF b f (without S x) m) m:=by
       rw [hs]; exact Qcp (f:=fun m x=>mapF b f (without S x) m) (g:=fun a x=>iMax a (1+XP b (without S x)))
      have e2:s.2=XP b S:=by
       rw [Kl hS0,hs]; exact fold_snd (f:=fun m x=>mapF b f (without S x) m) (g:=fun a x=>iMax a (1+XP b (without S x)))
      obtain ⟨q1,q2⟩:=mapF_fold (f:=f) h hm hk (QO b S) (fun _ hy=>hy)
      rw [← e1] at q1 q2
      refine ⟨q2,e2.symm,?_⟩
      show mapF b (f+1) S m=_
      rw [mapF,if_neg hS0,if_neg (by rw [hk]; simp),e1,e2]
end Go.Proofs.Ytemklbioijmjiaa
namespace Go.Proofs.Ytemklbioijmjiaa
open Go Ax
open Go.Proofs
/-- Whether a part may be the first one. -/
def qs (b:List Int) (S x:Nat):Bool:=XP b S == 1+XP b (without S x)
def pickS (b:List Int) (S:Nat):Option Nat:=(QO b S).find? (qs b S)
/-- The payments that settle a set. -/
def QY (b:List Int):Nat→Nat→List Pay
 | 0,_=>[]
 | n+1,S=>if S=0 then [] else match pickS b S with
  | some x=>Xa b x++QY b n (without S x)
  | none=>[]
def mapW (b:List Int) (f S:Nat):List (Int × Int)→List Nat→List (Int × Int)
 | m,[]=>m
 | m,x :: l=>if qs b S x=true then mapF b f (without S x) (mapF b f S m) else mapW b f S (mapF b f (without S x) (mapF b f S m)) l
def YS (b:List Int) (f:Nat):Nat→Nat→List (Int × Int)→List (Int × Int)
 | 0,_,m=>m
 | n+1,S,m=>if S=0 then m else match pickS b S with
  | some x=>YS b f n (without S x) (mapW b f S m (QO b S))
  | none=>m
abbrev StS:=List (Int × Int) × Int × List Pay × Nat
def stStep (b:List Int) (f S:Nat) (s:StS) (x:Nat):StS × Bool :=
 if qs b S x=true then ((mapF b f (without S x) (mapF b f S s.1),((without S x:Nat):Int),s.2.2.1++Xa b x,s.2.2.2+1),false)
 else ((mapF b f (without S x) (mapF b f S s.1),s.2.1,s.2.2.1,s.2.2.2),true)
def stRes (b:List Int) (f S:Nat) (m:List (Int × Int)) (o:List Pay) (g:Nat) (l:List Nat):Option Nat→StS × Bool
 | some x=>((mapW b f S m l,((without S x:Nat):Int),o++Xa b x,g+1),false)
 | none=>((mapW b f S m l,(S:Int),o,g),true)
theorem st_fold {b:List Int} {f S:Nat} {o:List Pay} {g:Nat} {l:List Nat}:∀ {m:List (Int × Int)},Qs (stStep b f S) (m,(S:Int),o,g) l=stRes b f S m o g l (l.find? (qs b S)):=by
 induction l with
 | nil=>intro m; rfl
 | cons x l ih =>
  intro m
  rw [Qs,stStep,List.find?_cons]
  cases hg:qs b S x with
  | true =>
   rw [if_pos rfl]
   simp only [stRes]
   rw [mapW,if_pos hg]; rfl
  | false =>
   rw [if_neg (by simp)]
   have:=ih (m:=mapF b f (without S x) (mapF b f S m))
   simp only [cond_true]
   rw [this]
   cases l.find? (qs b S) <;> simp only [stRes] <;> rw [mapW,if_neg (by rw [hg]; simp)]
theorem mapW_ok {b:List Int} {f S:Nat} (h:S<f):∀ {l:List Nat} {m:List (Int × Int)},(∀ x ∈ l,x ∈ QO b S)→KInv b m→KInv b (mapW b f S m l)
 | [],m,_,hm=>hm
 | x :: l,m,hl,hm=>by
  have hp:=XI (hl x (by simp))
  have hs:=Xi hp.1
  have h1:=(KV (f:=f) h hm).1
  have h2:=(KV (f:=f) (S:=without S x) (by omega) h1).1
  rw [mapW]
  split
  · exact h2
  · exact mapW_ok h (fun y hy=>hl y (by simp [hy])) h2
theorem lowP_self {S:Nat} (h0:S ≠ 0) (h:S<1024):lowP S S=true:=by
 obtain ⟨i,h1,h2,h3,h4⟩:=low_of h0 h
 rw [lowP_iff h h h1 h4]; exact h2
/-- A set that is together 0 has a part to begin with. -/
theorem KI {b:List Int} {S:Nat} (h:VQ b (S:Int)) (h0:S ≠ 0) (ht:totN b S=0):∃ x,pickS b S=some x∧x ∈ QO b S∧XP b S=1+XP b (without S x):=by
 obtain ⟨S',h1,h2,h3,h4⟩:=h
 have:S=S':=by omega
 subst this
 have hS:=WV h3 h2
 have hself:S ∈ QO b S:=KR (Nat.and_self S) (by omega) (lowP_self h0 hS) ht
 have he:=Kl (b:=b) h0
 obtain ⟨m1,m2,m3⟩:=Kn (v:=fun x=>1+XP b (without S x)) (l:=QO b S) (a:=0)
 rw [← he] at m1 m2 m3
 have m4:=m2 S hself
 have hb:=(WJ (b:=b) (without S S)).1
 have hex:∃ y ∈ QO b S,qs b S y=true:=by
  rcases m3 with m3 | ⟨y,hy,m3⟩
  · omega
  · exact ⟨y,hy,by unfold qs; simpa using m3⟩
 cases hp:pickS b S with
 | none =>
  obtain ⟨y,hy,hg⟩:=hex
  unfold pickS at hp
  rw [List.find?_eq_none] at hp
  exact absurd hg (hp y hy)
 | some x =>
  unfold pickS at hp
  have hg:=List.find?_some hp
  exact ⟨x,rfl,List.mem_of_find?_eq_some hp,by unfold qs at hg; simpa using hg⟩
theorem yM {b:List Int} {S x:Nat} (h:x &&& S=x):∀ i,totP b (without S x) i+totP b x i=totP b S i
 | 0=>rfl
 | i+1=>by
  have ih:=yM (b:=b) h i
  have hb:(x.testBit i && S.testBit i)=x.testBit i:=by rw [← Nat.testBit_and,h]
  rw [totP,totP,totP,XQ]
  cases hx:x.testBit i <;> cases hs:S.testBit i <;> simp_all <;> omega
theorem qk {b:List Int} {S x:Nat} (h:x &&& S=x) (hS:totN b S=0) (hx:totN b x=0):totN b (without S x)=0:=by
 have:=yM (b:=b) h b.length
 unfold totN at *
 omega
theorem f175b:Try.f175.body=some (Qf Try.prog 175):=by kernel_rfl
def Wv (P:Program):List Item:=kAt 400 [.code (Qf P 175)] [.b true]
def Vh (set:Int) (b:List Int) (m:List (Int × Int)) (f:Nat) (v:Int) (s:List (Int × Int) × Int × List Pay × Nat):St:=⟨([J,J,.ptr 1 0 0,.ptr 2 0 0,.ptr 3 0 0]++jj 5 ([.clos 266 [] [.rptr [.int .i64 v] 0,.rptr [.rptr [.rsl (rowI b) 0 b.length] 0] 0]]++Js 20)),[⟨true,0,0,true,(QD s.1),false⟩,⟨true,0,1,false,[.pm [.rsl (rowI b) 0 b.length] 0 0 0],false⟩,⟨true,0,1,true,[.int .i64 s.2.1],false⟩,⟨true,0,1,false,[.sl 4 s.2.2.2 0 s.2.2.1.length 3],false⟩,⟨true,s.2.2.2,3,true,(Qu s.2.2.1),true⟩]⟩
def f175Gr0 (E:Env) (set:Int) (b:List Int) (m:List (Int × Int)) (f:Nat) (v:Int) (s:List (Int × Int) × Int × List Pay × Nat):Prop:=G Try.prog E (Wv Try.prog) (Vh set b m f v s)
def f175Tr0 (set:Int) (b:List Int) (m:List (Int × Int)) (f:Nat) (v:Int) (s:List (Int × Int) × Int × List Pay × Nat) (x:Nat):St:=⟨([J,J,.ptr 1 0 0,.ptr 2 0 0,.ptr 3 0 0,.int .i64 (x:Int),J,J,J,J,.clos 266 [] [.rptr [.int .i64 v] 0,.rptr [.rptr [.rsl (rowI b) 0 b.length] 0] 0],.int .i64 (x:Int)]++Js 19),[⟨true,0,0,true,(QD s.1),false⟩,⟨true,0,1,false,[.pm [.rsl (rowI b) 0 b.length] 0 0 0],false⟩,⟨true,0,1,true,[.int .i64 s.2.1],false⟩,⟨true,0,1,false,[.sl 4 s.2.2.2 0 s.2.2.1.length 3],false⟩,⟨true,s.2.2.2,3,true,(Qu s.2.2.1),true⟩]⟩
def f175K0 (P:Program):List Item:=kAt 400 [.code (Qf P 175)] [.stop]
def f175S0 (set:Int) (b:List Int) (m:List (Int × Int)) (f:Nat) (v0:List (Int × Int)) (v2_0:Int) (v4:List Pay) (g4:Nat):St:=⟨([J,J,.ptr 1 0 0,.ptr 2 0 0,.ptr 3 0 0]++Js 26),[⟨true,0,0,true,(QD v0),false⟩,⟨true,0,1,false,[.pm [.rsl (rowI b) 0 b.length] 0 0 0],false⟩,⟨true,0,1,true,[.int .i64 v2_0],false⟩,⟨true,0,1,false,[.sl 4 g4 0 v4.length 3],false⟩,⟨true,g4,3,true,(Qu v4),true⟩]⟩
def Qaq (E:Env) (set:Int) (b:List Int) (m:List (Int × Int)) (f:Nat) (v0:List (Int × Int)) (v2_0:Int) (v4:List Pay):Prop:=∀ g4:Nat,G Try.prog E (f175K0 Try.prog) (f175S0 set b m f v0 v2_0 v4 g4)
theorem f175W (set:Int) (b:List Int) (m:List (Int × Int)) (f:Nat) {E:Env} {rv:(List Pay)} {m2:List (Int × Int)} (hE:LentE Try.prog 175 [.pm [.rsl (rowI b) 0 b.length] 0 0 0] (.rsl (Qu rv) 0 rv.length) [⟨true,0,0,true,(QD m2),false⟩] E)
 (h:Qaq E set b m f m set ([])):G Try.prog E [.code (Qf Try.prog 175)] ⟨[.pm [.rsl (rowI b) 0 b.length] 0 0 0,.int .i64 set]++unds (Try.f175.ntmps - 2),[⟨true,0,0,true,(QD m),false⟩]⟩:=by
 exact QM (n:=400) (ds:=[]) (cs:=[(3,0,3)]) (live:=[2,3,4]) (m:=5) (evs:=[.stop]) (obs:=[]) hE.kind (by rw [hE.gA]; kernel_rfl) Vy (by kernel_rfl) trivial (h 0)
theorem p175_0_1 (set:Int) (b:List Int) (m:List (Int × Int)) (f:Nat) (v0:List (Int × Int)) (v2_0:Int) (v4:List Pay) (g4:Nat) {E:Env} {res:AV} {bs2:List Blk} (hE:LentE Try.prog 175 [.pm [.rsl (rowI b) 0 b.length] 0 0 0] res bs2 E) (ho:AllP [(v2_0 != 0)=false,g4=g4,1≤1])
 (hr:AvLe (.rsl (Qu v4) 0 v4.length) res) (hb:[⟨true,0,0,true,(QD v0),false⟩]=bs2):G Try.prog E (f175K0 Try.prog) (f175S0 set b m f v0 v2_0 v4 g4) :=
 endW_step (n:=400) (m:=1) (evs:=[.b false,.wt 30]) (obs:=_) hE (by rw [hE.gA]; kernel_rfl) Try.func175 Vy (by kernel_rfl) ho hr hb
theorem f175W0 (set:Int) (b:List Int) (m:List (Int × Int)) (f:Nat) (v0:List (Int × Int)) (v2_0:Int) (v4:List Pay) {E:Env} {rv:(List Pay)} {m2:List (Int × Int)} (hE:LentE Try.prog 175 [.pm [.rsl (rowI b) 0 b.length] 0 0 0] (.rsl (Qu rv) 0 rv.length) [⟨true,0,0,true,(QD m2),false⟩] E)
 (h:∀ g4:Nat,((¬ (v2_0=0)→f175Gr0 E set b m f v2_0 (v0,v2_0,v4,g4))∧(v2_0=0→rv=v4∧m2=v0))):Qaq E set b m f v0 v2_0 v4:=by
 intro g4
 have h:=h g4
 rcases bft (v2_0 != 0) with hc0 | hc0
 · have h:=h.1 (bneT hc0)
   exact sM [2,3,4,10] 5 [.b true,.v (.clos 266 [] [.rptr [.int .i64 v2_0] 0,.rptr [.rptr [.rsl (rowI b) 0 b.length] 0] 0])] [(v2_0 != 0)=true,Qc Try.prog (.clos 227 [] []) [.rptr [.rsl (rowI b) 0 b.length] 0,.int .i64 v2_0] (.clos 266 [] [.rptr [.int .i64 v2_0] 0,.rptr [.rptr [.rsl (rowI b) 0 b.length] 0] 0])] hE.kind (by rw [hE.gA]; kernel_rfl) ⟨hc0,(u227 (parts_ok b v2_0)),trivial⟩ h
 · have h:=h.2 (bneF hc0)
   obtain ⟨qe0,qe1⟩:=h
   exact p175_0_1 set b m f v0 v2_0 v4 g4 hE ⟨hc0,rfl,(by decide),trivial⟩ (AvLe.of_eq (by rw [qe0]; try rfl)) (by rw [qe1]; all_goals (first | rfl | (simp only [List.length_set]; done) | (simp only [List.length_set]; rfl) | (simp only [List.length_set,List.length_replicate]; done)))
theorem f175Wr0e (set:Int) (b:List Int) (m:List (Int × Int)) (f:Nat) (v:Int) (s:List (Int × Int) × Int × List Pay × Nat) {E:Env} {rv:(List Pay)} {m2:List (Int × Int)} (hE:LentE Try.prog 175 [.pm [.rsl (rowI b) 0 b.length] 0 0 0] (.rsl (Qu rv) 0 rv.length) [⟨true,0,0,true,(QD m2),false⟩] E)
 (h:Qaq E set b m f s.1 s.2.1 s.2.2.1):G Try.prog E (VD (Wv Try.prog)) (Vh set b m f v s):=by
 exact sM [2,3,4] 5 [.stop] [] hE.kind (by rw [hE.gA]; kernel_rfl) trivial (h s.2.2.2)
theorem f175Wr0j (set:Int) (b:List Int) (m:List (Int × Int)) (f:Nat) (v:Int) (s:List (Int × Int) × Int × List Pay × Nat) {E:Env} {rv:(List Pay)} {m2:List (Int × Int)} (hE:LentE Try.prog 175 [.pm [.rsl (rowI b) 0 b.length] 0 0 0] (.rsl (Qu rv) 0 rv.length) [⟨true,0,0,true,(QD m2),false⟩] E)
 (h:Qaq E set b m f s.1 s.2.1 s.2.2.1):G Try.prog E (.code (.exit 2) :: VD (Wv Try.prog)) (Vh set b m f v s):=by
 exact sM [2,3,4] 5 [.stop] [] hE.kind (by rw [hE.gA]; kernel_rfl) trivial (h s.2.2.2)
theorem f175Ar0 (set:Int) (b:List Int) (m:List (Int × Int)) (f:Nat) (v:Int) (s:List (Int × Int) × Int × List Pay × Nat) (x:Nat) {E:Env} (hE:RoundE ((Vh set b m f v s).tmps++[.pm [.rsl (rowI b) 0 b.length] 0 0 0]) E) (hg:G Try.prog E [.beginRound,.code (XA (Wv Try.prog))] (f175Tr0 set b m f v s x)):G Try.prog E [.code (Vp (Wv Try.prog)),.beginRound,.code (XA (Wv Try.prog))] ⟨WS (Vh set b m f v s).tmps [11] (argS x),(Vh set b m f v s).blks⟩ :=
 sM [0,1,2,3,4,5,6,7,8,9,10,11,12,13,14,15,16,17,18,19,20,21,22,23,24,25,26,27,28,29,30] 5 [] [] hE.kind (by rw [hE.gA]; kernel_rfl) trivial hg
theorem f175Br0 (set:Int) (b:List Int) (m:List (Int × Int)) (f:Nat) (v:Int) (s:List (Int × Int) × Int × List Pay × Nat) (x:Nat) {rq:(List (Int × Int) × Int × List Pay × Nat) × Bool} {E:Env} (hE:RoundE ((Vh set b m f v s).tmps++[.pm [.rsl (rowI b) 0 b.length] 0 0 0]) E) (hQ:qi (fun s=>(Vh set b m f v s).blks) (.exit 2) rq E)
 (h:((Vm b f s.2.1 s.1)∧((Vm b f (bits .andNot .i64 s.2.1 (x:Int)) ((Qz b f (Int.toNat s.2.1) s.1).2))∧((I6 (1+(Qz b f (Int.toNat (bits .andNot .i64 s.2.1 (x:Int))) ((Qz b f (Int.toNat s.2.1) s.1).2)).1))∧((¬ ((Qz b f (Int.toNat s.2.1) s.1).1=(1+(Qz b f (Int.toNat (bits .andNot .i64 s.2.1 (x:Int))) ((Qz b f (Int.toNat s.2.1) s.1).2)).1))→rq=(((Qz b f (Int.toNat (bits .andNot .i64 s.2.1 (x:Int))) ((Qz b f (Int.toNat s.2.1) s.1).2)).2,s.2.1,s.2.2.1,s.2.2.2),true))∧((Qz b f (Int.toNat s.2.1) s.1).1=(1+(Qz b f (Int.toNat (bits .andNot .i64 s.2.1 (x:Int))) ((Qz b f (Int.toNat s.2.1) s.1).2)).1)→((VQ b (x:Int))∧((s.2.2.1.length+(Xa b (Int.toNat (x:Int))).length)≤2147483648∧rq=(((Qz b f (Int.toNat (bits .andNot .i64 s.2.1 (x:Int))) ((Qz b f (Int.toNat s.2.1) s.1).2)).2,(bits .andNot .i64 s.2.1 (x:Int)),(s.2.2.1++(Xa b (Int.toNat (x:Int)))),(s.2.2.2+1)),false))))))))):G Try.prog E [.code (XA (Wv Try.prog))] (f175Tr0 set b m f v s x):=by
 obtain ⟨h1,h⟩:=h
 obtain ⟨h2,h⟩:=h
 obtain ⟨q2_0,h⟩:=h
 rcases bft ((Qz b f (Int.toNat s.2.1) s.1).1 != (1+(Qz b f (Int.toNat (bits .andNot .i64 s.2.1 (x:Int))) ((Qz b f (Int.toNat s.2.1) s.1).2)).1)) with hc0 | hc0
 · have h:=h.1 (bneT hc0)
   exact sK [] ⟨(Js 31),[⟨true,0,0,true,(QD (Qz b f (Int.toNat (bits .andNot .i64 s.2.1 (x:Int))) ((Qz b f (Int.toNat s.2.1) s.1).2)).2),false⟩,⟨true,0,1,false,[.pm [.rsl (rowI b) 0 b.length] 0 0 0],false⟩,⟨true,0,1,true,[.int .i64 s.2.1],false⟩,⟨true,0,1,false,[.sl 4 s.2.2.2 0 s.2.2.1.length 3],false⟩,⟨true,s.2.2.2,3,true,(Qu s.2.2.1),true⟩]⟩ [] 5 [.lent [0] (.int .i64 ((Qz b f (Int.toNat s.2.1) s.1).1)) [⟨true,0,0,true,(QD (Qz b f (Int.toNat s.2.1) s.1).2),false⟩],.lent [0] (.int .i64 ((Qz b f (Int.toNat (bits .andNot .i64 s.2.1 (x:Int))) ((Qz b f (Int.toNat s.2.1) s.1).2)).1)) [⟨true,0,0,true,(QD (Qz b f (Int.toNat (bits .andNot .i64 s.2.1 (x:Int))) ((Qz b f (Int.toNat s.2.1) s.1).2)).2),false⟩],.b true] [PureU Try.prog (.clos 228 [] []) [.pm [.rsl (rowI b) 0 b.length] 0 0 0,.int .i64 s.2.1] 0 ⟨true,0,0,true,(QD s.1),false⟩ ⟨true,0,0,true,(QD (Qz b f (Int.toNat s.2.1) s.1).2),false⟩ (.int .i64 ((Qz b f (Int.toNat s.2.1) s.1).1)),PureU Try.prog (.clos 228 [] []) [.pm [.rsl (rowI b) 0 b.length] 0 0 0,.int .i64 (bits .andNot .i64 s.2.1 (x:Int))] 0 ⟨true,0,0,true,(QD (Qz b f (Int.toNat s.2.1) s.1).2),false⟩ ⟨true,0,0,true,(QD (Qz b f (Int.toNat (bits .andNot .i64 s.2.1 (x:Int))) ((Qz b f (Int.toNat s.2.1) s.1).2)).2),false⟩ (.int .i64 ((Qz b f (Int.toNat (bits .andNot .i64 s.2.1 (x:Int))) ((Qz b f (Int.toNat s.2.1) s.1).2)).1)),InR .i64 (1+(Qz b f (Int.toNat (bits .andNot .i64 s.2.1 (x:Int))) ((Qz b f (Int.toNat s.2.1) s.1).2)).1),((Qz b f (Int.toNat s.2.1) s.1).1 != (1+(Qz b f (Int.toNat (bits .andNot .i64 s.2.1 (x:Int))) ((Qz b f (Int.toNat s.2.1) s.1).2)).1))=true] hE.kind (by rw [hE.gA]; kernel_rfl) ⟨(Yq (QK Try.func228 (by kernel_rfl) f228b (Vm.lent h1)) rfl rfl rfl rfl rfl rfl),(Yq (QK Try.func228 (by kernel_rfl) f228b (Vm.lent h2)) rfl rfl rfl rfl rfl rfl),q2_0,hc0,trivial⟩ (by exact XV hQ h rfl)
 · have h:=h.2 (bneF hc0)
   obtain ⟨h3,h⟩:=h
   obtain ⟨h4,h⟩:=h
   exact sK (kAt 400 [.code (XA (Wv Try.prog))] [.b false]) ⟨(Js 31),[⟨true,0,0,true,(QD (Qz b f (Int.toNat (bits .andNot .i64 s.2.1 (x:Int))) ((Qz b f (Int.toNat s.2.1) s.1).2)).2),false⟩,⟨true,0,1,false,[.pm [.rsl (rowI b) 0 b.length] 0 0 0],false⟩,⟨true,0,1,true,[.int .i64 (bits .andNot .i64 s.2.1 (x:Int))],false⟩,⟨true,0,1,false,[.sl 4 (s.2.2.2+1) 0 (s.2.2.1.length+(Xa b (Int.toNat (x:Int))).length) 3],false⟩,⟨true,(s.2.2.2+1),3,true,((Qu s.2.2.1)++(Qu (Xa b (Int.toNat (x:Int))))),true⟩]⟩ [] 5 [.lent [0] (.int .i64 ((Qz b f (Int.toNat s.2.1) s.1).1)) [⟨true,0,0,true,(QD (Qz b f (Int.toNat s.2.1) s.1).2),false⟩],.lent [0] (.int .i64 ((Qz b f (Int.toNat (bits .andNot .i64 s.2.1 (x:Int))) ((Qz b f (Int.toNat s.2.1) s.1).2)).1)) [⟨true,0,0,true,(QD (Qz b f (Int.toNat (bits .andNot .i64 s.2.1 (x:Int))) ((Qz b f (Int.toNat s.2.1) s.1).2)).2),false⟩],.b false,.v (.rsl (Qu (Xa b (Int.toNat (x:Int)))) 0 ((Xa b (Int.toNat (x:Int))).length)),.cs (Qu (Xa b (Int.toNat (x:Int))))] [PureU Try.prog (.clos 228 [] []) [.pm [.rsl (rowI b) 0 b.length] 0 0 0,.int .i64 s.2.1] 0 ⟨true,0,0,true,(QD s.1),false⟩ ⟨true,0,0,true,(QD (Qz b f (Int.toNat s.2.1) s.1).2),false⟩ (.int .i64 ((Qz b f (Int.toNat s.2.1) s.1).1)),PureU Try.prog (.clos 228 [] []) [.pm [.rsl (rowI b) 0 b.length] 0 0 0,.int .i64 (bits .andNot .i64 s.2.1 (x:Int))] 0 ⟨true,0,0,true,(QD (Qz b f (Int.toNat s.2.1) s.1).2),false⟩ ⟨true,0,0,true,(QD (Qz b f (Int.toNat (bits .andNot .i64 s.2.1 (x:Int))) ((Qz b f (Int.toNat s.2.1) s.1).2)).2),false⟩ (.int .i64 ((Qz b f (Int.toNat (bits .andNot .i64 s.2.1 (x:Int))) ((Qz b f (Int.toNat s.2.1) s.1).2)).1)),InR .i64 (1+(Qz b f (Int.toNat (bits .andNot .i64 s.2.1 (x:Int))) ((Qz b f (Int.toNat s.2.1) s.1).2)).1),((Qz b f (Int.toNat s.2.1) s.1).1 != (1+(Qz b f (Int.toNat (bits .andNot .i64 s.2.1 (x:Int))) ((Qz b f (Int.toNat s.2.1) s.1).2)).1))=false,Qc Try.prog (.clos 229 [] []) [.rptr [.rsl (rowI b) 0 b.length] 0,.int .i64 (x:Int)] (.rsl (Qu (Xa b (Int.toNat (x:Int)))) 0 ((Xa b (Int.toNat (x:Int))).length)),s.2.2.2=s.2.2.2,(0+(s.2.2.1.length*3))=(Qu s.2.2.1).length,(s.2.2.1.length+(Xa b (Int.toNat (x:Int))).length)≤2147483648,((Qu (Xa b (Int.toNat (x:Int)))).drop 0).take ((Xa b (Int.toNat (x:Int))).length*3)=(Qu (Xa b (Int.toNat (x:Int)))),(Qu (Xa b (Int.toNat (x:Int)))).length=((Xa b (Int.toNat (x:Int))).length*3),noRefs (Qu (Xa b (Int.toNat (x:Int))))=true,1≤1,1≤1] hE.kind (by rw [hE.gA]; kernel_rfl) ⟨(Yq (QK Try.func228 (by kernel_rfl) f228b (Vm.lent h1)) rfl rfl rfl rfl rfl rfl),(Yq (QK Try.func228 (by kernel_rfl) f228b (Vm.lent h2)) rfl rfl rfl rfl rfl rfl),q2_0,hc0,(u229 (chain_ok b (x:Int) h3)),rfl,(by have hx:=QG cPay (s:=3) (fun _=>rfl) s.2.2.1; simp only [Qu] at hx ⊢; rw [hx]; simp),h4,(by exact XX cPay (fun _=>rfl) (Xa b (Int.toNat (x:Int)))),(by exact QG cPay (fun _=>rfl) (Xa b (Int.toNat (x:Int)))),(by exact Yo cPay (fun _=>rfl) (Xa b (Int.toNat (x:Int)))),(by decide),(by decide),trivial⟩ (by exact yh hQ h (by kernel_rfl) (by rw [(show Qu s.2.2.1++Qu (Xa b (Int.toNat (x:Int)))=Qu (s.2.2.1++(Xa b (Int.toNat (x:Int)))) from (Xz cPay s.2.2.1 (Xa b (Int.toNat (x:Int)))).symm)]; rw [(show (s.2.2.1.length+(Xa b (Int.toNat (x:Int))).length)=(s.2.2.1++(Xa b (Int.toNat (x:Int)))).length from by simp)]; rfl))
theorem f175Rr0 (set:Int) (b:List Int) (m:List (Int × Int)) (f:Nat) (v:Int) (s0:List (Int × Int) × Int × List Pay × Nat) {E:Env} {rv:(List Pay)} {m2:List (Int × Int)} (hE:LentE Try.prog 175 [.pm [.rsl (rowI b) 0 b.length] 0 0 0] (.rsl (Qu rv) 0 rv.length) [⟨true,0,0,true,(QD m2),false⟩] E) (step:(List (Int × Int) × Int × List Pay × Nat)→(Nat)→(List (Int × Int) × Int × List Pay × Nat) × Bool)
 (h:VQ b v∧(∀ (i:Nat) (x:Nat) (s:List (Int × Int) × Int × List Pay × Nat),(QO b (Int.toNat v))[i]?=some x→Qs step s0 ((QO b (Int.toNat v)).take i)=(s,true)→((Vm b f s.2.1 s.1)∧((Vm b f (bits .andNot .i64 s.2.1 (x:Int)) ((Qz b f (Int.toNat s.2.1) s.1).2))∧((I6 (1+(Qz b f (Int.toNat (bits .andNot .i64 s.2.1 (x:Int))) ((Qz b f (Int.toNat s.2.1) s.1).2)).1))∧((¬ ((Qz b f (Int.toNat s.2.1) s.1).1=(1+(Qz b f (Int.toNat (bits .andNot .i64 s.2.1 (x:Int))) ((Qz b f (Int.toNat s.2.1) s.1).2)).1))→step s x=(((Qz b f (Int.toNat (bits .andNot .i64 s.2.1 (x:Int))) ((Qz b f (Int.toNat s.2.1) s.1).2)).2,s.2.1,s.2.2.1,s.2.2.2),true))∧((Qz b f (Int.toNat s.2.1) s.1).1=(1+(Qz b f (Int.toNat (bits .andNot .i64 s.2.1 (x:Int))) ((Qz b f (Int.toNat s.2.1) s.1).2)).1)→((VQ b (x:Int))∧((s.2.2.1.length+(Xa b (Int.toNat (x:Int))).length)≤2147483648∧step s x=(((Qz b f (Int.toNat (bits .andNot .i64 s.2.1 (x:Int))) ((Qz b f (Int.toNat s.2.1) s.1).2)).2,(bits .andNot .i64 s.2.1 (x:Int)),(s.2.2.1++(Xa b (Int.toNat (x:Int)))),(s.2.2.2+1)),false)))))))))∧(∀ s:List (Int × Int) × Int × List Pay × Nat,Qs step s0 (QO b (Int.toNat v))=(s,true)→Qaq E set b m f s.1 s.2.1 s.2.2.1)∧(∀ s:List (Int × Int) × Int × List Pay × Nat,Qs step s0 (QO b (Int.toNat v))=(s,false)→Qaq E set b m f s.1 s.2.1 s.2.2.1)):f175Gr0 E set b m f v s0:=by
 have hT:(Vh set b m f v s0).tmps++E.gA=(Vh set b m f v s0).tmps++[.pm [.rsl (rowI b) 0 b.length] 0 0 0]:=by rw [hE.gA]
 refine VE (σ:=List (Int × Int) × Int × List Pay × Nat) (X:=Nat) (arg:=argS) (L:=(QO b (Int.toNat v))) (jump:=.exit 2) (g:=.tmp 10) (ps:=#[11]) (fun s=>(Vh set b m f v s).blks) (fun s x=>(f175Tr0 set b m f v s x)) step s0 hE.ro hE.kind (by kernel_rfl) rfl rfl (parts_it b v h.1) rfl (fun x=>rfl) (fun s x E' hR hg=>?_) (fun i x s hx hs E' hR hQ=>?_) (fun s hs=>?_) (fun s hs=>?_)
 · rw [hT] at hR; exact f175Ar0 set b m f v s x hR hg
 · rw [hT] at hR; exact f175Br0 set b m f v s x hR hQ (h.2.1 i x s hx hs)
 · exact f175Wr0e set b m f v s hE (h.2.2.1 s hs)
 · exact f175Wr0j set b m f v s hE (h.2.2.2 s hs)
theorem settle_ok (b:List Int) (S0:Nat) (hS:VQ b (S0:Int)) (ht:totN b S0=0):Lent Try.prog 175 [.pm [.rsl (rowI b) 0 b.length] 0 0 0,.int .i64 (S0:Int)] [⟨true,0,0,true,QD [],false⟩]
 (.rsl (Qu (QY b 1024 S0)) 0 (QY b 1024 S0).length) [⟨true,0,0,true,QD (YS b 1024 1024 S0 []),false⟩]:=by
 refine lent_ofA (.pm [.rsl (rowI b) 0 b.length] 0 0 0) 0 rfl (fun n h=>by simp [refsBelows,QI] at h; exact h) Try.func175 f175b fun E hE=>?_
 have key:∀ (n S:Nat) (m:List (Int × Int)) (o:List Pay),S<n→n≤1024→VQ b (S:Int)→totN b S=0→KInv b m→o.length+10*n≤20000→o++QY b n S=QY b 1024 S0→YS b 1024 n S m=YS b 1024 1024 S0 []→Qaq E (S0:Int) b [] 1024 m (S:Int) o:=by
  intro n
  induction n with
  | zero=>intro S m o h; omega
  | succ n ih =>
   intro S m o hn hn2 hin ht hm ho hp hM
   refine f175W0 (S0:Int) b [] 1024 m (S:Int) o (rv:=QY b 1024 S0) (m2:=YS b 1024 1024 S0 []) hE fun g4=>⟨fun h0=>?_,fun h0=>?_⟩
   rotate_left
   · have:S=0:=by omega
     subst this
     rw [QY,if_pos rfl,List.append_nil] at hp
     rw [YS,if_pos rfl] at hM
     exact ⟨hp.symm,hM.symm⟩
   have hS0:S ≠ 0:=by omega
   obtain ⟨y,hy,hym,hyv⟩:=KI hin hS0 ht
   have hy2:(QO b S).find? (qs b S)=some y:=hy
   refine f175Rr0 (S0:Int) b [] 1024 (S:Int) (m,(S:Int),o,g4) (rv:=QY b 1024 S0) (m2:=YS b 1024 1024 S0 []) hE (stStep b 1024 S) ⟨hin,fun i x s hx hs=>?_,fun s hs=>?_,fun s hs=>?_⟩
   · rw [Int.toNat_natCast] at hx hs
     have hxm:=List.mem_of_getElem? hx
     rw [st_fold] at hs
     cases hf:((QO b S).take i).find? (qs b S) with
     | some z=>rw [hf] at hs; simp [stRes] at hs
     | none =>
      rw [hf] at hs
      simp only [stRes,Prod.mk.injEq,and_true] at hs
      subst hs
      have hxin:=part_in hin hxm
      have hk:=mapW_ok (b:=b) (f:=1024) (S:=S) (by omega) (l:=(QO b S).take i) (m:=m) (fun z hz=>List.mem_of_mem_take hz) hm
      have hp':=XI hxm
      have hw:=Xi hp'.1
      have ean:bits .andNot .i64 (S:Int) (x:Int)=((without S x:Nat):Int):=QbE (by omega) (by omega)
      have hb1:=WJ (b:=b) (without S x)
      have hcl:=Qcz (b:=b) (S:=x) b.length
      have hlen:b.length≤10:=by obtain ⟨_,_,_,h3,_⟩:=hin; exact h3
      simp only
      rw [ean,Int.toNat_natCast,Int.toNat_natCast,Int.toNat_natCast]
      refine ⟨many_ok b 1024 S _ (by omega) hin hk,many_ok b 1024 (without S x) _ (by omega) (WC hin) (KV (by omega) hk).1,?_,fun hne=>?_,fun heq=>⟨hxin,?_,?_⟩⟩
      · show _≤1+XP b (without S x)∧1+XP b (without S x)≤_
        omega
      · have hg:qs b S x=false:=by unfold qs; exact beq_eq_false_iff_ne.2 hne
        rw [stStep,if_neg (by rw [hg]; simp)]; rfl
      · unfold Xa; omega
      · have hg:qs b S x=true:=by unfold qs; exact beq_iff_eq.2 heq
        rw [stStep,if_pos hg]; rfl
   · rw [Int.toNat_natCast,st_fold,hy2] at hs
     simp [stRes] at hs
   · rw [Int.toNat_natCast,st_fold,hy2] at hs
     simp only [stRes,Prod.mk.injEq,and_true] at hs
     subst hs
     have hp':=XI hym
     have hw:=Xi hp'.1
     rw [QY,if_neg hS0,hy] at hp
     rw [YS,if_neg hS0,hy] at hM
     have hcl:=Qcz (b:=b) (S:=y) b.length
     have hlen:b.length≤10:=by obtain ⟨_,_,_,h3,_⟩:=hin; exact h3
     refine ih (without S y) _ _ (by omega) (by omega) (WC hin) (qk hp'.1 ht hp'.2.2.2) (mapW_ok (by omega) (fun _ h=>h) hm) ?_ (by rw [List.append_assoc]; exact hp) hM
     rw [List.length_append]; unfold Xa; omega
 have hlt:S0<1024:=by obtain ⟨S',h1,h2,h3,_⟩:=hS; have:=WV h3 h2; omega
 exact f175W (S0:Int) b [] 1024 (rv:=QY b 1024 S0) (m2:=YS b 1024 1024 S0 []) hE (key 1024 S0 [] [] hlt (by omega) hS ht (fun e he=>by simp at he) (by simp) rfl rfl)
end Go.Proofs.Ytemklbioijmjiaa
namespace Go.Proofs.Ytemklbioijmjiaa
open Go Ax
open Go.Proofs
/-- Those whose balance is not 0. -/
def setB (b:List Int):Nat→Nat
 | 0=>0
 | i+1=>if b.getD i 0=0 then setB b i else setB b i ||| 2 ^ i
theorem WF {b:List Int}:∀ {n i:Nat},(setB b n).testBit i=(decide (i<n) && decide (b.getD i 0 ≠ 0))
 | 0,i=>by simp [setB]
 | n+1,i=>by
  have ih:=WF (b:=b) (n:=n) (i:=i)
  rw [setB]
  by_cases hi:i=n
  · subst hi
    split
    · rename_i h; rw [ih,decide_eq_false (show ¬ (b.getD i 0 ≠ 0) by simpa using h)]; simp
    · rename_i h; rw [Nat.testBit_or,ih,Nat.testBit_two_pow_self,decide_eq_true h]; simp
  · have e:decide (i<n+1)=decide (i<n):=decide_eq_decide.2 (by omega)
    split
    · rw [ih,e]
    · rw [Nat.testBit_or,ih,Nat.testBit_two_pow_of_ne (fun h=>hi h.symm),Bool.or_false,e]
theorem yd {b:List Int}:∀ {n:Nat},setB b n<2 ^ n
 | 0=>by simp [setB]
 | n+1=>by
  have ih:=yd (b:=b) (n:=n)
  have h2:2 ^ (n+1)=2*2 ^ n:=by rw [Nat.pow_succ,Nat.mul_comm]
  rw [setB]
  split
  · omega
  · exact Nat.or_lt_two_pow (by omega) (by omega)
theorem totP_setB {b:List Int}:∀ {i:Nat},i≤b.length→totP b (setB b b.length) i=(b.take i).sum
 | 0,_=>by simp [totP]
 | i+1,h=>by
  have ih:=totP_setB (b:=b) (i:=i) (by omega)
  have hi:b[i]?=some b[i]:=List.getElem?_eq_getElem (by omega)
  rw [qD hi,ih,List.take_add_one,hi,List.sum_append,WF]
  have hd:b.getD i 0=b[i]:=by rw [List.getD,hi]; rfl
  rw [hd,decide_eq_true (show i<b.length by omega)]
  by_cases h0:b[i]=0
  · simp [h0]
  · simp [h0]
/-- The errors of balances that are to be settled. -/
def Xj (b:List Int):Int:=if balB b=false then 1 else if sumI b=0 then 0 else 110
def Qh (b:List Int):List Pay × Int:=if Xj b=0 then (QY b 1024 (setB b b.length),0) else ([],Xj b)
def fewK (b:List Int):Int × Int:=((((Qh b).1.length:Nat):Int),(Qh b).2)
theorem pow_cast (i:Nat):(1:Int)*2 ^ (Int.toNat (i:Int))=((2 ^ i:Nat):Int):=by
 rw [Int.one_mul,Int.toNat_natCast,Int.natCast_pow]; rfl
theorem pow_le {i n:Nat} (h:i≤n):2 ^ i≤2 ^ n:=Nat.pow_le_pow_right (by omega) h
theorem QaQ {B:Int} (hB0:0≤B) (hB:B≤1000000000000000) {u:List Int} (hu:u.length≤1000) (hx:∀ x ∈ u,-B≤x∧x≤B):SumOk u:=by
 refine ⟨by omega,fun k hk=>?_⟩
 have:∀ {w:List Int},(∀ x ∈ w,-B≤x∧x≤B)→-B*(w.length:Int)≤w.sum∧w.sum≤B*(w.length:Int):=by
  intro w
  induction w with
  | nil=>simp
  | cons y w ih =>
   intro hw
   have:=ih fun x hx=>hw x (by simp [hx])
   have:=hw y (by simp)
   simp only [List.sum_cons,List.length_cons,Int.natCast_add,Int.mul_add] at *; omega
 have h3:=this (w:=u.take k) fun x hx'=>hx x (List.mem_of_mem_take hx')
 have h4:((u.take k).length:Int)≤1000:=by rw [List.length_take]; omega
 have h5:B*((u.take k).length:Int)≤1000000000000000*1000:=Int.mul_le_mul hB h4 (by omega) (by omega)
 have h6:=Int.neg_mul B ((u.take k).length:Int)
 omega
theorem sumOk_bal {b:List Int} (h:balB b=true):SumOk b:=by
 have hb:=bal_of h
 exact QaQ (B:=10000000000) (by omega) (by omega) (by omega) hb.2
theorem f174b:Try.f174.body=some (Qf Try.prog 174):=by kernel_rfl
def f174K0 (P:Program):List Item:=kAt 400 [.code (Qf P 174)] [.b false,.b false,.stop]
def f174S0 (b:(List Int)) (set:Int) (i:Nat):St:=⟨([.rsl (rowI b) 0 b.length,J,J,.int .i64 set]++jj 9 ([.rsl (rowI b) 0 b.length,.int .i64 (b.length:Int),.int .i64 (i:Int)]++Js 16)),[]⟩
def f174G0 (E:Env) (b:(List Int)) (set:Int) (i:Nat):Prop:=G Try.prog E (f174K0 Try.prog) (f174S0 b set i )
theorem f174W (b:(List Int)) {E:Env} {res:AV} {bs2:List Blk} (hE:LentE Try.prog 174 [] res bs2 E)
 (h:((b.length≤9223372036854775807)∧(((balB b)=false→((.tup [.nilPtr,.int .i64 0,.int .i64 1])=res∧[]=bs2))∧((balB b)=true→((SumOk b)∧((¬ ((sumI b)=0)→((.tup [.nilPtr,.int .i64 0,.int .i64 110])=res∧[]=bs2))∧((sumI b)=0→f174G0 E b 0 0))))))):G Try.prog E [.code (Qf Try.prog 174)] ⟨[.rsl (rowI b) 0 b.length]++unds (Try.f174.ntmps - 1),[]⟩:=by
 obtain ⟨h1,h⟩:=h
 rcases bft (!(balB b)) with hc0 | hc0
 · have h:=h.1 (bnT hc0)
   exact eB (.tup [.nilPtr,.int .i64 0,.int .i64 1]) [] [2,3,4] 0 [.v (.bool (balB b)),.b true] [Qc Try.prog (.clos 176 [] []) [.rsl (rowI b) 0 b.length] (.bool (balB b)),(!(balB b))=true] hE (hE.nogh0 _) Try.func174 ⟨(u176 (YL b h1)),hc0,trivial⟩ (by exact h.1) (by exact h.2)
 · have h:=h.2 (bnF hc0)
   obtain ⟨h2,h⟩:=h
   rcases bft ((sumI b) != 0) with hc1 | hc1
   · have h:=h.1 (bneT hc1)
     exact eB (.tup [.nilPtr,.int .i64 0,.int .i64 110]) [] [2,3,4] 0 [.v (.bool (balB b)),.b false,.v (.int .i64 (sumI b)),.b true] [Qc Try.prog (.clos 176 [] []) [.rsl (rowI b) 0 b.length] (.bool (balB b)),(!(balB b))=false,Qc Try.prog (.clos 158 [] []) [.rsl (rowI b) 0 b.length] (.int .i64 (sumI b)),((sumI b) != 0)=true] hE (hE.nogh0 _) Try.func174 ⟨(u176 (YL b h1)),hc0,(u158 (sum_ok b h2)),hc1,trivial⟩ (by exact h.1) (by exact h.2)
   · have h:=h.2 (bneF hc1)
     exact sM [0,3,13,14,15] 0 [.v (.bool (balB b)),.b false,.v (.int .i64 (sumI b)),.b false,.stop] [Qc Try.prog (.clos 176 [] []) [.rsl (rowI b) 0 b.length] (.bool (balB b)),(!(balB b))=false,Qc Try.prog (.clos 158 [] []) [.rsl (rowI b) 0 b.length] (.int .i64 (sumI b)),((sumI b) != 0)=false] hE.kind (hE.nogh0 _) ⟨(u176 (YL b h1)),hc0,(u158 (sum_ok b h2)),hc1,trivial⟩ h
theorem f174W0 (b:(List Int)) (set:Int) (i:Nat) {E:Env} {res:AV} {bs2:List Blk} (hE:LentE Try.prog 174 [] res bs2 E)
 (h:(((i:Int)<(b.length:Int)→(∃ e:Int,b[i]?=some e∧((¬ (e=0)→((I6 ((1*2 ^ (Int.toNat (i:Int)):Int)))∧(((0:Int)≤(i:Int)∧(i:Int)≤((IntKind.bits .i64:Nat):Int))∧((I6 ((i:Int)+1))∧f174G0 E b (bits .or .i64 set (1*2 ^ (Int.toNat (i:Int)))) (i+1)))))∧(e=0→((I6 ((i:Int)+1))∧f174G0 E b set (i+1))))))∧(¬ ((i:Int)<(b.length:Int))→((.tup [.pm [.rsl (rowI b) 0 b.length] 0 0 0,.int .i64 set,.int .i64 0])=res∧[⟨true,0,0,true,[],false⟩]=bs2)))):f174G0 E b set i:=by
 rcases bft (decide ((i:Int)<(b.length:Int))) with hc0 | hc0
 · have h:=h.1 (odt hc0)
   obtain ⟨e,h1,h⟩:=h
   rcases bft (e != 0) with hc1 | hc1
   · have h:=h.1 (bneT hc1)
     obtain ⟨q5_2,h⟩:=h
     obtain ⟨q6_2,h⟩:=h
     obtain ⟨q7_2,h⟩:=h
     exact sM [0,3,13,14,15] 0 [.b true,.ld (.int .i64 e),.b true,.stop] [(decide ((i:Int)<(b.length:Int)))=true,0≤(i:Int)∧(i:Int)<(b.length:Int),((rowI b).drop (0+(Int.toNat (i:Int))*1)).take 1=[.int .i64 e],(e != 0)=true,InR .i64 (1*2 ^ (Int.toNat (i:Int))),(0:Int)≤(i:Int)∧(i:Int)≤((IntKind.bits .i64:Nat):Int),InR .i64 ((i:Int)+1)] hE.kind (hE.nogh0 _) ⟨hc0,(Qm h1),(rp cI 1 0 1 h1),hc1,q5_2,q6_2,q7_2,trivial⟩ h
   · have h:=h.2 (bneF hc1)
     obtain ⟨q5_2,h⟩:=h
     exact sM [0,3,13,14,15] 0 [.b true,.ld (.int .i64 e),.b false,.stop] [(decide ((i:Int)<(b.length:Int)))=true,0≤(i:Int)∧(i:Int)<(b.length:Int),((rowI b).drop (0+(Int.toNat (i:Int))*1)).take 1=[.int .i64 e],(e != 0)=false,InR .i64 ((i:Int)+1)] hE.kind (hE.nogh0 _) ⟨hc0,(Qm h1),(rp cI 1 0 1 h1),hc1,q5_2,trivial⟩ h
 · have h:=h.2 (odf hc0)
   exact eB (.tup [.pm [.rsl (rowI b) 0 b.length] 0 0 0,.int .i64 set,.int .i64 0]) [⟨true,0,0,true,[],false⟩] [2,3,4] 1 [.b false,.vn .nilFunc] [(decide ((i:Int)<(b.length:Int)))=false] hE (hE.nogh0 _) Try.func174 ⟨hc0,trivial⟩ (by exact h.1) (by exact h.2)
theorem qJ {b:List Int} (h:Xj b=0):balB b=true∧sumI b=0:=by
 unfold Xj at h
 split at h
 · cases h
 · rename_i h1
   split at h
   · rename_i h2; exact ⟨by simpa using h1,h2⟩
   · cases h
theorem bal_in {b:List Int} (h:balB b=true):b.length≤10∧∀ x ∈ b,-10000000000≤x∧x≤10000000000:=by
 have hb:=bal_of h
 exact ⟨by omega,hb.2⟩
theorem setB_in {b:List Int} (h:balB b=true):VQ b ((setB b b.length:Nat):Int):=⟨_,rfl,yd,bal_in h⟩
theorem setB_tot {b:List Int} (h:sumI b=0):totN b (setB b b.length)=0:=by
 unfold totN
 rw [totP_setB (Nat.le_refl _),List.take_length]; exact h
theorem KL (b:List Int) (h:b.length≤9223372036854775807) {res:AV} {bs2:List Blk} (h1:Xj b ≠ 0→(.tup [.nilPtr,.int .i64 0,.int .i64 (Xj b)])=res∧[]=bs2)
 (h2:Xj b=0→(.tup [.pm [.rsl (rowI b) 0 b.length] 0 0 0,.int .i64 ((setB b b.length:Nat):Int),.int .i64 0])=res∧[⟨true,0,0,true,[],false⟩]=bs2):Lent Try.prog 174 [.rsl (rowI b) 0 b.length] [] res bs2:=Qcf Try.func174 f174b fun E hE=>by
 refine f174W b hE ⟨h,fun e=>?_,fun e=>⟨?_,fun e2=>?_,fun e2=>?_⟩⟩
 · have e1:Xj b=1:=by rw [Xj,if_pos e]
   have:=h1 (by rw [e1]; omega)
   rw [e1] at this; exact this
 · exact sumOk_bal e
 · have e1:Xj b=110:=by rw [Xj,if_neg (by rw [e]; simp),if_neg e2]
   have:=h1 (by rw [e1]; omega)
   rw [e1] at this; exact this
 · have e1:Xj b=0:=by rw [Xj,if_neg (by rw [e]; simp),if_pos e2]
   have hr:=h2 e1
   have hb:=bal_of e
   have key:∀ (d i:Nat),i+d=b.length→f174G0 E b ((setB b i:Nat):Int) i:=by
    intro d
    induction d with
    | zero =>
     intro i hd
     have:i=b.length:=by omega
     subst this
     exact f174W0 b _ _ hE ⟨fun h=>by omega,fun _=>hr⟩
    | succ d ih =>
     intro i hd
     have hi:b[i]?=some b[i]:=List.getElem?_eq_getElem (by omega)
     have hd':b.getD i 0=b[i]:=by rw [List.getD,hi]; rfl
     have nx:=ih (i+1) (by omega)
     rw [setB,hd'] at nx
     have hp:2 ^ i≤2 ^ 9:=pow_le (by omega)
     have hp2:2 ^ i≤2 ^ 10:=pow_le (by omega)
     have hs:setB b i<2 ^ i:=yd
     refine f174W0 b _ _ hE ⟨fun _=>⟨b[i],hi,fun h0=>⟨?_,⟨by omega,by simp [IntKind.bits]; omega⟩,by omega,?_⟩,fun h0=>⟨by omega,?_⟩⟩,fun h=>by omega⟩
     · rw [pow_cast]; omega
     · rw [pow_cast,or_nat (by omega) (by omega)]
       rw [if_neg h0] at nx
       exact nx
     · rw [if_pos h0] at nx; exact nx
   exact key b.length 0 (by omega)
theorem parted_fine (b:List Int) (h:b.length≤9223372036854775807) (he:Xj b=0):Lent Try.prog 174 [.rsl (rowI b) 0 b.length] [] (.tup [.pm [.rsl (rowI b) 0 b.length] 0 0 0,.int .i64 ((setB b b.length:Nat):Int),.int .i64 0]) [⟨true,0,0,true,[],false⟩]:=KL b h (fun h=>absurd he h) fun _=>⟨rfl,rfl⟩
theorem parted_err (b:List Int) (h:b.length≤9223372036854775807) (he:¬ Xj b=0):Lent Try.prog 174 [.rsl (rowI b) 0 b.length] [] (.tup [.nilPtr,.int .i64 0,.int .i64 (Xj b)]) []:=KL b h (fun _=>⟨rfl,rfl⟩) fun h=>absurd h he
theorem settle_okI (b:List Int) (st:Int) (h:VQ b st∧totN b (Int.toNat st)=0):Lent Try.prog 175 [.pm [.rsl (rowI b) 0 b.length] 0 0 0,.int .i64 st] [⟨true,0,0,true,[],false⟩]
 (.rsl (Qu (QY b 1024 (Int.toNat st))) 0 (QY b 1024 (Int.toNat st)).length) [⟨true,0,0,true,QD (YS b 1024 1024 (Int.toNat st) []),false⟩]:=by
 obtain ⟨⟨S,rfl,h2⟩,h3⟩:=h
 rw [Int.toNat_natCast] at h3 ⊢
 exact settle_ok b S ⟨S,rfl,h2⟩ h3
theorem f102b:Try.f102.body=some (Qf Try.prog 102):=by kernel_rfl
theorem u102 {a c k:List AV} {r:AV} (h:Pure Try.prog 102 (a++c++k) r):Qc Try.prog (.clos 102 a k) c r:=Qk Try.func102 (by kernel_rfl) f102b h
theorem f102W (b:(List Int)) {E:Env} {rv:((List Pay) × Int)} (hE:Qr Try.prog 102 (.tup [.rsl (Qu rv.1) 0 rv.1.length,.int .i64 rv.2]) E)
 (h:((Xj b=0→((b.length≤9223372036854775807)∧((VQ b ((setB b b.length:Nat):Int)∧totN b (Int.toNat ((setB b b.length:Nat):Int))=0)∧rv=((QY b 1024 (Int.toNat ((setB b b.length:Nat):Int))),0))))∧(¬ (Xj b=0)→((b.length≤9223372036854775807)∧((¬ ((Xj b)=0)→rv=(([]:List Pay),(Xj b)))∧((Xj b)=0→False)))))):G Try.prog E [.code (Qf Try.prog 102)] ⟨[.rsl (rowI b) 0 b.length]++unds (Try.f102.ntmps - 1),[]⟩:=by
 rcases bft (decide (Xj b=0)) with hc0 | hc0
 · have h:=h.1 (odt hc0)
   obtain ⟨h1,h⟩:=h
   obtain ⟨h2,h⟩:=h
   exact eL (.tup [.rsl (Qu (QY b 1024 (Int.toNat ((setB b b.length:Nat):Int)))) 0 ((QY b 1024 (Int.toNat ((setB b b.length:Nat):Int))).length),.int .i64 0]) [.lent [] (.tup [.pm [.rsl (rowI b) 0 b.length] 0 0 0,.int .i64 ((setB b b.length:Nat):Int),.int .i64 0]) [⟨true,0,0,true,[],false⟩],.b false,.lent [0] (.rsl (Qu (QY b 1024 (Int.toNat ((setB b b.length:Nat):Int)))) 0 ((QY b 1024 (Int.toNat ((setB b b.length:Nat):Int))).length)) [⟨true,0,0,true,(QD (YS b 1024 1024 (Int.toNat ((setB b b.length:Nat):Int)) [])),false⟩]] [Yk Try.prog (.clos 174 [] []) [.rsl (rowI b) 0 b.length] [] (.tup [.pm [.rsl (rowI b) 0 b.length] 0 0 0,.int .i64 ((setB b b.length:Nat):Int),.int .i64 0]) [⟨true,0,0,true,[],false⟩],false=false,Yk Try.prog (.clos 175 [] []) [.pm [.rsl (rowI b) 0 b.length] 0 0 0,.int .i64 ((setB b b.length:Nat):Int)] [⟨true,0,0,true,[],false⟩] (.rsl (Qu (QY b 1024 (Int.toNat ((setB b b.length:Nat):Int)))) 0 ((QY b 1024 (Int.toNat ((setB b b.length:Nat):Int))).length)) [⟨true,0,0,true,(QD (YS b 1024 1024 (Int.toNat ((setB b b.length:Nat):Int)) [])),false⟩]] hE Try.func102 ⟨(QK Try.func174 (by kernel_rfl) f174b (parted_fine b h1 (odt hc0))),rfl,(QK Try.func175 (by kernel_rfl) f175b (settle_okI b ((setB b b.length:Nat):Int) h2)),trivial⟩ (by exact AvLe.of_eq (by rw [h]; try rfl))
 · have h:=h.2 (odf hc0)
   obtain ⟨h1,h⟩:=h
   rcases bft ((Xj b) != 0) with hc1 | hc1
   · have h:=h.1 (bneT hc1)
     exact eL (.tup [.nilSl,.int .i64 (Xj b)]) [.lent [] (.tup [.nilPtr,.int .i64 0,.int .i64 (Xj b)]) [],.b true] [Yk Try.prog (.clos 174 [] []) [.rsl (rowI b) 0 b.length] [] (.tup [.nilPtr,.int .i64 0,.int .i64 (Xj b)]) [],((Xj b) != 0)=true] hE Try.func102 ⟨(QK Try.func174 (by kernel_rfl) f174b (parted_err b h1 (odf hc0))),hc1,trivial⟩ (by rw [h]; exact (VB ⟨Vq,⟨AvLe.of_eq rfl,trivial⟩⟩))
   · have h:=h.2 (bneF hc1)
     exact h.elim
theorem WA (b:List Int) (h:b.length≤9223372036854775807):Pure Try.prog 102 [.rsl (rowI b) 0 b.length] (.tup [.rsl (Qu (Qh b).1) 0 (Qh b).1.length,.int .i64 (Qh b).2]):=Qt Try.func102 f102b fun E hE=>by
 refine f102W b (rv:=Qh b) hE ⟨fun e=>⟨h,⟨?_,?_⟩,?_⟩,fun e=>⟨h,fun _=>?_,fun h=>absurd h e⟩⟩
 · exact setB_in (qJ e).1
 · rw [Int.toNat_natCast]; exact setB_tot (qJ e).2
 · rw [Int.toNat_natCast,Qh,if_pos e]
 · rw [Qh,if_neg e]
theorem f103b:Try.f103.body=some (Qf Try.prog 103):=by kernel_rfl
theorem u103 {a c k:List AV} {r:AV} (h:Pure Try.prog 103 (a++c++k) r):Qc Try.prog (.clos 103 a k) c r:=Qk Try.func103 (by kernel_rfl) f103b h
theorem f103W (b:(List Int)) {E:Env} {rv:(Int × Int)} (hE:Qr Try.prog 103 (.tup [.int .i64 rv.1,.int .i64 rv.2]) E)
 (h:((b.length≤9223372036854775807)∧rv=(((((Qh b).1).length:Nat):Int),(Qh b).2))):G Try.prog E [.code (Qf Try.prog 103)] ⟨[.rsl (rowI b) 0 b.length]++unds (Try.f103.ntmps - 1),[]⟩:=by
 obtain ⟨h1,h⟩:=h
 exact eL (.tup [.int .i64 ((((Qh b).1).length:Nat):Int),.int .i64 ((Qh b).2)]) [.v (.tup [.rsl (Qu ((Qh b).1)) 0 (((Qh b).1).length),.int .i64 ((Qh b).2)])] [Qc Try.prog (.clos 102 [] []) [.rsl (rowI b) 0 b.length] (.tup [.rsl (Qu ((Qh b).1)) 0 (((Qh b).1).length),.int .i64 ((Qh b).2)])] hE Try.func103 ⟨(u102 (WA b h1)),trivial⟩ (by exact AvLe.of_eq (by rw [h]; try rfl))
theorem qX (b:List Int) (h:b.length≤9223372036854775807):Pure Try.prog 103 [.rsl (rowI b) 0 b.length] (.tup [.int .i64 (fewK b).1,.int .i64 (fewK b).2]):=Qt Try.func103 f103b fun E hE=>f103W b (rv:=fewK b) hE ⟨h,rfl⟩
end Go.Proofs.Ytemklbioijmjiaa
namespace Go.Proofs.Ytemklbioijmjiaa
open Go Ax
open Go.Proofs
/-! ### the members of a set -/
def memS (n S:Nat):List Nat:=(List.range n).filter fun i=>S.testBit i
def vB (b:List Int):Nat→Int:=fun i=>b.getD i 0
theorem WK {n S i:Nat}:i ∈ memS n S ↔ i<n∧S.testBit i=true:=by
 unfold memS; rw [List.mem_filter,List.mem_range]
theorem Wl {L:List Nat} (h:L.Nodup) (P:Nat→Bool):(L.filter P).Nodup:=List.Pairwise.filter P h
theorem KT {n:Nat}:memS n 0=[]:=List.filter_eq_nil_iff.2 fun i _=>by simp
theorem sm_app {v:Nat→Int} {a b:List Nat}:sm v (a++b)=sm v a+sm v b:=by unfold sm; rw [List.map_append,List.sum_append]
theorem totP_sm {b:List Int} {S:Nat}:∀ n,totP b S n=sm (vB b) (memS n S)
 | 0=>rfl
 | n+1=>by
  have ih:=totP_sm (b:=b) (S:=S) n
  unfold memS at ih ⊢
  rw [totP,List.range_succ,List.filter_append,sm_app,ih]
  cases hs:S.testBit n <;> simp [hs,sm,vB]
theorem totN_sm {b:List Int} {S:Nat}:totN b S=sm (vB b) (memS b.length S):=totP_sm _
theorem memS_filter {n S:Nat} {P:Nat→Bool}:(memS n S).filter P=memS n (Ka n fun i=>S.testBit i && P i):=by
 unfold memS
 refine filt fun i hi=>?_
 rw [qL,decide_eq_true (List.mem_range.1 hi),Bool.true_and]
theorem memS_part {n S x:Nat} (h:x &&& S=x):(memS n S).filter (fun i=>x.testBit i)=memS n x:=by
 unfold memS
 refine filt fun i _=>?_
 have:(x.testBit i && S.testBit i)=x.testBit i:=by rw [← Nat.testBit_and,h]
 rw [Bool.and_comm]; exact this
theorem KU {n S x:Nat}:(memS n S).filter (fun i=>!x.testBit i)=memS n (without S x):=by
 unfold memS
 refine filt fun i _=>?_
 rw [XQ]
theorem part_ne {n S x:Nat} (h:x<2 ^ n) (h0:0<x):∃ i,i<n∧x.testBit i=true:=by
 apply Classical.byContradiction
 intro hc
 have:x=0:=Nat.eq_of_testBit_eq fun i=>by
  rw [Nat.zero_testBit]
  by_cases hi:i<n
  · cases hb:x.testBit i with
    | false=>rfl
    | true=>exact absurd ⟨i,hi,hb⟩ hc
  · exact Nat.testBit_lt_two_pow (Nat.lt_of_lt_of_le h (Nat.pow_le_pow_right (by omega) (by omega)))
 omega
/-- The program finds the greatest number of groups. -/
theorem most_is {b:List Int} (hl:b.length≤10):∀ (S:Nat),S<2 ^ b.length→totN b S=0→IsMost (vB b) (memS b.length S) (Int.toNat (XP b S)):=by
 intro S
 induction S using Nat.strongRecOn with
 | ind S ih =>
  intro hS ht
  by_cases h0:S=0
  · subst h0
    rw [KT]
    intro j
    exact ⟨fun h=>by have:=grp_nil h; omega,fun h=>by
     have:j=0:=by rw [yp] at h; simpa using h
     subst this; exact Km _ _⟩
  have hS2:=WV hl hS
  have hin:∀ x ∈ QO b S,x &&& S=x∧0<x∧totN b x=0∧without S x<S∧x≤S:=fun x hx=>by
   have hp:=XI hx
   have hw:=Xi hp.1
   exact ⟨hp.1,hp.2.1,hp.2.2.2,by omega,by omega⟩
  have IH:∀ x ∈ QO b S,IsMost (vB b) (memS b.length (without S x)) (Int.toNat (XP b (without S x))):=fun x hx=>by
   obtain ⟨a1,a2,a3,a4,a5⟩:=hin x hx
   exact ih _ a4 (by omega) (qk a1 ht a3)
  have hself:S ∈ QO b S:=KR (Nat.and_self S) (by omega) (lowP_self h0 hS2) ht
  obtain ⟨m1,m2,m3⟩:=Kn (v:=fun x=>1+XP b (without S x)) (l:=QO b S) (a:=0)
  rw [← Kl h0] at m1 m2 m3
  have mb:=fun x=>(WJ (b:=b) x).1
  have hs:sm (vB b) (memS b.length S)=0:=by rw [← totN_sm]; exact ht
  intro j
  constructor
  · intro hg
    cases j with
    | zero=>omega
    | succ j =>
     obtain ⟨i0,h1,h2,h3,h4⟩:=low_of h0 hS2
     have hi0:i0<b.length:=by
      apply Classical.byContradiction
      intro hn
      rw [Nat.testBit_lt_two_pow (Nat.lt_of_lt_of_le hS (Nat.pow_le_pow_right (by omega) (by omega)))] at h2
      cases h2
     obtain ⟨P,p1,p2,p3⟩:=grp_take hs (WK.2 ⟨hi0,h2⟩) hg
     have hx1:(Ka b.length fun i=>S.testBit i && P i) &&& S=Ka b.length fun i=>S.testBit i && P i:=by
      refine Nat.eq_of_testBit_eq fun i=>?_
      rw [Nat.testBit_and,qL]
      cases S.testBit i <;> simp
     rw [memS_filter,← totN_sm] at p2
     have hrest:(memS b.length S).filter (fun i=>!P i)=memS b.length (without S (Ka b.length fun i=>S.testBit i && P i)):=by
      rw [← KU]
      refine List.filter_congr fun i hi=>?_
      have:=WK.1 hi
      rw [qL,decide_eq_true this.1,this.2]; simp
     rw [hrest] at p3
     generalize hx:(Ka b.length fun i=>S.testBit i && P i)=x at hx1 p2 p3
     have hxi:x.testBit i0=true:=by rw [← hx,qL,decide_eq_true hi0,h2,p1]; rfl
     have hx0:0<x:=by
      rcases Nat.eq_zero_or_pos x with h | h
      · rw [h,Nat.zero_testBit] at hxi; cases hxi
      · exact h
     have hxS:=@Nat.and_le_right x S
     have hxp:x ∈ QO b S:=KR hx1 hx0 (by rw [lowP_iff hS2 (by omega) h1 h4]; exact hxi) p2
     have a:=(IH x hxp j).1 p3
     have c:=m2 x hxp
     have d:=mb (without S x)
     omega
  · intro hj
    refine Grp.le ?_ hj
    rcases m3 with m3 | ⟨x,hx,m3⟩
    · rw [m3]; exact Km _ _
    · obtain ⟨a1,a2,a3,a4,a5⟩:=hin x hx
      have g:=(IH x hx _).2 (Nat.le_refl _)
      have d:=mb (without S x)
      have e:Int.toNat (XP b S)=Int.toNat (XP b (without S x))+1:=by omega
      rw [e]
      rw [← KU] at g
      obtain ⟨i,hi,hxi⟩:=part_ne (n:=b.length) (S:=S) (x:=x) (by omega) a2
      have hSi:S.testBit i=true:=by
       have:(x.testBit i && S.testBit i)=x.testBit i:=by rw [← Nat.testBit_and,a1]
       rw [hxi,Bool.true_and] at this; exact this
      exact grp_add (P:=fun i=>x.testBit i) ⟨i,WK.2 ⟨hi,hSi⟩,hxi⟩ (by rw [memS_part a1,← totN_sm]; exact a3) g
/-! ### groups under other names -/
def Lab (v:Nat→Int) (L:List Nat) (k:Nat) (c:Nat→Nat):Prop:=∀ j,1≤j→j≤k→(∃ i ∈ L,c i=j)∧sm v (L.filter fun i=>c i == j)=0
theorem Grp.lab {v:Nat→Int} {L:List Nat} {k:Nat} (h:Grp v L k):∃ c,Lab v L k c:=h
def swp (a b x:Nat):Nat:=if x=a then b else if x=b then a else x
theorem qm {a b x:Nat}:swp a b (swp a b x)=x:=by
 unfold swp
 by_cases h1:x=a
 · subst h1
   by_cases h2:b=x
   · subst h2; simp
   · rw [if_pos rfl,if_neg h2,if_pos rfl]
 · rw [if_neg h1]
   by_cases h2:x=b
   · subst h2; rw [if_pos rfl,if_pos rfl]
   · rw [if_neg h2,if_neg h1,if_neg h2]
theorem QbK {a b x k:Nat} (ha:1≤a∧a≤k) (hb:1≤b∧b≤k) (hx:1≤x∧x≤k):1≤swp a b x∧swp a b x≤k:=by
 unfold swp; split
 · exact hb
 · split
   · exact ha
   · exact hx
theorem Lab.swap {v:Nat→Int} {L:List Nat} {k a b:Nat} {c:Nat→Nat} (h:Lab v L k c) (ha:1≤a∧a≤k) (hb:1≤b∧b≤k):Lab v L k fun i=>swp a b (c i):=by
 intro j h1 h2
 obtain ⟨⟨i,hi,hc⟩,hs⟩:=h (swp a b j) (QbK ha hb ⟨h1,h2⟩).1 (QbK ha hb ⟨h1,h2⟩).2
 refine ⟨⟨i,hi,by show swp a b (c i)=j; rw [hc]; exact qm⟩,?_⟩
 rw [← hs]
 congr 1
 refine List.filter_congr fun x _=>?_
 show (swp a b (c x) == j)=_
 by_cases he:c x=swp a b j
 · rw [he,qm]; simp
 · have:¬ swp a b (c x)=j:=fun h=>he (by rw [← h]; exact qm.symm)
   rw [beq_eq_false_iff_ne.2 he,beq_eq_false_iff_ne.2 this]
theorem Lab.le {v:Nat→Int} {L:List Nat} {k j:Nat} {c:Nat→Nat} (h:Lab v L k c) (hj:j≤k):Lab v L j c:=fun i a b=>h i a (by omega)
/-- One group is given up. -/
theorem Lab.drop {v:Nat→Int} {L:List Nat} {k a:Nat} {c:Nat→Nat} (h:Lab v L (k+1) c) (ha:1≤a∧a≤k+1):∃ c',Lab v L k c'∧∀ i,c i=a→c' i=k+1 :=
 ⟨_,(h.swap ha (b:=k+1) ⟨by omega,by omega⟩).le (by omega),fun i hi=>by show swp a (k+1) (c i)=k+1; rw [hi]; simp [swp]⟩
theorem sm_zero {v:Nat→Int}:∀ {L:List Nat},(∀ i ∈ L,v i=0)→sm v L=0
 | [],_=>rfl
 | i :: L,h=>by
  have:=sm_zero (v:=v) (L:=L) fun j hj=>h j (by simp [hj])
  unfold sm at *
  rw [List.map_cons,List.sum_cons,this,h i (by simp)]; rfl
theorem sm_cong {v w:Nat→Int}:∀ {L:List Nat},(∀ i ∈ L,v i=w i)→sm v L=sm w L
 | [],_=>rfl
 | i :: L,h=>by
  have:=sm_cong (v:=v) (w:=w) (L:=L) fun j hj=>h j (by simp [hj])
  unfold sm at *
  rw [List.map_cons,List.sum_cons,List.map_cons,List.sum_cons,this,h i (by simp)]
/-- One without a balance is left out. -/
theorem grp_out {v:Nat→Int} {L:List Nat} {i0 k:Nat} (hv:v i0=0) (h:Grp v L (k+1)):Grp v (L.filter fun i=>i != i0) k:=by
 obtain ⟨c,h⟩:=h.lab
 have same:∀ (d:Nat→Nat) (j:Nat),sm v ((L.filter fun i=>i != i0).filter fun i=>d i == j)=sm v (L.filter fun i=>d i == j):=fun d j=>by
  rw [WE v (fun i=>i == i0) (L.filter fun i=>d i == j)]
  have e1:sm v ((L.filter fun i=>d i == j).filter fun i=>i == i0)=0:=sm_zero fun i hi=>by
   have:=(List.mem_filter.1 hi).2
   rw [eq_of_beq this]; exact hv
  rw [e1,Int.zero_add,filt (R:=fun i=>i != i0 && d i == j) (fun i _=>rfl),filt (R:=fun i=>i != i0 && d i == j) (fun i _=>by cases d i == j <;> cases h:i == i0 <;> simp [bne,h])]
 have keep:∀ (d:Nat→Nat) (j:Nat),(∃ i ∈ L,d i=j)→d i0 ≠ j→∃ i ∈ L.filter fun i=>i != i0,d i=j:=fun d j ⟨i,hi,hd⟩ hne =>
  ⟨i,List.mem_filter.2 ⟨hi,by simp; rintro rfl; exact hne hd⟩,hd⟩
 by_cases ha:1≤c i0∧c i0≤k+1
 · obtain ⟨c',hc',hk⟩:=h.drop ha
   have e0:=hk i0 rfl
   refine ⟨c',fun j h1 h2=>?_⟩
   obtain ⟨q1,q2⟩:=hc' j h1 h2
   exact ⟨keep c' j q1 (by omega),by rw [same]; exact q2⟩
 · refine ⟨c,fun j h1 h2=>?_⟩
   obtain ⟨q1,q2⟩:=h j h1 (by omega)
   exact ⟨keep c j q1 (by omega),by rw [same]; exact q2⟩
/-- All without a balance are left out. -/
theorem grp_outs {v:Nat→Int}:∀ (n:Nat) {L:List Nat} {k:Nat},L.Nodup→L.length≤n→Grp v L k→Grp v (L.filter fun i=>decide (v i ≠ 0)) (k - (L.length - (L.filter fun i=>decide (v i ≠ 0)).length))
 | n,L,k,hn,hl,h=>by
  by_cases hz:∃ i ∈ L,v i=0
  · obtain ⟨i,hi,hv⟩:=hz
    cases n with
    | zero =>
     have:L=[]:=List.eq_nil_of_length_eq_zero (by omega)
     subst this; simp at hi
    | succ n =>
     have hlen:(L.filter fun x=>x != i).length+1=L.length:=by
      have:=List.length_erase_of_mem hi
      rw [hn.erase_eq_filter] at this
      have h0:0<L.length:=List.length_pos_iff.2 fun e=>by subst e; simp at hi
      omega
     have e:(L.filter fun x=>x != i).filter (fun x=>decide (v x ≠ 0))=L.filter fun x=>decide (v x ≠ 0):=filt fun x _=>by
      by_cases hx:x=i
      · subst hx; simp [hv]
      · simp [hx]
     cases k with
     | zero=>rw [Nat.zero_sub]; exact Km _ _
     | succ k =>
      have ih:=grp_outs n (Wl hn _) (by omega) (grp_out hv h)
      rw [e] at ih
      refine ih.le ?_
      have:=List.length_filter_le (fun x=>decide (v x ≠ 0)) (L.filter fun x=>x != i)
      rw [e] at this
      omega
  · have e:L.filter (fun i=>decide (v i ≠ 0))=L:=List.filter_eq_self.2 fun i hi=>decide_eq_true fun h0=>hz ⟨i,hi,h0⟩
    rw [e,Nat.sub_self,Nat.sub_zero]; exact h
theorem KX (P:Nat→Bool):∀ L:List Nat,L.length=(L.filter P).length+(L.filter fun i=>!P i).length
 | []=>rfl
 | i :: L=>by
  have ih:=KX P L
  cases h:P i <;> simp [List.filter_cons,h] <;> omega
/-- Groups of people none of whom has 0 are of two at least. -/
theorem grp_two {v:Nat→Int}:∀ {k:Nat} {L:List Nat},(∀ i ∈ L,v i ≠ 0)→Grp v L k→2*k≤L.length
 | 0,L,_,_=>by omega
 | k+1,L,hv,h=>by
  obtain ⟨c,h⟩:=h
  obtain ⟨⟨i,hi,hc⟩,hs⟩:=h (k+1) (by omega) (by omega)
  have h2:2≤(L.filter fun i=>c i == k+1).length:=by
   have hm:i ∈ L.filter fun i=>c i == k+1:=List.mem_filter.2 ⟨hi,by simpa using hc⟩
   match hf:L.filter (fun i=>c i == k+1) with
   | []=>rw [hf] at hm; simp at hm
   | [x] =>
    rw [hf] at hs
    have hx:x ∈ L.filter fun i=>c i == k+1:=by rw [hf]; simp
    have:=hv x (List.mem_filter.1 hx).1
    unfold sm at hs
    simp at hs
    exact absurd hs this
   | x :: y :: r=>simp only [List.length_cons]; omega
  have hr:Grp v (L.filter fun i=>!(c i == k+1)) k:=⟨c,fun j h1 h2=>by
   obtain ⟨⟨x,hx,hcx⟩,hz⟩:=h j h1 (by omega)
   refine ⟨⟨x,List.mem_filter.2 ⟨hx,by simp; omega⟩,hcx⟩,?_⟩
   rw [← hz,filt (R:=fun i=>c i == j)]
   intro y _
   by_cases hy:c y=j
   · have:¬ c y=k+1:=by omega
     simp [hy]; omega
   · simp [hy]⟩
  have ih:=grp_two (fun i hi=>hv i (List.mem_filter.1 hi).1) hr
  have hlen:=KX (fun i=>c i == k+1) L
  omega
/-! ### payments -/
theorem sm_upd {v:Nat→Int} {a:Nat} {e:Int}:∀ {L:List Nat},L.Nodup→sm (fun i=>if i=a then v i+e else v i) L=sm v L+if a ∈ L then e else 0
 | [],_=>by simp [sm]
 | x :: L,h=>by
  obtain ⟨h1,h2⟩:=List.nodup_cons.1 h
  have ih:=sm_upd (v:=v) (a:=a) (e:=e) h2
  unfold sm at *
  rw [List.map_cons,List.sum_cons,List.map_cons,List.sum_cons,ih]
  by_cases hx:x=a
  · subst hx
    rw [if_pos rfl,if_neg h1,if_pos (by simp)]; omega
  · have:(a ∈ x :: L) ↔ a ∈ L:=by
     rw [List.mem_cons]
     exact ⟨fun h=>h.resolve_left fun e=>hx e.symm,.inr⟩
    rw [if_neg hx]
    by_cases ha:a ∈ L
    · rw [if_pos ha,if_pos (this.2 ha)]; omega
    · rw [if_neg ha,if_neg (fun h=>ha (this.1 h))]; omega
/-- A payment of c from one to the other costs one group at the most. -/
theorem grp_pay {v:Nat→Int} {L:List Nat} {p q:Nat} {c:Int} {k:Nat} (hL:L.Nodup) (hp:p ∈ L) (hq:q ∈ L) (hpq:p ≠ q)
 (h:Grp (fun i=>(if i=q then (if i=p then v i+c else v i)+(0 - c) else if i=p then v i+c else v i)) L (k+1)):Grp v L k:=by
 have hs:∀ (P:Nat→Bool),sm (fun i=>(if i=q then (if i=p then v i+c else v i)+(0 - c) else if i=p then v i+c else v i)) (L.filter P)=sm v (L.filter P)+(if P p=true then c else 0)+(if P q=true then 0 - c else 0):=fun P=>by
  rw [sm_upd (v:=fun i=>if i=p then v i+c else v i) (Wl hL _),sm_upd (Wl hL _)]
  have e1:(p ∈ L.filter P) ↔ P p=true:=by rw [List.mem_filter]; exact ⟨fun h=>h.2,fun h=>⟨hp,h⟩⟩
  have e2:(q ∈ L.filter P) ↔ P q=true:=by rw [List.mem_filter]; exact ⟨fun h=>h.2,fun h=>⟨hq,h⟩⟩
  simp only [e1,e2]
 obtain ⟨d,h⟩:=h.lab
 -- the group that one of them is in is given up
 have give:∀ (a:Nat),(1≤a∧a≤k+1)→(∀ j,1≤j→j≤k+1→j ≠ a→d p ≠ j∧d q ≠ j)→Grp v L k:=fun a ha hno=>by
  obtain ⟨d',h1,-⟩:∃ c',Lab _ L k c'∧∀ i,d i=a→c' i=k+1:=h.drop ha
  obtain ⟨d'',h2⟩:∃ c':Nat→Nat,c'=fun i=>swp a (k+1) (d i):=⟨_,rfl⟩
  refine ⟨d'',fun j j1 j2=>?_⟩
  obtain ⟨q1,q2⟩:=(h.swap ha (b:=k+1) ⟨by omega,by omega⟩) j j1 (by omega)
  rw [h2]
  refine ⟨q1,?_⟩
  have hne:∀ x,(x=p ∨ x=q)→(swp a (k+1) (d x) == j)=false:=fun x hx=>by
   refine beq_eq_false_iff_ne.2 fun he=>?_
   have hr:=QbK ha (⟨by omega,by omega⟩:1≤k+1∧k+1≤k+1) ⟨j1,by omega⟩
   have hdx:d x=swp a (k+1) j:=by rw [← he,qm]
   have hna:swp a (k+1) j ≠ a:=fun h=>by
    have:j=swp a (k+1) a:=by
     have e:=congrArg (swp a (k+1)) h
     rw [qm] at e; exact e
    rw [this] at j2
    simp only [swp,if_true] at j2
    omega
   have:=hno _ hr.1 hr.2 hna
   rcases hx with rfl | rfl
   · exact this.1 hdx
   · exact this.2 hdx
  rw [hs,hne p (.inl rfl),hne q (.inr rfl)] at q2
  simpa using q2
 by_cases hP:1≤d p∧d p≤k+1
 · by_cases hQ:1≤d q∧d q≤k+1
   · by_cases he:d p=d q
     · -- both in one group
       refine ⟨d,fun j j1 j2=>?_⟩
       obtain ⟨q1,q2⟩:=h j j1 (by omega)
       refine ⟨q1,?_⟩
       rw [hs,he] at q2
       cases hb:d q == j <;> rw [hb] at q2 <;> simp at q2 <;> omega
     · -- two groups become one
       have hsw:=h.swap hQ (b:=k+1) ⟨by omega,by omega⟩
       have hqk:swp (d q) (k+1) (d q)=k+1:=by simp [swp]
       have hpa:swp (d q) (k+1) (d p) ≠ k+1:=fun e=>he (by
        have:=congrArg (swp (d q) (k+1)) (e.trans hqk.symm)
        rw [qm,qm] at this; exact this)
       have hpr:=QbK hQ (⟨by omega,by omega⟩:1≤k+1∧k+1≤k+1) hP
       generalize hd2:(fun i=>swp (d q) (k+1) (d i))=d2 at hsw
       have e1:d2 q=k+1:=by rw [← hd2]; exact hqk
       have e2:d2 p ≠ k+1:=by rw [← hd2]; exact hpa
       have e3:1≤d2 p∧d2 p≤k+1:=by rw [← hd2]; exact hpr
       refine ⟨fun i=>if d2 i=k+1 then d2 p else d2 i,fun j j1 j2=>?_⟩
       obtain ⟨⟨i,hi,hc⟩,q2⟩:=hsw j j1 (by omega)
       refine ⟨⟨i,hi,by simp only; rw [if_neg (by omega)]; exact hc⟩,?_⟩
       rw [hs] at q2
       by_cases hj:j=d2 p
       · obtain ⟨-,q3⟩:=hsw (k+1) (by omega) (by omega)
         rw [hs,e1] at q3
         rw [show (d2 p == k+1)=false from beq_eq_false_iff_ne.2 e2] at q3
         rw [e1,← hj] at q2
         rw [show (k+1 == j)=false from beq_eq_false_iff_ne.2 (by omega)] at q2
         rw [WE v (fun i=>d2 i == j),filt (R:=fun i=>d2 i == j),filt (R:=fun i=>d2 i == k+1)]
         · simp at q2 q3; omega
         · intro x _
           show ((if d2 x=k+1 then d2 p else d2 x) == j && !(d2 x == j))=(d2 x == k+1)
           by_cases hx:d2 x=k+1
           · rw [if_pos hx,hx,← hj,show (k+1 == j)=false from beq_eq_false_iff_ne.2 (by omega)]; simp
           · rw [if_neg hx,beq_eq_false_iff_ne.2 hx]; simp
         · intro x _
           show ((if d2 x=k+1 then d2 p else d2 x) == j && (d2 x == j))=(d2 x == j)
           by_cases hx:d2 x=k+1
           · rw [if_pos hx,hx,show (k+1 == j)=false from beq_eq_false_iff_ne.2 (by omega)]; simp
           · rw [if_neg hx]; simp
       · rw [e1,show (k+1 == j)=false from beq_eq_false_iff_ne.2 (by omega),show (d2 p == j)=false from beq_eq_false_iff_ne.2 (fun h=>hj h.symm)] at q2
         have:L.filter (fun i=>(if d2 i=k+1 then d2 p else d2 i) == j)=L.filter fun i=>d2 i == j:=List.filter_congr fun x _=>by
          by_cases hx:d2 x=k+1
          · rw [if_pos hx,hx,show (k+1 == j)=false from beq_eq_false_iff_ne.2 (by omega)]
            exact beq_eq_false_iff_ne.2 fun h=>hj h.symm
          · rw [if_neg hx]
         rw [this]
         simpa using q2
   · exact give (d p) hP fun j j1 j2 hj=>⟨fun h=>hj h.symm,fun h=>hQ (by omega)⟩
 · by_cases hQ:1≤d q∧d q≤k+1
   · exact give (d q) hQ fun j j1 j2 hj=>⟨fun h=>hP (by omega),fun h=>hj h.symm⟩
   · exact give (k+1) ⟨by omega,by omega⟩ fun j j1 j2 hj=>⟨fun h=>hP (by omega),fun h=>hQ (by omega)⟩
end Go.Proofs.Ytemklbioijmjiaa
namespace Go.Proofs.Ytemklbioijmjiaa
open Go Ax
open Go.Proofs
theorem Vr {l:List Int} {a i:Nat} {e:Int} (h:a<l.length):(l.set a e).getD i 0=if i=a then e else l.getD i 0:=by
 by_cases hi:i=a
 · subst hi; rw [if_pos rfl,List.getD,List.getElem?_set_self h]; rfl
 · rw [if_neg hi,List.getD,List.getElem?_set_ne (fun h=>hi h.symm)]; rfl
theorem payDo_len {v:List Int} {x:Pay}:(QbT v x).length=v.length:=by unfold QbT; simp
theorem ym {n:Int}:∀ {a b:List Pay} {v:List Int},XW n (a++b) v=(XW n a v).bind (XW n b)
 | [],b,v=>rfl
 | x :: a,b,v=>by
  rw [List.cons_append,XW,XW]
  split
  · exact ym
  · rfl
theorem payOk_of {n:Int} {x:Pay} (h:KJ n x=true):(0≤x.frm∧x.frm≤n - 1)∧(0≤x.to∧x.to≤n - 1)∧x.frm ≠ x.to∧1≤x.c∧x.c≤100000000000:=by
 simp only [KJ,Bool.and_eq_true,Bool.not_eq_true',decide_eq_false_iff_not] at h
 obtain ⟨h1,h2,h3,h4⟩:=h
 exact ⟨Qx.1 h1,Qx.1 h2,h3,Qx.1 h4⟩
theorem of_payOk {n:Int} {x:Pay} (h1:0≤x.frm∧x.frm≤n - 1) (h2:0≤x.to∧x.to≤n - 1) (h3:x.frm ≠ x.to) (h4:1≤x.c∧x.c≤100000000000):KJ n x=true:=by
 simp only [KJ,Bool.and_eq_true,Bool.not_eq_true',decide_eq_false_iff_not]
 exact ⟨Qx.2 h1,Qx.2 h2,h3,Qx.2 h4⟩
theorem KK {v:List Int} {x:Pay} (h1:Int.toNat x.frm<v.length) (h2:Int.toNat x.to<v.length) (i:Nat):(QbT v x).getD i 0 =
 if i=Int.toNat x.to then (if Int.toNat x.to=Int.toNat x.frm then v.getD (Int.toNat x.frm) 0+x.c else v.getD (Int.toNat x.to) 0) - x.c else if i=Int.toNat x.frm then v.getD (Int.toNat x.frm) 0+x.c else v.getD i 0:=by
 unfold QbT
 rw [Vr (by simpa using h2),Vr h1,Vr h1]
theorem Grp.cong {v w:Nat→Int} {L:List Nat} {k:Nat} (h:∀ i ∈ L,v i=w i) (hg:Grp v L k):Grp w L k:=by
 obtain ⟨c,hg⟩:=hg
 refine ⟨c,fun j h1 h2=>⟨(hg j h1 h2).1,?_⟩⟩
 rw [← (hg j h1 h2).2]
 exact (sm_cong fun i hi=>h i (List.mem_filter.1 hi).1).symm
/-- Payments that settle: there are groups. -/
theorem pay_grp:∀ {l:List Pay} {b v:List Int},XW (b.length:Int) l b=some v→(∀ i,i<b.length→v.getD i 0=0)→Grp (vB b) (List.range b.length) (b.length - l.length)
 | [],b,v,h,hz=>by
  simp only [XW,Option.some.injEq] at h
  subst h
  refine ⟨fun i=>i+1,fun j h1 h2=>⟨⟨j - 1,List.mem_range.2 (by simp at h2; omega),by show j - 1+1=j; omega⟩,sm_zero fun i hi=>hz i (List.mem_range.1 (List.mem_filter.1 hi).1)⟩⟩
 | x :: l,b,v,h,hz=>by
  rw [XW] at h
  split at h
  · rename_i hp
    obtain ⟨h1,h2,h3,h4⟩:=payOk_of hp
    have hl:(QbT b x).length=b.length:=payDo_len
    have ih:=pay_grp (l:=l) (b:=QbT b x) (v:=v) (by rw [hl]; exact h) (by rw [hl]; exact hz)
    rw [hl] at ih
    cases hk:b.length - l.length with
    | zero=>rw [List.length_cons,show b.length - (l.length+1)=0 by omega]; exact Km _ _
    | succ k =>
     rw [hk] at ih
     rw [List.length_cons,show b.length - (l.length+1)=k by omega]
     refine grp_pay (p:=Int.toNat x.frm) (q:=Int.toNat x.to) (c:=x.c) List.nodup_range (List.mem_range.2 (by omega)) (List.mem_range.2 (by omega)) (by omega) (ih.cong fun i hi=>?_)
     unfold vB
     rw [KK (by omega) (by omega),if_neg (show ¬ Int.toNat x.to=Int.toNat x.frm by omega)]
     by_cases e1:i=Int.toNat x.to
     · rw [if_pos e1,if_pos e1,if_neg (by omega),e1]; omega
     · rw [if_neg e1,if_neg e1]
       by_cases e2:i=Int.toNat x.frm
       · rw [if_pos e2,if_pos e2,e2]
       · rw [if_neg e2,if_neg e2]
  · cases h
def QcC (b:List Int):Nat:=(memS b.length (setB b b.length)).length
theorem memS_setB {b:List Int}:memS b.length (setB b b.length)=(List.range b.length).filter fun i=>decide (vB b i ≠ 0):=by
 unfold memS
 refine List.filter_congr fun i hi=>?_
 rw [WF,decide_eq_true (List.mem_range.1 hi),Bool.true_and]; rfl
/-- Payments that settle are at least so many. -/
theorem pay_least {b:List Int} {l:List Pay} {v:List Int} (hl:b.length≤10) (ht:totN b (setB b b.length)=0) (h:XW (b.length:Int) l b=some v) (hz:∀ i,i<b.length→v.getD i 0=0):QcC b≤l.length+Int.toNat (XP b (setB b b.length)):=by
 have h1:=grp_outs (List.range b.length).length List.nodup_range (Nat.le_refl _) (pay_grp h hz)
 have h2:=most_is hl (setB b b.length) yd ht
 rw [memS_setB] at h2
 have h3:=(h2 _).1 h1
 have h4:((List.range b.length).filter fun i=>decide (vB b i ≠ 0)).length≤(List.range b.length).length:=List.length_filter_le _ _
 rw [List.length_range] at h3 h4
 unfold QcC
 rw [memS_setB]
 omega
/-! ### chains -/
theorem Kv {b:List Int} {S:Nat}:∀ {i:Nat},(∀ j,j<i→S.testBit j=false)→totP b S i=0
 | 0,_=>rfl
 | i+1,h=>by rw [totP,Kv fun j hj=>h j (by omega),h i (by omega)]; simp
theorem Qbw {b v:List Int} {S:Nat} (hl:b.length≤10) (hb:∀ x ∈ b,-10000000000≤x∧x≤10000000000) (hv:v.length=b.length) (hag:∀ j,j<b.length→S.testBit j=true→v.getD j 0=b.getD j 0) :
 ∀ i,i≤b.length→∃ v',XW (b.length:Int) (chP b S i).2.2 v=some v'∧v'.length=b.length ∧
  (∀ j,j<b.length→v'.getD j 0=if j<i∧S.testBit j=true then (if (j:Int)=(chP b S i).2.1 then totP b S i else 0) else v.getD j 0) ∧
  (((chP b S i).2.1=-1∧∀ j,j<i→S.testBit j=false) ∨ ∃ k,k<i∧S.testBit k=true∧(chP b S i).2.1=(k:Int))
 | 0,_=>⟨v,rfl,hv,fun j _=>by rw [if_neg (by omega)],.inl ⟨rfl,fun j hj=>by omega⟩⟩
 | i+1,hi=>by
  obtain ⟨v',p1,p2,p3,p4⟩:=Qbw hl hb hv hag i (by omega)
  have hg:b[i]?=some b[i]:=List.getElem?_eq_getElem (by omega)
  have hgd:b.getD i 0=b[i]:=by rw [List.getD,hg]; rfl
  rw [Qcy hg]
  have hd:=QcA (b:=b) (S:=S) i (by omega)
  have hbd:=Kw (S:=S) hb i (by omega)
  cases ht:S.testBit i with
  | false =>
   rw [yW,if_neg (by rw [ht]; simp)]
   refine ⟨v',p1,p2,fun j hj=>?_,?_⟩
   · rw [p3 j hj]
     have e:totP b S (i+1)=totP b S i:=by rw [totP,ht]; simp
     rw [e]
     by_cases hj2:j=i
     · subst hj2; rw [if_neg (by omega),if_neg (by rw [ht]; simp)]
     · by_cases hc:j<i∧S.testBit j=true
       · rw [if_pos hc,if_pos (show j<i+1∧S.testBit j=true from ⟨by omega,hc.2⟩)]
       · rw [if_neg hc,if_neg (fun h=>hc ⟨by omega,h.2⟩)]
   · rcases p4 with ⟨q1,q2⟩ | ⟨k,q1,q2,q3⟩
     · exact .inl ⟨q1,fun j hj=>by
        by_cases hj2:j=i
        · subst hj2; exact ht
        · exact q2 j (by omega)⟩
     · exact .inr ⟨k,by omega,q2,q3⟩
  | true =>
   rw [yW,if_pos ht]
   have et:totP b S (i+1)=totP b S i+b[i]:=by rw [qD hg,ht]; simp
   have vi:v'.getD i 0=b[i]:=by rw [p3 i (by omega),if_neg (by omega),hag i (by omega) ht,hgd]
   simp only
   rw [et]
   by_cases h0:totP b S i=0
   · rw [hd,h0,if_neg (by omega),if_neg (by omega)]
     refine ⟨v',p1,p2,fun j hj=>?_,.inr ⟨i,by omega,ht,rfl⟩⟩
     rw [p3 j hj,h0]
     by_cases hj2:j=i
     · subst hj2; rw [if_neg (by omega),if_pos ⟨by omega,ht⟩,if_pos rfl,hag j hj ht,hgd]; omega
     · by_cases hc:j<i∧S.testBit j=true
       · rw [if_pos hc,if_pos (show j<i+1∧S.testBit j=true from ⟨by omega,hc.2⟩),if_neg (show ¬ (j:Int)=(i:Int) by omega)]; split <;> rfl
       · rw [if_neg hc,if_neg (fun h=>hc ⟨by omega,h.2⟩)]
   · obtain ⟨k,k1,k2,k3⟩:∃ k,k<i∧S.testBit k=true∧(chP b S i).2.1=(k:Int):=by
      rcases p4 with ⟨q1,q2⟩ | q
      · exact absurd (Kv q2) h0
      · exact q
     have vk:v'.getD k 0=totP b S i:=by rw [p3 k (by omega),if_pos ⟨k1,k2⟩,if_pos k3.symm]
     have fin:∀ (x:Pay),KJ (b.length:Int) x=true→(∀ j,j<b.length→(QbT v' x).getD j 0=if j=i then totP b S i+b[i] else if j=k then 0 else v'.getD j 0) →
      ∃ v'',XW (b.length:Int) ((chP b S i).2.2++[x]) v=some v''∧v''.length=b.length ∧
       (∀ j,j<b.length→v''.getD j 0=if j<i+1∧S.testBit j=true then (if (j:Int)=(i:Int) then totP b S i+b[i] else 0) else v.getD j 0) ∧
       (((i:Int)=-1∧∀ j,j<i+1→S.testBit j=false) ∨ ∃ k,k<i+1∧S.testBit k=true∧(i:Int)=(k:Int)):=fun x hx hd2=>by
      refine ⟨QbT v' x,by rw [ym,p1]; show XW _ [x] v'=_; rw [XW,if_pos hx]; rfl,by rw [payDo_len,p2],fun j hj=>?_,.inr ⟨i,by omega,ht,rfl⟩⟩
      rw [hd2 j hj]
      by_cases hj2:j=i
      · subst hj2; rw [if_pos rfl,if_pos ⟨by omega,ht⟩,if_pos rfl]
      · rw [if_neg hj2]
        by_cases hj3:j=k
        · subst hj3; rw [if_pos rfl,if_pos ⟨by omega,k2⟩,if_neg (by omega)]
        · rw [if_neg hj3,p3 j hj]
          by_cases hc:j<i∧S.testBit j=true
          · rw [if_pos hc,if_pos (show j<i+1∧S.testBit j=true from ⟨by omega,hc.2⟩),if_neg (by omega),if_neg (by omega)]
          · rw [if_neg hc,if_neg (fun h=>hc ⟨by omega,h.2⟩)]
     rw [hd,k3]
     by_cases hneg:totP b S i<0
     · rw [if_pos hneg]
       refine fin ⟨(k:Int),(i:Int),0 - totP b S i⟩ (of_payOk ⟨by simp,by simp only; omega⟩ ⟨by simp,by simp only; omega⟩ (by simp only; omega) ⟨by simp only; omega,by simp only; omega⟩) fun j hj=>?_
       rw [KK (by simp only [Int.toNat_natCast]; omega) (by simp only [Int.toNat_natCast]; omega)]
       simp only [Int.toNat_natCast]
       rw [if_neg (show ¬ i=k by omega),vi,vk]
       by_cases e1:j=i
       · rw [if_pos e1,if_pos e1]; omega
       · rw [if_neg e1,if_neg e1]
         by_cases e2:j=k
         · rw [if_pos e2,if_pos e2]; omega
         · rw [if_neg e2,if_neg e2]
     · rw [if_neg hneg,if_pos (by omega)]
       refine fin ⟨(i:Int),(k:Int),totP b S i⟩ (of_payOk ⟨by simp,by simp only; omega⟩ ⟨by simp,by simp only; omega⟩ (by simp only; omega) ⟨by simp only; omega,by simp only; omega⟩) fun j hj=>?_
       rw [KK (by simp only [Int.toNat_natCast]; omega) (by simp only [Int.toNat_natCast]; omega)]
       simp only [Int.toNat_natCast]
       rw [if_neg (show ¬ k=i by omega),vi,vk]
       by_cases e1:j=i
       · rw [if_neg (by omega),if_pos e1,if_pos e1]; omega
       · rw [if_neg e1]
         by_cases e2:j=k
         · rw [if_pos e2,if_pos e2]; omega
         · rw [if_neg e2,if_neg e1,if_neg e2]
theorem Qay {b:List Int} {S:Nat}:∀ i,i≤b.length→(chP b S i).2.2.length≤(memS i S).length - 1
 | 0,_=>by simp [chP]
 | i+1,hi=>by
  have ih:=Qay (b:=b) (S:=S) i (by omega)
  have hg:b[i]?=some b[i]:=List.getElem?_eq_getElem (by omega)
  have hd:=QcA (b:=b) (S:=S) i (by omega)
  rw [Qcy hg,yW]
  have hm:memS (i+1) S=memS i S++if S.testBit i=true then [i] else []:=by
   unfold memS
   rw [List.range_succ,List.filter_append]
   cases h:S.testBit i <;> simp [h]
  rw [hm,List.length_append]
  split
  · rename_i ht
    have hpos:totP b S i ≠ 0→1≤(memS i S).length:=fun h=>by
     rcases Nat.eq_zero_or_pos (memS i S).length with h0 | h0
     · refine absurd ?_ h
       have:memS i S=[]:=List.eq_nil_of_length_eq_zero h0
       exact Kv fun j hj=>by
        cases hb:S.testBit j with
        | false=>rfl
        | true=>have:=WK.2 ⟨hj,hb⟩; rw [‹memS i S=[]›] at this; simp at this
     · exact h0
    simp only
    rw [hd]
    split
    · rename_i h; have:=hpos (by omega); simp; omega
    · split
      · rename_i h; have:=hpos (by omega); simp; omega
      · simp; omega
  · simp; omega
/-- Settle's payments for a set. -/
theorem QaT {b:List Int}:∀ {n S:Nat} {v:List Int},S<n→VQ b (S:Int)→totN b S=0→v.length=b.length→(∀ j,j<b.length→S.testBit j=true→v.getD j 0=b.getD j 0) →
 (∃ v',XW (b.length:Int) (QY b n S) v=some v'∧v'.length=b.length∧∀ j,j<b.length→v'.getD j 0=if S.testBit j=true then 0 else v.getD j 0)∧(QY b n S).length+Int.toNat (XP b S)≤(memS b.length S).length
 | 0,S,v,h,_,_,_,_=>by omega
 | n+1,S,v,h,hin,ht,hv,hag=>by
  rw [QY]
  by_cases h0:S=0
  · subst h0
    rw [if_pos rfl]
    exact ⟨⟨v,rfl,hv,fun j _=>by simp⟩,by simp [yp,KT]⟩
  rw [if_neg h0]
  obtain ⟨x,x1,x2,x3⟩:=KI hin h0 ht
  rw [x1]
  simp only
  have hp:=XI x2
  have hw:=Xi hp.1
  obtain ⟨x',y1,y2,y3,y4⟩:=part_in hin x2
  have:x=x':=by omega
  subst this
  have bit:∀ j,x.testBit j=true→S.testBit j=true:=fun j hj=>by
   have:(x.testBit j && S.testBit j)=x.testBit j:=by rw [← Nat.testBit_and,hp.1]
   rw [hj,Bool.true_and] at this; exact this
  obtain ⟨v1,q1,q2,q3,q4⟩:=Qbw (S:=x) y3 y4 hv (fun j hj hb=>hag j hj (bit j hb)) b.length (Nat.le_refl _)
  have hx0:totP b x b.length=0:=hp.2.2.2
  have q5:∀ j,j<b.length→v1.getD j 0=if x.testBit j=true then 0 else v.getD j 0:=fun j hj=>by
   rw [q3 j hj,hx0]
   by_cases hb:x.testBit j=true
   · rw [if_pos ⟨hj,hb⟩,if_pos hb]; split <;> rfl
   · rw [if_neg (fun h=>hb h.2),if_neg hb]
  obtain ⟨⟨v2,r1,r2,r3⟩,r4⟩:=QaT (b:=b) (n:=n) (S:=without S x) (v:=v1) (by omega) (WC hin) (qk hp.1 ht hp.2.2.2) q2 (fun j hj hb=>by
   rw [XQ,Bool.and_eq_true,Bool.not_eq_true'] at hb
   rw [q5 j hj,if_neg (by rw [hb.2]; simp)]; exact hag j hj hb.1)
  refine ⟨⟨v2,?_,r2,fun j hj=>?_⟩,?_⟩
  · show XW _ ((chP b x b.length).2.2++_) v=_
    rw [ym,q1]; exact r1
  · rw [r3 j hj,q5 j hj,XQ]
    cases hx:x.testBit j with
    | true=>rw [bit j hx]; simp
    | false=>simp
  · have c1:=Qay (b:=b) (S:=x) b.length (Nat.le_refl _)
    have c2:=KX (fun i=>x.testBit i) (memS b.length S)
    rw [memS_part hp.1,KU] at c2
    obtain ⟨i,i1,i2⟩:=part_ne (S:=S) y2 hp.2.1
    have c3:1≤(memS b.length x).length:=List.length_pos_iff.2 fun e=>by
     have:=WK.2 ⟨i1,i2⟩
     rw [e] at this; simp at this
    have c4:=(WJ (b:=b) (without S x)).1
    rw [List.length_append]
    show (chP b x b.length).2.2.length+_+_≤_
    omega
end Go.Proofs.Ytemklbioijmjiaa
namespace Go.Proofs.Ytemklbioijmjiaa
open Go Ax
open Go.Proofs
/-! ### people by their places -/
/-! ### one after the other -/
def dF (l:List Int):Nat→Nat→Nat
 | 0,_=>0
 | f+1,S=>if S=0 then 0 else ((memS l.length S).foldl (fun a i=>Nat.max a (dF l f (S - 2 ^ i))) 0)+(if totN l S=0 then 1 else 0)
def dN (l:List Int) (S:Nat):Nat:=dF l (S+1) S
/-! ### how many payments -/
theorem few_of {b:List Int} (he:Xj b=0):(QY b 1024 (setB b b.length)).length+Int.toNat (XP b (setB b b.length))=QcC b∧2*Int.toNat (XP b (setB b b.length))≤QcC b∧(1≤QcC b→1≤Int.toNat (XP b (setB b b.length))) ∧
 ∃ v,XW (b.length:Int) (QY b 1024 (setB b b.length)) b=some v∧v.length=b.length∧∀ j,j<b.length→v.getD j 0=0:=by
 obtain ⟨h1,h2⟩:=qJ he
 have hin:=setB_in h1
 have ht:=setB_tot h2
 have hl:=(bal_in h1).1
 have hS:setB b b.length<1024:=WV hl yd
 obtain ⟨⟨v,q1,q2,q3⟩,q4⟩:=QaT (n:=1024) hS hin ht rfl (fun j _ _=>rfl)
 have hz:∀ j,j<b.length→v.getD j 0=0:=fun j hj=>by
  rw [q3 j hj]
  split
  · rfl
  · rename_i h
    rw [WF,decide_eq_true hj,Bool.true_and] at h
    simpa using h
 have lo:=pay_least hl ht q1 hz
 have hm:=most_is hl (setB b b.length) yd ht
 have hg:=(hm _).2 (Nat.le_refl _)
 have hv:∀ i ∈ memS b.length (setB b b.length),vB b i ≠ 0:=fun i hi=>by
  have:=(WK.1 hi).2
  rw [WF,Bool.and_eq_true] at this
  exact of_decide_eq_true this.2
 refine ⟨by unfold QcC at *; omega,grp_two hv hg,fun hc=>?_,v,q1,q2,hz⟩
 have hS0:setB b b.length ≠ 0:=fun e=>by
  unfold QcC at hc
  rw [e,KT] at hc
  simp at hc
 obtain ⟨x,x1,x2,x3⟩:=KI hin hS0 ht
 have:=(WJ (b:=b) (without (setB b b.length) x)).1
 omega
end Go.Proofs.Ytemklbioijmjiaa
namespace Go.Proofs.Ytemklbioijmjiaa
open Go Ax
open Go.Proofs
theorem memS_succ {S i:Nat}:memS (i+1) S=memS i S++if S.testBit i=true then [i] else []:=by
 unfold memS
 rw [List.range_succ,List.filter_append]
 cases h:S.testBit i <;> simp [h]
/-- The table: what lies before a set is right,behind it is 0. -/
structure TabOk (l:List Int) (v:List Int) (S:Nat) (x:Nat):Prop where
 len:v.length=2 ^ l.length
 lo:∀ s,s<S→v[s]?=some ((dN l s:Nat):Int)
 at_:S<2 ^ l.length→v[S]?=some (x:Int)
 hi:∀ s,S<s→s<2 ^ l.length→v[s]?=some 0
theorem TabOk.set {l v:List Int} {S x y:Nat} (h:TabOk l v S x) (hS:S<2 ^ l.length):TabOk l (v.set S (y:Int)) S y:=by
 have hl:=h.len
 refine ⟨by rw [List.length_set]; exact hl,fun s hs=>?_,fun _=>List.getElem?_set_self (by omega),fun s hs h2=>?_⟩
 · rw [List.getElem?_set_ne (by omega)]; exact h.lo s hs
 · rw [List.getElem?_set_ne (by omega)]; exact h.hi s hs h2
end Go.Proofs.Ytemklbioijmjiaa
namespace Go.Proofs.Ytemklbioijmjiaa
open Go Ax
open Go.Proofs
theorem payK_of {b:List Int} {l:List Pay} {v:List Int} (hb:balB b=true) (hl:l.length≤60) (h:XW (b.length:Int) l b=some v):payK b l=(v,0):=by
 rw [payK,if_neg (by rw [hb]; simp),if_neg (by omega),h]; rfl
theorem cardB_le {b:List Int}:QcC b≤b.length:=by
 have:=List.length_filter_le (fun i=>(setB b b.length).testBit i) (List.range b.length)
 rw [List.length_range] at this
 exact this
/-- So many of the first ones are not 0. -/
def opnN (b:List Int) (i:Nat):Nat:=(memS i (setB b b.length)).length
theorem opnN_step {b:List Int} {i:Nat} {e:Int} (h:b[i]?=some e):opnN b (i+1)=if e=0 then opnN b i else opnN b i+1:=by
 have hi:=(List.getElem?_eq_some_iff.1 h).1
 unfold opnN
 rw [memS_succ,WF,decide_eq_true hi,Bool.true_and,List.getD,h]
 by_cases h0:e=0
 · rw [if_pos h0]; simp [h0]
 · rw [if_neg h0]; simp [h0]
theorem opnN_le {b:List Int} {i:Nat}:opnN b i≤i:=by
 have:=List.length_filter_le (fun x=>(setB b b.length).testBit x) (List.range i)
 rw [List.length_range] at this
 exact this
end Go.Proofs.Ytemklbioijmjiaa
namespace Go.Proofs.Ytemklbioijmjiaa
open Go Ax
open Go.Proofs
def cSpn (b:Spn):List AV:=[.int .i64 b.by_,.int .i64 b.c,.rsl (rowI b.fr) 0 b.fr.length]
def Xg (l:List Spn):List AV:=l.flatMap cSpn
theorem f113b:Try.f113.body=some (Qf Try.prog 113):=by kernel_rfl
theorem u113 {a c k:List AV} {r:AV} (h:Pure Try.prog 113 (a++c++k) r):Qc Try.prog (.clos 113 a k) c r:=Qk Try.func113 (by kernel_rfl) f113b h
def f113K0 (P:Program):List Item:=kAt 400 [.code (Qf P 113)] [.b false,.stop]
def f113S0 (n:Int) (x:Spn) (last:Int) (i:Nat):St:=⟨([.int .i64 n,J,J,J,J,.int .i64 last]++jj 21 ([.rsl (rowI x.fr) 0 x.fr.length,.int .i64 (x.fr.length:Int),.int .i64 (i:Int)]++Js 13)),[⟨true,0,1,true,[.int .i64 x.by_,.int .i64 x.c,.rsl (rowI x.fr) 0 x.fr.length],false⟩]⟩
def f113G0 (E:Env) (n:Int) (x:Spn) (last:Int) (i:Nat):Prop:=G Try.prog E (f113K0 Try.prog) (f113S0 n x last i )
theorem f113W (n:Int) (x:Spn) {E:Env} {rv:Bool} (hE:Qr Try.prog 113 (.bool rv) E)
 (h:((I6 (n - 1))∧(((Qg x.by_ 0 (n - 1))=false→rv=false)∧((Qg x.by_ 0 (n - 1))=true→(((Vl x.c)=false→rv=false)∧((Vl x.c)=true→(((x.fr.length:Int)=0→rv=false)∧(¬ ((x.fr.length:Int)=0)→f113G0 E n x (-1) 0)))))))):G Try.prog E [.code (Qf Try.prog 113)] ⟨[.int .i64 n,.agg [.int .i64 x.by_,.int .i64 x.c,.rsl (rowI x.fr) 0 x.fr.length]]++unds (Try.f113.ntmps - 2),[]⟩:=by
 obtain ⟨q0_0,h⟩:=h
 rcases bft (!(Qg x.by_ 0 (n - 1))) with hc0 | hc0
 · have h:=h.1 (bnT hc0)
   exact eL (.bool false) [.v (.bool (Qg x.by_ 0 (n - 1))),.b true,.b true,.b true] [InR .i64 (n - 1),Qc Try.prog (.clos 110 [] []) [.int .i64 x.by_,.int .i64 0,.int .i64 (n - 1)] (.bool (Qg x.by_ 0 (n - 1))),(!(Qg x.by_ 0 (n - 1)))=true,true=true,true=true] hE Try.func113 ⟨q0_0,(u110 (QP x.by_ 0 (n - 1))),hc0,rfl,rfl,trivial⟩ (by exact AvLe.of_eq (by rw [h]; try rfl))
 · have h:=h.2 (bnF hc0)
   rcases bft (!(Vl x.c)) with hc1 | hc1
   · have h:=h.1 (bnT hc1)
     exact eL (.bool false) [.v (.bool (Qg x.by_ 0 (n - 1))),.b false,.v (.bool (Vl x.c)),.b true,.b true] [InR .i64 (n - 1),Qc Try.prog (.clos 110 [] []) [.int .i64 x.by_,.int .i64 0,.int .i64 (n - 1)] (.bool (Qg x.by_ 0 (n - 1))),(!(Qg x.by_ 0 (n - 1)))=false,Qc Try.prog (.clos 85 [] []) [.int .i64 x.c] (.bool (Vl x.c)),(!(Vl x.c))=true,true=true] hE Try.func113 ⟨q0_0,(u110 (QP x.by_ 0 (n - 1))),hc0,(u85 (QaF x.c)),hc1,rfl,trivial⟩ (by exact AvLe.of_eq (by rw [h]; try rfl))
   · have h:=h.2 (bnF hc1)
     rcases bft ((x.fr.length:Int) == 0) with hc2 | hc2
     · have h:=h.1 (eq_of_beq hc2)
       exact eL (.bool false) [.v (.bool (Qg x.by_ 0 (n - 1))),.b false,.v (.bool (Vl x.c)),.b false,.b true] [InR .i64 (n - 1),Qc Try.prog (.clos 110 [] []) [.int .i64 x.by_,.int .i64 0,.int .i64 (n - 1)] (.bool (Qg x.by_ 0 (n - 1))),(!(Qg x.by_ 0 (n - 1)))=false,Qc Try.prog (.clos 85 [] []) [.int .i64 x.c] (.bool (Vl x.c)),(!(Vl x.c))=false,((x.fr.length:Int) == 0)=true] hE Try.func113 ⟨q0_0,(u110 (QP x.by_ 0 (n - 1))),hc0,(u85 (QaF x.c)),hc1,hc2,trivial⟩ (by exact AvLe.of_eq (by rw [h]; try rfl))
     · have h:=h.2 (ne_of_beq_false hc2)
       exact sQ [0,5,27,28,29] 1 [.v (.bool (Qg x.by_ 0 (n - 1))),.b false,.v (.bool (Vl x.c)),.b false,.b false,.stop] [InR .i64 (n - 1),Qc Try.prog (.clos 110 [] []) [.int .i64 x.by_,.int .i64 0,.int .i64 (n - 1)] (.bool (Qg x.by_ 0 (n - 1))),(!(Qg x.by_ 0 (n - 1)))=false,Qc Try.prog (.clos 85 [] []) [.int .i64 x.c] (.bool (Vl x.c)),(!(Vl x.c))=false,((x.fr.length:Int) == 0)=false] hE ⟨q0_0,(u110 (QP x.by_ 0 (n - 1))),hc0,(u85 (QaF x.c)),hc1,hc2,trivial⟩ h
theorem f113W0 (n:Int) (x:Spn) (last:Int) (i:Nat) {E:Env} {rv:Bool} (hE:Qr Try.prog 113 (.bool rv) E)
 (h:(((i:Int)<(x.fr.length:Int)→(∃ e:Int,x.fr[i]?=some e∧((e≤last→rv=false)∧(¬ (e≤last)→((e≥n→rv=false)∧(¬ (e≥n)→((I6 ((i:Int)+1))∧f113G0 E n x e (i+1))))))))∧(¬ ((i:Int)<(x.fr.length:Int))→rv=true))):f113G0 E n x last i:=by
 rcases bft (decide ((i:Int)<(x.fr.length:Int))) with hc0 | hc0
 · have h:=h.1 (odt hc0)
   obtain ⟨e,h1,h⟩:=h
   rcases bft (decide (e≤last)) with hc1 | hc1
   · have h:=h.1 (odt hc1)
     exact eL (.bool false) [.b true,.ld (.int .i64 e),.b true,.b true] [(decide ((i:Int)<(x.fr.length:Int)))=true,0≤(i:Int)∧(i:Int)<(x.fr.length:Int),((rowI x.fr).drop (0+(Int.toNat (i:Int))*1)).take 1=[.int .i64 e],(decide (e≤last))=true,true=true] hE Try.func113 ⟨hc0,(Qm h1),(rp cI 1 0 1 h1),hc1,rfl,trivial⟩ (by exact AvLe.of_eq (by rw [h]; try rfl))
   · have h:=h.2 (odf hc1)
     rcases bft (decide (e≥n)) with hc2 | hc2
     · have h:=h.1 (odt hc2)
       exact eL (.bool false) [.b true,.ld (.int .i64 e),.b false,.b true] [(decide ((i:Int)<(x.fr.length:Int)))=true,0≤(i:Int)∧(i:Int)<(x.fr.length:Int),((rowI x.fr).drop (0+(Int.toNat (i:Int))*1)).take 1=[.int .i64 e],(decide (e≤last))=false,(decide (e≥n))=true] hE Try.func113 ⟨hc0,(Qm h1),(rp cI 1 0 1 h1),hc1,hc2,trivial⟩ (by exact AvLe.of_eq (by rw [h]; try rfl))
     · have h:=h.2 (odf hc2)
       obtain ⟨q6_3,h⟩:=h
       exact sQ [0,5,27,28,29] 1 [.b true,.ld (.int .i64 e),.b false,.b false,.stop] [(decide ((i:Int)<(x.fr.length:Int)))=true,0≤(i:Int)∧(i:Int)<(x.fr.length:Int),((rowI x.fr).drop (0+(Int.toNat (i:Int))*1)).take 1=[.int .i64 e],(decide (e≤last))=false,(decide (e≥n))=false,InR .i64 ((i:Int)+1)] hE ⟨hc0,(Qm h1),(rp cI 1 0 1 h1),hc1,hc2,q6_3,trivial⟩ h
 · have h:=h.2 (odf hc0)
   exact eL (.bool true) [.b false] [(decide ((i:Int)<(x.fr.length:Int)))=false] hE Try.func113 ⟨hc0,trivial⟩ (by exact AvLe.of_eq (by rw [h]; try rfl))
def VU (n:Int):Int→List Int→Bool
 | _,[]=>true
 | last,e :: r=>!decide (e≤last) && (!decide (e≥n) && VU n e r)
def Xl (n:Int) (x:Spn):Bool:=Qg x.by_ 0 (n - 1) && (Vl x.c && (!decide (x.fr.length=0) && VU n (-1) x.fr))
theorem spent_ok (n:Int) (x:Spn) (h:1≤n∧n≤10∧x.fr.length≤9223372036854775807):Pure Try.prog 113 [.int .i64 n,.agg [.int .i64 x.by_,.int .i64 x.c,.rsl (rowI x.fr) 0 x.fr.length]] (.bool (Xl n x)):=Qt Try.func113 f113b fun E hE=>by
 refine f113W n x (rv:=Xl n x) hE ⟨by omega,fun h1=>by simp [Xl,h1],fun h1=>⟨fun h2=>by simp [Xl,h2],fun h2=>⟨fun h3=>?_,fun h3=>?_⟩⟩⟩
 · have:x.fr.length=0:=by omega
   simp [Xl,this]
 have hn:¬ x.fr.length=0:=by omega
 have hr:Xl n x=VU n (-1) x.fr:=by simp [Xl,h1,h2,hn]
 have key:∀ (d i:Nat) (last:Int),i+d=x.fr.length→Xl n x=VU n last (x.fr.drop i)→f113G0 E n x last i:=by
  intro d
  induction d with
  | zero =>
   intro i last hd hr
   rw [List.drop_eq_nil_of_le (by omega)] at hr
   exact f113W0 n x last i (rv:=Xl n x) hE ⟨fun h=>by omega,fun _=>hr⟩
  | succ d ih =>
   intro i last hd hr
   have hi:x.fr[i]?=some x.fr[i]:=List.getElem?_eq_getElem (by omega)
   rw [List.drop_eq_getElem_cons (by omega)] at hr
   simp only [VU] at hr
   exact f113W0 n x last i (rv:=Xl n x) hE ⟨fun _=>⟨_,hi,fun h4=>by rw [hr]; simp [h4],fun h4=>⟨fun h5=>by rw [hr]; simp [h5],fun h5=>⟨by omega,ih (i+1) _ (by omega) (by rw [hr]; simp [h4,h5])⟩⟩⟩,fun h=>by omega⟩
 exact key x.fr.length 0 (-1) (by omega) hr
def XO (n:Int) (l:List Spn):Int:=if Qg n 1 10=false then 1 else if (l.length:Int) > 60 then 2 else if l.any (fun x=>!Xl n x)=true then 110 else 0
theorem f112b:Try.f112.body=some (Qf Try.prog 112):=by kernel_rfl
theorem u112 {a c k:List AV} {r:AV} (h:Pure Try.prog 112 (a++c++k) r):Qc Try.prog (.clos 112 a k) c r:=Qk Try.func112 (by kernel_rfl) f112b h
theorem f112W (x:Spn) (n:Int) {E:Env} {rv:Bool} (hE:Qr Try.prog 112 (.bool rv) E)
 (h:((1≤n∧n≤10∧x.fr.length≤9223372036854775807)∧rv=(!(Xl n x)))):G Try.prog E [.code (Qf Try.prog 112)] ⟨[.agg [.int .i64 x.by_,.int .i64 x.c,.rsl (rowI x.fr) 0 x.fr.length],.rptr [.int .i64 n] 0]++unds (Try.f112.ntmps - 2),[]⟩:=by
 obtain ⟨h1,h⟩:=h
 exact eL (.bool (!(Xl n x))) [.v (.bool (Xl n x))] [Qc Try.prog (.clos 113 [] []) [.int .i64 n,.agg [.int .i64 x.by_,.int .i64 x.c,.rsl (rowI x.fr) 0 x.fr.length]] (.bool (Xl n x))] hE Try.func112 ⟨(u113 (spent_ok n x h1)),trivial⟩ (by exact AvLe.of_eq (by rw [h]; try rfl))
theorem notSpn_ok (n:Int) (x:Spn) (h:1≤n∧n≤10∧x.fr.length≤9223372036854775807):Pure Try.prog 112 [.agg [.int .i64 x.by_,.int .i64 x.c,.rsl (rowI x.fr) 0 x.fr.length],.rptr [.int .i64 n] 0] (.bool (!Xl n x)):=Qt Try.func112 f112b fun E hE=>f112W x n (rv:=!Xl n x) hE ⟨h,rfl⟩
def idxS (p:Spn→Bool) (l:List Spn):Int:=match l.findIdx? p with
 | some i=>(i:Int)
 | none=>-1
theorem idxS_from (p:Spn→Bool) (l:List Spn):∀ (d i:Nat),i+d=l.length→(∀ j x,j<i→l[j]?=some x→p x=false)→∀ (Q:Nat→Prop),(∀ i,i<l.length→(∀ x,l[i]?=some x→(p x=true→idxS p l=i))→(∀ x,l[i]?=some x→p x=false→Q (i+1))→Q i) →
 ((∀ x ∈ l,p x=false)→idxS p l=-1→Q l.length)→Q i:=by
 intro d
 induction d with
 | zero =>
  intro i hi hp Q h1 h2
  have:i=l.length:=by omega
  subst this
  have hall:∀ x ∈ l,p x=false:=fun x hx=>by
   obtain ⟨j,hj⟩:=List.getElem?_of_mem hx
   exact hp j x (List.getElem?_eq_some_iff.1 hj).1 hj
  exact h2 hall (by simp only [idxS]; rw [List.findIdx?_eq_none_iff.2 hall])
 | succ d ih =>
  intro i hi hp Q h1 h2
  refine h1 i (by omega) (fun x hx hpx=>?_) (fun x hx hpx=>ih (i+1) (by omega) (fun j y hj hy=>?_) Q h1 h2)
  · have:l.findIdx? p=some i:=by
     rw [List.findIdx?_eq_some_iff_getElem]
     have hlt:=(List.getElem?_eq_some_iff.1 hx).1
     have he:=(List.getElem?_eq_some_iff.1 hx).2
     refine ⟨hlt,by rw [he]; exact hpx,fun j hj=>?_⟩
     have:=hp j _ hj (List.getElem?_eq_getElem (by omega))
     simp [this]
    simp only [idxS,this]
  · rcases Nat.lt_or_ge j i with h | h
    · exact hp j y h hy
    · have:j=i:=by omega
      subst this
      rw [hx] at hy; cases hy; exact hpx
theorem idxS_any (p:Spn→Bool) (l:List Spn):decide (idxS p l≥0)=l.any p:=by
 cases h:l.findIdx? p with
 | none =>
  have e:idxS p l=-1:=by simp only [idxS,h]
  rw [e]
  rw [List.findIdx?_eq_none_iff] at h
  rw [show l.any p=false from by simpa using fun x hx=>by simpa using h x hx]; rfl
 | some i =>
  have e:idxS p l=(i:Int):=by simp only [idxS,h]
  rw [e]
  have:=List.findIdx?_eq_some_iff_getElem.1 h
  obtain ⟨h1,h2,-⟩:=this
  have:l.any p=true:=by rw [List.any_eq_true]; exact ⟨l[i],List.getElem_mem _,h2⟩
  rw [this]; simp
theorem f181b:Try.f181.body=some (Qf Try.prog 181):=by kernel_rfl
theorem u181 {a c k:List AV} {r:AV} (h:Pure Try.prog 181 (a++c++k) r):Qc Try.prog (.clos 181 a k) c r:=Qk Try.func181 (by kernel_rfl) f181b h
def f181K0 (P:Program):List Item:=kAt 400 [.code (Qf P 181)] [.stop]
def f181S0 (l:(List Spn)) (n:Int) (i:Nat):St:=⟨([.rsl (Xg l) 0 l.length,.clos 112 [] [.rptr [.int .i64 n] 0]]++jj 5 ([.int .i64 (l.length:Int),.int .i64 (i:Int)]++Js 10)),[]⟩
def f181G0 (E:Env) (l:(List Spn)) (n:Int) (i:Nat):Prop:=G Try.prog E (f181K0 Try.prog) (f181S0 l n i )
theorem f181W (l:(List Spn)) (n:Int) {E:Env} {rv:Int} (hE:Qr Try.prog 181 (.int .i64 rv) E)
 (h:f181G0 E l n 0):G Try.prog E [.code (Qf Try.prog 181)] ⟨[.rsl (Xg l) 0 l.length,.clos 112 [] [.rptr [.int .i64 n] 0]]++unds (Try.f181.ntmps - 2),[]⟩:=by
 exact sQ [0,1,7,8] 0 [.stop] [] hE trivial h
theorem f181W0 (l:(List Spn)) (n:Int) (i:Nat) {E:Env} {rv:Int} (hE:Qr Try.prog 181 (.int .i64 rv) E)
 (h:(((i:Int)<(l.length:Int)→(∃ se:Spn,l[i]?=some se∧((1≤n∧n≤10∧se.fr.length≤9223372036854775807)∧(((!Xl n se)=true→rv=(i:Int))∧((!Xl n se)=false→((I6 ((i:Int)+1))∧f181G0 E l n (i+1)))))))∧(¬ ((i:Int)<(l.length:Int))→rv=(-1)))):f181G0 E l n i:=by
 rcases bft (decide ((i:Int)<(l.length:Int))) with hc0 | hc0
 · have h:=h.1 (odt hc0)
   obtain ⟨se,h1,h⟩:=h
   obtain ⟨h2,h⟩:=h
   rcases bft (!Xl n se) with hc1 | hc1
   · have h:=h.1 hc1
     exact eL (.int .i64 (i:Int)) [.b true,.ld (.agg [.int .i64 se.by_,.int .i64 se.c,.rsl (rowI se.fr) 0 se.fr.length]),.v (.bool (!Xl n se)),.b true] [(decide ((i:Int)<(l.length:Int)))=true,0≤(i:Int)∧(i:Int)<(l.length:Int),((Xg l).drop (0+(Int.toNat (i:Int))*3)).take 3=[.int .i64 se.by_,.int .i64 se.c,.rsl (rowI se.fr) 0 se.fr.length],Qc Try.prog (.clos 112 [] [.rptr [.int .i64 n] 0]) [.agg [.int .i64 se.by_,.int .i64 se.c,.rsl (rowI se.fr) 0 se.fr.length]] (.bool (!Xl n se)),(!Xl n se)=true] hE Try.func181 ⟨hc0,(Qm h1),(rp cSpn 3 0 3 h1),(u112 (notSpn_ok n se h2)),hc1,trivial⟩ (by exact AvLe.of_eq (by rw [h]; try rfl))
   · have h:=h.2 hc1
     obtain ⟨q6_2,h⟩:=h
     exact sQ [0,1,7,8] 0 [.b true,.ld (.agg [.int .i64 se.by_,.int .i64 se.c,.rsl (rowI se.fr) 0 se.fr.length]),.v (.bool (!Xl n se)),.b false,.stop] [(decide ((i:Int)<(l.length:Int)))=true,0≤(i:Int)∧(i:Int)<(l.length:Int),((Xg l).drop (0+(Int.toNat (i:Int))*3)).take 3=[.int .i64 se.by_,.int .i64 se.c,.rsl (rowI se.fr) 0 se.fr.length],Qc Try.prog (.clos 112 [] [.rptr [.int .i64 n] 0]) [.agg [.int .i64 se.by_,.int .i64 se.c,.rsl (rowI se.fr) 0 se.fr.length]] (.bool (!Xl n se)),(!Xl n se)=false,InR .i64 ((i:Int)+1)] hE ⟨hc0,(Qm h1),(rp cSpn 3 0 3 h1),(u112 (notSpn_ok n se h2)),hc1,q6_2,trivial⟩ h
 · have h:=h.2 (odf hc0)
   exact eL (.int .i64 (-1)) [.b false] [(decide ((i:Int)<(l.length:Int)))=false] hE Try.func181 ⟨hc0,trivial⟩ (by exact AvLe.of_eq (by rw [h]; try rfl))
theorem idxSpn_ok (l:List Spn) (n:Int) (h:1≤n∧n≤10∧l.length≤1000∧∀ x ∈ l,x.fr.length≤9223372036854775807):Pure Try.prog 181 [.rsl (Xg l) 0 l.length,.clos 112 [] [.rptr [.int .i64 n] 0]] (.int .i64 (idxS (fun x=>!Xl n x) l)):=Qt Try.func181 f181b fun E hE=>by
 refine f181W l n hE (idxS_from (fun x=>!Xl n x) l l.length 0 (by omega) (fun j x hj=>by omega) (fun i=>f181G0 E l n i) (fun i hi h1 h2=>?_) (fun _ h2=>?_))
 · have hx:l[i]?=some l[i]:=List.getElem?_eq_getElem hi
   exact f181W0 l n i hE ⟨fun _=>⟨_,hx,⟨h.1,h.2.1,h.2.2.2 _ (List.mem_of_getElem? hx)⟩,fun hp=>h1 _ hx hp,fun hp=>⟨by omega,h2 _ hx hp⟩⟩,fun h=>by omega⟩
 · exact f181W0 l n _ hE ⟨fun h=>by omega,fun _=>h2⟩
theorem f111b:Try.f111.body=some (Qf Try.prog 111):=by kernel_rfl
theorem u111 {a c k:List AV} {r:AV} (h:Pure Try.prog 111 (a++c++k) r):Qc Try.prog (.clos 111 a k) c r:=Qk Try.func111 (by kernel_rfl) f111b h
theorem f111W (l:(List Spn)) (n:Int) {E:Env} {rv:Bool} (hE:Qr Try.prog 111 (.bool rv) E)
 (h:((1≤n∧n≤10∧l.length≤1000∧∀ x ∈ l,x.fr.length≤9223372036854775807)∧rv=(decide ((idxS (fun x=>!Xl n x) l)≥0)))):G Try.prog E [.code (Qf Try.prog 111)] ⟨[.rsl (Xg l) 0 l.length,.clos 112 [] [.rptr [.int .i64 n] 0]]++unds (Try.f111.ntmps - 2),[]⟩:=by
 obtain ⟨h1,h⟩:=h
 exact eL (.bool (decide ((idxS (fun x=>!Xl n x) l)≥0))) [.v (.int .i64 (idxS (fun x=>!Xl n x) l))] [Qc Try.prog (.clos 181 [] []) [.rsl (Xg l) 0 l.length,.clos 112 [] [.rptr [.int .i64 n] 0]] (.int .i64 (idxS (fun x=>!Xl n x) l))] hE Try.func111 ⟨(u181 (idxSpn_ok l n h1)),trivial⟩ (by exact AvLe.of_eq (by rw [h]; try rfl))
theorem anySpn_ok (l:List Spn) (n:Int) (h:1≤n∧n≤10∧l.length≤1000∧∀ x ∈ l,x.fr.length≤9223372036854775807):Pure Try.prog 111 [.rsl (Xg l) 0 l.length,.clos 112 [] [.rptr [.int .i64 n] 0]] (.bool (l.any fun x=>!Xl n x)):=Qt Try.func111 f111b fun E hE =>
 f111W l n hE ⟨h,(idxS_any _ _).symm⟩
theorem f47b:Try.f47.body=some (Qf Try.prog 47):=by kernel_rfl
theorem u47 {a c k:List AV} {r:AV} (h:Pure Try.prog 47 (a++c++k) r):Qc Try.prog (.clos 47 a k) c r:=Qk Try.func47 (by kernel_rfl) f47b h
def f47K0 (P:Program):List Item:=kAt 400 [.code (Qf P 47)] [.b false,.b false,.b false,.stop]
def f47S0 (n:Int) (l:(List Spn)) (v1:List Int) (i:Nat) (g1:Nat):St:=⟨(jj 6 ([.sl 1 g1 0 v1.length 1]++jj 15 ([.rsl (Xg l) 0 l.length,.int .i64 (l.length:Int),.int .i64 (i:Int)]++Js 49))),[⟨true,0,1,true,[.int .i64 n],false⟩,⟨true,g1,1,true,(rowI v1),true⟩]⟩
def f47G0 (E:Env) (n:Int) (l:(List Spn)) (v1:List Int) (i:Nat):Prop:=∀ g1:Nat,G Try.prog E (f47K0 Try.prog) (f47S0 n l v1 i g1)
def f47K1 (P:Program):List Item:=kAt 400 [.code (Qf P 47)] [.b false,.b false,.b false,.b true,.stop]
def f47S1 (n:Int) (l:(List Spn)) (k:(List Int)) (k1:Nat) (v1:List Int) (v2_0:Int) (v2_1:Int) (v2_2:(List Int)) (k11:Nat) (k111:Nat) (g1:Nat):St:=⟨(jj 6 ([.sl 1 g1 0 v1.length 1,J,.ptr 2 0 0]++jj 13 ([.rsl (Xg l) 0 l.length,.int .i64 (l.length:Int),.int .i64 (k111:Int)]++jj 13 ([.rsl (rowI k) 0 k.length,.int .i64 (k1:Int),.int .i64 (k11:Int)]++Js 33)))),[⟨true,0,1,true,[.int .i64 n],false⟩,⟨true,g1,1,true,(rowI v1),true⟩,⟨true,0,1,true,[.int .i64 v2_0,.int .i64 v2_1,.rsl (rowI v2_2) 0 v2_2.length],false⟩]⟩
def f47G1 (E:Env) (n:Int) (l:(List Spn)) (k:(List Int)) (k1:Nat) (v1:List Int) (v2_0:Int) (v2_1:Int) (v2_2:(List Int)) (k11:Nat) (k111:Nat):Prop:=∀ g1:Nat,G Try.prog E (f47K1 Try.prog) (f47S1 n l k k1 v1 v2_0 v2_1 v2_2 k11 k111 g1)
theorem f47W (n:Int) (l:(List Spn)) {E:Env} {rv:((List Int) × Int)} (hE:Qr Try.prog 47 (.tup [.rsl (rowI rv.1) 0 rv.1.length,.int .i64 rv.2]) E)
 (h:(((Qg n 1 10)=false→rv=(([]:List Int),1))∧((Qg n 1 10)=true→(((l.length:Int) > 60→rv=(([]:List Int),2))∧(¬ ((l.length:Int) > 60)→((1≤n∧n≤10∧l.length≤1000∧∀ x ∈ l,x.fr.length≤9223372036854775807)∧(((l.any (fun x=>!Xl n x))=true→rv=(([]:List Int),110))∧((l.any (fun x=>!Xl n x))=false→((0≤n∧n≤2147483648)∧f47G0 E n l (List.replicate (Int.toNat n) (0:Int)) 0))))))))):G Try.prog E [.code (Qf Try.prog 47)] ⟨[.int .i64 n,.rsl (Xg l) 0 l.length]++unds (Try.f47.ntmps - 2),[]⟩:=by
 rcases bft (!(Qg n 1 10)) with hc0 | hc0
 · have h:=h.1 (bnT hc0)
   exact eL (.tup [.nilSl,.int .i64 1]) [.v (.bool (Qg n 1 10)),.b true] [Qc Try.prog (.clos 110 [] []) [.int .i64 n,.int .i64 1,.int .i64 10] (.bool (Qg n 1 10)),(!(Qg n 1 10))=true] hE Try.func47 ⟨(u110 (QP n 1 10)),hc0,trivial⟩ (by rw [h]; exact (VB ⟨Vq,⟨AvLe.of_eq rfl,trivial⟩⟩))
 · have h:=h.2 (bnF hc0)
   rcases bft (decide ((l.length:Int) > 60)) with hc1 | hc1
   · have h:=h.1 (odt hc1)
     exact eL (.tup [.nilSl,.int .i64 2]) [.v (.bool (Qg n 1 10)),.b false,.b true] [Qc Try.prog (.clos 110 [] []) [.int .i64 n,.int .i64 1,.int .i64 10] (.bool (Qg n 1 10)),(!(Qg n 1 10))=false,(decide ((l.length:Int) > 60))=true] hE Try.func47 ⟨(u110 (QP n 1 10)),hc0,hc1,trivial⟩ (by rw [h]; exact (VB ⟨Vq,⟨AvLe.of_eq rfl,trivial⟩⟩))
   · have h:=h.2 (odf hc1)
     obtain ⟨h1,h⟩:=h
     rcases bft (l.any (fun x=>!Xl n x)) with hc2 | hc2
     · have h:=h.1 hc2
       exact eL (.tup [.nilSl,.int .i64 110]) [.v (.bool (Qg n 1 10)),.b false,.b false,.v (.bool (l.any (fun x=>!Xl n x))),.b true] [Qc Try.prog (.clos 110 [] []) [.int .i64 n,.int .i64 1,.int .i64 10] (.bool (Qg n 1 10)),(!(Qg n 1 10))=false,(decide ((l.length:Int) > 60))=false,Qc Try.prog (.clos 111 [] []) [.rsl (Xg l) 0 l.length,.clos 112 [] [.rptr [.int .i64 n] 0]] (.bool (l.any (fun x=>!Xl n x))),(l.any (fun x=>!Xl n x))=true] hE Try.func47 ⟨(u110 (QP n 1 10)),hc0,hc1,(u111 (anySpn_ok l n h1)),hc2,trivial⟩ (by rw [h]; exact (VB ⟨Vq,⟨AvLe.of_eq rfl,trivial⟩⟩))
     · have h:=h.2 hc2
       obtain ⟨h2,h⟩:=h
       refine sP (f47K0 Try.prog) ⟨(jj 6 ([.sl 1 0 0 (Int.toNat n) 1]++jj 15 ([.rsl (Xg l) 0 l.length,.int .i64 (l.length:Int),.int .i64 0]++Js 49))),[⟨true,0,1,true,[.int .i64 n],false⟩,⟨true,0,1,true,((List.replicate (Int.toNat n) ([.int .i64 0]:List AV)).flatten),true⟩]⟩ [6,22,23,24] 2 [.v (.bool (Qg n 1 10)),.b false,.b false,.v (.bool (l.any (fun x=>!Xl n x))),.b false,.stop] [Qc Try.prog (.clos 110 [] []) [.int .i64 n,.int .i64 1,.int .i64 10] (.bool (Qg n 1 10)),(!(Qg n 1 10))=false,(decide ((l.length:Int) > 60))=false,Qc Try.prog (.clos 111 [] []) [.rsl (Xg l) 0 l.length,.clos 112 [] [.rptr [.int .i64 n] 0]] (.bool (l.any (fun x=>!Xl n x))),(l.any (fun x=>!Xl n x))=false,0≤n∧n≤n∧n≤2147483648] hE ⟨(u110 (QP n 1 10)),hc0,hc1,(u111 (anySpn_ok l n h1)),hc2,⟨h2.1,by omega,h2.2⟩,trivial⟩ ?_
       have h:=(h 0)
       simp only [f47G0,f47S0,List.length_set,List.length_replicate] at h
       rw [(show (List.replicate (Int.toNat n) ([.int .i64 0]:List AV)).flatten=rowI (List.replicate (Int.toNat n) (0:Int)) from row_rep cI _ _)]
       exact h
theorem f47W0 (n:Int) (l:(List Spn)) (v1:List Int) (i:Nat) {E:Env} {rv:((List Int) × Int)} (hE:Qr Try.prog 47 (.tup [.rsl (rowI rv.1) 0 rv.1.length,.int .i64 rv.2]) E)
 (h:(((i:Int)<(l.length:Int)→(∃ se:Spn,l[i]?=some se∧(0≤se.by_∧(∃ e:Int,v1[Int.toNat se.by_]?=some e∧((I6 (e+se.c))∧f47G1 E n l se.fr se.fr.length (v1.set (Int.toNat se.by_) (e+se.c)) se.by_ se.c se.fr 0 i)))))∧(¬ ((i:Int)<(l.length:Int))→rv=(v1,0)))):f47G0 E n l v1 i:=by
 intro g1
 rcases bft (decide ((i:Int)<(l.length:Int))) with hc0 | hc0
 · have h:=h.1 (odt hc0)
   obtain ⟨se,h1,h⟩:=h
   obtain ⟨h3,h⟩:=h
   obtain ⟨e,h2,h⟩:=h
   obtain ⟨q10_1,h⟩:=h
   refine sP (f47K1 Try.prog) ⟨(jj 6 ([.sl 1 g1 0 v1.length 1,J,.ptr 2 0 0]++jj 13 ([.rsl (Xg l) 0 l.length,.int .i64 (l.length:Int),.int .i64 (i:Int)]++jj 13 ([.rsl (rowI se.fr) 0 se.fr.length,.int .i64 (se.fr.length:Int),.int .i64 0]++Js 33)))),[⟨true,0,1,true,[.int .i64 n],false⟩,⟨true,g1,1,true,(Qv (rowI v1) (0+(Int.toNat se.by_)*1) [.int .i64 (e+se.c)]),true⟩,⟨true,0,1,true,[.int .i64 se.by_,.int .i64 se.c,.rsl (rowI se.fr) 0 se.fr.length],false⟩]⟩ [6,8,22,23,24,38,39,40] 3 [.b true,.ld (.agg [.int .i64 se.by_,.int .i64 se.c,.rsl (rowI se.fr) 0 se.fr.length]),.auto,.ld (.int .i64 e),.stop] [(decide ((i:Int)<(l.length:Int)))=true,0≤(i:Int)∧(i:Int)<(l.length:Int),((Xg l).drop (0+(Int.toNat (i:Int))*3)).take 3=[.int .i64 se.by_,.int .i64 se.c,.rsl (rowI se.fr) 0 se.fr.length],3≤3,0≤se.by_∧se.by_<(v1.length:Int),g1=g1,g1=g1,((rowI v1).drop (0+(Int.toNat se.by_)*1)).take 1=[.int .i64 e],InR .i64 (e+se.c),0≤se.by_∧se.by_<(v1.length:Int),g1=g1,((0+(Int.toNat se.by_)*1)+1)≤(rowI v1).length,g1=g1] hE ⟨hc0,(Qm h1),(rp cSpn 3 0 3 h1),(by decide),(Qw h3 h2),rfl,rfl,(rp cI 1 0 1 h2),q10_1,(Qw h3 h2),rfl,(rf cI 1 0 1 h2),rfl,trivial⟩ ?_
   have h:=(h g1)
   simp only [f47S1,List.length_set] at h
   rw [(show Qv (rowI v1) (0+(Int.toNat se.by_)*1) [.int .i64 (e+se.c)]=rowI (v1.set (Int.toNat se.by_) (e+se.c)) from QH cI (s:=1) (k:=0) (fun _=>rfl) h2 rfl (by first | decide | simp))]
   exact h
 · have h:=h.2 (odf hc0)
   exact eL (.tup [.rsl (rowI v1) 0 v1.length,.int .i64 0]) [.b false] [(decide ((i:Int)<(l.length:Int)))=false,g1=g1] hE Try.func47 ⟨hc0,rfl,trivial⟩ (by exact AvLe.of_eq (by rw [h]; try rfl))
theorem f47W1 (n:Int) (l:(List Spn)) (k:(List Int)) (k1:Nat) (v1:List Int) (v2_0:Int) (v2_1:Int) (v2_2:(List Int)) (k11:Nat) (k111:Nat) {E:Env} {rv:((List Int) × Int)} (hE:Qr Try.prog 47 (.tup [.rsl (rowI rv.1) 0 rv.1.length,.int .i64 rv.2]) E)
 (h:(((k11:Int)<(k1:Int)→(∃ e:Int,k[k11]?=some e∧(0≤e∧(∃ e1:Int,v1[Int.toNat e]?=some e1∧((I6 (Int.tdiv v2_1 (v2_2.length:Int)))∧((v2_2.length:Int) ≠ 0∧((I6 (e1 - (Int.tdiv v2_1 (v2_2.length:Int))))∧((v2_2.length:Int) ≠ 0∧(((k11:Int)<(Int.tmod v2_1 (v2_2.length:Int))→(0≤e∧(∃ e2:Int,(v1.set (Int.toNat e) (e1 - (Int.tdiv v2_1 (v2_2.length:Int))))[Int.toNat e]?=some e2∧((I6 (e2 - 1))∧((I6 ((k11:Int)+1))∧f47G1 E n l k k1 ((v1.set (Int.toNat e) (e1 - (Int.tdiv v2_1 (v2_2.length:Int)))).set (Int.toNat e) (e2 - 1)) v2_0 v2_1 v2_2 (k11+1) k111)))))∧(¬ ((k11:Int)<(Int.tmod v2_1 (v2_2.length:Int)))→((I6 ((k11:Int)+1))∧f47G1 E n l k k1 (v1.set (Int.toNat e) (e1 - (Int.tdiv v2_1 (v2_2.length:Int)))) v2_0 v2_1 v2_2 (k11+1) k111)))))))))))∧(¬ ((k11:Int)<(k1:Int))→((I6 ((k111:Int)+1))∧f47G0 E n l v1 (k111+1))))):f47G1 E n l k k1 v1 v2_0 v2_1 v2_2 k11 k111:=by
 intro g1
 rcases bft (decide ((k11:Int)<(k1:Int))) with hc0 | hc0
 · have h:=h.1 (odt hc0)
   obtain ⟨e,h1,h⟩:=h
   obtain ⟨h3,h⟩:=h
   obtain ⟨e1,h2,h⟩:=h
   obtain ⟨q9_1,h⟩:=h
   obtain ⟨q10_1,h⟩:=h
   obtain ⟨q11_1,h⟩:=h
   obtain ⟨q16_1,h⟩:=h
   rcases bft (decide ((k11:Int)<(Int.tmod v2_1 (v2_2.length:Int)))) with hc1 | hc1
   · have h:=h.1 (odt hc1)
     obtain ⟨h5,h⟩:=h
     obtain ⟨e2,h4,h⟩:=h
     obtain ⟨q23_2,h⟩:=h
     obtain ⟨q28_2,h⟩:=h
     refine sP (f47K1 Try.prog) ⟨(jj 6 ([.sl 1 g1 0 v1.length 1,J,.ptr 2 0 0]++jj 13 ([.rsl (Xg l) 0 l.length,.int .i64 (l.length:Int),.int .i64 (k111:Int)]++jj 13 ([.rsl (rowI k) 0 k.length,.int .i64 (k1:Int),.int .i64 ((k11:Int)+1)]++Js 33)))),[⟨true,0,1,true,[.int .i64 n],false⟩,⟨true,g1,1,true,(Qv (Qv (rowI v1) (0+(Int.toNat e)*1) [.int .i64 (e1 - (Int.tdiv v2_1 (v2_2.length:Int)))]) (0+(Int.toNat e)*1) [.int .i64 (e2 - 1)]),true⟩,⟨true,0,1,true,[.int .i64 v2_0,.int .i64 v2_1,.rsl (rowI v2_2) 0 v2_2.length],false⟩]⟩ [6,8,22,23,24,38,39,40] 3 [.b true,.ld (.int .i64 e),.ld (.int .i64 e1),.b true,.ld (.int .i64 e2),.stop] [(decide ((k11:Int)<(k1:Int)))=true,0≤(k11:Int)∧(k11:Int)<(k.length:Int),((rowI k).drop (0+(Int.toNat (k11:Int))*1)).take 1=[.int .i64 e],0≤e∧e<(v1.length:Int),g1=g1,g1=g1,((rowI v1).drop (0+(Int.toNat e)*1)).take 1=[.int .i64 e1],InR .i64 (Int.tdiv v2_1 (v2_2.length:Int)),(v2_2.length:Int) ≠ 0,InR .i64 (e1 - (Int.tdiv v2_1 (v2_2.length:Int))),0≤e∧e<(v1.length:Int),g1=g1,((0+(Int.toNat e)*1)+1)≤(rowI v1).length,g1=g1,(v2_2.length:Int) ≠ 0,(decide ((k11:Int)<(Int.tmod v2_1 (v2_2.length:Int))))=true,0≤e∧e<(v1.length:Int),g1=g1,g1=g1,((Qv (rowI v1) (0+(Int.toNat e)*1) [.int .i64 (e1 - (Int.tdiv v2_1 (v2_2.length:Int)))]).drop (0+(Int.toNat e)*1)).take 1=[.int .i64 e2],InR .i64 (e2 - 1),0≤e∧e<(v1.length:Int),g1=g1,((0+(Int.toNat e)*1)+1)≤(Qv (rowI v1) (0+(Int.toNat e)*1) [.int .i64 (e1 - (Int.tdiv v2_1 (v2_2.length:Int)))]).length,g1=g1,InR .i64 ((k11:Int)+1)] hE ⟨hc0,(Qm h1),(rp cI 1 0 1 h1),(Qw h3 h2),rfl,rfl,(rp cI 1 0 1 h2),q9_1,q10_1,q11_1,(Qw h3 h2),rfl,(rf cI 1 0 1 h2),rfl,q16_1,hc1,(by have hx:=Qw h5 h4; simpa using hx),rfl,rfl,(by rw [(show Qv (rowI v1) (0+(Int.toNat e)*1) [.int .i64 (e1 - (Int.tdiv v2_1 (v2_2.length:Int)))]=rowI (v1.set (Int.toNat e) (e1 - (Int.tdiv v2_1 (v2_2.length:Int)))) from QH cI (s:=1) (k:=0) (fun _=>rfl) h2 rfl (by first | decide | simp))]; exact rp cI 1 0 1 h4),q23_2,(by have hx:=Qw h5 h4; simpa using hx),rfl,(by rw [(show Qv (rowI v1) (0+(Int.toNat e)*1) [.int .i64 (e1 - (Int.tdiv v2_1 (v2_2.length:Int)))]=rowI (v1.set (Int.toNat e) (e1 - (Int.tdiv v2_1 (v2_2.length:Int)))) from QH cI (s:=1) (k:=0) (fun _=>rfl) h2 rfl (by first | decide | simp))]; exact rf cI 1 0 1 h4),rfl,q28_2,trivial⟩ ?_
     have h:=(h g1)
     simp only [f47S1,List.length_set] at h
     rw [(show Qv (rowI v1) (0+(Int.toNat e)*1) [.int .i64 (e1 - (Int.tdiv v2_1 (v2_2.length:Int)))]=rowI (v1.set (Int.toNat e) (e1 - (Int.tdiv v2_1 (v2_2.length:Int)))) from QH cI (s:=1) (k:=0) (fun _=>rfl) h2 rfl (by first | decide | simp))]; rw [(show Qv (rowI (v1.set (Int.toNat e) (e1 - (Int.tdiv v2_1 (v2_2.length:Int))))) (0+(Int.toNat e)*1) [.int .i64 (e2 - 1)]=rowI ((v1.set (Int.toNat e) (e1 - (Int.tdiv v2_1 (v2_2.length:Int)))).set (Int.toNat e) (e2 - 1)) from QH cI (s:=1) (k:=0) (fun _=>rfl) h4 rfl (by first | decide | simp))]
     exact h
   · have h:=h.2 (odf hc1)
     obtain ⟨q18_2,h⟩:=h
     refine sP (f47K1 Try.prog) ⟨(jj 6 ([.sl 1 g1 0 v1.length 1,J,.ptr 2 0 0]++jj 13 ([.rsl (Xg l) 0 l.length,.int .i64 (l.length:Int),.int .i64 (k111:Int)]++jj 13 ([.rsl (rowI k) 0 k.length,.int .i64 (k1:Int),.int .i64 ((k11:Int)+1)]++Js 33)))),[⟨true,0,1,true,[.int .i64 n],false⟩,⟨true,g1,1,true,(Qv (rowI v1) (0+(Int.toNat e)*1) [.int .i64 (e1 - (Int.tdiv v2_1 (v2_2.length:Int)))]),true⟩,⟨true,0,1,true,[.int .i64 v2_0,.int .i64 v2_1,.rsl (rowI v2_2) 0 v2_2.length],false⟩]⟩ [6,8,22,23,24,38,39,40] 3 [.b true,.ld (.int .i64 e),.ld (.int .i64 e1),.b false,.stop] [(decide ((k11:Int)<(k1:Int)))=true,0≤(k11:Int)∧(k11:Int)<(k.length:Int),((rowI k).drop (0+(Int.toNat (k11:Int))*1)).take 1=[.int .i64 e],0≤e∧e<(v1.length:Int),g1=g1,g1=g1,((rowI v1).drop (0+(Int.toNat e)*1)).take 1=[.int .i64 e1],InR .i64 (Int.tdiv v2_1 (v2_2.length:Int)),(v2_2.length:Int) ≠ 0,InR .i64 (e1 - (Int.tdiv v2_1 (v2_2.length:Int))),0≤e∧e<(v1.length:Int),g1=g1,((0+(Int.toNat e)*1)+1)≤(rowI v1).length,g1=g1,(v2_2.length:Int) ≠ 0,(decide ((k11:Int)<(Int.tmod v2_1 (v2_2.length:Int))))=false,InR .i64 ((k11:Int)+1)] hE ⟨hc0,(Qm h1),(rp cI 1 0 1 h1),(Qw h3 h2),rfl,rfl,(rp cI 1 0 1 h2),q9_1,q10_1,q11_1,(Qw h3 h2),rfl,(rf cI 1 0 1 h2),rfl,q16_1,hc1,q18_2,trivial⟩ ?_
     have h:=(h g1)
     simp only [f47S1,List.length_set] at h
     rw [(show Qv (rowI v1) (0+(Int.toNat e)*1) [.int .i64 (e1 - (Int.tdiv v2_1 (v2_2.length:Int)))]=rowI (v1.set (Int.toNat e) (e1 - (Int.tdiv v2_1 (v2_2.length:Int)))) from QH cI (s:=1) (k:=0) (fun _=>rfl) h2 rfl (by first | decide | simp))]
     exact h
 · have h:=h.2 (odf hc0)
   obtain ⟨q1_1,h⟩:=h
   exact sQ [6,22,23,24] 2 [.b false,.stop] [(decide ((k11:Int)<(k1:Int)))=false,InR .i64 ((k111:Int)+1)] hE ⟨hc0,q1_1,trivial⟩ (h g1)
def QaH (v:List Int) (i c:Int):List Int:=v.set (Int.toNat i) (v.getD (Int.toNat i) 0+c)
def KB (c:Int) (m:Nat):Nat→List Int→List Int→List Int
 | _,[],v=>v
 | k,p :: r,v=>KB c m (k+1) r (QaH v p (-owe c m k))
def spDo (v:List Int) (x:Spn):List Int:=KB x.c x.fr.length 0 x.fr (QaH v x.by_ x.c)
def Vv (l:List Spn) (v:List Int):List Int:=l.foldl spDo v
def balK (n:Int) (l:List Spn):List Int × Int:=if XO n l=0 then (Vv l (List.replicate (Int.toNat n) 0),0) else ([],XO n l)
theorem Qbk {n:Int}:∀ {l:List Int} {last:Int},VU n last l=true→(∀ p ∈ l,last<p∧p<n)∧(l ≠ []→last+(l.length:Int)<n)
 | [],last,_=>by simp
 | e :: r,last,h=>by
  simp only [VU,Bool.and_eq_true,Bool.not_eq_true',decide_eq_false_iff_not] at h
  obtain ⟨h1,h2,h3⟩:=h
  obtain ⟨q1,q2⟩:=Qbk h3
  refine ⟨fun p hp=>?_,fun _=>?_⟩
  · rcases List.mem_cons.1 hp with rfl | hp
    · omega
    · have:=q1 p hp; omega
  · by_cases hr:r=[]
    · subst hr; simp; omega
    · have:=q2 hr
      simp only [List.length_cons,Int.natCast_add]; omega
theorem spn_of {n:Int} {x:Spn} (h:Xl n x=true):(0≤x.by_∧x.by_≤n - 1)∧(0≤x.c∧x.c≤1000000000)∧0<x.fr.length∧(∀ p ∈ x.fr,0≤p∧p<n)∧(x.fr.length:Int)≤n:=by
 simp only [Xl,Bool.and_eq_true,Bool.not_eq_true',decide_eq_false_iff_not] at h
 obtain ⟨h1,h2,h3,h4⟩:=h
 obtain ⟨q1,q2⟩:=Qbk h4
 have:x.fr ≠ []:=fun e=>h3 (by rw [e]; rfl)
 have:=q2 this
 exact ⟨Qx.1 h1,Qx.1 h2,by omega,fun p hp=>by have:=q1 p hp; omega,by omega⟩
theorem sp_zero {n:Int} {l:List Spn} (h:XO n l=0):(1≤n∧n≤10)∧l.length≤60∧∀ x ∈ l,Xl n x=true:=by
 simp only [XO] at h
 split at h
 · cases h
 rename_i h1
 split at h
 · cases h
 rename_i h2
 split at h
 · cases h
 rename_i h3
 exact ⟨Qx.1 (by simpa using h1),by omega,by simpa using h3⟩
theorem owe_bd {c:Int} {m k:Nat} (hc:0≤c∧c≤1000000000) (hm:0<m):(0≤Int.tdiv c m∧Int.tdiv c m≤1000000000)∧(0≤owe c m k∧owe c m k≤1000000001):=by
 have e:Int.tdiv c m=c / m:=Int.tdiv_eq_ediv_of_nonneg hc.1
 have h1:=Int.ediv_nonneg hc.1 (show (0:Int)≤m by omega)
 have h2:=Int.ediv_le_self (m:Int) hc.1
 rw [owe,e]
 refine ⟨by omega,?_⟩
 split <;> omega
theorem at_get {v:List Int} {n i:Int} (hn:(v.length:Int)=n) (h0:0≤i) (h:i<n):v[Int.toNat i]?=some (v.getD (Int.toNat i) 0):=by simp [List.getD,show Int.toNat i<v.length by omega]
theorem addTo_bd {v:List Int} {n i c a b:Int} (hn:(v.length:Int)=n) (h0:0≤i) (h:i<n) (hb:∀ y ∈ v,-a≤y∧y≤b) (hc:-1000000001≤c∧c≤1000000001):∀ y ∈ QaH v i c,-(a+1000000001)≤y∧y≤b+1000000001:=fun y hy=>by
 rcases List.mem_or_eq_of_mem_set hy with hy | rfl
 · have:=hb y hy; omega
 · have:=hb _ (List.mem_of_getElem? (at_get hn h0 h)); omega
theorem Ye {v:List Int} {i c:Int}:(QaH v i c).length=v.length:=by simp [QaH]
theorem qG {c:Int} {m:Nat}:∀ {l:List Int} {k:Nat} {v:List Int},(KB c m k l v).length=v.length
 | [],k,v=>rfl
 | p :: l,k,v=>by rw [KB,qG,Ye]
theorem QcI (n:Int) (l:List Spn) (h:l.length≤9223372036854775807∧∀ x ∈ l,x.fr.length≤9223372036854775807):Pure Try.prog 47 [.int .i64 n,.rsl (Xg l) 0 l.length] (.tup [.rsl (rowI (balK n l).1) 0 (balK n l).1.length,.int .i64 (balK n l).2]):=Qt Try.func47 f47b fun E hE=>by
 refine f47W n l (rv:=balK n l) hE ⟨fun h1=>by rw [balK,show XO n l=1 by rw [XO,if_pos h1]]; rfl,fun h1=>⟨fun h2=>by rw [balK,show XO n l=2 by rw [XO,if_neg (by simp [h1]),if_pos h2]]; rfl,fun h2=>?_⟩⟩
 have hn:=Qx.1 h1
 refine ⟨⟨hn.1,hn.2,by omega,h.2⟩,fun h3=>by rw [balK,show XO n l=110 by rw [XO,if_neg (by simp [h1]),if_neg h2,if_pos h3]]; rfl,fun h3=>⟨by omega,?_⟩⟩
 have hz:XO n l=0:=by rw [XO,if_neg (by simp [h1]),if_neg h2,if_neg (by simp [h3])]
 have hr:balK n l=(Vv l (List.replicate (Int.toNat n) 0),0):=by rw [balK,if_pos hz]
 obtain ⟨-,hl,hs⟩:=sp_zero hz
 have key:∀ (d i:Nat) (v:List Int),i+d=l.length→(v.length:Int)=n→(∀ y ∈ v,-(11000000011*(i:Int))≤y∧y≤11000000011*(i:Int))→balK n l=(Vv (l.drop i) v,0)→f47G0 E n l v i:=by
  intro d
  induction d with
  | zero =>
   intro i v hd hv hb hk
   rw [List.drop_eq_nil_of_le (by omega)] at hk
   exact f47W0 n l v i (rv:=balK n l) hE ⟨fun h=>by omega,fun _=>hk⟩
  | succ d ih =>
   intro i v hd hv hb hk
   have hi:l[i]?=some l[i]:=List.getElem?_eq_getElem (by omega)
   rw [List.drop_eq_getElem_cons (by omega)] at hk
   have hx:=spn_of (hs _ (List.mem_of_getElem? hi))
   have hxl:=h.2 _ (List.mem_of_getElem? hi)
   generalize l[i]=x at hi hk hx hxl
   obtain ⟨x1,x2,x3,x4,x5⟩:=hx
   have g1:=at_get hv x1.1 (by omega)
   have m1:=hb _ (List.mem_of_getElem? g1)
   refine f47W0 n l v i (rv:=balK n l) hE ⟨fun _=>⟨x,hi,x1.1,_,g1,by omega,?_⟩,fun h=>by omega⟩
   have inner:∀ (d k:Nat) (v:List Int),k+d=x.fr.length→(v.length:Int)=n→(∀ y ∈ v,-(11000000011*(i:Int)+1000000001*((k:Int)+1))≤y∧y≤11000000011*(i:Int)+1000000001*((k:Int)+1))→balK n l=(Vv (l.drop (i+1)) (KB x.c x.fr.length k (x.fr.drop k) v),0)→f47G1 E n l x.fr x.fr.length v x.by_ x.c x.fr k i:=by
    intro d
    induction d with
    | zero =>
     intro k v hd hv hb hk
     rw [show x.fr.drop k=[] from List.drop_eq_nil_of_le (by omega)] at hk
     exact f47W1 n l x.fr x.fr.length v x.by_ x.c x.fr k i (rv:=balK n l) hE ⟨fun h=>by omega,fun _=>⟨by omega,ih (i+1) v (by omega) hv (fun y hy=>by have:=hb y hy; omega) hk⟩⟩
    | succ d ih2 =>
     intro k v hd hv hb hk
     have hj:x.fr[k]?=some x.fr[k]:=List.getElem?_eq_getElem (by omega)
     rw [show x.fr.drop k=x.fr[k] :: x.fr.drop (k+1) from List.drop_eq_getElem_cons (by omega)] at hk
     have hp:=x4 _ (List.mem_of_getElem? hj)
     generalize x.fr[k]=p at hj hk hp
     have g2:=at_get hv hp.1 hp.2
     have m2:=hb _ (List.mem_of_getElem? g2)
     obtain ⟨o1,o2⟩:=owe_bd (k:=k) x2 x3
     have nb:=addTo_bd (c:=-owe x.c x.fr.length k) hv hp.1 hp.2 hb (by omega)
     have next:=ih2 (k+1) (QaH v p (-owe x.c x.fr.length k)) (by omega) (by rw [Ye]; exact hv) (fun y hy=>by have:=nb y hy; omega) hk
     refine f47W1 n l x.fr x.fr.length v x.by_ x.c x.fr k i (rv:=balK n l) hE ⟨fun _=>⟨p,hj,hp.1,_,g2,by omega,by omega,by omega,by omega,fun h4=>⟨hp.1,v.getD (Int.toNat p) 0 - Int.tdiv x.c x.fr.length,?_,by omega,by omega,?_⟩,fun h4=>⟨by omega,?_⟩⟩,fun h=>by omega⟩
     · rw [List.getElem?_set_self (by omega)]
     · rw [List.set_set]
       have:v.getD (Int.toNat p) 0 - Int.tdiv x.c x.fr.length - 1=v.getD (Int.toNat p) 0+-owe x.c x.fr.length k:=by rw [owe,if_pos h4]; omega
       rw [this]; exact next
     · have:v.getD (Int.toNat p) 0 - Int.tdiv x.c x.fr.length=v.getD (Int.toNat p) 0+-owe x.c x.fr.length k:=by rw [owe,if_neg h4]; omega
       rw [this]; exact next
   have nb:=addTo_bd (c:=x.c) hv x1.1 (by omega) hb (by omega)
   exact inner x.fr.length 0 (QaH v x.by_ x.c) (by omega) (by rw [Ye]; exact hv) (fun y hy=>by have:=nb y hy; omega) hk
 exact key l.length 0 _ (by omega) (by simp; omega) (fun y hy=>by rw [List.eq_of_mem_replicate hy]; omega) hr
end Go.Proofs.Ytemklbioijmjiaa
namespace Go.Proofs.Ytemklbioijmjiaa
open Go Ax
open Go.Proofs
structure Pla where
 town:Int
 used:Int
def cPla (t:Pla):List AV:=[.int .i64 t.town,.int .i64 t.used]
def QU (l:List Pla):List AV:=l.flatMap cPla
structure Cst where
 ticks:Int
 legs:Int
structure Stq where
 p:Pla
 c:Cst
def cStq (t:Stq):List AV:=[.int .i64 t.p.town,.int .i64 t.p.used,.int .i64 t.c.ticks,.int .i64 t.c.legs]
def Qi (l:List Stq):List AV:=l.flatMap cStq
/-- The first that is not 0. -/
def orG:List Int→Int
 | []=>0
 | x :: l=>if x ≠ 0 then x else orG l
def cmpC (a b:Cst):Int:=orG [a.ticks - b.ticks,a.legs - b.legs]
/-- A cost that a journey may have. -/
def XZ (c:Cst):Prop:=0≤c.ticks∧c.ticks≤1000000000∧0≤c.legs∧c.legs≤1000000000
def zq:Stq:=⟨⟨0,0⟩,⟨0,0⟩⟩
def atQ (l:List Stq) (i:Int):Stq:=l.getD i.toNat zq
theorem VZ {l:List Stq} {i:Int} (h0:0≤i) (h1:i<(l.length:Int)):l[i.toNat]?=some (atQ l i):=by
 rw [atQ,List.getD_eq_getElem?_getD,List.getElem?_eq_getElem (show i.toNat<l.length by omega)]; rfl
def QX (l:List Stq) (i k:Int):Bool:=decide (cmpC (atQ l i).c (atQ l k).c<0)
def swpQ (l:List Stq) (i k:Int):List Stq:=(l.set i.toNat (atQ l k)).set k.toNat (atQ l i)
theorem Xk {l:List Stq} {i k:Int}:(swpQ l i k).length=l.length:=by simp [swpQ]
theorem VC {l:List Stq} {i k:Int} (hi:0≤i∧i<(l.length:Int)) (hk:0≤k∧k<(l.length:Int)):(swpQ l i k).Perm l:=by
 have h1:=VZ hk.1 hk.2
 have h2:=VZ hi.1 hi.2
 obtain ⟨a1,a2⟩:=List.getElem?_eq_some_iff.1 h1
 obtain ⟨b1,b2⟩:=List.getElem?_eq_some_iff.1 h2
 unfold swpQ
 rw [← a2,← b2]
 exact List.set_set_perm b1 a1
def AllQ (l:List Stq):Prop:=∀ x ∈ l,XZ x.c
theorem AllQ.perm {l l':List Stq} (h:AllQ l) (p:l'.Perm l):AllQ l':=fun x hx=>h x (p.mem_iff.1 hx)
theorem AllQ.at {l:List Stq} (h:AllQ l) {i:Int} (h0:0≤i) (h1:i<(l.length:Int)):XZ (atQ l i).c:=h _ (List.mem_of_getElem? (VZ h0 h1))
def hpB (l:List Stq) (n0:Nat):List Blk:=[⟨true,0,1,false,[.sl 1 n0 0 l.length 4],false⟩,⟨true,n0,4,true,Qi l,true⟩]
/-- What a function makes of stops,of which only the order changes. -/
noncomputable def permQ (Φ:List Stq→Prop) (l:List Stq):List Stq:=@dite _ (∃ lo:List Stq,lo.Perm l∧Φ lo) (Classical.propDecidable _) (fun h=>Classical.choose h) (fun _=>l)
theorem Qbb {Φ:List Stq→Prop} {l:List Stq}:(permQ Φ l).Perm l:=by
 unfold permQ
 split
 · rename_i h; exact (Classical.choose_spec h).1
 · exact List.Perm.refl _
theorem permQ_ok {Φ:List Stq→Prop} {l:List Stq} (h:∃ lo:List Stq,lo.Perm l∧Φ lo):Φ (permQ Φ l):=by
 unfold permQ
 rw [dif_pos h]
 exact (Classical.choose_spec h).2
theorem row_cut {α:Type} (c:α→List AV) (l:List α) (n:Nat):l.flatMap c=(l.take n).flatMap c++(l.drop n).flatMap c:=by
 rw [← List.flatMap_append,List.take_append_drop]
theorem f272b:Try.f272.body=some (Qf Try.prog 272):=by kernel_rfl
theorem u272 {a c k:List AV} {r:AV} (h:Pure Try.prog 272 (a++c++k) r):Qc Try.prog (.clos 272 a k) c r:=Qk Try.func272 (by kernel_rfl) f272b h
def f272K0 (P:Program):List Item:=kAt 400 [.code (Qf P 272)] [.stop]
def f272S0 (l:(List Int)) (i:Nat):St:=⟨([J,J,J,.int .i64 0,J,J,.rsl (rowI l) 0 l.length,.int .i64 (l.length:Int),.int .i64 (i:Int)]++Js 9),[]⟩
def f272G0 (E:Env) (l:(List Int)) (i:Nat):Prop:=G Try.prog E (f272K0 Try.prog) (f272S0 l i )
theorem f272W (l:(List Int)) {E:Env} {rv:Int} (hE:Qr Try.prog 272 (.int .i64 rv) E)
 (h:f272G0 E l 0):G Try.prog E [.code (Qf Try.prog 272)] ⟨[.rsl (rowI l) 0 l.length]++unds (Try.f272.ntmps - 1),[]⟩:=by
 exact sQ [3,6,7,8] 0 [.stop] [] hE trivial h
theorem f272W0 (l:(List Int)) (i:Nat) {E:Env} {rv:Int} (hE:Qr Try.prog 272 (.int .i64 rv) E)
 (h:(((i:Int)<(l.length:Int)→(∃ e:Int,l[i]?=some e∧((¬ (e=0)→rv=e)∧(e=0→((I6 ((i:Int)+1))∧f272G0 E l (i+1))))))∧(¬ ((i:Int)<(l.length:Int))→rv=0))):f272G0 E l i:=by
 rcases bft (decide ((i:Int)<(l.length:Int))) with hc0 | hc0
 · have h:=h.1 (odt hc0)
   obtain ⟨e,h1,h⟩:=h
   rcases bft (e != 0) with hc1 | hc1
   · have h:=h.1 (bneT hc1)
     exact eL (.int .i64 e) [.b true,.ld (.int .i64 e),.b true] [(decide ((i:Int)<(l.length:Int)))=true,0≤(i:Int)∧(i:Int)<(l.length:Int),((rowI l).drop (0+(Int.toNat (i:Int))*1)).take 1=[.int .i64 e],(e != 0)=true] hE Try.func272 ⟨hc0,(Qm h1),(rp cI 1 0 1 h1),hc1,trivial⟩ (by exact AvLe.of_eq (by rw [h]; try rfl))
   · have h:=h.2 (bneF hc1)
     obtain ⟨q5_2,h⟩:=h
     exact sQ [3,6,7,8] 0 [.b true,.ld (.int .i64 e),.b false,.stop] [(decide ((i:Int)<(l.length:Int)))=true,0≤(i:Int)∧(i:Int)<(l.length:Int),((rowI l).drop (0+(Int.toNat (i:Int))*1)).take 1=[.int .i64 e],(e != 0)=false,InR .i64 ((i:Int)+1)] hE ⟨hc0,(Qm h1),(rp cI 1 0 1 h1),hc1,q5_2,trivial⟩ h
 · have h:=h.2 (odf hc0)
   exact eL (.int .i64 0) [.b false] [(decide ((i:Int)<(l.length:Int)))=false] hE Try.func272 ⟨hc0,trivial⟩ (by exact AvLe.of_eq (by rw [h]; try rfl))
theorem orG_ok (l:List Int) (h:l.length≤1000):Pure Try.prog 272 [.rsl (rowI l) 0 l.length] (.int .i64 (orG l)):=Qt Try.func272 f272b fun E hE=>by
 have key:∀ (d i:Nat),i+d=l.length→orG (l.drop i)=orG l→f272G0 E l i:=by
  intro d
  induction d with
  | zero =>
   intro i hd hr
   rw [List.drop_eq_nil_of_le (by omega)] at hr
   exact f272W0 l i (rv:=orG l) hE ⟨fun q=>by omega,fun _=>hr.symm⟩
  | succ d ih =>
   intro i hd hr
   have hx:l[i]?=some (l[i]'(by omega)):=List.getElem?_eq_getElem (by omega)
   rw [List.drop_eq_getElem_cons (by omega)] at hr
   generalize l[i]'(by omega)=x at hx hr
   replace hr:(if x ≠ 0 then x else orG (l.drop (i+1)))=orG l:=hr
   refine f272W0 l i (rv:=orG l) hE ⟨fun _=>⟨x,hx,fun q=>?_,fun q=>⟨⟨by omega,by omega⟩,ih (i+1) (by omega) ?_⟩⟩,fun q=>by omega⟩
   · rw [if_pos q] at hr; exact hr.symm
   · rw [if_neg (by simpa using q)] at hr; exact hr
 exact f272W l (rv:=orG l) hE (key l.length 0 (by omega) rfl)
theorem f236b:Try.f236.body=some (Qf Try.prog 236):=by kernel_rfl
theorem u236 {a c k:List AV} {r:AV} (h:Pure Try.prog 236 (a++c++k) r):Qc Try.prog (.clos 236 a k) c r:=Qk Try.func236 (by kernel_rfl) f236b h
theorem f236W (c:Cst) (d:Cst) {E:Env} {rv:Int} (hE:Qr Try.prog 236 (.int .i64 rv) E)
 (h:((I6 (c.ticks - d.ticks))∧((I6 (c.legs - d.legs))∧((([(c.ticks - d.ticks),(c.legs - d.legs)]).length≤1000)∧rv=(orG ([(c.ticks - d.ticks),(c.legs - d.legs)])))))):G Try.prog E [.code (Qf Try.prog 236)] ⟨[.agg [.int .i64 c.ticks,.int .i64 c.legs],.agg [.int .i64 d.ticks,.int .i64 d.legs]]++unds (Try.f236.ntmps - 2),[]⟩:=by
 obtain ⟨q0_0,h⟩:=h
 obtain ⟨q1_0,h⟩:=h
 obtain ⟨h1,h⟩:=h
 exact eL (.int .i64 (orG ([(c.ticks - d.ticks),(c.legs - d.legs)]))) [.v (.int .i64 (orG ([(c.ticks - d.ticks),(c.legs - d.legs)])))] [InR .i64 (c.ticks - d.ticks),InR .i64 (c.legs - d.legs),Qc Try.prog (.clos 272 [] []) [.rsl [.int .i64 (c.ticks - d.ticks),.int .i64 (c.legs - d.legs)] 0 2] (.int .i64 (orG ([(c.ticks - d.ticks),(c.legs - d.legs)]))),0=0] hE Try.func236 ⟨q0_0,q1_0,(u272 (orG_ok ([(c.ticks - d.ticks),(c.legs - d.legs)]) h1)),rfl,trivial⟩ (by exact AvLe.of_eq (by rw [h]; try rfl))
theorem YJ (c d:Cst) (h:XZ c∧XZ d):Pure Try.prog 236 [.agg [.int .i64 c.ticks,.int .i64 c.legs],.agg [.int .i64 d.ticks,.int .i64 d.legs]] (.int .i64 (cmpC c d)):=Qt Try.func236 f236b fun E hE=>by
 obtain ⟨⟨a1,a2,a3,a4⟩,b1,b2,b3,b4⟩:=h
 exact f236W c d (rv:=cmpC c d) hE ⟨⟨by omega,by omega⟩,⟨by omega,by omega⟩,by simp,rfl⟩
theorem f323b:Try.f323.body=some (Qf Try.prog 323):=by kernel_rfl
theorem u323 {a c k:List AV} {r:AV} (h:Pure Try.prog 323 (a++c++k) r):Qc Try.prog (.clos 323 a k) c r:=Qk Try.func323 (by kernel_rfl) f323b h
theorem f323W (l:(List Stq)) {E:Env} {rv:Int} (hE:Qr Try.prog 323 (.int .i64 rv) E)
 (h:rv=(l.length:Int)):G Try.prog E [.code (Qf Try.prog 323)] ⟨[.rsl (Qi l) 0 l.length]++unds (Try.f323.ntmps - 1),[]⟩:=by
 exact eL (.int .i64 (l.length:Int)) [] [] hE Try.func323 trivial (by exact AvLe.of_eq (by rw [h]; try rfl))
theorem yr (l:List Stq):Pure Try.prog 323 [.rsl (Qi l) 0 l.length] (.int .i64 (l.length:Int)):=Qt Try.func323 f323b fun E hE=>f323W l (rv:=(l.length:Int)) hE rfl
theorem f324b:Try.f324.body=some (Qf Try.prog 324):=by kernel_rfl
theorem u324 {a c k:List AV} {r:AV} (h:Pure Try.prog 324 (a++c++k) r):Qc Try.prog (.clos 324 a k) c r:=Qk Try.func324 (by kernel_rfl) f324b h
theorem f324W (l:(List Stq)) (i:Int) (k:Int) {E:Env} {rv:Bool} (hE:Qr Try.prog 324 (.bool rv) E)
 (h:(0≤i∧(∃ se:Stq,l[Int.toNat i]?=some se∧(0≤k∧(∃ se1:Stq,l[Int.toNat k]?=some se1∧((XZ se.c∧XZ se1.c)∧rv=(decide ((cmpC se.c se1.c)<0)))))))):G Try.prog E [.code (Qf Try.prog 324)] ⟨[.rsl (Qi l) 0 l.length,.int .i64 i,.int .i64 k]++unds (Try.f324.ntmps - 3),[]⟩:=by
 obtain ⟨h2,h⟩:=h
 obtain ⟨se,h1,h⟩:=h
 obtain ⟨h4,h⟩:=h
 obtain ⟨se1,h3,h⟩:=h
 obtain ⟨h5,h⟩:=h
 exact eL (.bool (decide ((cmpC se.c se1.c)<0))) [.ld (.agg [.int .i64 se.c.ticks,.int .i64 se.c.legs]),.ld (.agg [.int .i64 se1.c.ticks,.int .i64 se1.c.legs]),.v (.int .i64 (cmpC se.c se1.c))] [0≤i∧i<(l.length:Int),((Qi l).drop ((0+(Int.toNat i)*4)+2)).take 2=[.int .i64 se.c.ticks,.int .i64 se.c.legs],0≤k∧k<(l.length:Int),((Qi l).drop ((0+(Int.toNat k)*4)+2)).take 2=[.int .i64 se1.c.ticks,.int .i64 se1.c.legs],Qc Try.prog (.clos 236 [] []) [.agg [.int .i64 se.c.ticks,.int .i64 se.c.legs],.agg [.int .i64 se1.c.ticks,.int .i64 se1.c.legs]] (.int .i64 (cmpC se.c se1.c))] hE Try.func324 ⟨(Qw h2 h1),(rp cStq 4 2 2 h1),(Qw h4 h3),(rp cStq 4 2 2 h3),(u236 (YJ se.c se1.c h5)),trivial⟩ (by exact AvLe.of_eq (by rw [h]; try rfl))
theorem Yg (l:List Stq) (i k:Int) (h:AllQ l∧(0≤i∧i<(l.length:Int))∧(0≤k∧k<(l.length:Int))):Pure Try.prog 324 [.rsl (Qi l) 0 l.length,.int .i64 i,.int .i64 k] (.bool (QX l i k)):=Qt Try.func324 f324b fun E hE=>by
 obtain ⟨hl,hi,hk⟩:=h
 exact f324W l i k (rv:=QX l i k) hE ⟨hi.1,_,VZ hi.1 hi.2,hk.1,_,VZ hk.1 hk.2,⟨hl.at hi.1 hi.2,hl.at hk.1 hk.2⟩,rfl⟩
theorem f327b:Try.f327.body=some (Qf Try.prog 327):=by kernel_rfl
theorem f327W (i:Int) (k:Int) (l:List Stq) (n0:Nat) {E:Env} {rv:Unit} {lo:List Stq} (hE:LentE Try.prog 327 [.sl 0 n0 0 0 1] (.tup []) [⟨true,n0,4,true,(Qi lo),true⟩] E)
 (h:(0≤k∧(∃ se:Stq,l[Int.toNat k]?=some se∧(0≤i∧(∃ se1:Stq,l[Int.toNat i]?=some se1∧(0≤k∧(∃ se2:Stq,(l.set (Int.toNat i) se)[Int.toNat k]?=some se2∧lo=((l.set (Int.toNat i) se).set (Int.toNat k) se1)))))))):G Try.prog E [.code (Qf Try.prog 327)] ⟨[.sl 0 n0 0 l.length 4,.int .i64 i,.int .i64 k]++unds (Try.f327.ntmps - 3),[⟨true,n0,4,true,(Qi l),true⟩]⟩:=by
 obtain ⟨h2,h⟩:=h
 obtain ⟨se,h1,h⟩:=h
 obtain ⟨h4,h⟩:=h
 obtain ⟨se1,h3,h⟩:=h
 obtain ⟨h6,h⟩:=h
 obtain ⟨se2,h5,h⟩:=h
 have qe0:=h
 exact eB (.tup []) [⟨true,n0,4,true,(Qv (Qv (Qi l) (0+(Int.toNat i)*4) [.int .i64 se.p.town,.int .i64 se.p.used,.int .i64 se.c.ticks,.int .i64 se.c.legs]) (0+(Int.toNat k)*4) [.int .i64 se1.p.town,.int .i64 se1.p.used,.int .i64 se1.c.ticks,.int .i64 se1.c.legs]),true⟩] [] 1 [.ld (.agg [.int .i64 se.p.town,.int .i64 se.p.used,.int .i64 se.c.ticks,.int .i64 se.c.legs]),.ld (.agg [.int .i64 se1.p.town,.int .i64 se1.p.used,.int .i64 se1.c.ticks,.int .i64 se1.c.legs])] [0≤k∧k<(l.length:Int),n0=n0,n0=n0,((Qi l).drop (0+(Int.toNat k)*4)).take 4=[.int .i64 se.p.town,.int .i64 se.p.used,.int .i64 se.c.ticks,.int .i64 se.c.legs],0≤i∧i<(l.length:Int),n0=n0,n0=n0,((Qi l).drop (0+(Int.toNat i)*4)).take 4=[.int .i64 se1.p.town,.int .i64 se1.p.used,.int .i64 se1.c.ticks,.int .i64 se1.c.legs],0≤i∧i<(l.length:Int),n0=n0,((0+(Int.toNat i)*4)+4)≤(Qi l).length,n0=n0,0≤k∧k<(l.length:Int),n0=n0,((0+(Int.toNat k)*4)+4)≤(Qv (Qi l) (0+(Int.toNat i)*4) [.int .i64 se.p.town,.int .i64 se.p.used,.int .i64 se.c.ticks,.int .i64 se.c.legs]).length,n0=n0] hE (hE.nogh (by kernel_rfl)) Try.func327 ⟨(Qw h2 h1),rfl,rfl,(rp cStq 4 0 4 h1),(Qw h4 h3),rfl,rfl,(rp cStq 4 0 4 h3),(Qw h4 h3),rfl,(rf cStq 4 0 4 h3),rfl,(by have hx:=Qw h6 h5; simpa using hx),rfl,(by rw [(show Qv (Qi l) (0+(Int.toNat i)*4) [.int .i64 se.p.town,.int .i64 se.p.used,.int .i64 se.c.ticks,.int .i64 se.c.legs]=Qi (l.set (Int.toNat i) se) from QH cStq (s:=4) (k:=0) (fun _=>rfl) h3 rfl (by first | decide | simp))]; exact rf cStq 4 0 4 h5),rfl,trivial⟩ (by try rfl) (by rw [qe0]; rw [(show Qv (Qi l) (0+(Int.toNat i)*4) [.int .i64 se.p.town,.int .i64 se.p.used,.int .i64 se.c.ticks,.int .i64 se.c.legs]=Qi (l.set (Int.toNat i) se) from QH cStq (s:=4) (k:=0) (fun _=>rfl) h3 rfl (by first | decide | simp))]; rw [(show Qv (Qi (l.set (Int.toNat i) se)) (0+(Int.toNat k)*4) [.int .i64 se1.p.town,.int .i64 se1.p.used,.int .i64 se1.c.ticks,.int .i64 se1.c.legs]=Qi ((l.set (Int.toNat i) se).set (Int.toNat k) se1) from QH cStq (s:=4) (k:=0) (fun _=>rfl) h5 rfl (by first | decide | simp))]; all_goals (first | rfl | (simp only [List.length_set]; done) | (simp only [List.length_set]; rfl) | (simp only [List.length_set,List.length_replicate]; done)))
theorem KA {l:List Stq} {n0:Nat} {i k:Int} (h:(0≤i∧i<(l.length:Int))∧(0≤k∧k<(l.length:Int))):Lent Try.prog 327 [.sl 0 n0 0 l.length 4,.int .i64 i,.int .i64 k] [⟨true,n0,4,true,Qi l,true⟩] (.tup []) [⟨true,n0,4,true,Qi (swpQ l i k),true⟩] :=
 qq _ Try.func327 f327b rfl rfl fun E hE=>by
  obtain ⟨hi,hk⟩:=h
  have hx:∃ x,(l.set i.toNat (atQ l k))[k.toNat]?=some x:=⟨(l.set i.toNat (atQ l k))[k.toNat]'(by simp; omega),List.getElem?_eq_getElem (by simp; omega)⟩
  obtain ⟨x,hx⟩:=hx
  exact f327W i k l n0 (rv:=()) hE ⟨hk.1,_,VZ hk.1 hk.2,hi.1,_,VZ hi.1 hi.2,hk.1,_,hx,rfl⟩
theorem f286b:Try.f286.body=some (Qf Try.prog 286):=by kernel_rfl
def f286K0 (P:Program):List Item:=kAt 400 [.code (Qf P 286)] [.stop]
def f286S0 (j:Int) (l:List Stq) (n0:Nat) (j1:Int) (v1:List Stq):St:=⟨([.ifc 404 (.ptr 0 0 0),.int .i64 j1]++Js 21),[⟨true,0,1,false,[.sl 1 n0 0 v1.length 4],false⟩,⟨true,n0,4,true,(Qi v1),true⟩]⟩
def f286G0 (E:Env) (j:Int) (l:List Stq) (n0:Nat) (j1:Int) (v1:List Stq):Prop:=G Try.prog E (f286K0 Try.prog) (f286S0 j l n0 j1 v1 )
theorem f286W (j:Int) (l:List Stq) (n0:Nat) {E:Env} {rv:Unit} {lo:List Stq} (hE:LentE Try.prog 286 [.sl 1 n0 0 0 1] (.tup []) [⟨true,0,1,false,[.sl 1 n0 0 lo.length 4],false⟩,⟨true,n0,4,true,(Qi lo),true⟩] E)
 (h:f286G0 E j l n0 j l):G Try.prog E [.code (Qf Try.prog 286)] ⟨[.ifc 404 (.ptr 0 0 0),.int .i64 j]++unds (Try.f286.ntmps - 2),[⟨true,0,1,false,[.sl 1 n0 0 l.length 4],false⟩,⟨true,n0,4,true,(Qi l),true⟩]⟩:=by
 exact sM [0,1] 2 [.stop] [] hE.kind (hE.nogh (by kernel_rfl)) trivial h
theorem f286W0 (j:Int) (l:List Stq) (n0:Nat) (j1:Int) (v1:List Stq) {E:Env} {rv:Unit} {lo:List Stq} (hE:LentE Try.prog 286 [.sl 1 n0 0 0 1] (.tup []) [⟨true,0,1,false,[.sl 1 n0 0 lo.length 4],false⟩,⟨true,n0,4,true,(Qi lo),true⟩] E)
 (h:((I6 (j1 - 1))∧((I6 (Int.tdiv (j1 - 1) 2))∧(((Int.tdiv (j1 - 1) 2)=j1→lo=v1)∧(¬ ((Int.tdiv (j1 - 1) 2)=j1)→((AllQ v1∧((0:Int)≤j1∧j1<(v1.length:Int))∧((0:Int)≤(Int.tdiv (j1 - 1) 2)∧(Int.tdiv (j1 - 1) 2)<(v1.length:Int)))∧(((QX v1 j1 (Int.tdiv (j1 - 1) 2))=false→lo=v1)∧((QX v1 j1 (Int.tdiv (j1 - 1) 2))=true→((((0:Int)≤(Int.tdiv (j1 - 1) 2)∧(Int.tdiv (j1 - 1) 2)<(v1.length:Int))∧((0:Int)≤j1∧j1<(v1.length:Int)))∧f286G0 E j l n0 (Int.tdiv (j1 - 1) 2) (swpQ v1 (Int.tdiv (j1 - 1) 2) j1)))))))))):f286G0 E j l n0 j1 v1:=by
 obtain ⟨q0_0,h⟩:=h
 obtain ⟨q1_0,h⟩:=h
 rcases bft ((Int.tdiv (j1 - 1) 2) == j1) with hc0 | hc0
 · have h:=h.1 (eq_of_beq hc0)
   have qe0:=h
   exact eB (.tup []) [⟨true,0,1,false,[.sl 1 n0 0 v1.length 4],false⟩,⟨true,n0,4,true,(Qi v1),true⟩] [] 2 [.b true,.b true] [InR .i64 (j1 - 1),InR .i64 (Int.tdiv (j1 - 1) 2),(2:Int) ≠ 0,((Int.tdiv (j1 - 1) 2) == j1)=true,true=true] hE (hE.nogh (by kernel_rfl)) Try.func286 ⟨q0_0,q1_0,(by decide),hc0,rfl,trivial⟩ (by try rfl) (by rw [qe0]; all_goals (first | rfl | (simp only [List.length_set]; done) | (simp only [List.length_set]; rfl) | (simp only [List.length_set,List.length_replicate]; done)))
 · have h:=h.2 (ne_of_beq_false hc0)
   obtain ⟨h1,h⟩:=h
   rcases bft (!(QX v1 j1 (Int.tdiv (j1 - 1) 2))) with hc1 | hc1
   · have h:=h.1 (bnT hc1)
     have qe0:=h
     exact eB (.tup []) [⟨true,0,1,false,[.sl 1 n0 0 v1.length 4],false⟩,⟨true,n0,4,true,(Qi v1),true⟩] [] 2 [.b false,.v (.bool (QX v1 j1 (Int.tdiv (j1 - 1) 2))),.b true] [InR .i64 (j1 - 1),InR .i64 (Int.tdiv (j1 - 1) 2),(2:Int) ≠ 0,((Int.tdiv (j1 - 1) 2) == j1)=false,Qc Try.prog (.clos 324 [] []) [.rsl (Qi v1) 0 v1.length,.int .i64 j1,.int .i64 (Int.tdiv (j1 - 1) 2)] (.bool (QX v1 j1 (Int.tdiv (j1 - 1) 2))),n0=n0,(!(QX v1 j1 (Int.tdiv (j1 - 1) 2)))=true] hE (hE.nogh (by kernel_rfl)) Try.func286 ⟨q0_0,q1_0,(by decide),hc0,(u324 (Yg v1 j1 (Int.tdiv (j1 - 1) 2) h1)),rfl,hc1,trivial⟩ (by try rfl) (by rw [qe0]; all_goals (first | rfl | (simp only [List.length_set]; done) | (simp only [List.length_set]; rfl) | (simp only [List.length_set,List.length_replicate]; done)))
   · have h:=h.2 (bnF hc1)
     obtain ⟨h2,h⟩:=h
     refine sK (f286K0 Try.prog) ⟨([.ifc 404 (.ptr 0 0 0),.int .i64 (Int.tdiv (j1 - 1) 2)]++Js 21),[⟨true,0,1,false,[.sl 1 n0 0 v1.length 4],false⟩,⟨true,n0,4,true,(Qi (swpQ v1 (Int.tdiv (j1 - 1) 2) j1)),true⟩]⟩ [0,1] 2 [.b false,.v (.bool (QX v1 j1 (Int.tdiv (j1 - 1) 2))),.b false,.lent [1] (.tup []) [⟨true,n0,4,true,(Qi (swpQ v1 (Int.tdiv (j1 - 1) 2) j1)),true⟩],.stop] [InR .i64 (j1 - 1),InR .i64 (Int.tdiv (j1 - 1) 2),(2:Int) ≠ 0,((Int.tdiv (j1 - 1) 2) == j1)=false,Qc Try.prog (.clos 324 [] []) [.rsl (Qi v1) 0 v1.length,.int .i64 j1,.int .i64 (Int.tdiv (j1 - 1) 2)] (.bool (QX v1 j1 (Int.tdiv (j1 - 1) 2))),n0=n0,(!(QX v1 j1 (Int.tdiv (j1 - 1) 2)))=false,Yk Try.prog (.clos 327 [] []) [.sl 0 n0 0 v1.length 4,.int .i64 (Int.tdiv (j1 - 1) 2),.int .i64 j1] [⟨true,n0,4,true,(Qi v1),true⟩] (.tup []) [⟨true,n0,4,true,(Qi (swpQ v1 (Int.tdiv (j1 - 1) 2) j1)),true⟩]] hE.kind (hE.nogh (by kernel_rfl)) ⟨q0_0,q1_0,(by decide),hc0,(u324 (Yg v1 j1 (Int.tdiv (j1 - 1) 2) h1)),rfl,hc1,(QK Try.func327 (by kernel_rfl) f327b (KA h2)),trivial⟩ ?_
     have h:=h
     simp only [f286G0,f286S0,List.length_set,Xk] at h
     skip
     exact h
theorem f285b:Try.f285.body=some (Qf Try.prog 285):=by kernel_rfl
def f285K0 (P:Program):List Item:=kAt 400 [.code (Qf P 285)] [.stop]
def f285S0 (i0:Int) (n:Int) (l:List Stq) (n0:Nat) (i:Int) (v1:List Stq):St:=⟨([.ifc 404 (.ptr 0 0 0),.int .i64 i0,.int .i64 n,J,J,J,J,.int .i64 i]++Js 40),[⟨true,0,1,false,[.sl 1 n0 0 v1.length 4],false⟩,⟨true,n0,4,true,(Qi v1),true⟩]⟩
def WY (E:Env) (i0:Int) (n:Int) (l:List Stq) (n0:Nat) (i:Int) (v1:List Stq):Prop:=G Try.prog E (f285K0 Try.prog) (f285S0 i0 n l n0 i v1 )
theorem f285W (i0:Int) (n:Int) (l:List Stq) (n0:Nat) {E:Env} {rv:Bool} {lo:List Stq} (hE:LentE Try.prog 285 [.sl 1 n0 0 0 1] (.bool rv) [⟨true,0,1,false,[.sl 1 n0 0 lo.length 4],false⟩,⟨true,n0,4,true,(Qi lo),true⟩] E)
 (h:WY E i0 n l n0 i0 l):G Try.prog E [.code (Qf Try.prog 285)] ⟨[.ifc 404 (.ptr 0 0 0),.int .i64 i0,.int .i64 n]++unds (Try.f285.ntmps - 3),[⟨true,0,1,false,[.sl 1 n0 0 l.length 4],false⟩,⟨true,n0,4,true,(Qi l),true⟩]⟩:=by
 exact sM [0,1,2,7] 2 [.stop] [] hE.kind (hE.nogh (by kernel_rfl)) trivial h
theorem f285W0 (i0:Int) (n:Int) (l:List Stq) (n0:Nat) (i:Int) (v1:List Stq) {E:Env} {rv:Bool} {lo:List Stq} (hE:LentE Try.prog 285 [.sl 1 n0 0 0 1] (.bool rv) [⟨true,0,1,false,[.sl 1 n0 0 lo.length 4],false⟩,⟨true,n0,4,true,(Qi lo),true⟩] E)
 (h:((I6 (2*i))∧((I6 ((2*i)+1))∧((((2*i)+1)≥n→rv=(decide (i > i0))∧lo=v1)∧(¬ (((2*i)+1)≥n)→((((2*i)+1)<0→rv=(decide (i > i0))∧lo=v1)∧(¬ (((2*i)+1)<0)→((I6 (((2*i)+1)+1))∧(((((2*i)+1)+1)<n→((AllQ v1∧((0:Int)≤(((2*i)+1)+1)∧(((2*i)+1)+1)<(v1.length:Int))∧((0:Int)≤((2*i)+1)∧((2*i)+1)<(v1.length:Int)))∧(((QX v1 (((2*i)+1)+1) ((2*i)+1))=true→((AllQ v1∧((0:Int)≤(((2*i)+1)+1)∧(((2*i)+1)+1)<(v1.length:Int))∧((0:Int)≤i∧i<(v1.length:Int)))∧(((QX v1 (((2*i)+1)+1) i)=false→rv=(decide (i > i0))∧lo=v1)∧((QX v1 (((2*i)+1)+1) i)=true→((((0:Int)≤i∧i<(v1.length:Int))∧((0:Int)≤(((2*i)+1)+1)∧(((2*i)+1)+1)<(v1.length:Int)))∧WY E i0 n l n0 (((2*i)+1)+1) (swpQ v1 i (((2*i)+1)+1)))))))∧((QX v1 (((2*i)+1)+1) ((2*i)+1))=false→((AllQ v1∧((0:Int)≤((2*i)+1)∧((2*i)+1)<(v1.length:Int))∧((0:Int)≤i∧i<(v1.length:Int)))∧(((QX v1 ((2*i)+1) i)=false→rv=(decide (i > i0))∧lo=v1)∧((QX v1 ((2*i)+1) i)=true→((((0:Int)≤i∧i<(v1.length:Int))∧((0:Int)≤((2*i)+1)∧((2*i)+1)<(v1.length:Int)))∧WY E i0 n l n0 ((2*i)+1) (swpQ v1 i ((2*i)+1))))))))))∧(¬ ((((2*i)+1)+1)<n)→((AllQ v1∧((0:Int)≤((2*i)+1)∧((2*i)+1)<(v1.length:Int))∧((0:Int)≤i∧i<(v1.length:Int)))∧(((QX v1 ((2*i)+1) i)=false→rv=(decide (i > i0))∧lo=v1)∧((QX v1 ((2*i)+1) i)=true→((((0:Int)≤i∧i<(v1.length:Int))∧((0:Int)≤((2*i)+1)∧((2*i)+1)<(v1.length:Int)))∧WY E i0 n l n0 ((2*i)+1) (swpQ v1 i ((2*i)+1)))))))))))))))):WY E i0 n l n0 i v1:=by
 obtain ⟨q0_0,h⟩:=h
 obtain ⟨q1_0,h⟩:=h
 rcases bft (decide (((2*i)+1)≥n)) with hc0 | hc0
 · have h:=h.1 (odt hc0)
   obtain ⟨qe0,qe1⟩:=h
   exact eB (.bool (decide (i > i0))) [⟨true,0,1,false,[.sl 1 n0 0 v1.length 4],false⟩,⟨true,n0,4,true,(Qi v1),true⟩] [6] 2 [.b true,.b true] [InR .i64 (2*i),InR .i64 ((2*i)+1),(decide (((2*i)+1)≥n))=true,true=true] hE (hE.nogh (by kernel_rfl)) Try.func285 ⟨q0_0,q1_0,hc0,rfl,trivial⟩ (by rw [qe0]; try rfl) (by rw [qe1]; all_goals (first | rfl | (simp only [List.length_set]; done) | (simp only [List.length_set]; rfl) | (simp only [List.length_set,List.length_replicate]; done)))
 · have h:=h.2 (odf hc0)
   rcases bft (decide (((2*i)+1)<0)) with hc1 | hc1
   · have h:=h.1 (odt hc1)
     obtain ⟨qe0,qe1⟩:=h
     exact eB (.bool (decide (i > i0))) [⟨true,0,1,false,[.sl 1 n0 0 v1.length 4],false⟩,⟨true,n0,4,true,(Qi v1),true⟩] [6] 2 [.b false,.b true] [InR .i64 (2*i),InR .i64 ((2*i)+1),(decide (((2*i)+1)≥n))=false,(decide (((2*i)+1)<0))=true] hE (hE.nogh (by kernel_rfl)) Try.func285 ⟨q0_0,q1_0,hc0,hc1,trivial⟩ (by rw [qe0]; try rfl) (by rw [qe1]; all_goals (first | rfl | (simp only [List.length_set]; done) | (simp only [List.length_set]; rfl) | (simp only [List.length_set,List.length_replicate]; done)))
   · have h:=h.2 (odf hc1)
     obtain ⟨q4_2,h⟩:=h
     rcases bft (decide ((((2*i)+1)+1)<n)) with hc2 | hc2
     · have h:=h.1 (odt hc2)
       obtain ⟨h1,h⟩:=h
       rcases bft (QX v1 (((2*i)+1)+1) ((2*i)+1)) with hc3 | hc3
       · have h:=h.1 hc3
         obtain ⟨h2,h⟩:=h
         rcases bft (!(QX v1 (((2*i)+1)+1) i)) with hc4 | hc4
         · have h:=h.1 (bnT hc4)
           obtain ⟨qe0,qe1⟩:=h
           exact eB (.bool (decide (i > i0))) [⟨true,0,1,false,[.sl 1 n0 0 v1.length 4],false⟩,⟨true,n0,4,true,(Qi v1),true⟩] [6] 2 [.b false,.b false,.b true,.v (.bool (QX v1 (((2*i)+1)+1) ((2*i)+1))),.b true,.v (.bool (QX v1 (((2*i)+1)+1) i)),.b true] [InR .i64 (2*i),InR .i64 ((2*i)+1),(decide (((2*i)+1)≥n))=false,(decide (((2*i)+1)<0))=false,InR .i64 (((2*i)+1)+1),(decide ((((2*i)+1)+1)<n))=true,Qc Try.prog (.clos 324 [] []) [.rsl (Qi v1) 0 v1.length,.int .i64 (((2*i)+1)+1),.int .i64 ((2*i)+1)] (.bool (QX v1 (((2*i)+1)+1) ((2*i)+1))),n0=n0,(QX v1 (((2*i)+1)+1) ((2*i)+1))=true,Qc Try.prog (.clos 324 [] []) [.rsl (Qi v1) 0 v1.length,.int .i64 (((2*i)+1)+1),.int .i64 i] (.bool (QX v1 (((2*i)+1)+1) i)),n0=n0,(!(QX v1 (((2*i)+1)+1) i))=true] hE (hE.nogh (by kernel_rfl)) Try.func285 ⟨q0_0,q1_0,hc0,hc1,q4_2,hc2,(u324 (Yg v1 (((2*i)+1)+1) ((2*i)+1) h1)),rfl,hc3,(u324 (Yg v1 (((2*i)+1)+1) i h2)),rfl,hc4,trivial⟩ (by rw [qe0]; try rfl) (by rw [qe1]; all_goals (first | rfl | (simp only [List.length_set]; done) | (simp only [List.length_set]; rfl) | (simp only [List.length_set,List.length_replicate]; done)))
         · have h:=h.2 (bnF hc4)
           obtain ⟨h3,h⟩:=h
           refine sK (f285K0 Try.prog) ⟨([.ifc 404 (.ptr 0 0 0),.int .i64 i0,.int .i64 n,J,J,J,J,.int .i64 (((2*i)+1)+1)]++Js 40),[⟨true,0,1,false,[.sl 1 n0 0 v1.length 4],false⟩,⟨true,n0,4,true,(Qi (swpQ v1 i (((2*i)+1)+1))),true⟩]⟩ [0,1,2,7] 2 [.b false,.b false,.b true,.v (.bool (QX v1 (((2*i)+1)+1) ((2*i)+1))),.b true,.v (.bool (QX v1 (((2*i)+1)+1) i)),.b false,.lent [1] (.tup []) [⟨true,n0,4,true,(Qi (swpQ v1 i (((2*i)+1)+1))),true⟩],.stop] [InR .i64 (2*i),InR .i64 ((2*i)+1),(decide (((2*i)+1)≥n))=false,(decide (((2*i)+1)<0))=false,InR .i64 (((2*i)+1)+1),(decide ((((2*i)+1)+1)<n))=true,Qc Try.prog (.clos 324 [] []) [.rsl (Qi v1) 0 v1.length,.int .i64 (((2*i)+1)+1),.int .i64 ((2*i)+1)] (.bool (QX v1 (((2*i)+1)+1) ((2*i)+1))),n0=n0,(QX v1 (((2*i)+1)+1) ((2*i)+1))=true,Qc Try.prog (.clos 324 [] []) [.rsl (Qi v1) 0 v1.length,.int .i64 (((2*i)+1)+1),.int .i64 i] (.bool (QX v1 (((2*i)+1)+1) i)),n0=n0,(!(QX v1 (((2*i)+1)+1) i))=false,Yk Try.prog (.clos 327 [] []) [.sl 0 n0 0 v1.length 4,.int .i64 i,.int .i64 (((2*i)+1)+1)] [⟨true,n0,4,true,(Qi v1),true⟩] (.tup []) [⟨true,n0,4,true,(Qi (swpQ v1 i (((2*i)+1)+1))),true⟩]] hE.kind (hE.nogh (by kernel_rfl)) ⟨q0_0,q1_0,hc0,hc1,q4_2,hc2,(u324 (Yg v1 (((2*i)+1)+1) ((2*i)+1) h1)),rfl,hc3,(u324 (Yg v1 (((2*i)+1)+1) i h2)),rfl,hc4,(QK Try.func327 (by kernel_rfl) f327b (KA h3)),trivial⟩ ?_
           have h:=h
           simp only [WY,f285S0,List.length_set,Xk] at h
           skip
           exact h
       · have h:=h.2 hc3
         obtain ⟨h2,h⟩:=h
         rcases bft (!(QX v1 ((2*i)+1) i)) with hc4 | hc4
         · have h:=h.1 (bnT hc4)
           obtain ⟨qe0,qe1⟩:=h
           exact eB (.bool (decide (i > i0))) [⟨true,0,1,false,[.sl 1 n0 0 v1.length 4],false⟩,⟨true,n0,4,true,(Qi v1),true⟩] [6] 2 [.b false,.b false,.b true,.v (.bool (QX v1 (((2*i)+1)+1) ((2*i)+1))),.b false,.v (.bool (QX v1 ((2*i)+1) i)),.b true] [InR .i64 (2*i),InR .i64 ((2*i)+1),(decide (((2*i)+1)≥n))=false,(decide (((2*i)+1)<0))=false,InR .i64 (((2*i)+1)+1),(decide ((((2*i)+1)+1)<n))=true,Qc Try.prog (.clos 324 [] []) [.rsl (Qi v1) 0 v1.length,.int .i64 (((2*i)+1)+1),.int .i64 ((2*i)+1)] (.bool (QX v1 (((2*i)+1)+1) ((2*i)+1))),n0=n0,(QX v1 (((2*i)+1)+1) ((2*i)+1))=false,Qc Try.prog (.clos 324 [] []) [.rsl (Qi v1) 0 v1.length,.int .i64 ((2*i)+1),.int .i64 i] (.bool (QX v1 ((2*i)+1) i)),n0=n0,(!(QX v1 ((2*i)+1) i))=true] hE (hE.nogh (by kernel_rfl)) Try.func285 ⟨q0_0,q1_0,hc0,hc1,q4_2,hc2,(u324 (Yg v1 (((2*i)+1)+1) ((2*i)+1) h1)),rfl,hc3,(u324 (Yg v1 ((2*i)+1) i h2)),rfl,hc4,trivial⟩ (by rw [qe0]; try rfl) (by rw [qe1]; all_goals (first | rfl | (simp only [List.length_set]; done) | (simp only [List.length_set]; rfl) | (simp only [List.length_set,List.length_replicate]; done)))
         · have h:=h.2 (bnF hc4)
           obtain ⟨h3,h⟩:=h
           refine sK (f285K0 Try.prog) ⟨([.ifc 404 (.ptr 0 0 0),.int .i64 i0,.int .i64 n,J,J,J,J,.int .i64 ((2*i)+1)]++Js 40),[⟨true,0,1,false,[.sl 1 n0 0 v1.length 4],false⟩,⟨true,n0,4,true,(Qi (swpQ v1 i ((2*i)+1))),true⟩]⟩ [0,1,2,7] 2 [.b false,.b false,.b true,.v (.bool (QX v1 (((2*i)+1)+1) ((2*i)+1))),.b false,.v (.bool (QX v1 ((2*i)+1) i)),.b false,.lent [1] (.tup []) [⟨true,n0,4,true,(Qi (swpQ v1 i ((2*i)+1))),true⟩],.stop] [InR .i64 (2*i),InR .i64 ((2*i)+1),(decide (((2*i)+1)≥n))=false,(decide (((2*i)+1)<0))=false,InR .i64 (((2*i)+1)+1),(decide ((((2*i)+1)+1)<n))=true,Qc Try.prog (.clos 324 [] []) [.rsl (Qi v1) 0 v1.length,.int .i64 (((2*i)+1)+1),.int .i64 ((2*i)+1)] (.bool (QX v1 (((2*i)+1)+1) ((2*i)+1))),n0=n0,(QX v1 (((2*i)+1)+1) ((2*i)+1))=false,Qc Try.prog (.clos 324 [] []) [.rsl (Qi v1) 0 v1.length,.int .i64 ((2*i)+1),.int .i64 i] (.bool (QX v1 ((2*i)+1) i)),n0=n0,(!(QX v1 ((2*i)+1) i))=false,Yk Try.prog (.clos 327 [] []) [.sl 0 n0 0 v1.length 4,.int .i64 i,.int .i64 ((2*i)+1)] [⟨true,n0,4,true,(Qi v1),true⟩] (.tup []) [⟨true,n0,4,true,(Qi (swpQ v1 i ((2*i)+1))),true⟩]] hE.kind (hE.nogh (by kernel_rfl)) ⟨q0_0,q1_0,hc0,hc1,q4_2,hc2,(u324 (Yg v1 (((2*i)+1)+1) ((2*i)+1) h1)),rfl,hc3,(u324 (Yg v1 ((2*i)+1) i h2)),rfl,hc4,(QK Try.func327 (by kernel_rfl) f327b (KA h3)),trivial⟩ ?_
           have h:=h
           simp only [WY,f285S0,List.length_set,Xk] at h
           skip
           exact h
     · have h:=h.2 (odf hc2)
       obtain ⟨h1,h⟩:=h
       rcases bft (!(QX v1 ((2*i)+1) i)) with hc3 | hc3
       · have h:=h.1 (bnT hc3)
         obtain ⟨qe0,qe1⟩:=h
         exact eB (.bool (decide (i > i0))) [⟨true,0,1,false,[.sl 1 n0 0 v1.length 4],false⟩,⟨true,n0,4,true,(Qi v1),true⟩] [6] 2 [.b false,.b false,.b false,.b false,.v (.bool (QX v1 ((2*i)+1) i)),.b true] [InR .i64 (2*i),InR .i64 ((2*i)+1),(decide (((2*i)+1)≥n))=false,(decide (((2*i)+1)<0))=false,InR .i64 (((2*i)+1)+1),(decide ((((2*i)+1)+1)<n))=false,false=false,Qc Try.prog (.clos 324 [] []) [.rsl (Qi v1) 0 v1.length,.int .i64 ((2*i)+1),.int .i64 i] (.bool (QX v1 ((2*i)+1) i)),n0=n0,(!(QX v1 ((2*i)+1) i))=true] hE (hE.nogh (by kernel_rfl)) Try.func285 ⟨q0_0,q1_0,hc0,hc1,q4_2,hc2,rfl,(u324 (Yg v1 ((2*i)+1) i h1)),rfl,hc3,trivial⟩ (by rw [qe0]; try rfl) (by rw [qe1]; all_goals (first | rfl | (simp only [List.length_set]; done) | (simp only [List.length_set]; rfl) | (simp only [List.length_set,List.length_replicate]; done)))
       · have h:=h.2 (bnF hc3)
         obtain ⟨h2,h⟩:=h
         refine sK (f285K0 Try.prog) ⟨([.ifc 404 (.ptr 0 0 0),.int .i64 i0,.int .i64 n,J,J,J,J,.int .i64 ((2*i)+1)]++Js 40),[⟨true,0,1,false,[.sl 1 n0 0 v1.length 4],false⟩,⟨true,n0,4,true,(Qi (swpQ v1 i ((2*i)+1))),true⟩]⟩ [0,1,2,7] 2 [.b false,.b false,.b false,.b false,.v (.bool (QX v1 ((2*i)+1) i)),.b false,.lent [1] (.tup []) [⟨true,n0,4,true,(Qi (swpQ v1 i ((2*i)+1))),true⟩],.stop] [InR .i64 (2*i),InR .i64 ((2*i)+1),(decide (((2*i)+1)≥n))=false,(decide (((2*i)+1)<0))=false,InR .i64 (((2*i)+1)+1),(decide ((((2*i)+1)+1)<n))=false,false=false,Qc Try.prog (.clos 324 [] []) [.rsl (Qi v1) 0 v1.length,.int .i64 ((2*i)+1),.int .i64 i] (.bool (QX v1 ((2*i)+1) i)),n0=n0,(!(QX v1 ((2*i)+1) i))=false,Yk Try.prog (.clos 327 [] []) [.sl 0 n0 0 v1.length 4,.int .i64 i,.int .i64 ((2*i)+1)] [⟨true,n0,4,true,(Qi v1),true⟩] (.tup []) [⟨true,n0,4,true,(Qi (swpQ v1 i ((2*i)+1))),true⟩]] hE.kind (hE.nogh (by kernel_rfl)) ⟨q0_0,q1_0,hc0,hc1,q4_2,hc2,rfl,(u324 (Yg v1 ((2*i)+1) i h1)),rfl,hc3,(QK Try.func327 (by kernel_rfl) f327b (KA h2)),trivial⟩ ?_
         have h:=h
         simp only [WY,f285S0,List.length_set,Xk] at h
         skip
         exact h
def upP (l:List Stq) (j:Int) (lo:List Stq):Prop:=∀ n0:Nat,Lent Try.prog 286 [.ifc 404 (.ptr 0 0 0),.int .i64 j] (hpB l n0) (.tup []) (hpB lo n0)
theorem up_ex (l:List Stq) (j:Int) (hl:AllQ l) (h0:0≤j) (h1:j<(l.length:Int)) (h2:l.length≤1000000):∃ lo:List Stq,lo.Perm l∧upP l j lo:=by
 have key:∀ (d:Nat) (v:List Stq) (i:Int),i≤(d:Int)→0≤i→i<(v.length:Int)→AllQ v→v.length=l.length→∃ lo:List Stq,lo.Perm v∧∀ (n0:Nat) E,LentE Try.prog 286 [.sl 1 n0 0 0 1] (.tup []) [⟨true,0,1,false,[.sl 1 n0 0 lo.length 4],false⟩,⟨true,n0,4,true,(Qi lo),true⟩] E→f286G0 E j l n0 i v:=by
  intro d
  induction d with
  | zero =>
   intro v i hd h0 h1 hv hn
   have:i=0:=by omega
   subst this
   exact ⟨v,List.Perm.refl _,fun n0 E hE=>f286W0 j l n0 0 v (rv:=()) hE ⟨⟨by omega,by omega⟩,⟨by decide,by decide⟩,fun _=>rfl,fun q=>absurd (by decide) q⟩⟩
  | succ d ih =>
   intro v i hd h0 h1 hv hn
   have e:Int.tdiv (i - 1) 2=if i=0 then 0 else (i - 1) / 2:=by
    split
    · rename_i q; subst q; decide
    · rw [Int.tdiv_eq_ediv_of_nonneg (by omega)]
   by_cases hi:i=0
   · rw [if_pos hi] at e
     exact ⟨v,List.Perm.refl _,fun n0 E hE=>f286W0 j l n0 i v (rv:=()) hE ⟨⟨by omega,by omega⟩,⟨by omega,by omega⟩,fun _=>rfl,fun q=>absurd (by omega) q⟩⟩
   · rw [if_neg hi] at e
     have bi:(0≤i∧i<(v.length:Int)):=⟨h0,h1⟩
     have bp:(0≤Int.tdiv (i - 1) 2∧Int.tdiv (i - 1) 2<(v.length:Int)):=by omega
     cases hc:QX v i (Int.tdiv (i - 1) 2) with
     | false=>exact ⟨v,List.Perm.refl _,fun n0 E hE=>f286W0 j l n0 i v (rv:=()) hE ⟨⟨by omega,by omega⟩,⟨by omega,by omega⟩,fun _=>rfl,fun _=>⟨⟨hv,bi,bp⟩,fun _=>rfl,fun q=>by rw [hc] at q; cases q⟩⟩⟩
     | true =>
      obtain ⟨lo,p,q⟩:=ih (swpQ v (Int.tdiv (i - 1) 2) i) (Int.tdiv (i - 1) 2) (by omega) bp.1 (by rw [Xk]; exact bp.2) (hv.perm (VC bp bi)) (by rw [Xk]; exact hn)
      exact ⟨lo,p.trans (VC bp bi),fun n0 E hE=>f286W0 j l n0 i v (rv:=()) hE ⟨⟨by omega,by omega⟩,⟨by omega,by omega⟩,fun q=>by omega,fun _=>⟨⟨hv,bi,bp⟩,fun q=>(by rw [hc] at q; cases q),fun _=>⟨⟨bp,bi⟩,q n0 E hE⟩⟩⟩⟩
 obtain ⟨lo,p,q⟩:=key j.toNat l j (by omega) h0 h1 hl rfl
 exact ⟨lo,p,fun n0=>qq _ Try.func286 f286b rfl rfl fun E hE=>f286W j l n0 (rv:=()) hE (q n0 E hE)⟩
noncomputable def upQ (l:List Stq) (j:Int):List Stq:=permQ (upP l j) l
theorem upQ_perm {l:List Stq} {j:Int}:(upQ l j).Perm l:=Qbb
theorem Wf {l:List Stq} {j:Int}:(upQ l j).length=l.length:=Qbb.length_eq
def UpIn (l:List Stq) (j:Int):Prop:=AllQ l∧(0≤j∧j<(l.length:Int))∧l.length≤1000000
theorem upQ_ok {l:List Stq} {n0 ln:Nat} {j:Int} (h:UpIn l j) (hn:ln=l.length):Lent Try.prog 286 [.ifc 404 (.ptr 0 0 0),.int .i64 j] [⟨true,0,1,false,[.sl 1 n0 0 ln 4],false⟩,⟨true,n0,4,true,Qi l,true⟩] (.tup []) (hpB (upQ l j) n0):=by
 subst hn; exact permQ_ok (up_ex l j h.1 h.2.1.1 h.2.1.2 h.2.2) n0
def dnP (l:List Stq) (i0 n:Int) (p:Bool × List Stq):Prop:=∀ n0:Nat,Lent Try.prog 285 [.ifc 404 (.ptr 0 0 0),.int .i64 i0,.int .i64 n] (hpB l n0) (.bool p.1) (hpB p.2 n0)
def DnIn (l:List Stq) (i0 n:Int):Prop:=AllQ l∧0≤i0∧i0<(l.length:Int)∧n≤(l.length:Int)∧l.length≤1000000
theorem dn_ex (l:List Stq) (i0 n:Int) (h:DnIn l i0 n):∃ p:Bool × List Stq,p.2.Perm l∧dnP l i0 n p:=by
 obtain ⟨hl,h0,h1,hn,h2⟩:=h
 have key:∀ (d:Nat) (v:List Stq) (i:Int),n - i≤(d:Int)→0≤i→i<(v.length:Int)→AllQ v→v.length=l.length→∃ p:Bool × List Stq,p.2.Perm v∧∀ (n0:Nat) E,LentE Try.prog 285 [.sl 1 n0 0 0 1] (.bool p.1) [⟨true,0,1,false,[.sl 1 n0 0 p.2.length 4],false⟩,⟨true,n0,4,true,(Qi p.2),true⟩] E→WY E i0 n l n0 i v:=by
  intro d
  induction d with
  | zero =>
   intro v i hd h0 h1 hv hln
   exact ⟨(decide (i > i0),v),List.Perm.refl _,fun n0 E hE=>f285W0 i0 n l n0 i v (rv:=decide (i > i0)) hE ⟨⟨by omega,by omega⟩,⟨by omega,by omega⟩,fun _=>⟨rfl,rfl⟩,fun q=>by omega⟩⟩
  | succ d ih =>
   intro v i hd h0 h1 hv hln
   by_cases hj:(2*i)+1≥n
   · exact ⟨(decide (i > i0),v),List.Perm.refl _,fun n0 E hE=>f285W0 i0 n l n0 i v (rv:=decide (i > i0)) hE ⟨⟨by omega,by omega⟩,⟨by omega,by omega⟩,fun _=>⟨rfl,rfl⟩,fun q=>absurd hj q⟩⟩
   · have bi:0≤i∧i<(v.length:Int):=⟨h0,h1⟩
     have b1:0≤(2*i)+1∧(2*i)+1<(v.length:Int):=by omega
     -- the step to a child
     have one:∀ c:Int,(0≤c∧c<(v.length:Int))→i<c→∃ p:Bool × List Stq,p.2.Perm v∧∀ (n0:Nat) E,LentE Try.prog 285 [.sl 1 n0 0 0 1] (.bool p.1) [⟨true,0,1,false,[.sl 1 n0 0 p.2.length 4],false⟩,⟨true,n0,4,true,(Qi p.2),true⟩] E →
      (((QX v c i)=false→p.1=(decide (i > i0))∧p.2=v)∧((QX v c i)=true→(((0≤i∧i<(v.length:Int))∧(0≤c∧c<(v.length:Int)))∧WY E i0 n l n0 c (swpQ v i c)))):=by
      intro c bc hic
      cases hc:QX v c i with
      | false=>exact ⟨(decide (i > i0),v),List.Perm.refl _,fun n0 E hE=>⟨fun _=>⟨rfl,rfl⟩,fun q=>(by cases q)⟩⟩
      | true =>
       obtain ⟨p,p1,p2⟩:=ih (swpQ v i c) c (by omega) bc.1 (by rw [Xk]; exact bc.2) (hv.perm (VC bi bc)) (by rw [Xk]; exact hln)
       exact ⟨p,p1.trans (VC bi bc),fun n0 E hE=>⟨fun q=>(by cases q),fun _=>⟨⟨bi,bc⟩,p2 n0 E hE⟩⟩⟩
     by_cases hj2:((2*i)+1)+1<n
     · have b2:0≤((2*i)+1)+1∧((2*i)+1)+1<(v.length:Int):=by omega
       cases hc:QX v (((2*i)+1)+1) ((2*i)+1) with
       | true =>
        obtain ⟨p,p1,p2⟩:=one _ b2 (by omega)
        exact ⟨p,p1,fun n0 E hE=>f285W0 i0 n l n0 i v (rv:=p.1) hE ⟨⟨by omega,by omega⟩,⟨by omega,by omega⟩,fun q=>absurd q hj,fun _=>⟨fun q=>by omega,fun _=>⟨⟨by omega,by omega⟩,fun _=>⟨⟨hv,b2,b1⟩,fun _=>⟨⟨hv,b2,bi⟩,p2 n0 E hE⟩,fun q=>(by rw [hc] at q; cases q)⟩,fun q=>absurd hj2 q⟩⟩⟩⟩
       | false =>
        obtain ⟨p,p1,p2⟩:=one _ b1 (by omega)
        exact ⟨p,p1,fun n0 E hE=>f285W0 i0 n l n0 i v (rv:=p.1) hE ⟨⟨by omega,by omega⟩,⟨by omega,by omega⟩,fun q=>absurd q hj,fun _=>⟨fun q=>by omega,fun _=>⟨⟨by omega,by omega⟩,fun _=>⟨⟨hv,b2,b1⟩,fun q=>(by rw [hc] at q; cases q),fun _=>⟨⟨hv,b1,bi⟩,p2 n0 E hE⟩⟩,fun q=>absurd hj2 q⟩⟩⟩⟩
     · obtain ⟨p,p1,p2⟩:=one _ b1 (by omega)
       exact ⟨p,p1,fun n0 E hE=>f285W0 i0 n l n0 i v (rv:=p.1) hE ⟨⟨by omega,by omega⟩,⟨by omega,by omega⟩,fun q=>absurd q hj,fun _=>⟨fun q=>by omega,fun _=>⟨⟨by omega,by omega⟩,fun q=>absurd q hj2,fun _=>⟨⟨hv,b1,bi⟩,p2 n0 E hE⟩⟩⟩⟩⟩
 obtain ⟨p,p1,p2⟩:=key (n - i0).toNat l i0 (by omega) h0 h1 hl rfl
 exact ⟨p,p1,fun n0=>qq _ Try.func285 f285b rfl rfl fun E hE=>f285W i0 n l n0 (rv:=p.1) hE (p2 n0 E hE)⟩
noncomputable def dnQ (l:List Stq) (i0 n:Int):Bool × List Stq:=@dite _ (∃ p:Bool × List Stq,p.2.Perm l∧dnP l i0 n p) (Classical.propDecidable _) (fun h=>Classical.choose h) (fun _=>(false,l))
theorem dnQ_spec {l:List Stq} {i0 n:Int} (h:DnIn l i0 n):(dnQ l i0 n).2.Perm l∧dnP l i0 n (dnQ l i0 n):=by
 have h:=dn_ex l i0 n h
 unfold dnQ; rw [dif_pos h]; exact Classical.choose_spec h
theorem dnQ_perm {l:List Stq} {i0 n:Int}:(dnQ l i0 n).2.Perm l:=by
 unfold dnQ
 split
 · rename_i h; exact (Classical.choose_spec h).1
 · exact List.Perm.refl _
theorem Ww {l:List Stq} {i0 n:Int}:(dnQ l i0 n).2.length=l.length:=dnQ_perm.length_eq
theorem dnQ_ok {l:List Stq} {n0 ln:Nat} {i0 n:Int} (h:DnIn l i0 n) (hn:ln=l.length):Lent Try.prog 285 [.ifc 404 (.ptr 0 0 0),.int .i64 i0,.int .i64 n] [⟨true,0,1,false,[.sl 1 n0 0 ln 4],false⟩,⟨true,n0,4,true,Qi l,true⟩] (.bool (dnQ l i0 n).1) (hpB (dnQ l i0 n).2 n0):=by
 subst hn; exact (dnQ_spec h).2 n0
theorem f326b:Try.f326.body=some (Qf Try.prog 326):=by kernel_rfl
theorem f326W (l:List Stq) (n0:Nat) (x:Stq) {E:Env} {res:AV} {bs2:List Blk} (hE:LentE Try.prog 326 [.sl 1 n0 0 0 1] res bs2 E)
 (h:((l.length+1)≤2147483648∧((.tup [])=res∧[⟨true,0,1,false,[.sl 1 (n0+1) 0 (l.length+1) 4],false⟩,⟨true,(n0+1),4,true,((Qi l)++[.int .i64 x.p.town,.int .i64 x.p.used,.int .i64 x.c.ticks,.int .i64 x.c.legs]),true⟩]=bs2))):G Try.prog E [.code (Qf Try.prog 326)] ⟨[.ptr 0 0 0,.ifc 406 (.agg [.int .i64 x.p.town,.int .i64 x.p.used,.int .i64 x.c.ticks,.int .i64 x.c.legs])]++unds (Try.f326.ntmps - 2),[⟨true,0,1,false,[.sl 1 n0 0 l.length 4],false⟩,⟨true,n0,4,true,(Qi l),true⟩]⟩:=by
 obtain ⟨h1,h⟩:=h
 exact eB (.tup []) [⟨true,0,1,false,[.sl 1 (n0+1) 0 (l.length+1) 4],false⟩,⟨true,(n0+1),4,true,((Qi l)++[.int .i64 x.p.town,.int .i64 x.p.used,.int .i64 x.c.ticks,.int .i64 x.c.legs]),true⟩] [] 2 [] [n0=n0,(0+(l.length*4))=(Qi l).length,(l.length+1)≤2147483648,0=0,1≤1] hE (hE.nogh (by kernel_rfl)) Try.func326 ⟨rfl,(by have hx:=QG cStq (s:=4) (fun _=>rfl) l; simp only [Qi] at hx ⊢; rw [hx]; simp),h1,rfl,(by decide),trivial⟩ (by exact h.1) (by exact h.2)
theorem f325b:Try.f325.body=some (Qf Try.prog 325):=by kernel_rfl
theorem f325W (l:List Stq) (n0:Nat) {E:Env} {res:AV} {bs2:List Blk} (hE:LentE Try.prog 325 [.sl 1 n0 0 0 1] res bs2 E)
 (h:((I6 ((l.length:Int) - 1))∧(0≤((l.length:Int) - 1)∧(∃ se:Stq,l[Int.toNat ((l.length:Int) - 1)]?=some se∧((I6 ((l.length:Int) - 1))∧((Int.toNat ((l.length:Int) - 1))≤l.length∧(0≤((l.length:Int) - 1)∧((.ifc 406 (.agg [.int .i64 se.p.town,.int .i64 se.p.used,.int .i64 se.c.ticks,.int .i64 se.c.legs]))=res∧[⟨true,0,1,false,[.sl 1 n0 0 (Int.toNat ((l.length:Int) - 1)) 4],false⟩,⟨true,n0,4,true,(Qi (l.take (Int.toNat ((l.length:Int) - 1)))),true⟩]=bs2)))))))):G Try.prog E [.code (Qf Try.prog 325)] ⟨[.ptr 0 0 0]++unds (Try.f325.ntmps - 1),[⟨true,0,1,false,[.sl 1 n0 0 l.length 4],false⟩,⟨true,n0,4,true,(Qi l),true⟩]⟩:=by
 obtain ⟨q1_0,h⟩:=h
 obtain ⟨h2,h⟩:=h
 obtain ⟨se,h1,h⟩:=h
 obtain ⟨q9_0,h⟩:=h
 obtain ⟨q11_0,h⟩:=h
 obtain ⟨q12_0,h⟩:=h
 exact eB (.ifc 406 (.agg [.int .i64 se.p.town,.int .i64 se.p.used,.int .i64 se.c.ticks,.int .i64 se.c.legs])) [⟨true,0,1,false,[.sl 1 n0 0 (Int.toNat ((l.length:Int) - 1)) 4],false⟩,⟨true,n0,4,true,(Qi (l.take (Int.toNat ((l.length:Int) - 1)))),true⟩] [2] 2 [.auto,.auto,.ld (.agg [.int .i64 se.p.town,.int .i64 se.p.used,.int .i64 se.c.ticks,.int .i64 se.c.legs]),.cutr 1 (Qi (l.take (Int.toNat ((l.length:Int) - 1)))) (Qi (l.drop (Int.toNat ((l.length:Int) - 1))))] [n0=n0,InR .i64 ((l.length:Int) - 1),0≤((l.length:Int) - 1)∧((l.length:Int) - 1)<(l.length:Int),n0=n0,n0=n0,((Qi l).drop (0+(Int.toNat ((l.length:Int) - 1))*4)).take 4=[.int .i64 se.p.town,.int .i64 se.p.used,.int .i64 se.c.ticks,.int .i64 se.c.legs],4≤4,n0=n0,InR .i64 ((l.length:Int) - 1),0≤(Int.toNat ((l.length:Int) - 1)),(Int.toNat ((l.length:Int) - 1))≤l.length,0≤((l.length:Int) - 1),n0=n0,1≤1,(Qi l)=((Qi (l.take (Int.toNat ((l.length:Int) - 1))))++(Qi (l.drop (Int.toNat ((l.length:Int) - 1)))))] hE (hE.nogh (by kernel_rfl)) Try.func325 ⟨rfl,q1_0,(Qw h2 h1),rfl,rfl,(rp cStq 4 0 4 h1),(by decide),rfl,q9_0,(Nat.zero_le _),q11_0,q12_0,rfl,(by decide),(by exact row_cut cStq l (Int.toNat ((l.length:Int) - 1))),trivial⟩ (by exact h.1) (by exact h.2)
theorem psh_ok {l:List Stq} {n0 ln:Nat} {x:Stq} (h:l.length≤1000000) (hn:ln=l.length):Lent Try.prog 326 [.ptr 0 0 0,.ifc 406 (.agg [.int .i64 x.p.town,.int .i64 x.p.used,.int .i64 x.c.ticks,.int .i64 x.c.legs])] [⟨true,0,1,false,[.sl 1 n0 0 ln 4],false⟩,⟨true,n0,4,true,Qi l,true⟩] (.tup []) (hpB (l++[x]) (n0+1)):=by
 subst hn
 refine qq _ Try.func326 f326b rfl rfl fun E hE=>f326W l n0 x hE ⟨by omega,rfl,?_⟩
 simp only [hpB,List.length_append,List.length_cons,List.length_nil,Qi,List.flatMap_append,List.flatMap_cons,List.flatMap_nil,List.append_nil]
 rfl
theorem poq_ok {l:List Stq} {n0 ln:Nat} (h:0<l.length∧l.length≤1000000) (hn:ln=l.length):Lent Try.prog 325 [.ptr 0 0 0] [⟨true,0,1,false,[.sl 1 n0 0 ln 4],false⟩,⟨true,n0,4,true,Qi l,true⟩] (.ifc 406 (.agg (cStq (atQ l ((l.length:Int) - 1))))) (hpB (l.take (l.length - 1)) n0):=by
 subst hn
 obtain ⟨h0,h1⟩:=h
 have e:Int.toNat ((l.length:Int) - 1)=l.length - 1:=by omega
 refine qq _ Try.func325 f325b rfl rfl fun E hE=>f325W l n0 hE ⟨⟨by omega,by omega⟩,by omega,_,VZ (by omega) (by omega),⟨by omega,by omega⟩,by omega,by omega,rfl,?_⟩
 rw [e]
 simp only [hpB,List.length_take]
 rw [show min (l.length - 1) l.length=l.length - 1 by omega]
theorem f271b:Try.f271.body=some (Qf Try.prog 271):=by kernel_rfl
theorem f271W (l:List Stq) (n0:Nat) (x:Stq) {E:Env} {res:AV} {bs2:List Blk} (hE:LentE Try.prog 271 [.sl 1 n0 0 0 1] res bs2 E)
 (h:((l.length≤1000000)∧((I6 ((((l++[x]).length:Nat):Int) - 1))∧((UpIn (l++[x]) ((((l++[x]).length:Nat):Int) - 1))∧((.tup [])=res∧[⟨true,0,1,false,[.sl 1 (n0+1) 0 ((upQ (l++[x]) ((((l++[x]).length:Nat):Int) - 1)).length) 4],false⟩,⟨true,(n0+1),4,true,(Qi (upQ (l++[x]) ((((l++[x]).length:Nat):Int) - 1))),true⟩]=bs2))))):G Try.prog E [.code (Qf Try.prog 271)] ⟨[.ifc 404 (.ptr 0 0 0),.ifc 406 (.agg [.int .i64 x.p.town,.int .i64 x.p.used,.int .i64 x.c.ticks,.int .i64 x.c.legs])]++unds (Try.f271.ntmps - 2),[⟨true,0,1,false,[.sl 1 n0 0 l.length 4],false⟩,⟨true,n0,4,true,(Qi l),true⟩]⟩:=by
 obtain ⟨h1,h⟩:=h
 obtain ⟨q3_0,h⟩:=h
 obtain ⟨h2,h⟩:=h
 exact eB (.tup []) [⟨true,0,1,false,[.sl 1 (n0+1) 0 ((upQ (l++[x]) ((((l++[x]).length:Nat):Int) - 1)).length) 4],false⟩,⟨true,(n0+1),4,true,(Qi (upQ (l++[x]) ((((l++[x]).length:Nat):Int) - 1))),true⟩] [] 2 [.lent [0,1] (.tup []) [⟨true,0,1,false,[.sl 1 (n0+1) 0 ((l++[x]).length) 4],false⟩,⟨true,(n0+1),4,true,(Qi (l++[x])),true⟩],.v (.int .i64 (((l++[x]).length:Nat):Int)),.lent [0,1] (.tup []) [⟨true,0,1,false,[.sl 1 (n0+1) 0 ((upQ (l++[x]) ((((l++[x]).length:Nat):Int) - 1)).length) 4],false⟩,⟨true,(n0+1),4,true,(Qi (upQ (l++[x]) ((((l++[x]).length:Nat):Int) - 1))),true⟩]] [Yk Try.prog (.clos 326 [] []) [.ptr 0 0 0,.ifc 406 (.agg [.int .i64 x.p.town,.int .i64 x.p.used,.int .i64 x.c.ticks,.int .i64 x.c.legs])] [⟨true,0,1,false,[.sl 1 n0 0 l.length 4],false⟩,⟨true,n0,4,true,(Qi l),true⟩] (.tup []) [⟨true,0,1,false,[.sl 1 (n0+1) 0 ((l++[x]).length) 4],false⟩,⟨true,(n0+1),4,true,(Qi (l++[x])),true⟩],Qc Try.prog (.clos 323 [] []) [.rsl (Qi (l++[x])) 0 ((l++[x]).length)] (.int .i64 (((l++[x]).length:Nat):Int)),(n0+1)=(n0+1),InR .i64 ((((l++[x]).length:Nat):Int) - 1),Yk Try.prog (.clos 286 [] []) [.ifc 404 (.ptr 0 0 0),.int .i64 ((((l++[x]).length:Nat):Int) - 1)] [⟨true,0,1,false,[.sl 1 (n0+1) 0 ((l++[x]).length) 4],false⟩,⟨true,(n0+1),4,true,(Qi (l++[x])),true⟩] (.tup []) [⟨true,0,1,false,[.sl 1 (n0+1) 0 ((upQ (l++[x]) ((((l++[x]).length:Nat):Int) - 1)).length) 4],false⟩,⟨true,(n0+1),4,true,(Qi (upQ (l++[x]) ((((l++[x]).length:Nat):Int) - 1))),true⟩]] hE (hE.nogh (by kernel_rfl)) Try.func271 ⟨(QK Try.func326 (by kernel_rfl) f326b (psh_ok h1 (by first | rfl | (simp only [Wf,Xk,Ww,List.length_append,List.length_cons,List.length_nil]; done) | (simp only [Wf,Xk,Ww]; rfl)))),(u323 (yr (l++[x]))),rfl,q3_0,(QK Try.func286 (by kernel_rfl) f286b (upQ_ok h2 (by first | rfl | (simp only [Wf,Xk,Ww,List.length_append,List.length_cons,List.length_nil]; done) | (simp only [Wf,Xk,Ww]; rfl)))),trivial⟩ (by exact h.1) (by exact h.2)
theorem f270b:Try.f270.body=some (Qf Try.prog 270):=by kernel_rfl
theorem f270W (l:List Stq) (n0:Nat) {E:Env} {res:AV} {bs2:List Blk} (hE:LentE Try.prog 270 [.sl 1 n0 0 0 1] res bs2 E)
 (h:((I6 ((l.length:Int) - 1))∧((((0:Int)≤0∧0<(l.length:Int))∧((0:Int)≤((l.length:Int) - 1)∧((l.length:Int) - 1)<(l.length:Int)))∧((DnIn (swpQ l 0 ((l.length:Int) - 1)) 0 ((l.length:Int) - 1))∧((0<((dnQ (swpQ l 0 ((l.length:Int) - 1)) 0 ((l.length:Int) - 1)).2).length∧((dnQ (swpQ l 0 ((l.length:Int) - 1)) 0 ((l.length:Int) - 1)).2).length≤1000000)∧((.ifc 406 (.agg [.int .i64 (((atQ ((dnQ (swpQ l 0 ((l.length:Int) - 1)) 0 ((l.length:Int) - 1)).2) ((((dnQ (swpQ l 0 ((l.length:Int) - 1)) 0 ((l.length:Int) - 1)).2).length:Int) - 1)).p).town),.int .i64 (((atQ ((dnQ (swpQ l 0 ((l.length:Int) - 1)) 0 ((l.length:Int) - 1)).2) ((((dnQ (swpQ l 0 ((l.length:Int) - 1)) 0 ((l.length:Int) - 1)).2).length:Int) - 1)).p).used),.int .i64 (((atQ ((dnQ (swpQ l 0 ((l.length:Int) - 1)) 0 ((l.length:Int) - 1)).2) ((((dnQ (swpQ l 0 ((l.length:Int) - 1)) 0 ((l.length:Int) - 1)).2).length:Int) - 1)).c).ticks),.int .i64 (((atQ ((dnQ (swpQ l 0 ((l.length:Int) - 1)) 0 ((l.length:Int) - 1)).2) ((((dnQ (swpQ l 0 ((l.length:Int) - 1)) 0 ((l.length:Int) - 1)).2).length:Int) - 1)).c).legs)]))=res∧[⟨true,0,1,false,[.sl 1 n0 0 ((((dnQ (swpQ l 0 ((l.length:Int) - 1)) 0 ((l.length:Int) - 1)).2).take (((dnQ (swpQ l 0 ((l.length:Int) - 1)) 0 ((l.length:Int) - 1)).2).length - 1)).length) 4],false⟩,⟨true,n0,4,true,(Qi (((dnQ (swpQ l 0 ((l.length:Int) - 1)) 0 ((l.length:Int) - 1)).2).take (((dnQ (swpQ l 0 ((l.length:Int) - 1)) 0 ((l.length:Int) - 1)).2).length - 1))),true⟩]=bs2)))))):G Try.prog E [.code (Qf Try.prog 270)] ⟨[.ifc 404 (.ptr 0 0 0)]++unds (Try.f270.ntmps - 1),[⟨true,0,1,false,[.sl 1 n0 0 l.length 4],false⟩,⟨true,n0,4,true,(Qi l),true⟩]⟩:=by
 obtain ⟨q2_0,h⟩:=h
 obtain ⟨h1,h⟩:=h
 obtain ⟨h2,h⟩:=h
 obtain ⟨h3,h⟩:=h
 exact eB (.ifc 406 (.agg [.int .i64 (((atQ ((dnQ (swpQ l 0 ((l.length:Int) - 1)) 0 ((l.length:Int) - 1)).2) ((((dnQ (swpQ l 0 ((l.length:Int) - 1)) 0 ((l.length:Int) - 1)).2).length:Int) - 1)).p).town),.int .i64 (((atQ ((dnQ (swpQ l 0 ((l.length:Int) - 1)) 0 ((l.length:Int) - 1)).2) ((((dnQ (swpQ l 0 ((l.length:Int) - 1)) 0 ((l.length:Int) - 1)).2).length:Int) - 1)).p).used),.int .i64 (((atQ ((dnQ (swpQ l 0 ((l.length:Int) - 1)) 0 ((l.length:Int) - 1)).2) ((((dnQ (swpQ l 0 ((l.length:Int) - 1)) 0 ((l.length:Int) - 1)).2).length:Int) - 1)).c).ticks),.int .i64 (((atQ ((dnQ (swpQ l 0 ((l.length:Int) - 1)) 0 ((l.length:Int) - 1)).2) ((((dnQ (swpQ l 0 ((l.length:Int) - 1)) 0 ((l.length:Int) - 1)).2).length:Int) - 1)).c).legs)])) [⟨true,0,1,false,[.sl 1 n0 0 ((((dnQ (swpQ l 0 ((l.length:Int) - 1)) 0 ((l.length:Int) - 1)).2).take (((dnQ (swpQ l 0 ((l.length:Int) - 1)) 0 ((l.length:Int) - 1)).2).length - 1)).length) 4],false⟩,⟨true,n0,4,true,(Qi (((dnQ (swpQ l 0 ((l.length:Int) - 1)) 0 ((l.length:Int) - 1)).2).take (((dnQ (swpQ l 0 ((l.length:Int) - 1)) 0 ((l.length:Int) - 1)).2).length - 1))),true⟩] [2] 2 [.v (.int .i64 (l.length:Int)),.lent [1] (.tup []) [⟨true,n0,4,true,(Qi (swpQ l 0 ((l.length:Int) - 1))),true⟩],.lent [0,1] (.bool ((dnQ (swpQ l 0 ((l.length:Int) - 1)) 0 ((l.length:Int) - 1)).1)) [⟨true,0,1,false,[.sl 1 n0 0 ((dnQ (swpQ l 0 ((l.length:Int) - 1)) 0 ((l.length:Int) - 1)).2.length) 4],false⟩,⟨true,n0,4,true,(Qi (dnQ (swpQ l 0 ((l.length:Int) - 1)) 0 ((l.length:Int) - 1)).2),true⟩],.lent [0,1] (.ifc 406 (.agg [.int .i64 (((atQ ((dnQ (swpQ l 0 ((l.length:Int) - 1)) 0 ((l.length:Int) - 1)).2) ((((dnQ (swpQ l 0 ((l.length:Int) - 1)) 0 ((l.length:Int) - 1)).2).length:Int) - 1)).p).town),.int .i64 (((atQ ((dnQ (swpQ l 0 ((l.length:Int) - 1)) 0 ((l.length:Int) - 1)).2) ((((dnQ (swpQ l 0 ((l.length:Int) - 1)) 0 ((l.length:Int) - 1)).2).length:Int) - 1)).p).used),.int .i64 (((atQ ((dnQ (swpQ l 0 ((l.length:Int) - 1)) 0 ((l.length:Int) - 1)).2) ((((dnQ (swpQ l 0 ((l.length:Int) - 1)) 0 ((l.length:Int) - 1)).2).length:Int) - 1)).c).ticks),.int .i64 (((atQ ((dnQ (swpQ l 0 ((l.length:Int) - 1)) 0 ((l.length:Int) - 1)).2) ((((dnQ (swpQ l 0 ((l.length:Int) - 1)) 0 ((l.length:Int) - 1)).2).length:Int) - 1)).c).legs)])) [⟨true,0,1,false,[.sl 1 n0 0 ((((dnQ (swpQ l 0 ((l.length:Int) - 1)) 0 ((l.length:Int) - 1)).2).take (((dnQ (swpQ l 0 ((l.length:Int) - 1)) 0 ((l.length:Int) - 1)).2).length - 1)).length) 4],false⟩,⟨true,n0,4,true,(Qi (((dnQ (swpQ l 0 ((l.length:Int) - 1)) 0 ((l.length:Int) - 1)).2).take (((dnQ (swpQ l 0 ((l.length:Int) - 1)) 0 ((l.length:Int) - 1)).2).length - 1))),true⟩]] [Qc Try.prog (.clos 323 [] []) [.rsl (Qi l) 0 l.length] (.int .i64 (l.length:Int)),n0=n0,InR .i64 ((l.length:Int) - 1),Yk Try.prog (.clos 327 [] []) [.sl 0 n0 0 l.length 4,.int .i64 0,.int .i64 ((l.length:Int) - 1)] [⟨true,n0,4,true,(Qi l),true⟩] (.tup []) [⟨true,n0,4,true,(Qi (swpQ l 0 ((l.length:Int) - 1))),true⟩],Yk Try.prog (.clos 285 [] []) [.ifc 404 (.ptr 0 0 0),.int .i64 0,.int .i64 ((l.length:Int) - 1)] [⟨true,0,1,false,[.sl 1 n0 0 l.length 4],false⟩,⟨true,n0,4,true,(Qi (swpQ l 0 ((l.length:Int) - 1))),true⟩] (.bool ((dnQ (swpQ l 0 ((l.length:Int) - 1)) 0 ((l.length:Int) - 1)).1)) [⟨true,0,1,false,[.sl 1 n0 0 ((dnQ (swpQ l 0 ((l.length:Int) - 1)) 0 ((l.length:Int) - 1)).2.length) 4],false⟩,⟨true,n0,4,true,(Qi (dnQ (swpQ l 0 ((l.length:Int) - 1)) 0 ((l.length:Int) - 1)).2),true⟩],Yk Try.prog (.clos 325 [] []) [.ptr 0 0 0] [⟨true,0,1,false,[.sl 1 n0 0 ((dnQ (swpQ l 0 ((l.length:Int) - 1)) 0 ((l.length:Int) - 1)).2.length) 4],false⟩,⟨true,n0,4,true,(Qi (dnQ (swpQ l 0 ((l.length:Int) - 1)) 0 ((l.length:Int) - 1)).2),true⟩] (.ifc 406 (.agg [.int .i64 (((atQ ((dnQ (swpQ l 0 ((l.length:Int) - 1)) 0 ((l.length:Int) - 1)).2) ((((dnQ (swpQ l 0 ((l.length:Int) - 1)) 0 ((l.length:Int) - 1)).2).length:Int) - 1)).p).town),.int .i64 (((atQ ((dnQ (swpQ l 0 ((l.length:Int) - 1)) 0 ((l.length:Int) - 1)).2) ((((dnQ (swpQ l 0 ((l.length:Int) - 1)) 0 ((l.length:Int) - 1)).2).length:Int) - 1)).p).used),.int .i64 (((atQ ((dnQ (swpQ l 0 ((l.length:Int) - 1)) 0 ((l.length:Int) - 1)).2) ((((dnQ (swpQ l 0 ((l.length:Int) - 1)) 0 ((l.length:Int) - 1)).2).length:Int) - 1)).c).ticks),.int .i64 (((atQ ((dnQ (swpQ l 0 ((l.length:Int) - 1)) 0 ((l.length:Int) - 1)).2) ((((dnQ (swpQ l 0 ((l.length:Int) - 1)) 0 ((l.length:Int) - 1)).2).length:Int) - 1)).c).legs)])) [⟨true,0,1,false,[.sl 1 n0 0 ((((dnQ (swpQ l 0 ((l.length:Int) - 1)) 0 ((l.length:Int) - 1)).2).take (((dnQ (swpQ l 0 ((l.length:Int) - 1)) 0 ((l.length:Int) - 1)).2).length - 1)).length) 4],false⟩,⟨true,n0,4,true,(Qi (((dnQ (swpQ l 0 ((l.length:Int) - 1)) 0 ((l.length:Int) - 1)).2).take (((dnQ (swpQ l 0 ((l.length:Int) - 1)) 0 ((l.length:Int) - 1)).2).length - 1))),true⟩]] hE (hE.nogh (by kernel_rfl)) Try.func270 ⟨(u323 (yr l)),rfl,q2_0,(QK Try.func327 (by kernel_rfl) f327b (KA h1)),(QK Try.func285 (by kernel_rfl) f285b (dnQ_ok h2 (by first | rfl | (simp only [Wf,Xk,Ww,List.length_append,List.length_cons,List.length_nil]; done) | (simp only [Wf,Xk,Ww]; rfl)))),(QK Try.func325 (by kernel_rfl) f325b (poq_ok h3 (by first | rfl | (simp only [Wf,Xk,Ww,List.length_append,List.length_cons,List.length_nil]; done) | (simp only [Wf,Xk,Ww]; rfl)))),trivial⟩ (by exact h.1) (by exact h.2)
noncomputable def pushQ (l:List Stq) (x:Stq):List Stq:=upQ (l++[x]) ((((l++[x]).length:Nat):Int) - 1)
theorem QaZ {l:List Stq} {x:Stq}:(pushQ l x).Perm (x :: l):=upQ_perm.trans (List.perm_append_singleton x l)
def QbF (l:List Stq) (x:Stq):Prop:=AllQ l∧XZ x.c∧l.length≤900000
theorem hpush_ok {l:List Stq} {n0 ln:Nat} {x:Stq} (h:QbF l x) (hn:ln=l.length):Lent Try.prog 271 [.ifc 404 (.ptr 0 0 0),.ifc 406 (.agg [.int .i64 x.p.town,.int .i64 x.p.used,.int .i64 x.c.ticks,.int .i64 x.c.legs])] [⟨true,0,1,false,[.sl 1 n0 0 ln 4],false⟩,⟨true,n0,4,true,Qi l,true⟩] (.tup []) (hpB (pushQ l x) (n0+1)):=by
 subst hn
 obtain ⟨h1,h2,h3⟩:=h
 have hl:(l++[x]).length=l.length+1:=by simp
 refine qq _ Try.func271 f271b rfl rfl fun E hE=>f271W l n0 x hE ⟨by omega,⟨by omega,by omega⟩,⟨fun y hy=>?_,by omega,by omega⟩,rfl,rfl⟩
 rcases List.mem_append.1 hy with hy | hy
 · exact h1 y hy
 · rw [List.mem_singleton] at hy; subst hy; exact h2
noncomputable def popV (l:List Stq):List Stq:=(dnQ (swpQ l 0 ((l.length:Int) - 1)) 0 ((l.length:Int) - 1)).2
noncomputable def popT (l:List Stq):Stq:=atQ (popV l) (((popV l).length:Int) - 1)
noncomputable def popR (l:List Stq):List Stq:=(popV l).take ((popV l).length - 1)
theorem popV_perm {l:List Stq} (h:0<l.length):(popV l).Perm l:=dnQ_perm.trans (VC ⟨by omega,by omega⟩ ⟨by omega,by omega⟩)
theorem pop_perm {l:List Stq} (h:0<l.length):(popT l :: popR l).Perm l:=by
 have hp:=popV_perm h
 refine List.Perm.trans ?_ hp
 have hl:=hp.length_eq
 have e:popV l=popR l++[popT l]:=by
  unfold popT popR
  generalize popV l=v at hl
  have hg:=VZ (l:=v) (i:=(v.length:Int) - 1) (by omega) (by omega)
  rw [show Int.toNat ((v.length:Int) - 1)=v.length - 1 by omega] at hg
  obtain ⟨h1,h2⟩:=List.getElem?_eq_some_iff.1 hg
  rw [← h2]
  have:=List.take_succ_eq_append_getElem (l:=v) (i:=v.length - 1) h1
  rw [← this,List.take_of_length_le (by omega)]
 rw [e]
 exact (List.perm_append_singleton _ _).symm
def PopIn (l:List Stq):Prop:=AllQ l∧0<l.length∧l.length≤900000
theorem hpop_ok {l:List Stq} {n0 ln:Nat} (h:PopIn l) (hn:ln=l.length):Lent Try.prog 270 [.ifc 404 (.ptr 0 0 0)] [⟨true,0,1,false,[.sl 1 n0 0 ln 4],false⟩,⟨true,n0,4,true,Qi l,true⟩] (.ifc 406 (.agg (cStq (popT l)))) (hpB (popR l) n0):=by
 subst hn
 obtain ⟨h1,h2,h3⟩:=h
 have hs:(0:Int)≤0∧(0:Int)<(l.length:Int):=by omega
 have hk:0≤(l.length:Int) - 1∧(l.length:Int) - 1<(l.length:Int):=by omega
 have hv:=popV_perm h2
 have hvl:=hv.length_eq
 refine qq _ Try.func270 f270b rfl rfl fun E hE=>f270W l n0 hE ⟨⟨by omega,by omega⟩,⟨hs,hk⟩,⟨h1.perm (VC hs hk),by omega,by rw [Xk]; omega,by rw [Xk]; omega,by rw [Xk]; omega⟩,?_,rfl,rfl⟩
 change 0<(popV l).length∧(popV l).length≤1000000
 omega
end Go.Proofs.Ytemklbioijmjiaa
namespace Go.Proofs.Ytemklbioijmjiaa
open Go Ax
open Go.Proofs
structure Rod where
 a:Int
 b:Int
 len:Int
 hgt:Int
 wgt:Int
def cRod (t:Rod):List AV:=[.int .i64 t.a,.int .i64 t.b,.int .i64 t.len,.int .i64 t.hgt,.int .i64 t.wgt]
def Qb (l:List Rod):List AV:=l.flatMap cRod
structure Lry where
 hgt:Int
 wgt:Int
 fr:Int
 ready:Int
 drive:Int
 rest:Int
def cLry (t:Lry):List AV:=[.int .i64 t.hgt,.int .i64 t.wgt,.int .i64 t.fr,.int .i64 t.ready,.int .i64 t.drive,.int .i64 t.rest]
def Qo (l:List Lry):List AV:=l.flatMap cLry
structure FMap where
 park:List Bool
 roads:List Rod
structure Atl where
 m:FMap
 l:Lry
structure Way where
 road:Int
 rest:Int
 to:Pla
 c:Cst
def cWay (t:Way):List AV:=[.int .i64 t.road,.int .i64 t.rest,.int .i64 t.to.town,.int .i64 t.to.used,.int .i64 t.c.ticks,.int .i64 t.c.legs]
def qy (w:Way):List AV:=[.agg (cWay w)]
def zr:Rod:=⟨0,0,0,0,0⟩
def Qd (l:List Rod) (i:Nat):Rod:=l.getD i zr
def XB (a:Atl) (t:Int):Bool:=a.m.park.getD t.toNat false
def YA (r:Rod) (l:Lry):Bool:=decide (l.hgt≤r.hgt) && decide (l.wgt≤r.wgt)
def wayA (p:Pla) (i:Nat) (r:Rod):Way:=⟨(i:Int),0,⟨(r.a+r.b) - p.town,p.used+r.len⟩,⟨r.len,1⟩⟩
def wayB (a:Atl) (p:Pla) (i:Nat) (r:Rod):Way:=⟨(i:Int),a.l.rest,⟨(r.a+r.b) - p.town,r.len⟩,⟨a.l.rest+r.len,1⟩⟩
def goA (a:Atl) (p:Pla) (r:Rod):Bool:=decide ((p.used+r.len)≤a.l.drive)
def goB (a:Atl) (p:Pla) (r:Rod):Bool:=XB a p.town && (decide (p.used > 0) && decide (r.len≤a.l.drive))
def skipR (a:Atl) (p:Pla) (r:Rod):Bool:=((r.a != p.town) && (r.b != p.town)) || !YA r a.l
def QaP (a:Atl) (p:Pla) (i:Nat) (r:Rod):List Way :=
 if skipR a p r=true then [] else (if goA a p r=true then [wayA p i r] else [])++(if goB a p r=true then [wayB a p i r] else [])
def qz (a:Atl) (p:Pla):List Rod→Nat→List Way
 | [],_=>[]
 | r :: rs,i=>QaP a p i r++qz a p rs (i+1)
/-- The ways from a place. -/
def XD (a:Atl) (p:Pla):List Way:=qz a p a.m.roads 0
structure RodOk (n:Nat) (r:Rod):Prop where
 a0:0≤r.a
 a1:r.a<(n:Int)
 b0:0≤r.b
 b1:r.b<(n:Int)
 l0:1≤r.len
 l1:r.len≤500
structure AtlOk (a:Atl):Prop where
 rod:∀ r ∈ a.m.roads,RodOk a.m.park.length r
 pl:a.m.park.length≤12
 rl:a.m.roads.length≤30
 d0:1≤a.l.drive
 d1:a.l.drive≤500
 r0:1≤a.l.rest
 r1:a.l.rest≤500
structure PlaOk (a:Atl) (p:Pla):Prop where
 t0:0≤p.town
 t1:p.town<(a.m.park.length:Int)
 u0:0≤p.used
 u1:p.used≤a.l.drive
theorem YP {l:List Rod} {i:Nat} (h:i<l.length):l[i]?=some (Qd l i):=by
 rw [Qd,List.getD_eq_getElem?_getD,List.getElem?_eq_getElem h]; rfl
theorem parkAt_get {a:Atl} {t:Int} (h0:0≤t) (h1:t<(a.m.park.length:Int)):a.m.park[t.toNat]?=some (XB a t):=by
 rw [XB,List.getD_eq_getElem?_getD,List.getElem?_eq_getElem (show t.toNat<a.m.park.length by omega)]; rfl
theorem rod_ld {l:List Rod} {i:Nat} (h:i<l.length):((Qb l).drop (0+((Int.toNat (i:Int))*5))).take 5=cRod (Qd l i) :=
 Ki cRod (s:=5) (fun _=>rfl) (k:=0) (m:=5) (by decide) (by rw [Int.toNat_natCast]; exact YP h)
theorem park_ld {a:Atl} {t:Int} (h0:0≤t) (h1:t<(a.m.park.length:Int)):((rowB a.m.park).drop (0+((Int.toNat t)*1))).take 1=[.bool (XB a t)] :=
 Ki (fun b=>[AV.bool b]) (s:=1) (fun _=>rfl) (k:=0) (m:=1) (by decide) (parkAt_get h0 h1)
theorem w_cons {α:Type} {l:List α} {n:Nat} {x:α} {r:List α} (h:l.drop n=x :: r):l[n]?=some x∧l.drop (n+1)=r∧n<l.length:=by
 have hn:n<l.length:=by
  rcases Nat.lt_or_ge n l.length with h1 | h1
  · exact h1
  · rw [List.drop_eq_nil_of_le h1] at h; cases h
 rw [List.drop_eq_getElem_cons hn] at h
 simp only [List.cons.injEq] at h
 exact ⟨by rw [List.getElem?_eq_getElem hn,h.1],h.2,hn⟩
theorem f276b:Try.f276.body=some (Qf Try.prog 276):=by kernel_rfl
theorem f276W (r:Rod) (l:Lry) {E:Env} {rv:Bool} (hE:Qr Try.prog 276 (.bool rv) E)
 (h:((l.hgt≤r.hgt→rv=(decide (l.wgt≤r.wgt)))∧(¬ (l.hgt≤r.hgt)→rv=false))):G Try.prog E [.code (Qf Try.prog 276)] ⟨[.agg [.int .i64 r.a,.int .i64 r.b,.int .i64 r.len,.int .i64 r.hgt,.int .i64 r.wgt],.agg [.int .i64 l.hgt,.int .i64 l.wgt,.int .i64 l.fr,.int .i64 l.ready,.int .i64 l.drive,.int .i64 l.rest]]++unds (Try.f276.ntmps - 2),[]⟩:=by
 rcases bft (decide (l.hgt≤r.hgt)) with hc0 | hc0
 · have h:=h.1 (odt hc0)
   exact eL (.bool (decide (l.wgt≤r.wgt))) [.b true] [(decide (l.hgt≤r.hgt))=true] hE Try.func276 ⟨hc0,trivial⟩ (by exact AvLe.of_eq (by rw [h]; try rfl))
 · have h:=h.2 (odf hc0)
   exact eL (.bool false) [.b false] [(decide (l.hgt≤r.hgt))=false] hE Try.func276 ⟨hc0,trivial⟩ (by exact AvLe.of_eq (by rw [h]; try rfl))
theorem f239b:Try.f239.body=some (Qf Try.prog 239):=by kernel_rfl
theorem u239 {a c k:List AV} {r:AV} (h:Pure Try.prog 239 (a++c++k) r):Qc Try.prog (.clos 239 a k) c r:=Qk Try.func239 (by kernel_rfl) f239b h
theorem f239W (a:Atl) (p:Pla) {E:Env} {rv:AV} (hE:Qr Try.prog 239 rv E)
 (h:rv=(.clos 275 [] [.rptr [.rsl (rowB a.m.park) 0 a.m.park.length,.rsl (Qb a.m.roads) 0 a.m.roads.length,.int .i64 a.l.hgt,.int .i64 a.l.wgt,.int .i64 a.l.fr,.int .i64 a.l.ready,.int .i64 a.l.drive,.int .i64 a.l.rest] 0,.rptr [.int .i64 p.town,.int .i64 p.used] 0])):G Try.prog E [.code (Qf Try.prog 239)] ⟨[.agg [.rsl (rowB a.m.park) 0 a.m.park.length,.rsl (Qb a.m.roads) 0 a.m.roads.length,.int .i64 a.l.hgt,.int .i64 a.l.wgt,.int .i64 a.l.fr,.int .i64 a.l.ready,.int .i64 a.l.drive,.int .i64 a.l.rest],.agg [.int .i64 p.town,.int .i64 p.used]]++unds (Try.f239.ntmps - 2),[]⟩:=by
 exact eL (.clos 275 [] [.rptr [.rsl (rowB a.m.park) 0 a.m.park.length,.rsl (Qb a.m.roads) 0 a.m.roads.length,.int .i64 a.l.hgt,.int .i64 a.l.wgt,.int .i64 a.l.fr,.int .i64 a.l.ready,.int .i64 a.l.drive,.int .i64 a.l.rest] 0,.rptr [.int .i64 p.town,.int .i64 p.used] 0]) [] [] hE Try.func239 trivial (by exact AvLe.of_eq (by rw [h]; try rfl))
theorem f275b:Try.f275.body=some (Qf Try.prog 275):=by kernel_rfl
def YD (P:Program):List Item:=kAt 400 [.code (Qf P 275)] [.stop]
def YC (yv0:Value) (a:Atl) (p:Pla) (i:Nat):St:=⟨([.opq yv0,.rptr [.rsl (rowB a.m.park) 0 a.m.park.length,.rsl (Qb a.m.roads) 0 a.m.roads.length,.int .i64 a.l.hgt,.int .i64 a.l.wgt,.int .i64 a.l.fr,.int .i64 a.l.ready,.int .i64 a.l.drive,.int .i64 a.l.rest] 0,.rptr [.int .i64 p.town,.int .i64 p.used] 0]++jj 7 ([.rsl (Qb a.m.roads) 0 a.m.roads.length,.int .i64 (a.m.roads.length:Int),.int .i64 (i:Int)]++Js 100)),[]⟩
theorem p275_s (yv0:Value) (a:Atl) (p:Pla) {E:Env} {xs:List (List AV)} {yv:Value} {Y:Option Nat→Sd} {cont:Nat→Bool} {e:Option Nat} {o:Option Nat} (hE:IterE Try.prog 275 xs yv Y cont e o E)
 (hg:G Try.prog E (YD Try.prog) (YC yv0 a p 0)):G Try.prog E [.code (Qf Try.prog 275)] ⟨[.opq yv0,.rptr [.rsl (rowB a.m.park) 0 a.m.park.length,.rsl (Qb a.m.roads) 0 a.m.roads.length,.int .i64 a.l.hgt,.int .i64 a.l.wgt,.int .i64 a.l.fr,.int .i64 a.l.ready,.int .i64 a.l.drive,.int .i64 a.l.rest] 0,.rptr [.int .i64 p.town,.int .i64 p.used] 0]++unds (Try.f275.ntmps - 3),[]⟩ :=
 QT (n:=400) (ds:=[]) (live:=[0,1,2,10,11,12]) (m:=0) (evs:=[.stop]) (obs:=[]) hE.kind (hE.nogh _) mixed (by kernel_rfl) trivial hg
theorem p275_0_0 (yv0:Value) (a:Atl) (p:Pla) (i:Nat) {E:Env} {xs:List (List AV)} {yv:Value} {Y:Option Nat→Sd} {cont:Nat→Bool} {e:Option Nat} {o:Option Nat} (hE:IterE Try.prog 275 xs yv Y cont e o E) (h0:(decide ((i:Int)<(a.m.roads.length:Int)))=true) (h1:0≤(i:Int)∧(i:Int)<(a.m.roads.length:Int)) (h2:((Qb a.m.roads).drop (0+((Int.toNat (i:Int))*5))).take 5=[.int .i64 ((Qd a.m.roads i).a),.int .i64 ((Qd a.m.roads i).b),.int .i64 ((Qd a.m.roads i).len),.int .i64 ((Qd a.m.roads i).hgt),.int .i64 ((Qd a.m.roads i).wgt)]) (h4:((Qd a.m.roads i).a != p.town)=true) (h5:((Qd a.m.roads i).b != p.town)=true) (h7:InR .i64 ((i:Int)+1))
 (hg:G Try.prog E (YD Try.prog) (YC yv0 a p (i+1))):G Try.prog E (YD Try.prog) (YC yv0 a p i) :=
 QT (n:=400) (ds:=[]) (live:=[0,1,2,10,11,12]) (m:=0) (evs:=[.b true,.ld (.agg [.int .i64 ((Qd a.m.roads i).a),.int .i64 ((Qd a.m.roads i).b),.int .i64 ((Qd a.m.roads i).len),.int .i64 ((Qd a.m.roads i).hgt),.int .i64 ((Qd a.m.roads i).wgt)]),.b true,.b true,.b true,.stop]) (obs:=[(decide ((i:Int)<(a.m.roads.length:Int)))=true,0≤(i:Int)∧(i:Int)<(a.m.roads.length:Int),((Qb a.m.roads).drop (0+((Int.toNat (i:Int))*5))).take 5=[.int .i64 ((Qd a.m.roads i).a),.int .i64 ((Qd a.m.roads i).b),.int .i64 ((Qd a.m.roads i).len),.int .i64 ((Qd a.m.roads i).hgt),.int .i64 ((Qd a.m.roads i).wgt)],5≤5,((Qd a.m.roads i).a != p.town)=true,((Qd a.m.roads i).b != p.town)=true,true=true,InR .i64 ((i:Int)+1)]) hE.kind (hE.nogh _) mixed (by kernel_rfl) ⟨h0,h1,h2,(by decide),h4,h5,rfl,h7,trivial⟩ hg
theorem p275_0_1 (yv0:Value) (a:Atl) (p:Pla) (i:Nat) {E:Env} {xs:List (List AV)} {yv:Value} {Y:Option Nat→Sd} {cont:Nat→Bool} {e:Option Nat} {o:Option Nat} (hE:IterE Try.prog 275 xs yv Y cont e o E) (h0:(decide ((i:Int)<(a.m.roads.length:Int)))=true) (h1:0≤(i:Int)∧(i:Int)<(a.m.roads.length:Int)) (h2:((Qb a.m.roads).drop (0+((Int.toNat (i:Int))*5))).take 5=[.int .i64 ((Qd a.m.roads i).a),.int .i64 ((Qd a.m.roads i).b),.int .i64 ((Qd a.m.roads i).len),.int .i64 ((Qd a.m.roads i).hgt),.int .i64 ((Qd a.m.roads i).wgt)]) (h4:((Qd a.m.roads i).a != p.town)=true) (h5:((Qd a.m.roads i).b != p.town)=false) (h6:Qc Try.prog (.clos 276 [] []) [.agg [.int .i64 ((Qd a.m.roads i).a),.int .i64 ((Qd a.m.roads i).b),.int .i64 ((Qd a.m.roads i).len),.int .i64 ((Qd a.m.roads i).hgt),.int .i64 ((Qd a.m.roads i).wgt)],.agg [.int .i64 a.l.hgt,.int .i64 a.l.wgt,.int .i64 a.l.fr,.int .i64 a.l.ready,.int .i64 a.l.drive,.int .i64 a.l.rest]] (.bool (YA (Qd a.m.roads i) a.l))) (h7:(!(YA (Qd a.m.roads i) a.l))=true) (h8:InR .i64 ((i:Int)+1))
 (hg:G Try.prog E (YD Try.prog) (YC yv0 a p (i+1))):G Try.prog E (YD Try.prog) (YC yv0 a p i) :=
 QT (n:=400) (ds:=[]) (live:=[0,1,2,10,11,12]) (m:=0) (evs:=[.b true,.ld (.agg [.int .i64 ((Qd a.m.roads i).a),.int .i64 ((Qd a.m.roads i).b),.int .i64 ((Qd a.m.roads i).len),.int .i64 ((Qd a.m.roads i).hgt),.int .i64 ((Qd a.m.roads i).wgt)]),.b true,.b false,.v (.bool (YA (Qd a.m.roads i) a.l)),.b true,.stop]) (obs:=[(decide ((i:Int)<(a.m.roads.length:Int)))=true,0≤(i:Int)∧(i:Int)<(a.m.roads.length:Int),((Qb a.m.roads).drop (0+((Int.toNat (i:Int))*5))).take 5=[.int .i64 ((Qd a.m.roads i).a),.int .i64 ((Qd a.m.roads i).b),.int .i64 ((Qd a.m.roads i).len),.int .i64 ((Qd a.m.roads i).hgt),.int .i64 ((Qd a.m.roads i).wgt)],5≤5,((Qd a.m.roads i).a != p.town)=true,((Qd a.m.roads i).b != p.town)=false,Qc Try.prog (.clos 276 [] []) [.agg [.int .i64 ((Qd a.m.roads i).a),.int .i64 ((Qd a.m.roads i).b),.int .i64 ((Qd a.m.roads i).len),.int .i64 ((Qd a.m.roads i).hgt),.int .i64 ((Qd a.m.roads i).wgt)],.agg [.int .i64 a.l.hgt,.int .i64 a.l.wgt,.int .i64 a.l.fr,.int .i64 a.l.ready,.int .i64 a.l.drive,.int .i64 a.l.rest]] (.bool (YA (Qd a.m.roads i) a.l)),(!(YA (Qd a.m.roads i) a.l))=true,InR .i64 ((i:Int)+1)]) hE.kind (hE.nogh _) mixed (by kernel_rfl) ⟨h0,h1,h2,(by decide),h4,h5,h6,h7,h8,trivial⟩ hg
def yA (P:Program):List Item:=toOp 0 (kReg 400 [.code (Qf P 275)] [.b true,.b false] 4)
def yy (yv0:Value) (a:Atl) (p:Pla) (i:Nat):St:=⟨([.opq yv0,.rptr [.rsl (rowB a.m.park) 0 a.m.park.length,.rsl (Qb a.m.roads) 0 a.m.roads.length,.int .i64 a.l.hgt,.int .i64 a.l.wgt,.int .i64 a.l.fr,.int .i64 a.l.ready,.int .i64 a.l.drive,.int .i64 a.l.rest] 0,.rptr [.int .i64 p.town,.int .i64 p.used] 0,J,.int .i64 (i:Int),.ptr 0 0 0,J,J,J,J,.rsl (Qb a.m.roads) 0 a.m.roads.length,.int .i64 (a.m.roads.length:Int),.int .i64 (i:Int)]++Js 100),[⟨true,0,1,true,[.int .i64 ((Qd a.m.roads i).a),.int .i64 ((Qd a.m.roads i).b),.int .i64 ((Qd a.m.roads i).len),.int .i64 ((Qd a.m.roads i).hgt),.int .i64 ((Qd a.m.roads i).wgt)],false⟩]⟩
theorem p275_0_2 (yv0:Value) (a:Atl) (p:Pla) (i:Nat) {E:Env} {xs:List (List AV)} {yv:Value} {Y:Option Nat→Sd} {cont:Nat→Bool} {e:Option Nat} {o:Option Nat} (hE:IterE Try.prog 275 xs yv Y cont e o E) (h0:(decide ((i:Int)<(a.m.roads.length:Int)))=true) (h1:0≤(i:Int)∧(i:Int)<(a.m.roads.length:Int)) (h2:((Qb a.m.roads).drop (0+((Int.toNat (i:Int))*5))).take 5=[.int .i64 ((Qd a.m.roads i).a),.int .i64 ((Qd a.m.roads i).b),.int .i64 ((Qd a.m.roads i).len),.int .i64 ((Qd a.m.roads i).hgt),.int .i64 ((Qd a.m.roads i).wgt)]) (h4:((Qd a.m.roads i).a != p.town)=true) (h5:((Qd a.m.roads i).b != p.town)=false) (h6:Qc Try.prog (.clos 276 [] []) [.agg [.int .i64 ((Qd a.m.roads i).a),.int .i64 ((Qd a.m.roads i).b),.int .i64 ((Qd a.m.roads i).len),.int .i64 ((Qd a.m.roads i).hgt),.int .i64 ((Qd a.m.roads i).wgt)],.agg [.int .i64 a.l.hgt,.int .i64 a.l.wgt,.int .i64 a.l.fr,.int .i64 a.l.ready,.int .i64 a.l.drive,.int .i64 a.l.rest]] (.bool (YA (Qd a.m.roads i) a.l))) (h7:(!(YA (Qd a.m.roads i) a.l))=false)
 (hg:G Try.prog E (yA Try.prog) (yy yv0 a p i)):G Try.prog E (YD Try.prog) (YC yv0 a p i) :=
 QT (n:=400) (ds:=[]) (live:=[0,1,2,4,5,10,11,12]) (m:=1) (evs:=[.b true,.ld (.agg [.int .i64 ((Qd a.m.roads i).a),.int .i64 ((Qd a.m.roads i).b),.int .i64 ((Qd a.m.roads i).len),.int .i64 ((Qd a.m.roads i).hgt),.int .i64 ((Qd a.m.roads i).wgt)]),.b true,.b false,.v (.bool (YA (Qd a.m.roads i) a.l)),.b false,.hold 0]) (obs:=[(decide ((i:Int)<(a.m.roads.length:Int)))=true,0≤(i:Int)∧(i:Int)<(a.m.roads.length:Int),((Qb a.m.roads).drop (0+((Int.toNat (i:Int))*5))).take 5=[.int .i64 ((Qd a.m.roads i).a),.int .i64 ((Qd a.m.roads i).b),.int .i64 ((Qd a.m.roads i).len),.int .i64 ((Qd a.m.roads i).hgt),.int .i64 ((Qd a.m.roads i).wgt)],5≤5,((Qd a.m.roads i).a != p.town)=true,((Qd a.m.roads i).b != p.town)=false,Qc Try.prog (.clos 276 [] []) [.agg [.int .i64 ((Qd a.m.roads i).a),.int .i64 ((Qd a.m.roads i).b),.int .i64 ((Qd a.m.roads i).len),.int .i64 ((Qd a.m.roads i).hgt),.int .i64 ((Qd a.m.roads i).wgt)],.agg [.int .i64 a.l.hgt,.int .i64 a.l.wgt,.int .i64 a.l.fr,.int .i64 a.l.ready,.int .i64 a.l.drive,.int .i64 a.l.rest]] (.bool (YA (Qd a.m.roads i) a.l)),(!(YA (Qd a.m.roads i) a.l))=false]) hE.kind (hE.nogh _) mixed (by kernel_rfl) ⟨h0,h1,h2,(by decide),h4,h5,h6,h7,trivial⟩ hg
theorem p275_0_3 (yv0:Value) (a:Atl) (p:Pla) (i:Nat) {E:Env} {xs:List (List AV)} {yv:Value} {Y:Option Nat→Sd} {cont:Nat→Bool} {e:Option Nat} {o:Option Nat} (hE:IterE Try.prog 275 xs yv Y cont e o E) (h0:(decide ((i:Int)<(a.m.roads.length:Int)))=true) (h1:0≤(i:Int)∧(i:Int)<(a.m.roads.length:Int)) (h2:((Qb a.m.roads).drop (0+((Int.toNat (i:Int))*5))).take 5=[.int .i64 ((Qd a.m.roads i).a),.int .i64 ((Qd a.m.roads i).b),.int .i64 ((Qd a.m.roads i).len),.int .i64 ((Qd a.m.roads i).hgt),.int .i64 ((Qd a.m.roads i).wgt)]) (h4:((Qd a.m.roads i).a != p.town)=false) (h6:Qc Try.prog (.clos 276 [] []) [.agg [.int .i64 ((Qd a.m.roads i).a),.int .i64 ((Qd a.m.roads i).b),.int .i64 ((Qd a.m.roads i).len),.int .i64 ((Qd a.m.roads i).hgt),.int .i64 ((Qd a.m.roads i).wgt)],.agg [.int .i64 a.l.hgt,.int .i64 a.l.wgt,.int .i64 a.l.fr,.int .i64 a.l.ready,.int .i64 a.l.drive,.int .i64 a.l.rest]] (.bool (YA (Qd a.m.roads i) a.l))) (h7:(!(YA (Qd a.m.roads i) a.l))=true) (h8:InR .i64 ((i:Int)+1))
 (hg:G Try.prog E (YD Try.prog) (YC yv0 a p (i+1))):G Try.prog E (YD Try.prog) (YC yv0 a p i) :=
 QT (n:=400) (ds:=[]) (live:=[0,1,2,10,11,12]) (m:=0) (evs:=[.b true,.ld (.agg [.int .i64 ((Qd a.m.roads i).a),.int .i64 ((Qd a.m.roads i).b),.int .i64 ((Qd a.m.roads i).len),.int .i64 ((Qd a.m.roads i).hgt),.int .i64 ((Qd a.m.roads i).wgt)]),.b false,.b false,.v (.bool (YA (Qd a.m.roads i) a.l)),.b true,.stop]) (obs:=[(decide ((i:Int)<(a.m.roads.length:Int)))=true,0≤(i:Int)∧(i:Int)<(a.m.roads.length:Int),((Qb a.m.roads).drop (0+((Int.toNat (i:Int))*5))).take 5=[.int .i64 ((Qd a.m.roads i).a),.int .i64 ((Qd a.m.roads i).b),.int .i64 ((Qd a.m.roads i).len),.int .i64 ((Qd a.m.roads i).hgt),.int .i64 ((Qd a.m.roads i).wgt)],5≤5,((Qd a.m.roads i).a != p.town)=false,false=false,Qc Try.prog (.clos 276 [] []) [.agg [.int .i64 ((Qd a.m.roads i).a),.int .i64 ((Qd a.m.roads i).b),.int .i64 ((Qd a.m.roads i).len),.int .i64 ((Qd a.m.roads i).hgt),.int .i64 ((Qd a.m.roads i).wgt)],.agg [.int .i64 a.l.hgt,.int .i64 a.l.wgt,.int .i64 a.l.fr,.int .i64 a.l.ready,.int .i64 a.l.drive,.int .i64 a.l.rest]] (.bool (YA (Qd a.m.roads i) a.l)),(!(YA (Qd a.m.roads i) a.l))=true,InR .i64 ((i:Int)+1)]) hE.kind (hE.nogh _) mixed (by kernel_rfl) ⟨h0,h1,h2,(by decide),h4,rfl,h6,h7,h8,trivial⟩ hg
theorem p275_0_4 (yv0:Value) (a:Atl) (p:Pla) (i:Nat) {E:Env} {xs:List (List AV)} {yv:Value} {Y:Option Nat→Sd} {cont:Nat→Bool} {e:Option Nat} {o:Option Nat} (hE:IterE Try.prog 275 xs yv Y cont e o E) (h0:(decide ((i:Int)<(a.m.roads.length:Int)))=true) (h1:0≤(i:Int)∧(i:Int)<(a.m.roads.length:Int)) (h2:((Qb a.m.roads).drop (0+((Int.toNat (i:Int))*5))).take 5=[.int .i64 ((Qd a.m.roads i).a),.int .i64 ((Qd a.m.roads i).b),.int .i64 ((Qd a.m.roads i).len),.int .i64 ((Qd a.m.roads i).hgt),.int .i64 ((Qd a.m.roads i).wgt)]) (h4:((Qd a.m.roads i).a != p.town)=false) (h6:Qc Try.prog (.clos 276 [] []) [.agg [.int .i64 ((Qd a.m.roads i).a),.int .i64 ((Qd a.m.roads i).b),.int .i64 ((Qd a.m.roads i).len),.int .i64 ((Qd a.m.roads i).hgt),.int .i64 ((Qd a.m.roads i).wgt)],.agg [.int .i64 a.l.hgt,.int .i64 a.l.wgt,.int .i64 a.l.fr,.int .i64 a.l.ready,.int .i64 a.l.drive,.int .i64 a.l.rest]] (.bool (YA (Qd a.m.roads i) a.l))) (h7:(!(YA (Qd a.m.roads i) a.l))=false)
 (hg:G Try.prog E (yA Try.prog) (yy yv0 a p i)):G Try.prog E (YD Try.prog) (YC yv0 a p i) :=
 QT (n:=400) (ds:=[]) (live:=[0,1,2,4,5,10,11,12]) (m:=1) (evs:=[.b true,.ld (.agg [.int .i64 ((Qd a.m.roads i).a),.int .i64 ((Qd a.m.roads i).b),.int .i64 ((Qd a.m.roads i).len),.int .i64 ((Qd a.m.roads i).hgt),.int .i64 ((Qd a.m.roads i).wgt)]),.b false,.b false,.v (.bool (YA (Qd a.m.roads i) a.l)),.b false,.hold 0]) (obs:=[(decide ((i:Int)<(a.m.roads.length:Int)))=true,0≤(i:Int)∧(i:Int)<(a.m.roads.length:Int),((Qb a.m.roads).drop (0+((Int.toNat (i:Int))*5))).take 5=[.int .i64 ((Qd a.m.roads i).a),.int .i64 ((Qd a.m.roads i).b),.int .i64 ((Qd a.m.roads i).len),.int .i64 ((Qd a.m.roads i).hgt),.int .i64 ((Qd a.m.roads i).wgt)],5≤5,((Qd a.m.roads i).a != p.town)=false,false=false,Qc Try.prog (.clos 276 [] []) [.agg [.int .i64 ((Qd a.m.roads i).a),.int .i64 ((Qd a.m.roads i).b),.int .i64 ((Qd a.m.roads i).len),.int .i64 ((Qd a.m.roads i).hgt),.int .i64 ((Qd a.m.roads i).wgt)],.agg [.int .i64 a.l.hgt,.int .i64 a.l.wgt,.int .i64 a.l.fr,.int .i64 a.l.ready,.int .i64 a.l.drive,.int .i64 a.l.rest]] (.bool (YA (Qd a.m.roads i) a.l)),(!(YA (Qd a.m.roads i) a.l))=false]) hE.kind (hE.nogh _) mixed (by kernel_rfl) ⟨h0,h1,h2,(by decide),h4,rfl,h6,h7,trivial⟩ hg
theorem p275_0_5 (yv0:Value) (a:Atl) (p:Pla) (i:Nat) {E:Env} {xs:List (List AV)} {yv:Value} {Y:Option Nat→Sd} {cont:Nat→Bool} {e:Option Nat} (hE:IterE Try.prog 275 xs yv Y cont e e E) (h0:(decide ((i:Int)<(a.m.roads.length:Int)))=false):G Try.prog E (YD Try.prog) (YC yv0 a p i) :=
 qP (n:=400) (evs:=[.b false]) (obs:=[(decide ((i:Int)<(a.m.roads.length:Int)))=false]) hE Try.func275 (by kernel_rfl) mixed (by kernel_rfl) ⟨h0,trivial⟩
def f275Kh67 (P:Program):List Item:=toOp 23 (kReg 400 [.code (Qf P 275)] [.b true,.b false] 5)
def f275Sh67 (yv0:Value) (a:Atl) (p:Pla) (i:Nat):St:=⟨([.opq yv0,.rptr [.rsl (rowB a.m.park) 0 a.m.park.length,.rsl (Qb a.m.roads) 0 a.m.roads.length,.int .i64 a.l.hgt,.int .i64 a.l.wgt,.int .i64 a.l.fr,.int .i64 a.l.ready,.int .i64 a.l.drive,.int .i64 a.l.rest] 0,.rptr [.int .i64 p.town,.int .i64 p.used] 0,J,.int .i64 (i:Int),.ptr 0 0 0,.int .i64 (((Qd a.m.roads i).a+(Qd a.m.roads i).b) - p.town),J,J,J,.rsl (Qb a.m.roads) 0 a.m.roads.length,.int .i64 (a.m.roads.length:Int),.int .i64 (i:Int)]++jj 23 ([.ptr 0 0 0,.int .i64 ((Qd a.m.roads i).a),.ptr 0 0 1,.int .i64 ((Qd a.m.roads i).b),.int .i64 ((Qd a.m.roads i).a+(Qd a.m.roads i).b),.rptr [.int .i64 p.town,.int .i64 p.used] 0,.int .i64 p.town,.int .i64 (((Qd a.m.roads i).a+(Qd a.m.roads i).b) - p.town),.rptr [.int .i64 p.town,.int .i64 p.used] 1,.int .i64 p.used,.ptr 0 0 2,.int .i64 ((Qd a.m.roads i).len),.int .i64 (p.used+(Qd a.m.roads i).len),.rptr [.rsl (rowB a.m.park) 0 a.m.park.length,.rsl (Qb a.m.roads) 0 a.m.roads.length,.int .i64 a.l.hgt,.int .i64 a.l.wgt,.int .i64 a.l.fr,.int .i64 a.l.ready,.int .i64 a.l.drive,.int .i64 a.l.rest] 2,.rptr [.rsl (rowB a.m.park) 0 a.m.park.length,.rsl (Qb a.m.roads) 0 a.m.roads.length,.int .i64 a.l.hgt,.int .i64 a.l.wgt,.int .i64 a.l.fr,.int .i64 a.l.ready,.int .i64 a.l.drive,.int .i64 a.l.rest] 6,.int .i64 a.l.drive,.bool (decide ((p.used+(Qd a.m.roads i).len)≤a.l.drive)),.bool true,.opq yv0,.int .i64 (i:Int),.int .i64 (((Qd a.m.roads i).a+(Qd a.m.roads i).b) - p.town),.rptr [.int .i64 p.town,.int .i64 p.used] 1,.int .i64 p.used,.ptr 0 0 2,.int .i64 ((Qd a.m.roads i).len),.int .i64 (p.used+(Qd a.m.roads i).len),.agg [.int .i64 (((Qd a.m.roads i).a+(Qd a.m.roads i).b) - p.town),.int .i64 (p.used+(Qd a.m.roads i).len)],.ptr 0 0 2,.int .i64 ((Qd a.m.roads i).len),.agg [.int .i64 ((Qd a.m.roads i).len),.int .i64 1],.agg [.int .i64 (i:Int),.int .i64 0,.int .i64 (((Qd a.m.roads i).a+(Qd a.m.roads i).b) - p.town),.int .i64 (p.used+(Qd a.m.roads i).len),.int .i64 ((Qd a.m.roads i).len),.int .i64 1]]++Js 46)),[⟨true,0,1,true,[.int .i64 ((Qd a.m.roads i).a),.int .i64 ((Qd a.m.roads i).b),.int .i64 ((Qd a.m.roads i).len),.int .i64 ((Qd a.m.roads i).hgt),.int .i64 ((Qd a.m.roads i).wgt)],false⟩]⟩
def Qan (P:Program):List Item:=toOp 24 (kReg 400 [.code (Qf P 275)] [.b true,.b false] 5)
def f275Sh67a (yv0:Value) (a:Atl) (p:Pla) (i:Nat) (y:Bool):St:=⟨([.opq yv0,.rptr [.rsl (rowB a.m.park) 0 a.m.park.length,.rsl (Qb a.m.roads) 0 a.m.roads.length,.int .i64 a.l.hgt,.int .i64 a.l.wgt,.int .i64 a.l.fr,.int .i64 a.l.ready,.int .i64 a.l.drive,.int .i64 a.l.rest] 0,.rptr [.int .i64 p.town,.int .i64 p.used] 0,J,.int .i64 (i:Int),.ptr 0 0 0,.int .i64 (((Qd a.m.roads i).a+(Qd a.m.roads i).b) - p.town),J,J,J,.rsl (Qb a.m.roads) 0 a.m.roads.length,.int .i64 (a.m.roads.length:Int),.int .i64 (i:Int)]++jj 23 ([.ptr 0 0 0,.int .i64 ((Qd a.m.roads i).a),.ptr 0 0 1,.int .i64 ((Qd a.m.roads i).b),.int .i64 ((Qd a.m.roads i).a+(Qd a.m.roads i).b),.rptr [.int .i64 p.town,.int .i64 p.used] 0,.int .i64 p.town,.int .i64 (((Qd a.m.roads i).a+(Qd a.m.roads i).b) - p.town),.rptr [.int .i64 p.town,.int .i64 p.used] 1,.int .i64 p.used,.ptr 0 0 2,.int .i64 ((Qd a.m.roads i).len),.int .i64 (p.used+(Qd a.m.roads i).len),.rptr [.rsl (rowB a.m.park) 0 a.m.park.length,.rsl (Qb a.m.roads) 0 a.m.roads.length,.int .i64 a.l.hgt,.int .i64 a.l.wgt,.int .i64 a.l.fr,.int .i64 a.l.ready,.int .i64 a.l.drive,.int .i64 a.l.rest] 2,.rptr [.rsl (rowB a.m.park) 0 a.m.park.length,.rsl (Qb a.m.roads) 0 a.m.roads.length,.int .i64 a.l.hgt,.int .i64 a.l.wgt,.int .i64 a.l.fr,.int .i64 a.l.ready,.int .i64 a.l.drive,.int .i64 a.l.rest] 6,.int .i64 a.l.drive,.bool (decide ((p.used+(Qd a.m.roads i).len)≤a.l.drive)),.bool true,.opq yv0,.int .i64 (i:Int),.int .i64 (((Qd a.m.roads i).a+(Qd a.m.roads i).b) - p.town),.rptr [.int .i64 p.town,.int .i64 p.used] 1,.int .i64 p.used,.ptr 0 0 2,.int .i64 ((Qd a.m.roads i).len),.int .i64 (p.used+(Qd a.m.roads i).len),.agg [.int .i64 (((Qd a.m.roads i).a+(Qd a.m.roads i).b) - p.town),.int .i64 (p.used+(Qd a.m.roads i).len)],.ptr 0 0 2,.int .i64 ((Qd a.m.roads i).len),.agg [.int .i64 ((Qd a.m.roads i).len),.int .i64 1],.agg [.int .i64 (i:Int),.int .i64 0,.int .i64 (((Qd a.m.roads i).a+(Qd a.m.roads i).b) - p.town),.int .i64 (p.used+(Qd a.m.roads i).len),.int .i64 ((Qd a.m.roads i).len),.int .i64 1],.bool y]++Js 45)),[⟨true,0,1,true,[.int .i64 ((Qd a.m.roads i).a),.int .i64 ((Qd a.m.roads i).b),.int .i64 ((Qd a.m.roads i).len),.int .i64 ((Qd a.m.roads i).hgt),.int .i64 ((Qd a.m.roads i).wgt)],false⟩]⟩
theorem f275_h67 (yv0:Value) (a:Atl) (p:Pla) (i:Nat):yieldA (f275Kh67 Try.prog) (f275Sh67 yv0 a p i)=some (Qan Try.prog,some 67,yv0,[.agg [.int .i64 (i:Int),.int .i64 0,.int .i64 (((Qd a.m.roads i).a+(Qd a.m.roads i).b) - p.town),.int .i64 (p.used+(Qd a.m.roads i).len),.int .i64 ((Qd a.m.roads i).len),.int .i64 1]]):=by kernel_rfl
theorem p275_c4_0 (yv0:Value) (a:Atl) (p:Pla) (i:Nat) {E:Env} {xs:List (List AV)} {yv:Value} {Y:Option Nat→Sd} {cont:Nat→Bool} {e:Option Nat} {o:Option Nat} (hE:IterE Try.prog 275 xs yv Y cont e o E) (h0:InR .i64 ((Qd a.m.roads i).a+(Qd a.m.roads i).b)) (h1:InR .i64 (((Qd a.m.roads i).a+(Qd a.m.roads i).b) - p.town)) (h2:InR .i64 (p.used+(Qd a.m.roads i).len)) (h3:(decide ((p.used+(Qd a.m.roads i).len)≤a.l.drive))=true) (h4:InR .i64 (p.used+(Qd a.m.roads i).len))
 (hg:G Try.prog E (f275Kh67 Try.prog) (f275Sh67 yv0 a p i)):G Try.prog E (yA Try.prog) (yy yv0 a p i) :=
 QT (n:=400) (ds:=[]) (live:=[0,1,2,3,4,5,6,7,8,9,10,11,12,13,14,15,16,17,18,19,20,21,22,23,24,25,26,27,28,29,30,31,32,33,34,35,36,37,38,39,40,41,42,43,44,45,46,47,48,49,50,51,52,53,54,55,56,57,58,59,60,61,62,63,64,65,66,67,68,69,70,71,72,73,74,75,76,77,78,79,80,81,82,83,84,85,86,87,88,89,90,91,92,93,94,95,96,97,98,99,100,101,102,103,104,105,106,107,108,109,110,111,112]) (m:=1) (evs:=[.b true,.hold 13]) (obs:=[InR .i64 ((Qd a.m.roads i).a+(Qd a.m.roads i).b),InR .i64 (((Qd a.m.roads i).a+(Qd a.m.roads i).b) - p.town),InR .i64 (p.used+(Qd a.m.roads i).len),(decide ((p.used+(Qd a.m.roads i).len)≤a.l.drive))=true,InR .i64 (p.used+(Qd a.m.roads i).len)]) hE.kind (hE.nogh _) mixed (by kernel_rfl) ⟨h0,h1,h2,h3,h4,trivial⟩ hg
def qw (P:Program):List Item:=toOp 0 (kReg 400 [.code (Qf P 275)] [.b true,.b false,.b false] 6)
def qv (yv0:Value) (a:Atl) (p:Pla) (i:Nat):St:=⟨([.opq yv0,.rptr [.rsl (rowB a.m.park) 0 a.m.park.length,.rsl (Qb a.m.roads) 0 a.m.roads.length,.int .i64 a.l.hgt,.int .i64 a.l.wgt,.int .i64 a.l.fr,.int .i64 a.l.ready,.int .i64 a.l.drive,.int .i64 a.l.rest] 0,.rptr [.int .i64 p.town,.int .i64 p.used] 0,J,.int .i64 (i:Int),.ptr 0 0 0,.int .i64 (((Qd a.m.roads i).a+(Qd a.m.roads i).b) - p.town),J,J,J,.rsl (Qb a.m.roads) 0 a.m.roads.length,.int .i64 (a.m.roads.length:Int),.int .i64 (i:Int)]++Js 100),[⟨true,0,1,true,[.int .i64 ((Qd a.m.roads i).a),.int .i64 ((Qd a.m.roads i).b),.int .i64 ((Qd a.m.roads i).len),.int .i64 ((Qd a.m.roads i).hgt),.int .i64 ((Qd a.m.roads i).wgt)],false⟩]⟩
theorem p275_c4_1 (yv0:Value) (a:Atl) (p:Pla) (i:Nat) {E:Env} {xs:List (List AV)} {yv:Value} {Y:Option Nat→Sd} {cont:Nat→Bool} {e:Option Nat} {o:Option Nat} (hE:IterE Try.prog 275 xs yv Y cont e o E) (h0:InR .i64 ((Qd a.m.roads i).a+(Qd a.m.roads i).b)) (h1:InR .i64 (((Qd a.m.roads i).a+(Qd a.m.roads i).b) - p.town)) (h2:InR .i64 (p.used+(Qd a.m.roads i).len)) (h3:(decide ((p.used+(Qd a.m.roads i).len)≤a.l.drive))=false)
 (hg:G Try.prog E (qw Try.prog) (qv yv0 a p i)):G Try.prog E (yA Try.prog) (yy yv0 a p i) :=
 QT (n:=400) (ds:=[]) (live:=[0,1,2,4,5,6,10,11,12]) (m:=1) (evs:=[.b false,.b false,.hold 0]) (obs:=[InR .i64 ((Qd a.m.roads i).a+(Qd a.m.roads i).b),InR .i64 (((Qd a.m.roads i).a+(Qd a.m.roads i).b) - p.town),InR .i64 (p.used+(Qd a.m.roads i).len),(decide ((p.used+(Qd a.m.roads i).len)≤a.l.drive))=false,false=false]) hE.kind (hE.nogh _) mixed (by kernel_rfl) ⟨h0,h1,h2,h3,rfl,trivial⟩ hg
theorem p275_h67a_0 (yv0:Value) (a:Atl) (p:Pla) (i:Nat) (y:Bool) {E:Env} {xs:List (List AV)} {yv:Value} {Y:Option Nat→Sd} {cont:Nat→Bool} {e:Option Nat} (hE:IterE Try.prog 275 xs yv Y cont e e E) (h0:(!y)=true):G Try.prog E (Qan Try.prog) (f275Sh67a yv0 a p i y) :=
 qP (n:=400) (evs:=[.b true]) (obs:=[(!y)=true]) hE Try.func275 (by kernel_rfl) mixed (by kernel_rfl) ⟨h0,trivial⟩
theorem p275_h67a_1 (yv0:Value) (a:Atl) (p:Pla) (i:Nat) (y:Bool) {E:Env} {xs:List (List AV)} {yv:Value} {Y:Option Nat→Sd} {cont:Nat→Bool} {e:Option Nat} {o:Option Nat} (hE:IterE Try.prog 275 xs yv Y cont e o E) (h0:(!y)=false)
 (hg:G Try.prog E (qw Try.prog) (qv yv0 a p i)):G Try.prog E (Qan Try.prog) (f275Sh67a yv0 a p i y) :=
 QT (n:=400) (ds:=[]) (live:=[0,1,2,4,5,6,10,11,12]) (m:=1) (evs:=[.b false,.hold 0]) (obs:=[(!y)=false]) hE.kind (hE.nogh _) mixed (by kernel_rfl) ⟨h0,trivial⟩ hg
def f275Kh109 (P:Program):List Item:=toOp 19 (kReg 400 [.code (Qf P 275)] [.b true,.b false,.b false] 7)
def f275Sh109 (yv0:Value) (a:Atl) (p:Pla) (i:Nat):St:=⟨([.opq yv0,.rptr [.rsl (rowB a.m.park) 0 a.m.park.length,.rsl (Qb a.m.roads) 0 a.m.roads.length,.int .i64 a.l.hgt,.int .i64 a.l.wgt,.int .i64 a.l.fr,.int .i64 a.l.ready,.int .i64 a.l.drive,.int .i64 a.l.rest] 0,.rptr [.int .i64 p.town,.int .i64 p.used] 0,J,.int .i64 (i:Int),.ptr 0 0 0,.int .i64 (((Qd a.m.roads i).a+(Qd a.m.roads i).b) - p.town),.bool (decide ((Qd a.m.roads i).len≤a.l.drive)),J,J,.rsl (Qb a.m.roads) 0 a.m.roads.length,.int .i64 (a.m.roads.length:Int),.int .i64 (i:Int)]++jj 57 ([.rptr [.rsl (rowB a.m.park) 0 a.m.park.length,.rsl (Qb a.m.roads) 0 a.m.roads.length,.int .i64 a.l.hgt,.int .i64 a.l.wgt,.int .i64 a.l.fr,.int .i64 a.l.ready,.int .i64 a.l.drive,.int .i64 a.l.rest] 0,.rptr [.rsl (rowB a.m.park) 0 a.m.park.length,.rsl (Qb a.m.roads) 0 a.m.roads.length,.int .i64 a.l.hgt,.int .i64 a.l.wgt,.int .i64 a.l.fr,.int .i64 a.l.ready,.int .i64 a.l.drive,.int .i64 a.l.rest] 0,.rsl (rowB a.m.park) 0 a.m.park.length,.rptr [.int .i64 p.town,.int .i64 p.used] 0,.int .i64 p.town,.rptr (rowB a.m.park) (0+((Int.toNat p.town)*1)),.bool (XB a p.town),.bool true,.rptr [.int .i64 p.town,.int .i64 p.used] 1,.int .i64 p.used,.bool (decide (p.used > 0)),.bool (decide (p.used > 0)),.bool true,.ptr 0 0 2,.int .i64 ((Qd a.m.roads i).len),.rptr [.rsl (rowB a.m.park) 0 a.m.park.length,.rsl (Qb a.m.roads) 0 a.m.roads.length,.int .i64 a.l.hgt,.int .i64 a.l.wgt,.int .i64 a.l.fr,.int .i64 a.l.ready,.int .i64 a.l.drive,.int .i64 a.l.rest] 2,.rptr [.rsl (rowB a.m.park) 0 a.m.park.length,.rsl (Qb a.m.roads) 0 a.m.roads.length,.int .i64 a.l.hgt,.int .i64 a.l.wgt,.int .i64 a.l.fr,.int .i64 a.l.ready,.int .i64 a.l.drive,.int .i64 a.l.rest] 6,.int .i64 a.l.drive,.bool (decide ((Qd a.m.roads i).len≤a.l.drive)),.bool (decide ((Qd a.m.roads i).len≤a.l.drive)),.bool (decide ((Qd a.m.roads i).len≤a.l.drive)),.bool true,.opq yv0,.int .i64 (i:Int),.rptr [.rsl (rowB a.m.park) 0 a.m.park.length,.rsl (Qb a.m.roads) 0 a.m.roads.length,.int .i64 a.l.hgt,.int .i64 a.l.wgt,.int .i64 a.l.fr,.int .i64 a.l.ready,.int .i64 a.l.drive,.int .i64 a.l.rest] 2,.rptr [.rsl (rowB a.m.park) 0 a.m.park.length,.rsl (Qb a.m.roads) 0 a.m.roads.length,.int .i64 a.l.hgt,.int .i64 a.l.wgt,.int .i64 a.l.fr,.int .i64 a.l.ready,.int .i64 a.l.drive,.int .i64 a.l.rest] 7,.int .i64 a.l.rest,.int .i64 (((Qd a.m.roads i).a+(Qd a.m.roads i).b) - p.town),.ptr 0 0 2,.int .i64 ((Qd a.m.roads i).len),.agg [.int .i64 (((Qd a.m.roads i).a+(Qd a.m.roads i).b) - p.town),.int .i64 ((Qd a.m.roads i).len)],.rptr [.rsl (rowB a.m.park) 0 a.m.park.length,.rsl (Qb a.m.roads) 0 a.m.roads.length,.int .i64 a.l.hgt,.int .i64 a.l.wgt,.int .i64 a.l.fr,.int .i64 a.l.ready,.int .i64 a.l.drive,.int .i64 a.l.rest] 2,.rptr [.rsl (rowB a.m.park) 0 a.m.park.length,.rsl (Qb a.m.roads) 0 a.m.roads.length,.int .i64 a.l.hgt,.int .i64 a.l.wgt,.int .i64 a.l.fr,.int .i64 a.l.ready,.int .i64 a.l.drive,.int .i64 a.l.rest] 7,.int .i64 a.l.rest,.ptr 0 0 2,.int .i64 ((Qd a.m.roads i).len),.int .i64 (a.l.rest+(Qd a.m.roads i).len),.agg [.int .i64 (a.l.rest+(Qd a.m.roads i).len),.int .i64 1],.agg [.int .i64 (i:Int),.int .i64 a.l.rest,.int .i64 (((Qd a.m.roads i).a+(Qd a.m.roads i).b) - p.town),.int .i64 ((Qd a.m.roads i).len),.int .i64 (a.l.rest+(Qd a.m.roads i).len),.int .i64 1],J,J,J,J])),[⟨true,0,1,true,[.int .i64 ((Qd a.m.roads i).a),.int .i64 ((Qd a.m.roads i).b),.int .i64 ((Qd a.m.roads i).len),.int .i64 ((Qd a.m.roads i).hgt),.int .i64 ((Qd a.m.roads i).wgt)],false⟩]⟩
def yz (P:Program):List Item:=toOp 20 (kReg 400 [.code (Qf P 275)] [.b true,.b false,.b false] 7)
def Qbn (yv0:Value) (a:Atl) (p:Pla) (i:Nat) (y:Bool):St:=⟨([.opq yv0,.rptr [.rsl (rowB a.m.park) 0 a.m.park.length,.rsl (Qb a.m.roads) 0 a.m.roads.length,.int .i64 a.l.hgt,.int .i64 a.l.wgt,.int .i64 a.l.fr,.int .i64 a.l.ready,.int .i64 a.l.drive,.int .i64 a.l.rest] 0,.rptr [.int .i64 p.town,.int .i64 p.used] 0,J,.int .i64 (i:Int),.ptr 0 0 0,.int .i64 (((Qd a.m.roads i).a+(Qd a.m.roads i).b) - p.town),.bool (decide ((Qd a.m.roads i).len≤a.l.drive)),J,J,.rsl (Qb a.m.roads) 0 a.m.roads.length,.int .i64 (a.m.roads.length:Int),.int .i64 (i:Int)]++jj 57 ([.rptr [.rsl (rowB a.m.park) 0 a.m.park.length,.rsl (Qb a.m.roads) 0 a.m.roads.length,.int .i64 a.l.hgt,.int .i64 a.l.wgt,.int .i64 a.l.fr,.int .i64 a.l.ready,.int .i64 a.l.drive,.int .i64 a.l.rest] 0,.rptr [.rsl (rowB a.m.park) 0 a.m.park.length,.rsl (Qb a.m.roads) 0 a.m.roads.length,.int .i64 a.l.hgt,.int .i64 a.l.wgt,.int .i64 a.l.fr,.int .i64 a.l.ready,.int .i64 a.l.drive,.int .i64 a.l.rest] 0,.rsl (rowB a.m.park) 0 a.m.park.length,.rptr [.int .i64 p.town,.int .i64 p.used] 0,.int .i64 p.town,.rptr (rowB a.m.park) (0+((Int.toNat p.town)*1)),.bool (XB a p.town),.bool true,.rptr [.int .i64 p.town,.int .i64 p.used] 1,.int .i64 p.used,.bool (decide (p.used > 0)),.bool (decide (p.used > 0)),.bool true,.ptr 0 0 2,.int .i64 ((Qd a.m.roads i).len),.rptr [.rsl (rowB a.m.park) 0 a.m.park.length,.rsl (Qb a.m.roads) 0 a.m.roads.length,.int .i64 a.l.hgt,.int .i64 a.l.wgt,.int .i64 a.l.fr,.int .i64 a.l.ready,.int .i64 a.l.drive,.int .i64 a.l.rest] 2,.rptr [.rsl (rowB a.m.park) 0 a.m.park.length,.rsl (Qb a.m.roads) 0 a.m.roads.length,.int .i64 a.l.hgt,.int .i64 a.l.wgt,.int .i64 a.l.fr,.int .i64 a.l.ready,.int .i64 a.l.drive,.int .i64 a.l.rest] 6,.int .i64 a.l.drive,.bool (decide ((Qd a.m.roads i).len≤a.l.drive)),.bool (decide ((Qd a.m.roads i).len≤a.l.drive)),.bool (decide ((Qd a.m.roads i).len≤a.l.drive)),.bool true,.opq yv0,.int .i64 (i:Int),.rptr [.rsl (rowB a.m.park) 0 a.m.park.length,.rsl (Qb a.m.roads) 0 a.m.roads.length,.int .i64 a.l.hgt,.int .i64 a.l.wgt,.int .i64 a.l.fr,.int .i64 a.l.ready,.int .i64 a.l.drive,.int .i64 a.l.rest] 2,.rptr [.rsl (rowB a.m.park) 0 a.m.park.length,.rsl (Qb a.m.roads) 0 a.m.roads.length,.int .i64 a.l.hgt,.int .i64 a.l.wgt,.int .i64 a.l.fr,.int .i64 a.l.ready,.int .i64 a.l.drive,.int .i64 a.l.rest] 7,.int .i64 a.l.rest,.int .i64 (((Qd a.m.roads i).a+(Qd a.m.roads i).b) - p.town),.ptr 0 0 2,.int .i64 ((Qd a.m.roads i).len),.agg [.int .i64 (((Qd a.m.roads i).a+(Qd a.m.roads i).b) - p.town),.int .i64 ((Qd a.m.roads i).len)],.rptr [.rsl (rowB a.m.park) 0 a.m.park.length,.rsl (Qb a.m.roads) 0 a.m.roads.length,.int .i64 a.l.hgt,.int .i64 a.l.wgt,.int .i64 a.l.fr,.int .i64 a.l.ready,.int .i64 a.l.drive,.int .i64 a.l.rest] 2,.rptr [.rsl (rowB a.m.park) 0 a.m.park.length,.rsl (Qb a.m.roads) 0 a.m.roads.length,.int .i64 a.l.hgt,.int .i64 a.l.wgt,.int .i64 a.l.fr,.int .i64 a.l.ready,.int .i64 a.l.drive,.int .i64 a.l.rest] 7,.int .i64 a.l.rest,.ptr 0 0 2,.int .i64 ((Qd a.m.roads i).len),.int .i64 (a.l.rest+(Qd a.m.roads i).len),.agg [.int .i64 (a.l.rest+(Qd a.m.roads i).len),.int .i64 1],.agg [.int .i64 (i:Int),.int .i64 a.l.rest,.int .i64 (((Qd a.m.roads i).a+(Qd a.m.roads i).b) - p.town),.int .i64 ((Qd a.m.roads i).len),.int .i64 (a.l.rest+(Qd a.m.roads i).len),.int .i64 1],.bool y,J,J,J])),[⟨true,0,1,true,[.int .i64 ((Qd a.m.roads i).a),.int .i64 ((Qd a.m.roads i).b),.int .i64 ((Qd a.m.roads i).len),.int .i64 ((Qd a.m.roads i).hgt),.int .i64 ((Qd a.m.roads i).wgt)],false⟩]⟩
theorem f275_h109 (yv0:Value) (a:Atl) (p:Pla) (i:Nat):yieldA (f275Kh109 Try.prog) (f275Sh109 yv0 a p i)=some (yz Try.prog,some 109,yv0,[.agg [.int .i64 (i:Int),.int .i64 a.l.rest,.int .i64 (((Qd a.m.roads i).a+(Qd a.m.roads i).b) - p.town),.int .i64 ((Qd a.m.roads i).len),.int .i64 (a.l.rest+(Qd a.m.roads i).len),.int .i64 1]]):=by kernel_rfl
theorem p275_c6_0 (yv0:Value) (a:Atl) (p:Pla) (i:Nat) {E:Env} {xs:List (List AV)} {yv:Value} {Y:Option Nat→Sd} {cont:Nat→Bool} {e:Option Nat} {o:Option Nat} (hE:IterE Try.prog 275 xs yv Y cont e o E) (h0:0≤p.town∧p.town<(a.m.park.length:Int)) (h1:((rowB a.m.park).drop (0+((Int.toNat p.town)*1))).take 1=[.bool (XB a p.town)]) (h2:(XB a p.town)=true) (h3:(decide (p.used > 0))=true) (h4:(decide ((Qd a.m.roads i).len≤a.l.drive))=true) (h5:InR .i64 (a.l.rest+(Qd a.m.roads i).len))
 (hg:G Try.prog E (f275Kh109 Try.prog) (f275Sh109 yv0 a p i)):G Try.prog E (qw Try.prog) (qv yv0 a p i) :=
 QT (n:=400) (ds:=[]) (live:=[0,1,2,3,4,5,6,7,8,9,10,11,12,13,14,15,16,17,18,19,20,21,22,23,24,25,26,27,28,29,30,31,32,33,34,35,36,37,38,39,40,41,42,43,44,45,46,47,48,49,50,51,52,53,54,55,56,57,58,59,60,61,62,63,64,65,66,67,68,69,70,71,72,73,74,75,76,77,78,79,80,81,82,83,84,85,86,87,88,89,90,91,92,93,94,95,96,97,98,99,100,101,102,103,104,105,106,107,108,109,110,111,112]) (m:=1) (evs:=[.auto,.auto,.ld (.bool (XB a p.town)),.b true,.b true,.b true,.hold 17]) (obs:=[0≤p.town∧p.town<(a.m.park.length:Int),((rowB a.m.park).drop (0+((Int.toNat p.town)*1))).take 1=[.bool (XB a p.town)],(XB a p.town)=true,(decide (p.used > 0))=true,(decide ((Qd a.m.roads i).len≤a.l.drive))=true,InR .i64 (a.l.rest+(Qd a.m.roads i).len)]) hE.kind (hE.nogh _) mixed (by kernel_rfl) ⟨h0,h1,h2,h3,h4,h5,trivial⟩ hg
theorem p275_c6_1 (yv0:Value) (a:Atl) (p:Pla) (i:Nat) {E:Env} {xs:List (List AV)} {yv:Value} {Y:Option Nat→Sd} {cont:Nat→Bool} {e:Option Nat} {o:Option Nat} (hE:IterE Try.prog 275 xs yv Y cont e o E) (h0:0≤p.town∧p.town<(a.m.park.length:Int)) (h1:((rowB a.m.park).drop (0+((Int.toNat p.town)*1))).take 1=[.bool (XB a p.town)]) (h2:(XB a p.town)=true) (h3:(decide (p.used > 0))=true) (h4:(decide ((Qd a.m.roads i).len≤a.l.drive))=false) (h6:InR .i64 ((i:Int)+1))
 (hg:G Try.prog E (YD Try.prog) (YC yv0 a p (i+1))):G Try.prog E (qw Try.prog) (qv yv0 a p i) :=
 QT (n:=400) (ds:=[]) (live:=[0,1,2,10,11,12]) (m:=0) (evs:=[.auto,.auto,.ld (.bool (XB a p.town)),.b true,.b true,.b false,.b false,.stop]) (obs:=[0≤p.town∧p.town<(a.m.park.length:Int),((rowB a.m.park).drop (0+((Int.toNat p.town)*1))).take 1=[.bool (XB a p.town)],(XB a p.town)=true,(decide (p.used > 0))=true,(decide ((Qd a.m.roads i).len≤a.l.drive))=false,false=false,InR .i64 ((i:Int)+1)]) hE.kind (hE.nogh _) mixed (by kernel_rfl) ⟨h0,h1,h2,h3,h4,rfl,h6,trivial⟩ hg
theorem p275_c6_2 (yv0:Value) (a:Atl) (p:Pla) (i:Nat) {E:Env} {xs:List (List AV)} {yv:Value} {Y:Option Nat→Sd} {cont:Nat→Bool} {e:Option Nat} {o:Option Nat} (hE:IterE Try.prog 275 xs yv Y cont e o E) (h0:0≤p.town∧p.town<(a.m.park.length:Int)) (h1:((rowB a.m.park).drop (0+((Int.toNat p.town)*1))).take 1=[.bool (XB a p.town)]) (h2:(XB a p.town)=true) (h3:(decide (p.used > 0))=false) (h6:InR .i64 ((i:Int)+1))
 (hg:G Try.prog E (YD Try.prog) (YC yv0 a p (i+1))):G Try.prog E (qw Try.prog) (qv yv0 a p i) :=
 QT (n:=400) (ds:=[]) (live:=[0,1,2,10,11,12]) (m:=0) (evs:=[.auto,.auto,.ld (.bool (XB a p.town)),.b true,.b false,.b false,.b false,.stop]) (obs:=[0≤p.town∧p.town<(a.m.park.length:Int),((rowB a.m.park).drop (0+((Int.toNat p.town)*1))).take 1=[.bool (XB a p.town)],(XB a p.town)=true,(decide (p.used > 0))=false,false=false,false=false,InR .i64 ((i:Int)+1)]) hE.kind (hE.nogh _) mixed (by kernel_rfl) ⟨h0,h1,h2,h3,rfl,rfl,h6,trivial⟩ hg
theorem p275_c6_3 (yv0:Value) (a:Atl) (p:Pla) (i:Nat) {E:Env} {xs:List (List AV)} {yv:Value} {Y:Option Nat→Sd} {cont:Nat→Bool} {e:Option Nat} {o:Option Nat} (hE:IterE Try.prog 275 xs yv Y cont e o E) (h0:0≤p.town∧p.town<(a.m.park.length:Int)) (h1:((rowB a.m.park).drop (0+((Int.toNat p.town)*1))).take 1=[.bool (XB a p.town)]) (h2:(XB a p.town)=false) (h6:InR .i64 ((i:Int)+1))
 (hg:G Try.prog E (YD Try.prog) (YC yv0 a p (i+1))):G Try.prog E (qw Try.prog) (qv yv0 a p i) :=
 QT (n:=400) (ds:=[]) (live:=[0,1,2,10,11,12]) (m:=0) (evs:=[.auto,.auto,.ld (.bool (XB a p.town)),.b false,.b false,.b false,.b false,.stop]) (obs:=[0≤p.town∧p.town<(a.m.park.length:Int),((rowB a.m.park).drop (0+((Int.toNat p.town)*1))).take 1=[.bool (XB a p.town)],(XB a p.town)=false,false=false,false=false,false=false,InR .i64 ((i:Int)+1)]) hE.kind (hE.nogh _) mixed (by kernel_rfl) ⟨h0,h1,h2,rfl,rfl,rfl,h6,trivial⟩ hg
theorem p275_h109a_0 (yv0:Value) (a:Atl) (p:Pla) (i:Nat) (y:Bool) {E:Env} {xs:List (List AV)} {yv:Value} {Y:Option Nat→Sd} {cont:Nat→Bool} {e:Option Nat} (hE:IterE Try.prog 275 xs yv Y cont e e E) (h0:(!y)=true):G Try.prog E (yz Try.prog) (Qbn yv0 a p i y) :=
 qP (n:=400) (evs:=[.b true]) (obs:=[(!y)=true]) hE Try.func275 (by kernel_rfl) mixed (by kernel_rfl) ⟨h0,trivial⟩
theorem p275_h109a_1 (yv0:Value) (a:Atl) (p:Pla) (i:Nat) (y:Bool) {E:Env} {xs:List (List AV)} {yv:Value} {Y:Option Nat→Sd} {cont:Nat→Bool} {e:Option Nat} {o:Option Nat} (hE:IterE Try.prog 275 xs yv Y cont e o E) (h0:(!y)=false) (h1:InR .i64 ((i:Int)+1))
 (hg:G Try.prog E (YD Try.prog) (YC yv0 a p (i+1))):G Try.prog E (yz Try.prog) (Qbn yv0 a p i y) :=
 QT (n:=400) (ds:=[]) (live:=[0,1,2,10,11,12]) (m:=0) (evs:=[.b false,.stop]) (obs:=[(!y)=false,InR .i64 ((i:Int)+1)]) hE.kind (hE.nogh _) mixed (by kernel_rfl) ⟨h0,h1,trivial⟩ hg
theorem fits_ok (r:Rod) (l:Lry):Pure Try.prog 276 [.agg (cRod r),.agg (cLry l)] (.bool (YA r l)):=Qt Try.func276 f276b fun E hE=>by
 refine f276W r l (rv:=YA r l) hE ⟨fun q=>?_,fun q=>?_⟩
 · unfold YA; rw [decide_eq_true q]; rfl
 · unfold YA; rw [decide_eq_false q]; rfl
theorem fits_F (r:Rod) (l:Lry):Qc Try.prog (.clos 276 [] []) [.agg (cRod r),.agg (cLry l)] (.bool (YA r l)):=Qk Try.func276 (by kernel_rfl) f276b (fits_ok r l)
section
variable {L:List Way} {yv:Value} {Y:Option Nat→Sd} {cont:Nat→Bool} {e:Option Nat} {a:Atl} {p:Pla}
theorem it_wB (ha:AtlOk a) (hp:PlaOk a p) {i:Nat} (hi:i<a.m.roads.length) {R:List Way} {n:Nat} {E:Env} (hE:IterE Try.prog 275 (L.map qy) yv Y cont e (some n) E) (hs:Xp cont n (L.length - n)=e)
 (hL:L.drop n=(if goB a p (Qd a.m.roads i)=true then [wayB a p i (Qd a.m.roads i)] else [])++R)
 (next:∀ (n:Nat) (E:Env),IterE Try.prog 275 (L.map qy) yv Y cont e (some n) E→Xp cont n (L.length - n)=e→L.drop n=R→G Try.prog E (YD Try.prog) (YC yv a p (i+1))) :
 G Try.prog E (qw Try.prog) (qv yv a p i):=by
 have hr:=ha.rod _ (List.mem_of_getElem? (YP hi))
 have h1:=hr.l1; have h2:=hr.l0; have h3:=ha.r1; have h4:=ha.r0; have h5:=ha.rl
 have hI:InR .i64 ((i:Int)+1):=⟨by omega,by omega⟩
 have hpk:=park_ld hp.t0 hp.t1
 have hpt:0≤p.town∧p.town<(a.m.park.length:Int):=⟨hp.t0,hp.t1⟩
 unfold goB at hL
 cases c1:XB a p.town with
 | false =>
  rw [c1] at hL
  exact p275_c6_3 yv a p i hE hpt hpk c1 hI (next n E hE hs hL)
 | true =>
  cases c2:decide (p.used > 0) with
  | false =>
   rw [c1,c2] at hL
   exact p275_c6_2 yv a p i hE hpt hpk c1 c2 hI (next n E hE hs hL)
  | true =>
   cases c3:decide ((Qd a.m.roads i).len≤a.l.drive) with
   | false =>
    rw [c1,c2,c3] at hL
    exact p275_c6_1 yv a p i hE hpt hpk c1 c2 c3 hI (next n E hE hs hL)
   | true =>
    rw [c1,c2,c3] at hL
    obtain ⟨g1,g2,g3⟩:=w_cons (show L.drop n=wayB a p i (Qd a.m.roads i) :: R from hL)
    refine p275_c6_0 yv a p i hE hpt hpk c1 c2 c3 ⟨by omega,by omega⟩ ?_
    refine qj (x:=qy (wayB a p i (Qd a.m.roads i))) hE (by simp [g1]) (f275_h109 yv a p i) rfl fun E' hE'=>?_
    have hst:L.length - n=(L.length - (n+1))+1:=by omega
    rw [hst] at hs
    simp only [Xp] at hs
    cases hc:cont n with
    | true =>
     simp only [nxt,hc,cond_true] at hE' hs
     exact p275_h109a_1 yv a p i true hE' rfl hI (next (n+1) E' hE' hs g2)
    | false =>
     simp only [nxt,hc,cond_false] at hE' hs
     subst hs
     exact p275_h109a_0 yv a p i false hE' rfl
theorem it_wA (ha:AtlOk a) (hp:PlaOk a p) {i:Nat} (hi:i<a.m.roads.length) {R:List Way} {n:Nat} {E:Env} (hE:IterE Try.prog 275 (L.map qy) yv Y cont e (some n) E) (hs:Xp cont n (L.length - n)=e)
 (hL:L.drop n=(if goA a p (Qd a.m.roads i)=true then [wayA p i (Qd a.m.roads i)] else [])++((if goB a p (Qd a.m.roads i)=true then [wayB a p i (Qd a.m.roads i)] else [])++R))
 (next:∀ (n:Nat) (E:Env),IterE Try.prog 275 (L.map qy) yv Y cont e (some n) E→Xp cont n (L.length - n)=e→L.drop n=R→G Try.prog E (YD Try.prog) (YC yv a p (i+1))) :
 G Try.prog E (yA Try.prog) (yy yv a p i):=by
 have hr:=ha.rod _ (List.mem_of_getElem? (YP hi))
 have h1:=hr.l1; have h2:=hr.l0; have b1:=hr.a0; have b2:=hr.a1; have b3:=hr.b0; have b4:=hr.b1; have b5:=ha.pl
 have t0:=hp.t0; have t1:=hp.t1; have u0:=hp.u0; have u1:=hp.u1; have d1:=ha.d1
 have i1:InR .i64 ((Qd a.m.roads i).a+(Qd a.m.roads i).b):=⟨by omega,by omega⟩
 have i2:InR .i64 (((Qd a.m.roads i).a+(Qd a.m.roads i).b) - p.town):=⟨by omega,by omega⟩
 have i3:InR .i64 (p.used+(Qd a.m.roads i).len):=⟨by omega,by omega⟩
 unfold goA at hL
 cases c1:decide ((p.used+(Qd a.m.roads i).len)≤a.l.drive) with
 | false =>
  rw [c1] at hL
  exact p275_c4_1 yv a p i hE i1 i2 i3 c1 (it_wB ha hp hi hE hs hL next)
 | true =>
  rw [c1] at hL
  obtain ⟨g1,g2,g3⟩:=w_cons (show L.drop n=wayA p i (Qd a.m.roads i) :: _ from hL)
  refine p275_c4_0 yv a p i hE i1 i2 i3 c1 i3 ?_
  refine qj (x:=qy (wayA p i (Qd a.m.roads i))) hE (by simp [g1]) (f275_h67 yv a p i) rfl fun E' hE'=>?_
  have hst:L.length - n=(L.length - (n+1))+1:=by omega
  rw [hst] at hs
  simp only [Xp] at hs
  cases hc:cont n with
  | true =>
   simp only [nxt,hc,cond_true] at hE' hs
   exact p275_h67a_1 yv a p i true hE' rfl (it_wB ha hp hi hE' hs g2 next)
  | false =>
   simp only [nxt,hc,cond_false] at hE' hs
   subst hs
   exact p275_h67a_0 yv a p i false hE' rfl
theorem it_w (ha:AtlOk a) (hp:PlaOk a p):∀ (d i n:Nat) (E:Env),i+d=a.m.roads.length→IterE Try.prog 275 (L.map qy) yv Y cont e (some n) E→Xp cont n (L.length - n)=e→L.drop n=qz a p (a.m.roads.drop i) i →
 G Try.prog E (YD Try.prog) (YC yv a p i):=by
 intro d
 induction d with
 | zero =>
  intro i n E hd hE hs hL
  rw [List.drop_eq_nil_of_le (show a.m.roads.length≤i by omega)] at hL
  have hm:L.length≤n:=List.drop_eq_nil_iff.1 hL
  have e0:L.length - n=0:=by omega
  rw [e0] at hs
  simp only [Xp] at hs
  subst hs
  exact p275_0_5 yv a p i hE (decide_eq_false (by omega))
 | succ d ih =>
  intro i n E hd hE hs hL
  have hi:i<a.m.roads.length:=by omega
  have e1:a.m.roads.drop i=Qd a.m.roads i :: a.m.roads.drop (i+1):=by
   rw [List.drop_eq_getElem_cons hi]
   have:=YP hi
   rw [List.getElem?_eq_getElem hi] at this
   rw [Option.some.inj this]
  rw [e1] at hL
  simp only [qz] at hL
  have h5:=ha.rl
  have hI:InR .i64 ((i:Int)+1):=⟨by omega,by omega⟩
  have c0:decide ((i:Int)<(a.m.roads.length:Int))=true:=decide_eq_true (by omega)
  have b0:0≤(i:Int)∧(i:Int)<(a.m.roads.length:Int):=⟨by omega,by omega⟩
  have next:=fun (n:Nat) (E:Env) h1 h2 h3=>ih (i+1) n E (by omega) h1 h2 h3
  have hF:=fits_F (Qd a.m.roads i) a.l
  have go:skipR a p (Qd a.m.roads i)=false→G Try.prog E (yA Try.prog) (yy yv a p i):=fun hk=>by
   rw [QaP,if_neg (by rw [hk]; exact Bool.false_ne_true),List.append_assoc] at hL
   exact it_wA ha hp hi hE hs hL next
  have sk:skipR a p (Qd a.m.roads i)=true→G Try.prog E (YD Try.prog) (YC yv a p (i+1)):=fun hk=>by
   rw [QaP,if_pos hk,List.nil_append] at hL
   exact next n E hE hs hL
  unfold skipR at go sk
  cases c1:((Qd a.m.roads i).a != p.town) with
  | false =>
   rw [c1] at go sk
   cases c3:YA (Qd a.m.roads i) a.l with
   | false=>exact p275_0_3 yv a p i hE c0 b0 (rod_ld hi) c1 hF (by rw [c3]; rfl) hI (sk (by rw [c3]; rfl))
   | true=>exact p275_0_4 yv a p i hE c0 b0 (rod_ld hi) c1 hF (by rw [c3]; rfl) (go (by rw [c3]; rfl))
  | true =>
   rw [c1] at go sk
   cases c2:((Qd a.m.roads i).b != p.town) with
   | true =>
    rw [c2] at sk
    exact p275_0_0 yv a p i hE c0 b0 (rod_ld hi) c1 c2 hI (sk rfl)
   | false =>
    rw [c2] at go sk
    cases c3:YA (Qd a.m.roads i) a.l with
    | false=>exact p275_0_1 yv a p i hE c0 b0 (rod_ld hi) c1 c2 hF (by rw [c3]; rfl) hI (sk (by rw [c3]; rfl))
    | true=>exact p275_0_2 yv a p i hE c0 b0 (rod_ld hi) c1 c2 hF (by rw [c3]; rfl) (go (by rw [c3]; rfl))
end
theorem ways_it (a:Atl) (p:Pla) (h:AtlOk a∧PlaOk a p):IterF Try.prog (.clos 275 [] [.rptr [.rsl (rowB a.m.park) 0 a.m.park.length,.rsl (Qb a.m.roads) 0 a.m.roads.length,.int .i64 a.l.hgt,.int .i64 a.l.wgt,.int .i64 a.l.fr,.int .i64 a.l.ready,.int .i64 a.l.drive,.int .i64 a.l.rest] 0,.rptr [.int .i64 p.town,.int .i64 p.used] 0]) ((XD a p).map qy) :=
 iterF_of Try.func275 (by kernel_rfl) f275b fun E yv Y cont hE=>by
  have hx:((XD a p).map qy).length=(XD a p).length:=by simp
  rw [hx] at hE
  exact p275_s yv a p hE (it_w h.1 h.2 a.m.roads.length 0 0 E (by omega) hE (by simp) (by rw [List.drop_zero,List.drop_zero]; rfl))
theorem QbI (a:Atl) (p:Pla):Pure Try.prog 239 [.agg [.rsl (rowB a.m.park) 0 a.m.park.length,.rsl (Qb a.m.roads) 0 a.m.roads.length,.int .i64 a.l.hgt,.int .i64 a.l.wgt,.int .i64 a.l.fr,.int .i64 a.l.ready,.int .i64 a.l.drive,.int .i64 a.l.rest],.agg [.int .i64 p.town,.int .i64 p.used]] (.clos 275 [] [.rptr [.rsl (rowB a.m.park) 0 a.m.park.length,.rsl (Qb a.m.roads) 0 a.m.roads.length,.int .i64 a.l.hgt,.int .i64 a.l.wgt,.int .i64 a.l.fr,.int .i64 a.l.ready,.int .i64 a.l.drive,.int .i64 a.l.rest] 0,.rptr [.int .i64 p.town,.int .i64 p.used] 0]):=Qt Try.func239 f239b fun E hE=>f239W a p (rv:=.clos 275 [] [.rptr [.rsl (rowB a.m.park) 0 a.m.park.length,.rsl (Qb a.m.roads) 0 a.m.roads.length,.int .i64 a.l.hgt,.int .i64 a.l.wgt,.int .i64 a.l.fr,.int .i64 a.l.ready,.int .i64 a.l.drive,.int .i64 a.l.rest] 0,.rptr [.int .i64 p.town,.int .i64 p.used] 0]) hE rfl
end Go.Proofs.Ytemklbioijmjiaa
namespace Go.Proofs.Ytemklbioijmjiaa
open Go Ax
open Go.Proofs
theorem VS {α:Type} (c:α→AV):∀ {l:List α} {i:Nat} {e:α},l[i]?=some e→(l.flatMap fun x=>[c x])[i]?=some (c e)
 | [],i,e,h=>by simp at h
 | x :: l,0,e,h=>by simp at h; subst h; rfl
 | x :: l,i+1,e,h=>by
  have:=VS c (l:=l) (i:=i) (e:=e) (by simpa using h)
  simpa using this
theorem plx_take {α:Type} (c:α→AV) {l:List α} {i:Nat}:(l.flatMap fun x=>[c x]).take i=(l.take i).flatMap fun x=>[c x]:=by
 induction l generalizing i with
 | nil=>simp
 | cons x l ih =>
  cases i with
  | zero=>simp
  | succ i=>simp only [List.flatMap_cons,List.cons_append,List.nil_append,List.take_succ_cons,ih]
theorem plx_set {α:Type} (c:α→AV) {l:List α} {i:Nat} {y:α}:(l.flatMap fun x=>[c x]).set i (c y)=(l.set i y).flatMap fun x=>[c x]:=by
 induction l generalizing i with
 | nil=>simp
 | cons x l ih =>
  cases i with
  | zero=>simp
  | succ i=>simp only [List.flatMap_cons,List.cons_append,List.nil_append,List.set_cons_succ,ih]
theorem key_pl (a b c d:Int):qO Try.prog 370 (.agg [.int .i64 a,.int .i64 b]) (.agg [.int .i64 c,.int .i64 d])=some ((a == c) && (b == d)):=by
 have h2:Xr Try.prog 20 370=some [some .i64,some .i64]:=by kernel_rfl
 simp only [qO,Try.underlying370,h2,Option.bind_some,QN,beq_self_eq_true,Bool.and_true,if_true,Option.map_some]
def eqPl (k q:Pla):Bool:=(k.town == q.town) && (k.used == q.used)
theorem Xn {k q:Pla}:eqPl k q=true ↔ k=q:=by
 cases k; cases q; simp [eqPl]
instance:DecidableEq Pla:=fun a b=>decidable_of_iff (eqPl a b=true) Xn
def QJ {β:Type} (l:List (Pla × β)) (k:Pla):Bool:=l.any fun e=>eqPl k e.1
def PlAt {β:Type} (l:List (Pla × β)) (k:Pla) (i:Nat) (e:Pla × β):Prop:=l[i]?=some e∧e.1=k∧QJ (l.take i) k=false
theorem plHas_iff {β:Type} {l:List (Pla × β)} {k:Pla}:QJ l k=true ↔ k ∈ l.map Prod.fst:=by
 simp only [QJ,List.any_eq_true,List.mem_map]
 constructor
 · rintro ⟨e,h1,h2⟩; exact ⟨e,h1,(Xn.1 h2).symm⟩
 · rintro ⟨e,h1,h2⟩; exact ⟨e,h1,Xn.2 h2.symm⟩
theorem Wc {β:Type}:∀ {l:List (Pla × β)} {k:Pla},QJ l k=true→∃ i e,PlAt l k i e
 | [],k,h=>by simp [QJ] at h
 | x :: l,k,h=>by
  have hc:∀ l:List (Pla × β),QJ (x :: l) k=(eqPl k x.1 || QJ l k):=fun _=>rfl
  rw [hc,Bool.or_eq_true] at h
  by_cases e:eqPl k x.1=true
  · exact ⟨0,x,by simp,(Xn.1 e).symm,by simp [QJ]⟩
  · obtain ⟨i,y,h1,h2,h3⟩:=Wc (h.resolve_left e)
    refine ⟨i+1,y,by simpa using h1,h2,?_⟩
    rw [List.take_succ_cons,hc,h3,Bool.or_false]
    simpa using e
/-! ### what is reached -/
def QaB (e:Pla × Cst):AV:=.clos 0 [.agg [.int .i64 e.1.town,.int .i64 e.1.used]] [.agg [.int .i64 e.2.ticks,.int .i64 e.2.legs]]
def cOuE (e:Pla × Cst):List AV:=[QaB e]
def Qe (l:List (Pla × Cst)):List AV:=l.flatMap cOuE
theorem QaX {l:List (Pla × Cst)}:(Qe l).length=l.length:=by
 induction l with
 | nil=>rfl
 | cons x l ih=>simp only [Qe,List.flatMap_cons,List.length_append,List.length_cons] at ih ⊢; rw [ih]; simp [cOuE]; omega
theorem YR {l:List (Pla × Cst)} {k:Pla} (hh:QJ l k=false):Xw Try.prog 370 (.agg [.int .i64 k.town,.int .i64 k.used]) (Qe l):=by
 intro c hc
 obtain ⟨e,he,hc⟩:=List.mem_flatMap.1 hc
 simp only [cOuE,List.mem_singleton] at hc
 subst hc
 refine ⟨_,_,rfl,?_⟩
 rw [key_pl]
 have:=List.any_eq_false.1 hh e he
 simpa [eqPl] using this
theorem Vo {l:List (Pla × Cst)} {k:Pla} {i:Nat} {e:Pla × Cst} (hh:PlAt l k i e):XY Try.prog 370 (.agg [.int .i64 k.town,.int .i64 k.used]) (Qe l) i (.agg [.int .i64 e.2.ticks,.int .i64 e.2.legs]):=by
 obtain ⟨h1,h2,h3⟩:=hh
 refine ⟨_,VS QaB h1,?_,?_⟩
 · rw [key_pl,h2]; simp
 · rw [show (Qe l).take i=Qe (l.take i) from plx_take QaB]; exact YR h3
theorem setOuE (l:List (Pla × Cst)) (i:Nat) (y:Pla × Cst):(Qe l).set i (QaB y)=Qe (l.set i y):=plx_set QaB
/-! ### what has been looked at -/
def cDnE1 (e:Pla × Int):AV:=.clos 0 [.agg [.int .i64 e.1.town,.int .i64 e.1.used]] [.int .i64 e.2]
def cDnE (e:Pla × Int):List AV:=[cDnE1 e]
def XN (l:List (Pla × Int)):List AV:=l.flatMap cDnE
theorem newDnE {l:List (Pla × Int)} {k:Pla} (hh:QJ l k=false):Xw Try.prog 370 (.agg [.int .i64 k.town,.int .i64 k.used]) (XN l):=by
 intro c hc
 obtain ⟨e,he,hc⟩:=List.mem_flatMap.1 hc
 simp only [cDnE,List.mem_singleton] at hc
 subst hc
 refine ⟨_,_,rfl,?_⟩
 rw [key_pl]
 have:=List.any_eq_false.1 hh e he
 simpa [eqPl] using this
theorem atDnE {l:List (Pla × Int)} {k:Pla} {i:Nat} {e:Pla × Int} (hh:PlAt l k i e):XY Try.prog 370 (.agg [.int .i64 k.town,.int .i64 k.used]) (XN l) i (.int .i64 e.2):=by
 obtain ⟨h1,h2,h3⟩:=hh
 refine ⟨_,VS cDnE1 h1,?_,?_⟩
 · rw [key_pl,h2]; simp
 · rw [show (XN l).take i=XN (l.take i) from plx_take cDnE1]; exact newDnE h3
theorem setDnE (l:List (Pla × Int)) (i:Nat) (y:Pla × Int):(XN l).set i (cDnE1 y)=XN (l.set i y):=plx_set cDnE1
end Go.Proofs.Ytemklbioijmjiaa