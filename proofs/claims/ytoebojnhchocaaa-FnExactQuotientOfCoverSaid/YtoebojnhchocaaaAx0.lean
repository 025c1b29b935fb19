/- The functions that one law reaches, each as a Lean function, and that Go's call comes to what it says. Condition of each: that the Lean function answers (is not none). -/
import Derived.Test.YtoebojnhchocaaaProg
import Derived.Below
import Derived.Deep.Draws
import Derived.Deep.AppendLies
import Derived.Maps.AppendAt
import Derived.OwnWalk
import Derived.Laws.BytesArg
import Derived.Laws.MakeOwn
import Derived.Laws.OwnMore
import Derived.Deep.OwnRows
import Derived.Tactics
import Derived.Lib.ConvBytes
import Derived.Laws.Slices
import Derived.WalkKit
import Derived.KernelRfl
import Derived.RowKit3
import Derived.Deep.LoopGhost
import Derived.Deep.QuietTactic
import Derived.BigQuiet
import Derived.WideLaws
import Derived.Deep.DeepCutAuto
import Derived.Deep.CutBlock
import Derived.Deep.RegionHeld3
import Derived.Laws.Rows
import Derived.Lib.AppendStr
import Derived.ArgAppend
import Derived.Laws.IdiomCopy
import Derived.OrdersHeld
import Derived.Laws.BitsLemmas
import Derived.RowKit
import Derived.Lib.SliceRun
import Derived.Deep.RegionLaw
import Derived.Test.YtoebojnhchocaaaAWWords
import Derived.Test.YtoebojnhchocaaaAWLast
import Derived.Test.YtoebojnhchocaaaAWTab
import Derived.Test.YtoebojnhchocaaaAWWords
import Derived.Test.YtoebojnhchocaaaAWLast
import Derived.Test.YtoebojnhchocaaaAWApart
import Derived.Test.YtoebojnhchocaaaAWWords
import Derived.Test.YtoebojnhchocaaaAWApart
import Derived.Test.YtoebojnhchocaaaAWWords
import Derived.Test.YtoebojnhchocaaaAWFoot
import Derived.Test.YtoebojnhchocaaaAWKept
import Derived.Test.YtoebojnhchocaaaAWShare
import Derived.Test.YtoebojnhchocaaaAWN
import Derived.Test.YtoebojnhchocaaaAWRepsOne
import Derived.Test.YtoebojnhchocaaaAWGuard
import Derived.Test.YtoebojnhchocaaaAWNEv
import Derived.Test.YtoebojnhchocaaaAWMore
namespace Go.Proofs.Ytoebojnhchocaaa.A
open Go.RowKit Go.Proofs.YtoebojnhchocaaaW.PrintWords Go.Proofs.YtoebojnhchocaaaW.PrintLast Go.Proofs.YtoebojnhchocaaaW.PrintMore
attribute [local go_sem] max2_int min2_int max_two min_two max_three min_three max_four min_four   -- for this text's walks alone
set_option linter.unusedVariables false
set_option linter.unusedSimpArgs false
def errW : Option Int → Value
 | none=>.nilIface
 | some c=>.iface 0 (.int .i64 c)
theorem errW_none:errW none=.nilIface:=rfl
theorem errW_some (c:Int):errW (some c)=.iface 0 (.int .i64 c):=rfl
theorem info2:(Try.prog.info? 2).map (fun i=>(i.zero,i.size,i.bytes))=some (some (.int .i64 0),1,8):=by kernel_rfl
theorem info28:(Try.prog.info? 28).map (fun i=>(i.zero,i.size,i.bytes))=some (some (.slice none 0 0),1,24):=by kernel_rfl
-- the values' own types
def rd_L1 (xs:List (List Int)) (i:Int):(List Int):=xs.getD i.toNat ([]:List Int)
theorem at_L1 {w:World} {A:Option Addr} {n:Nat} {xs:List (List Int)} (h:Kd.C (Kd.slice 2 (Kd.int .i64)) w A n xs) (i:Int) (h0:0≤i) (h1:i < n):∃ ad A0 c0,A=some ad∧w.cell? (ad.add i.toNat)=some (.slice A0 (rd_L1 xs i).length c0)∧(rd_L1 xs i).length≤c0∧(Kd.int .i64).C w A0 (rd_L1 xs i).length (rd_L1 xs i):=by
 obtain ⟨ad,c,e,_,hK,hc0⟩:=Kd.C_get h ([]:List Int) i h0 h1
 have hc:∀ j u,c[j]?=some u→w.cell? (ad.add (i.toNat * 1+j))=some u:=hc0
 obtain ⟨A0,c0,rfl,l0,g0⟩:=hK
 exact ⟨ad,A0,c0,e,by have hq:=hc 0 _ rfl;rwa [Nat.mul_one,Nat.add_zero] at hq,l0,g0⟩
/-! ### small words for the contracts proved by hand -/
theorem zI {α:Type} (l:List α) (i:Nat) (a:α):l.toArray.setIfInBounds i a=(l.set i a).toArray:=List.setIfInBounds_toArray l i a
theorem zZ {α:Type} (a b:α) (l:List α):(a :: l).set 0 b=b :: l:=List.set_cons_zero
theorem zS {α:Type} (a b:α) (l:List α) (n:Nat):(a :: l).set (n+1) b=a :: l.set n b:=List.set_cons_succ
def rdL (xs:List (List Int)) (i:Int):List Int:=xs.getD i.toNat []
def idxM (p : List Int → Option Bool) : List (List Int) → Nat → Option Int
 | [],_=>some (-1)
 | x :: xs,k=>(p x).bind fun b=>if b=true then some (k:Int) else idxM p xs (k+1)
theorem idxM_mono {p q : List Int → Option Bool} (h : ∀ x r, p x = some r → q x = some r) : ∀ (l : List (List Int)) (k : Nat) (r : Int), idxM p l k = some r → idxM q l k = some r
 | [],_,_,e=>e
 | x :: xs,k,r,e=>by
  simp only [idxM] at e ⊢
  obtain ⟨b,hb,e⟩:=Option.bind_eq_some_iff.mp e
  rw [h x b hb,Option.bind_some]
  cases b with
  | true=>exact e
  | false =>
   simp only [Bool.false_eq_true,if_false] at e ⊢
   exact idxM_mono h xs (k+1) r e
abbrev KL (e:Nat):Kd (List Int):=Kd.slice e (Kd.int .i64)
/-- An inner row, by its address; and what becomes of the whole where that row alone is written. -/
theorem S_inner {e ei base n c : Nat} {ok : Nat → Prop} {w : World} {A : Option Addr} {xs : List (List Int)} (h : Kd.S (KL ei) e w base ok (.slice A n c) xs) (i : Int) (h0 : 0 ≤ i) (h1 : i < n) :
  ∃ (ad : Addr) (Ai : Option Addr) (ci : Nat), A = some ad ∧ w.cell? (ad.add i.toNat) = some (.slice Ai (rdL xs i).length ci) ∧ (rdL xs i).length ≤ ci ∧ (Kd.int .i64).C w Ai (rdL xs i).length (rdL xs i) ∧
   Kd.R (Kd.int .i64) ei w base (fun k=>some k=(Value.slice Ai (rdL xs i).length ci).ownBlock) (.slice Ai (rdL xs i).length ci) (rdL xs i)∧(∀ k,some k=(Value.slice Ai (rdL xs i).length ci).ownBlock→ok k) ∧
   ∀ {w1:World} {x':List Int} {ok':Nat→Prop},w.grownBy w1 (Value.slice Ai (rdL xs i).length ci).ownBlock→Kd.R (Kd.int .i64) ei w1 base ok' (.slice Ai (rdL xs i).length ci) x'→Kd.S (KL ei) e w1 base ok (.slice A n c) (xs.set i.toNat x'):=by
 have hl:=(Kd.S_reads' h).1
 obtain ⟨g,cap,hv,_⟩:=Kd.S_form h (by omega)
 injection hv with hA _ _
 subst hA
 obtain ⟨oki,cs,hcl,hM,hcc,hoki,hput⟩:=Kd.S_borrow h ([]:List Int) i h0 h1
 obtain ⟨v,rfl,hR⟩:=hM
 have hcell:=hcc 0 v rfl
 obtain ⟨Ai,ci,rfl,hci,hCi⟩:=Kd.R_reads hR
 have hR0:∀ k,some k=(Value.slice Ai (xs.getD i.toNat []).length ci).ownBlock→oki k:=fun k hk=>hR.1 k hk.symm
 refine ⟨_,Ai,ci,rfl,?_,hci,hCi,Kd.R_tight rfl hR,fun k hk=>(hoki k (hR0 k hk)).1,fun hg hR1=>?_⟩
 ·rw [show (Kd.slice ei (Kd.int .i64)).sz = 1 from rfl, Nat.mul_one, Nat.add_zero] at hcell
  exact hcell
 ·exact hput hg (fun k hk=>hR0 k hk.symm) (Kd.M_row (Kd.R_mono (Kd.R_tight rfl hR1) (fun k hk=>hR0 k hk)))
theorem grown_of_kept {w0 w w1:World} {v:Value} (hB:Below w0.heap.size w0 w) (hB1:Below w0.heap.size w0 w1) (hk:Kept w w1 (fun k=>some k=v.ownBlock)):w.grownBy w1 v.ownBlock :=
 ⟨hB1.os.trans hB.os.symm,hB1.tape.trans hB.tape.symm,hB1.output.trans hB.output.symm,hk.1,fun i hi hne=>hk.2 i hi (fun e=>hne e)⟩
theorem mid (lo m s:Nat) (h:lo≤s):∃ q,lo≤q∧q≤s∧(∀ k,k < m→lo≤k→k < s→k < q)∧(∀ k,m≤k→lo≤k→k < s→q≤k):=by
 by_cases h1:m≤lo
 ·exact ⟨lo,by omega,h,fun k _ _ _=>by omega,fun k _ h2 _=>h2⟩
 ·by_cases h2 : m ≤ s
  ·exact ⟨m,by omega,h2,fun k h _ _=>h,fun k h _ _=>h⟩
  ·exact ⟨s,h,by omega,fun k _ _ h=>h,fun k h3 _ h4=>by omega⟩
/-- What a slot holds is the value that lies in a whole at an index. -/
def HdrOf (w:World) (V:Value) (j:Int) (u:Value):Prop:=∃ ad n c,V=.slice (some ad) n c∧0≤j∧j < (n:Int)∧w.cell? (ad.add j.toNat)=some u
theorem HdrOf.below {w w1:World} {V:Value} {j:Int} {u:Value} (h:HdrOf w V j u) (hb:Below w.heap.size w w1):HdrOf w1 V j u:=by
 obtain ⟨ad,n,c,e,h0,h1,hc⟩:=h
 exact ⟨ad,n,c,e,h0,h1,pw_cell_below hb hc⟩
theorem HdrOf.alloc {w:World} {V:Value} {j:Int} {u:Value} (h:HdrOf w V j u) (o:Obj):HdrOf (w.alloc o) V j u:=h.below (below_alloc (Below.refl _ _) o)
theorem HdrOf.drew {w:World} {V:Value} {j:Int} {u:Value} (h:HdrOf w V j u):HdrOf w.drew V j u:=h.below (below_drew (Below.refl _ _))
theorem HdrOf.drewN {w:World} {V:Value} {j:Int} {u:Value} (h:HdrOf w V j u) (m:Nat):HdrOf (w.drewN m) V j u:=h.below (pw_below_drewN (Below.refl _ _) m)
theorem HdrOf.set {w:World} {V:Value} {j:Int} {u:Value} (h:HdrOf w V j u) {e e' g off:Nat} {x v:Value} (hP:∀ k,V.ownBlock=some k→∃ cells,w.heap[k]?=some (.cells cells e (0,0))) (hx:∀ k,v.ownBlock=some k→∃ cells,w.heap[k]?=some (.cells cells e' (0,0))) (hv:v.ownBlock=some g) (hne:e ≠ e'):HdrOf (w.setCell ⟨g,off,none⟩ x) V j u:=by
 obtain ⟨ad,n,c,rfl,h0,h1,hc⟩:=h
 refine ⟨ad,n,c,rfl,h0,h1,?_⟩
 rw [cell_far]
 ·exact hc
 ·rw [add_block]
  intro h_
  obtain ⟨c1,h1⟩:=hP ad.block (by simp [Value.ownBlock])
  obtain ⟨c2,h2⟩:=hx ad.block (by rw [hv];exact congrArg some h_.symm)
  rw [h1] at h2
  injection h2 with h2
  injection h2 with _ h2
  exact hne h2
theorem cell_ne {ad:Addr} {n c k i:Nat} (h:some k ≠ (Value.slice (some ad) n c).ownBlock):some (ad.add i).block ≠ some k:=by
 rw [add_block]
 intro e
 exact h (by rw [← e];simp [Value.ownBlock])
theorem below_setA {w W:World} {g j:Nat} {v:Value} (h:Below w.heap.size w W) (hg:Aside0 (w.heap.size≤g)):Below w.heap.size w (W.setCell ⟨g,j,none⟩ v):=below_set h hg.out
theorem bl {b:Nat} {w0 w:World} (h:Below b w0 w:=by repeat (first|(with_reducible first|exact HB.out|apply below_alloc|apply pw_below_drewN|apply below_drew1|refine below_setA ?_ (by assumption))|exact HB.out)):Below b w0 w:=h
theorem bk {w:World} {g:Nat} {o:Obj} (h:w.heap[g]?=some o:=by (with_reducible repeat (first|refine blk_drewN ?_ _|refine blk_drew ?_|refine blk_alloc ?_ _));exact Aside0.out (by assumption)):w.heap[g]?=some o:=h
theorem oD {p:Prop} [Decidable p] (h:decide p=true:=by first|(with_reducible assumption)|assumption):p:=of_decide_eq_true h
theorem gm {α:Type} {a b:α} (h:a=b:=by (try simp only [List.map_toArray,List.map_cons,List.map_nil]);first|done|rfl|(simp only [List.length_drop,List.length_take];rfl)):a=b:=h
theorem rs {α:Type} {a b:α} (h:a=b:=by first|rfl|(simp;done)|(simp [*];done)):a=b:=h
theorem hbc {w w':World} {a:Addr} {v:Value} (B:Aside0 (Below w.heap.size w w')) (h:w.cell? a=some v):w'.cell? a=some v:=(B.out.cell (World.block_lt_of_cell? w _ h)).trans h
/-! ### short words -/
def baL : Nat → Nat → List Bool
 | 0,_=>[]
 | n+1,b=>Nat.beq (b % 2) 1 :: baL n (b / 2)
/-- A row of bools, as the bits of a number. -/
def ba (n b:Nat):Array Bool:=⟨baL n b⟩
theorem pu {P : Program} {md : Region.Mode} {ops : Array Oper} {Q : Exit → Act → World → Prop} {S : World → Prop} {ds : List Nat} {T : Bool × List (List Nat × List Nat)} {oi : Oper} {v : Value} {fuel : Nat} {l : Array Bool} {a a' : Act} {w : World} (i : Nat) (N : Option Tmp) (l' : Array Bool) (HT : Aside0 (rtab md ops = T)) (hi : ops[i]? = some oi := by exact rfl) (hN : oi.dst = N := by exact rfl) (hc : anyT T l.toList l'.toList i = true := by kernel_rfl)
  (hQ:∀ c a w,Q (.panic c) (a.put oi.dst v) w→Q (.panic c) a w:=by exact (fun _ _ _ h=>h)) (hy:Yields P ops oi v a:=by refine Or.inl ⟨by rfl,?_⟩;intro w';go_simp;with_reducible rfl) (ha:a.put N v=a':=by simp only [Act.put,zI,zZ,zS,i64_w,i32_w];rfl) (h:wpAnyLast P md ops Q S ds fuel l' a' w):wpAnyLast P md ops Q S ds (fuel+1) l a w :=
 pure_ l' hi hN (any_of HT.out hc) hQ hy ha h
theorem ta {P : Program} {md : Region.Mode} {ops : Array Oper} {Q : Exit → Act → World → Prop} {S : World → Prop} {ds B : List Nat} {T : Bool × List (List Nat × List Nat)} {oi : Oper} {v : Value} {fuel : Nat} {l : Array Bool} {a a' : Act} {w : World} (i : Nat) (N : Option Tmp) (l' : Array Bool) (HT : Aside0 (rtab md ops = T)) (HW : Aside0 (waitsOk T.2 B = true)) (hS : S w) (hi : ops[i]? = some oi := by exact rfl) (hN : oi.dst = N := by exact rfl) (hc : takeW T B ds l.toList l'.toList i = true := by kernel_rfl)
  (hQ:∀ c a w,Q (.panic c) (a.put oi.dst v) w→Q (.panic c) a w:=by exact (fun _ _ _ h=>h)) (hy:YieldsIf P ops S oi v a) (ha:a.put N v=a':=by simp only [Act.put,zI,zZ,zS,i64_w,i32_w];rfl) (h:wpAnyLast P md ops Q S ds fuel l' a' w):wpAnyLast P md ops Q S ds (fuel+1) l a w :=
 take_ l' hi hN (take_ofW HT.out HW.out hc) hQ hy hS ha h
theorem iS {α:Type} {p:Prop} [Decidable p] {x:Option α} {r:α} (h:(if p then x else none)=some r):p∧x=some r:=by
 by_cases c:p
 ·rw [if_pos c] at h;exact ⟨c,h⟩
 ·rw [if_neg c] at h;exact absurd h (by simp)
theorem aR {α:Type} {d:Kd α} {e b:Nat} {ok:Nat→Prop} {v:Value} {xs:List α} {w w1:World} (h:Kd.R d e w b ok v xs) (g:Kd.R d e w b ok v xs→Kd.R d e w1 b ok v xs:=by intro h;(with_reducible repeat (first|apply Kd.R_alloc|apply Kd.R_drewN|apply Kd.R_drew));exact h):Kd.R d e w1 b ok v xs:=g h
theorem aS {α:Type} {d:Kd α} {e b:Nat} {ok:Nat→Prop} {v:Value} {xs:List α} {w w1:World} (h:Kd.S d e w b ok v xs) (g:Kd.S d e w b ok v xs→Kd.S d e w1 b ok v xs:=by intro h;(with_reducible repeat (first|apply Kd.S_alloc|apply Kd.S_drewN|apply Kd.S_drew));exact h):Kd.S d e w1 b ok v xs:=g h
theorem aV {α:Type} {d:Kd α} {e b:Nat} {ok:Nat→Prop} {v:Value} {xs:List α} {w w1:World} (h:Kd.V d e w b ok v xs) (g:Kd.V d e w b ok v xs→Kd.V d e w1 b ok v xs:=by intro h;(with_reducible repeat (first|apply Kd.V_alloc|apply Kd.V_drewN|apply Kd.V_drew));exact h):Kd.V d e w1 b ok v xs:=g h
theorem aN {α:Type} {d:Kd α} {e b:Nat} {ok:Nat→Prop} {v:Value} {xs:List α} {w w1:World} (h:Kd.N d e w b ok v xs) (g:Kd.N d e w b ok v xs→Kd.N d e w1 b ok v xs:=by intro h;(with_reducible repeat (first|apply Kd.N_alloc|apply Kd.N_drewN|apply Kd.N_drew));exact h):Kd.N d e w1 b ok v xs:=g h
theorem aQ {α:Type} {d:Kd α} {e b:Nat} {ok:Nat→Prop} {v:Value} {xs:List α} {w w1:World} (h:Kd.Q d e w b ok v xs) (g:Kd.Q d e w b ok v xs→Kd.Q d e w1 b ok v xs:=by intro h;(with_reducible repeat (first|apply Kd.Q_alloc|apply Kd.Q_drewN|apply Kd.Q_drew));exact h):Kd.Q d e w1 b ok v xs:=g h
theorem aC {α:Type} {d:Kd α} {n:Nat} {A:Option Addr} {xs:List α} {w w1:World} (h:Kd.C d w A n xs) (g:Kd.C d w A n xs→Kd.C d w1 A n xs:=by intro h;repeat (first|exact h|(with_reducible refine Kd.C_alloc ?_ _)|(with_reducible refine Kd.C_drewN ?_ _)|(with_reducible refine Kd.C_drew ?_))):Kd.C d w1 A n xs:=g h
end Go.Proofs.Ytoebojnhchocaaa.A
/- Set with little white space, by a program. -/
