/- The functions that one law reaches, each as a Lean function, and that Go's call comes to what it says. Condition of each: that the Lean function answers (is not none). -/
import Derived.Test.YtoebojnhchocaaaProg
import Derived.Below
import Derived.Deep.Draws
import Derived.Deep.AppendLies
import Derived.Maps.AppendAt
import Derived.OwnWalk
import Derived.Laws.BytesArg
import Derived.Laws.MakeOwn
import Derived.Laws.OwnMore
import Derived.Deep.OwnRows
import Derived.Tactics
import Derived.Lib.ConvBytes
import Derived.Laws.Slices
import Derived.WalkKit
import Derived.KernelRfl
import Derived.RowKit3
import Derived.Deep.LoopGhost
import Derived.Deep.QuietTactic
import Derived.BigQuiet
import Derived.WideLaws
import Derived.Deep.DeepCutAuto
import Derived.Deep.CutBlock
import Derived.Deep.RegionHeld3
import Derived.Laws.Rows
import Derived.Lib.AppendStr
import Derived.ArgAppend
import Derived.Laws.IdiomCopy
import Derived.OrdersHeld
import Derived.Laws.BitsLemmas
import Derived.RowKit
import Derived.Lib.SliceRun
import Derived.Deep.RegionLaw
import Derived.Test.YtoebojnhchocaaaGWWords
import Derived.Test.YtoebojnhchocaaaGWLast
import Derived.Test.YtoebojnhchocaaaGWTab
import Derived.Test.YtoebojnhchocaaaGWWords
import Derived.Test.YtoebojnhchocaaaGWLast
import Derived.Test.YtoebojnhchocaaaGWApart
import Derived.Test.YtoebojnhchocaaaGWWords
import Derived.Test.YtoebojnhchocaaaGWApart
import Derived.Test.YtoebojnhchocaaaGWWords
import Derived.Test.YtoebojnhchocaaaGWFoot
import Derived.Test.YtoebojnhchocaaaGWKept
import Derived.Test.YtoebojnhchocaaaGWShare
import Derived.Test.YtoebojnhchocaaaGWN
import Derived.Test.YtoebojnhchocaaaGWRepsOne
import Derived.Test.YtoebojnhchocaaaGWInv
import Derived.Test.YtoebojnhchocaaaGWGuard
import Derived.Test.YtoebojnhchocaaaGWN
import Derived.Test.YtoebojnhchocaaaGWMore
namespace Go.Proofs.cx.fq
theorem ak.z {p:Prop} (h:ak p):p:=h.out
end Go.Proofs.cx.fq
namespace Go.Proofs.Ytoebojnhchocaaa.G
open Go.RowKit Go.Proofs.cx.fq Go.Proofs.cx.jX Go.Proofs.cx.lu
attribute [local go_sem] max2_int min2_int max_two min_two max_three min_three max_four min_four   -- for this text's walks alone
set_option linter.unusedVariables false
set_option linter.unusedSimpArgs false
def Pj : Option Int → Value
 | none=>.nilIface
 | some c=>.iface 0 (.int .i64 c)
theorem qa:Pj none=.nilIface:=rfl
theorem qb (c:Int):Pj (some c)=.iface 0 (.int .i64 c):=rfl
theorem aoj:(Try.prog.info? 2).map (fun i=>(i.zero,i.size,i.bytes))=some (some (.int .i64 0),1,8):=by kernel_rfl
theorem Ss:(Try.prog.info? 9).map (fun i=>(i.zero,i.size,i.bytes))=some (some (.string ⟨#[]⟩),1,16):=by kernel_rfl
theorem qI:(Try.prog.info? 28).map (fun i=>(i.zero,i.size,i.bytes))=some (some (.slice none 0 0),1,24):=by kernel_rfl
-- the values' own types
def ai (xs:List (List Int)) (i:Int):(List Int):=xs.getD i.toNat ([]:List Int)
theorem fu {w:World} {A:Option Addr} {n:Nat} {xs:List (List Int)} (h:Kd.C (Kd.slice 2 (Kd.int .i64)) w A n xs) (i:Int) (h0:0≤i) (h1:i < n):∃ ad A0 c0,A=some ad∧w.cell? (ad.add i.toNat)=some (.slice A0 (ai xs i).length c0)∧(ai xs i).length≤c0∧(Kd.int .i64).C w A0 (ai xs i).length (ai xs i):=by
 obtain ⟨ad,c,e,_,hK,hc0⟩:=Kd.Ek h ([]:List Int) i h0 h1
 have hc:∀ j u,c[j]?=some u→w.cell? (ad.add (i.toNat * 1+j))=some u:=hc0
 obtain ⟨A0,c0,rfl,l0,g0⟩:=hK
 exact ⟨ad,A0,c0,e,by have hq:=hc 0 _ rfl;rwa [Nat.mul_one,Nat.add_zero] at hq,l0,g0⟩
/-! ### small words for the contracts proved by hand -/
theorem zI {α:Type} (l:List α) (i:Nat) (a:α):l.toArray.setIfInBounds i a=(l.set i a).toArray:=List.setIfInBounds_toArray l i a
theorem zZ {α:Type} (a b:α) (l:List α):(a :: l).set 0 b=b :: l:=List.set_cons_zero
theorem zS {α:Type} (a b:α) (l:List α) (n:Nat):(a :: l).set (n+1) b=a :: l.set n b:=List.set_cons_succ
theorem mid (lo m s:Nat) (h:lo≤s):∃ q,lo≤q∧q≤s∧(∀ k,k < m→lo≤k→k < s→k < q)∧(∀ k,m≤k→lo≤k→k < s→q≤k):=by
 by_cases h1:m≤lo
 ·exact ⟨lo,by omega,h,fun k _ _ _=>by omega,fun k _ h2 _=>h2⟩
 ·by_cases h2 : m ≤ s
  ·exact ⟨m,by omega,h2,fun k h _ _=>h,fun k h _ _=>h⟩
  ·exact ⟨s,h,by omega,fun k _ _ h=>h,fun k h3 _ h4=>by omega⟩
/-- What a slot holds is the value that lies in a whole at an index. -/
def oZ (w:World) (V:Value) (j:Int) (u:Value):Prop:=∃ ad n c,V=.slice (some ad) n c∧0≤j∧j < (n:Int)∧w.cell? (ad.add j.toNat)=some u
theorem oZ.below {w w1:World} {V:Value} {j:Int} {u:Value} (h:oZ w V j u) (hb:Below w.heap.size w w1):oZ w1 V j u:=by
 obtain ⟨ad,n,c,e,h0,h1,hc⟩:=h
 exact ⟨ad,n,c,e,h0,h1,apy hb hc⟩
theorem oZ.alloc {w:World} {V:Value} {j:Int} {u:Value} (h:oZ w V j u) (o:Obj):oZ (w.alloc o) V j u:=h.below (bn (Below.refl _ _) o)
theorem oZ.drew {w:World} {V:Value} {j:Int} {u:Value} (h:oZ w V j u):oZ w.drew V j u:=h.below (uq (Below.refl _ _))
theorem oZ.drewN {w:World} {V:Value} {j:Int} {u:Value} (h:oZ w V j u) (m:Nat):oZ (w.drewN m) V j u:=h.below (bq (Below.refl _ _) m)
theorem ZW (x:List (List Int)) (i:Nat) (y:List Int) (h:i < x.length):(x.set i y).getD i []=y:=by
 rw [List.getD_eq_getElem?_getD,List.getElem?_set_self h]
 rfl
theorem oZ.set {w:World} {V:Value} {j:Int} {u:Value} (h:oZ w V j u) {e e' g off:Nat} {x v:Value} (hP:∀ k,V.ownBlock=some k→∃ cells,w.heap[k]?=some (.cells cells e (0,0))) (hx:∀ k,v.ownBlock=some k→∃ cells,w.heap[k]?=some (.cells cells e' (0,0))) (hv:v.ownBlock=some g) (hne:e ≠ e'):oZ (w.setCell ⟨g,off,none⟩ x) V j u:=by
 obtain ⟨ad,n,c,rfl,h0,h1,hc⟩:=h
 refine ⟨ad,n,c,rfl,h0,h1,?_⟩
 rw [cell_far]
 ·exact hc
 ·rw [add_block]
  intro h_
  obtain ⟨c1,h1⟩:=hP ad.block (by simp [Value.ownBlock])
  obtain ⟨c2,h2⟩:=hx ad.block (by rw [hv];exact congrArg some h_.symm)
  rw [h1] at h2
  injection h2 with h2
  injection h2 with _ h2
  exact hne h2
theorem xI {ad:Addr} {n c k i:Nat} (h:some k ≠ (Value.slice (some ad) n c).ownBlock):some (ad.add i).block ≠ some k:=by
 rw [add_block]
 intro e
 exact h (by rw [← e];simp [Value.ownBlock])
/-- A literal of one row of the call's own: as the append of that row to nothing. -/
theorem WH {P : Program} {ops : Array Oper} {rest : List Oper} {o : Oper} {a : Act} {Q : Exit → Act → World → Prop} {α : Type} (d : Kd α) {w0 W : World} (base e : Nat) (hgd : o.guard = none) {N : Tmp} (hd : o.dst = some N) (p : α) (cs : List Value) (ok anX : Nat → Prop)
  (hrun:(execOp a.eval o).run P W=.ok (.value (.slice (some ⟨W.heap.size,0,none⟩) 1 1)) (W.alloc (.cells cs.toArray e))) (hp:d.M W base anX p cs) (lG:∀ k,anX k→ok k∧some k ≠ (Value.slice none 0 0).ownBlock) (kr:∀ k,W.heap.size≤k→ok k) (HB:Below base w0 W) (hbase:base≤W.heap.size)
  (h:∀ v1 w1,Kd.S d e w1 base ok v1 [p]→Below base w0 w1→W.grownBy w1 (Value.slice none 0 0).ownBlock→(v1.ownBlock=(Value.slice none 0 0).ownBlock∨∃ b,v1.ownBlock=some b∧W.heap.size≤b)→wpList P ops Q rest (a.put o.dst v1) w1):wpList P ops Q (o :: rest) a W:=by
 have hl:=d.nQ (d.kj hp)
 refine Kd.WI d base e hgd hd (xs:=[p]) (inner:=cs) (ok:=ok) (fun j k=>j=0∧anX k) hrun (by simp [hl]) (fun j x hx=>?_) (fun i j k hi hj=>hi.1.trans hj.1.symm) (fun j k hk=>(lG k hk.2).1) (kr _ (Nat.le_refl _)) HB hbase (by simp) (fun v1 w1 hs hb hg bz=>h v1 w1 hs hb hg (.inr bz))
 cases j with
 | zero =>
  have:x=p:=by simpa using hx.symm
  subst this
  rw [Nat.zero_mul,List.drop_zero,← hl,List.take_length]
  exact d.an' (fun k hk=>⟨rfl,hk⟩) hp
 | succ j=>simp at hx
theorem Oq {w W:World} {g j:Nat} {v:Value} (h:Below w.heap.size w W) (hg:ak (w.heap.size≤g)):Below w.heap.size w (W.setCell ⟨g,j,none⟩ v):=az h hg.out
theorem bl {b:Nat} {w0 w:World} (h:Below b w0 w:=by repeat (first|(with_reducible first|exact HB.out|apply bn|apply bq|apply anS|refine Oq ?_ (by assumption))|exact HB.out)):Below b w0 w:=h
theorem bk {w:World} {g:Nat} {o:Obj} (h:w.heap[g]?=some o:=by (with_reducible repeat (first|refine anF ?_ _|refine aH ?_|refine aI ?_ _));exact ak.out (by assumption)):w.heap[g]?=some o:=h
theorem oD {p:Prop} [Decidable p] (h:decide p=true:=by first|(with_reducible assumption)|assumption):p:=of_decide_eq_true h
theorem gm {α:Type} {a b:α} (h:a=b:=by (try simp only [List.map_toArray,List.map_cons,List.map_nil]);first|done|rfl|(simp only [List.length_drop,List.length_take];rfl)):a=b:=h
theorem rs {α:Type} {a b:α} (h:a=b:=by first|rfl|(simp;done)|(simp [*];done)):a=b:=h
theorem hbc {w w':World} {a:Addr} {v:Value} (B:ak (Below w.heap.size w w')) (h:w.cell? a=some v):w'.cell? a=some v:=(B.out.cell (World.block_lt_of_cell? w _ h)).trans h
/-! ### short words -/
def Om : Nat → Nat → List Bool
 | 0,_=>[]
 | n+1,b=>Nat.beq (b % 2) 1 :: Om n (b / 2)
/-- A row of bools, as the bits of a number. -/
def ba (n b:Nat):Array Bool:=⟨Om n b⟩
theorem pu {P : Program} {md : Region.Mode} {ops : Array Oper} {Q : Exit → Act → World → Prop} {S : World → Prop} {ds : List Nat} {T : Bool × List (List Nat × List Nat)} {oi : Oper} {v : Value} {fuel : Nat} {l : Array Bool} {a a' : Act} {w : World} (i : Nat) (N : Option Tmp) (l' : Array Bool) (HT : ak (fh md ops = T)) (hi : ops[i]? = some oi := by exact rfl) (hN : oi.dst = N := by exact rfl) (hc : Iq T l.toList l'.toList i = true := by kernel_rfl)
  (hQ:∀ c a w,Q (.panic c) (a.put oi.dst v) w→Q (.panic c) a w:=by exact (fun _ _ _ h=>h)) (hy:Yields P ops oi v a:=by refine Or.inl ⟨by rfl,?_⟩;intro w';go_simp;with_reducible rfl) (ha:a.put N v=a':=by simp only [Act.put,zI,zZ,zS,dX,eZ];rfl) (h:gL P md ops Q S ds fuel l' a' w):gL P md ops Q S ds (fuel+1) l a w :=
 apw l' hi hN (W6 HT.out hc) hQ hy ha h
theorem ta {P : Program} {md : Region.Mode} {ops : Array Oper} {Q : Exit → Act → World → Prop} {S : World → Prop} {ds B : List Nat} {T : Bool × List (List Nat × List Nat)} {oi : Oper} {v : Value} {fuel : Nat} {l : Array Bool} {a a' : Act} {w : World} (i : Nat) (N : Option Tmp) (l' : Array Bool) (HT : ak (fh md ops = T)) (HW : ak (kN T.2 B = true)) (hS : S w) (hi : ops[i]? = some oi := by exact rfl) (hN : oi.dst = N := by exact rfl) (hc : LJ T B ds l.toList l'.toList i = true := by kernel_rfl)
  (hQ:∀ c a w,Q (.panic c) (a.put oi.dst v) w→Q (.panic c) a w:=by exact (fun _ _ _ h=>h)) (hy:YieldsIf P ops S oi v a) (ha:a.put N v=a':=by simp only [Act.put,zI,zZ,zS,dX,eZ];rfl) (h:gL P md ops Q S ds fuel l' a' w):gL P md ops Q S ds (fuel+1) l a w :=
 wN l' hi hN (ae6 HT.out HW.out hc) hQ hy hS ha h
theorem iS {α:Type} {p:Prop} [Decidable p] {x:Option α} {r:α} (h:(if p then x else none)=some r):p∧x=some r:=by
 by_cases c:p
 ·rw [if_pos c] at h;exact ⟨c,h⟩
 ·rw [if_neg c] at h;exact absurd h (by simp)
theorem aR {α:Type} {d:Kd α} {e b:Nat} {ok:Nat→Prop} {v:Value} {xs:List α} {w w1:World} (h:Kd.R d e w b ok v xs) (g:Kd.R d e w b ok v xs→Kd.R d e w1 b ok v xs:=by intro h;(with_reducible repeat (first|apply Kd.b_|apply Kd.bZ|apply Kd.bP));exact h):Kd.R d e w1 b ok v xs:=g h
theorem aS {α:Type} {d:Kd α} {e b:Nat} {ok:Nat→Prop} {v:Value} {xs:List α} {w w1:World} (h:Kd.S d e w b ok v xs) (g:Kd.S d e w b ok v xs→Kd.S d e w1 b ok v xs:=by intro h;(with_reducible repeat (first|apply Kd.di|apply Kd.dm|apply Kd.cS));exact h):Kd.S d e w1 b ok v xs:=g h
theorem aV {α:Type} {d:Kd α} {e b:Nat} {ok:Nat→Prop} {v:Value} {xs:List α} {w w1:World} (h:Kd.V d e w b ok v xs) (g:Kd.V d e w b ok v xs→Kd.V d e w1 b ok v xs:=by intro h;(with_reducible repeat (first|apply Kd.cW|apply Kd.cX|apply Kd.cV));exact h):Kd.V d e w1 b ok v xs:=g h
theorem aN {α:Type} {d:Kd α} {e b:Nat} {ok:Nat→Prop} {v:Value} {xs:List α} {w w1:World} (h:Kd.N d e w b ok v xs) (g:Kd.N d e w b ok v xs→Kd.N d e w1 b ok v xs:=by intro h;(with_reducible repeat (first|apply Kd.V9|apply Kd.Wa|apply Kd.V_));exact h):Kd.N d e w1 b ok v xs:=g h
theorem aQ {α:Type} {d:Kd α} {e b:Nat} {ok:Nat→Prop} {v:Value} {xs:List α} {w w1:World} (h:Kd.Q d e w b ok v xs) (g:Kd.Q d e w b ok v xs→Kd.Q d e w1 b ok v xs:=by intro h;(with_reducible repeat (first|apply Kd.Wk|apply Kd.Wm|apply Kd.Wl));exact h):Kd.Q d e w1 b ok v xs:=g h
theorem aC {α:Type} {d:Kd α} {n:Nat} {A:Option Addr} {xs:List α} {w w1:World} (h:Kd.C d w A n xs) (g:Kd.C d w A n xs→Kd.C d w1 A n xs:=by intro h;repeat (first|exact h|(with_reducible refine Kd.hJ ?_ _)|(with_reducible refine Kd.aoc ?_ _)|(with_reducible refine Kd.gO ?_))):Kd.C d w1 A n xs:=g h
abbrev sO (a:Int) (A:Option Addr) {α:Type} (l:List α) (c t:Nat):Obj:=.cells #[.int .i64 a,.slice A l.length c] t (0,0)
theorem k0 {p:Prop} (h:p):ak p:=ak.mk h
theorem aB {w w1:World} {g:Nat} {o:Obj} (h:w.heap[g]?=some o) (k:w.heap[g]?=some o→w1.heap[g]?=some o:=by intro h;(with_reducible repeat (first|refine anF ?_ _|refine aH ?_|refine aI ?_ _));exact h):w1.heap[g]?=some o:=k h
theorem kB {w0 w w1:World} {g:Nat} {o:Obj} (h:ak (w0.heap[g]?=some o)) (hb:Below w.heap.size w w1) (k:w0.heap[g]?=some o→w.heap[g]?=some o:=by intro h;(with_reducible repeat (first|refine anF ?_ _|refine aH ?_|refine aI ?_ _));exact h):ak (w1.heap[g]?=some o):=⟨cB (k h.out) hb⟩
theorem nL {w0 w:World} {g g':Nat} {o:Obj} (hg:g'=w.heap.size) (h:ak (w0.heap[g]?=some o)) (k:w0.heap[g]?=some o→w.heap[g]?=some o:=by intro h;(with_reducible repeat (first|refine anF ?_ _|refine aH ?_|refine aI ?_ _));exact h):ak (g ≠ g'):=⟨by rw [hg];exact Nat.ne_of_lt (nX (k h.out))⟩
theorem nG {a b:Nat} (h:ak (a ≠ b)):ak (b ≠ a):=⟨h.out.symm⟩
theorem gW {n m g:Nat} (hg:g=m) (h:n≤m):ak (n≤g):=⟨by rw [hg];exact h⟩
theorem aX {w:World} {g:Nat} {a:Value} {l:List Value} {t:TypeId} (h:ak (w.heap[g]?=some (.cells (a :: l).toArray t (0,0)))):w.cell? ⟨g,0,none⟩=some a:=(eX h.out 0).trans (by simp)
theorem aY {w:World} {g:Nat} {a b:Value} {l:List Value} {t:TypeId} (h:ak (w.heap[g]?=some (.cells (a :: b :: l).toArray t (0,0)))):w.cell? ⟨g,1,none⟩=some b:=(eX h.out 1).trans (by simp)
theorem OB {w:World} {g:Nat} {a b c:Value} {l:List Value} {t:TypeId} (h:ak (w.heap[g]?=some (.cells (a :: b :: c :: l).toArray t (0,0)))):w.cell? ⟨g,2,none⟩=some c:=(eX h.out 2).trans (by simp)
theorem bF {w:World} {g:Nat} {t:TypeId} {cs:Array Value} (h:ak (w.heap[g]?=some (.cells cs t (0,0)))) (i:Nat):w.frozen? ⟨g,i,none⟩=false:=lC h.out i
theorem eR {p:Prop} (h:p:=by first|rfl|(simp [qa,qb]<;>rfl)|(simp [*,qa,qb]<;>rfl)):p:=h
theorem dW {w w':World} (h:aod w w':=by repeat (first|exact aod.refl _|apply aod.step)):aod w w':=h
theorem dN {p:Prop} (h:p:=by first|exact ⟨rfl,_,World.drewN_drewN _ _ _⟩|exact ⟨rfl,_,Eq.trans (World.drewN_drewN _ _ _) (congrArg (World.drewN _) (Nat.add_assoc _ _ _))⟩):p:=h
theorem aK {w W W1:World} {g:Nat} {row:Option Nat} (h:aM w W g row) (k:aM w W g row→aM w W1 g row:=by intro h;repeat (first|(with_reducible first|exact h|apply aM.Ly|apply FT|apply Sv|apply acW|refine acY ?_ (ak.out (by assumption)) _)|exact h)):aM w W1 g row:=k h
theorem aL {b:Nat} {w W W1:World} (h:Below b w W) (k:Below b w W→Below b w W1:=by intro h;repeat (first|(with_reducible first|exact h|apply bn|apply bq|apply anS|refine Oq ?_ (by assumption))|exact h)):Below b w W1:=k h
theorem rH {α:Type} {y e:α} {p q:Prop} (hy:y=e) (H:p) (k:y=e→p→q:=by intro hy H;first|(rw [hy];with_reducible exact H)|(have G1:=(Option.bind_some _ _).symm.trans H;rw [hy];with_reducible exact G1)|(have G1:=(Option.bind_some _ _).symm.trans H;with_reducible exact G1)|with_reducible exact H|(rw [hy];exact H)|exact H):q:=k hy H
theorem cE {P : Program} {ops : Array Oper} {rest : List Oper} {o : Oper} {a : Act} {Q : Exit → Act → World → Prop} {W : World} (N : Tmp) (cs : Array Value) (t : TypeId)
  (h:∀ g,g=W.heap.size→∀ w1,w1.heap[g]?=some (.cells cs t (0,0))→Below W.heap.size W w1→wpList P ops Q rest (a.put o.dst (.pointer (some ⟨g,0,none⟩))) w1) (hd:o.dst=some N:=by exact rfl) (hgd:o.guard=none:=by exact rfl)
  (hrun:(execOp a.eval o).run P W=.ok (.value (.pointer (some ⟨W.heap.size,0,none⟩))) (W.alloc (.cells cs t (0,0))):=by first|(go_simp;done)|(go_simp;rfl)):wpList P ops Q (o :: rest) a W:=Xu hgd hd hrun h
theorem gC {P : Program} {ops : Array Oper} {Q : Exit → Act → World → Prop} {rest : List Oper} {oi : Oper} {a : Act} {w : World} (N : Option Tmp) {f : FuncId} {fn : Func} {Ol : Array Operand} {ts : Array TypeId} (hf : P.funcs[f]? = some fn) (args : Array Value)
  (h : Calls P f args w fun e w' => ∃ v, e = .returned v ∧ wpList P ops Q rest (a.put N v) w') (hd : oi.dst = N := by exact rfl) (hg : oi.guard = none := by exact rfl) (hop : oi.op = .call { callee := .value (.func f), args := Ol, argTypes := ts } := by exact rfl) (hname : (fn.name == "runtime.NumGoroutine") = false := by kernel_rfl) (hb : fn.body.isSome = true := by exact rfl)
  (hargs:Ol.map a.eval=args:=by (try simp only [List.map_toArray,List.map_cons,List.map_nil]);first|done|rfl|(simp only [List.length_drop,List.length_take];rfl)):wpList P ops Q (oi :: rest) a w:=Ji N hd hg hf hname hb args hop hargs h
theorem tS {α:Type} {d:Kd α} {e b:Nat} {ok:Nat→Prop} {v:Value} {xs:List α} {w:World} {g t:Nat} {cells:Array Value} (h:ak (Kd.S d e w b ok v xs)) (hb:ak (w.heap[g]?=some (.cells cells t (0,0)))) (ht:∀ q,q ∈ e :: d.E→q ≠ t:=by decide):Kd.S d e w b (fun k=>ok k∧k ≠ g) v xs:=Kd.xu h.out hb.out ht
theorem gS {α:Type} {d:Kd α} {e b:Nat} {ok:Nat→Prop} {v:Value} {xs:List α} {w:World} {g:Nat} (i:Nat) (u:Value) (h:Kd.S d e w b (fun k=>ok k∧k ≠ g) v xs):Kd.S d e (w.setCell ⟨g,i,none⟩ u) b (fun k=>ok k∧k ≠ g) v xs:=Kd.oC h (p:=⟨g,i,none⟩) (fun _ hk=>hk.2) u
theorem tR {α:Type} {d:Kd α} {e b:Nat} {ok:Nat→Prop} {v:Value} {xs:List α} {w:World} {g t:Nat} {cells:Array Value} (h:ak (Kd.R d e w b ok v xs)) (hb:ak (w.heap[g]?=some (.cells cells t (0,0)))) (ht:∀ q,q ∈ e :: d.E→q ≠ t:=by decide):Kd.R d e w b (fun k=>ok k∧k ≠ g) v xs:=Kd.z7 h.out hb.out ht
theorem gR {α:Type} {d:Kd α} {e b:Nat} {ok:Nat→Prop} {v:Value} {xs:List α} {w:World} {g:Nat} (i:Nat) (u:Value) (h:Kd.R d e w b (fun k=>ok k∧k ≠ g) v xs):Kd.R d e (w.setCell ⟨g,i,none⟩ u) b (fun k=>ok k∧k ≠ g) v xs:=Kd.vQ h (p:=⟨g,i,none⟩) (fun _ hk=>hk.2) u
end Go.Proofs.Ytoebojnhchocaaa.G
/- Set with little white space, by a program. -/
