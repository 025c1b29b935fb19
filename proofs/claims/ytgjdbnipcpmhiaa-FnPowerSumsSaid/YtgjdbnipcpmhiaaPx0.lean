/- Go's calls come to what the Lean functions say. Condition of each: that the Lean function answers. -/
import Derived.Test.YtgjdbnipcpmhiaaProg
import Derived.Below
import Derived.Deep.Draws
import Derived.Deep.AppendLies
import Derived.Maps.AppendAt
import Derived.OwnWalk
import Derived.Laws.BytesArg
import Derived.Laws.MakeOwn
import Derived.Laws.OwnMore
import Derived.Deep.OwnRows
import Derived.Tactics
import Derived.Lib.ConvBytes
import Derived.Laws.Slices
import Derived.WalkKit
import Derived.KernelRfl
import Derived.RowKit3
import Derived.Deep.LoopGhost
import Derived.Deep.QuietTactic
import Derived.BigQuiet
import Derived.WideLaws
import Derived.Deep.DeepCutAuto
import Derived.Deep.CutBlock
import Derived.Deep.RegionHeld3
import Derived.Laws.Rows
import Derived.Lib.AppendStr
import Derived.ArgAppend
import Derived.Laws.IdiomCopy
import Derived.OrdersHeld
import Derived.Laws.BitsLemmas
import Derived.RowKit
import Derived.Lib.SliceRun
import Derived.Deep.RegionLaw
import Derived.Test.YtgjdbnipcpmhiaaPWWords
import Derived.Test.YtgjdbnipcpmhiaaPWLast
import Derived.Test.YtgjdbnipcpmhiaaPWTab
import Derived.Test.YtgjdbnipcpmhiaaPWWords
import Derived.Test.YtgjdbnipcpmhiaaPWLast
import Derived.Test.YtgjdbnipcpmhiaaPWApart
import Derived.Test.YtgjdbnipcpmhiaaPWWords
import Derived.Test.YtgjdbnipcpmhiaaPWApart
import Derived.Test.YtgjdbnipcpmhiaaPWWords
import Derived.Test.YtgjdbnipcpmhiaaPWFoot
import Derived.Test.YtgjdbnipcpmhiaaPWKept
import Derived.Test.YtgjdbnipcpmhiaaPWShare
import Derived.Test.YtgjdbnipcpmhiaaPWN
import Derived.Test.YtgjdbnipcpmhiaaPWRepsOne
import Derived.Test.YtgjdbnipcpmhiaaPWGuard
import Derived.Test.YtgjdbnipcpmhiaaPWN
import Derived.Test.YtgjdbnipcpmhiaaPWMore
namespace Go.Proofs.YtgjdbnipcpmhiaaW.PrintWords
theorem Aside0.z {p:Prop} (h:Aside0 p):p:=h.out
end Go.Proofs.YtgjdbnipcpmhiaaW.PrintWords
namespace Go.Proofs.Ytgjdbnipcpmhiaa.P
open Go.RowKit Go.Proofs.YtgjdbnipcpmhiaaW.PrintWords Go.Proofs.YtgjdbnipcpmhiaaW.PrintLast Go.Proofs.YtgjdbnipcpmhiaaW.PrintMore
attribute [local go_sem] max2_int min2_int max_two min_two max_three min_three max_four min_four
set_option linter.unusedVariables false
set_option linter.unusedSimpArgs false
def errW : Option Int → Value
 | none=>.nilIface
 | some c=>.iface 0 (.int .i64 c)
theorem errW_none:errW none=.nilIface:=rfl
theorem errW_some (c:Int):errW (some c)=.iface 0 (.int .i64 c):=rfl
theorem info2:(Try.prog.info? 2).map (fun i=>(i.zero,i.size,i.bytes))=some (some (.int .i64 0),1,8):=by kernel_rfl
theorem info9:(Try.prog.info? 9).map (fun i=>(i.zero,i.size,i.bytes))=some (some (.string ⟨#[]⟩),1,16):=by kernel_rfl
theorem info27:(Try.prog.info? 27).map (fun i=>(i.zero,i.size,i.bytes))=some (some (.slice none 0 0),1,24):=by kernel_rfl
-- the values' own types
def rd_L1 (xs:List (List Int)) (i:Int):(List Int):=xs.getD i.toNat ([]:List Int)
theorem at_L1 {w:World} {A:Option Addr} {n:Nat} {xs:List (List Int)} (h:Kd.C (Kd.slice 2 (Kd.int .i64)) w A n xs) (i:Int) (h0:0≤i) (h1:i < n):∃ ad A0 c0,A=some ad∧w.cell? (ad.add i.toNat)=some (.slice A0 (rd_L1 xs i).length c0)∧(rd_L1 xs i).length≤c0∧(Kd.int .i64).C w A0 (rd_L1 xs i).length (rd_L1 xs i):=by
 obtain ⟨ad,c,e,_,hK,hc0⟩:=Kd.C_get h ([]:List Int) i h0 h1
 have hc:∀ j u,c[j]?=some u→w.cell? (ad.add (i.toNat * 1+j))=some u:=hc0
 obtain ⟨A0,c0,rfl,l0,g0⟩:=hK
 exact ⟨ad,A0,c0,e,by have hq:=hc 0 _ rfl;rwa [Nat.mul_one,Nat.add_zero] at hq,l0,g0⟩
/-! ### small words for the contracts proved by hand -/
theorem zI {α:Type} (l:List α) (i:Nat) (a:α):l.toArray.setIfInBounds i a=(l.set i a).toArray:=List.setIfInBounds_toArray l i a
theorem zZ {α:Type} (a b:α) (l:List α):(a :: l).set 0 b=b :: l:=List.set_cons_zero
theorem zS {α:Type} (a b:α) (l:List α) (n:Nat):(a :: l).set (n+1) b=a :: l.set n b:=List.set_cons_succ
def idxFrom (p : Int → Bool) : List Int → Nat → Int
 | [],_=>-1
 | x :: xs,k=>if p x then k else idxFrom p xs (k+1)
theorem idxFrom_drop (p:Int→Bool) (l:List Int) (k:Nat) (h:k < l.length):idxFrom p (l.drop k) k=if p (rd l k) then (k:Int) else idxFrom p (l.drop (k+1)) (k+1):=by
 rw [List.drop_eq_getElem_cons h,idxFrom,rd,Int.toNat_natCast,List.getD_eq_getElem?_getD,List.getElem?_eq_getElem h];rfl
theorem idxFrom_any (p:Int→Bool) (l:List Int) (k:Nat):decide (0≤idxFrom p l k)=l.any p:=by
 induction l generalizing k with
 | nil=>simp [idxFrom]
 | cons x xs ih =>
  rw [idxFrom,List.any_cons]
  cases p x with
  | true=>simp
  | false=>simp;rw [← ih (k+1)]
theorem mid (lo m s:Nat) (h:lo≤s):∃ q,lo≤q∧q≤s∧(∀ k,k < m→lo≤k→k < s→k < q)∧(∀ k,m≤k→lo≤k→k < s→q≤k):=by
 by_cases h1:m≤lo
 ·exact ⟨lo,by omega,h,fun k _ _ _=>by omega,fun k _ h2 _=>h2⟩
 ·by_cases h2 : m ≤ s
  ·exact ⟨m,by omega,h2,fun k h _ _=>h,fun k h _ _=>h⟩
  ·exact ⟨s,h,by omega,fun k _ _ h=>h,fun k h3 _ h4=>by omega⟩
/-- What a slot holds is the value that lies in a whole at an index. -/
def HdrOf (w:World) (V:Value) (j:Int) (u:Value):Prop:=∃ ad n c,V=.slice (some ad) n c∧0≤j∧j < (n:Int)∧w.cell? (ad.add j.toNat)=some u
theorem HdrOf.below {w w1:World} {V:Value} {j:Int} {u:Value} (h:HdrOf w V j u) (hb:Below w.heap.size w w1):HdrOf w1 V j u:=by
 obtain ⟨ad,n,c,e,h0,h1,hc⟩:=h
 exact ⟨ad,n,c,e,h0,h1,pw_cell_below hb hc⟩
theorem HdrOf.alloc {w:World} {V:Value} {j:Int} {u:Value} (h:HdrOf w V j u) (o:Obj):HdrOf (w.alloc o) V j u:=h.below (below_alloc (Below.refl _ _) o)
theorem HdrOf.drew {w:World} {V:Value} {j:Int} {u:Value} (h:HdrOf w V j u):HdrOf w.drew V j u:=h.below (below_drew (Below.refl _ _))
theorem HdrOf.drewN {w:World} {V:Value} {j:Int} {u:Value} (h:HdrOf w V j u) (m:Nat):HdrOf (w.drewN m) V j u:=h.below (pw_below_drewN (Below.refl _ _) m)
theorem HdrOf.set {w:World} {V:Value} {j:Int} {u:Value} (h:HdrOf w V j u) {e e' g off:Nat} {x v:Value} (hP:∀ k,V.ownBlock=some k→∃ cells,w.heap[k]?=some (.cells cells e (0,0))) (hx:∀ k,v.ownBlock=some k→∃ cells,w.heap[k]?=some (.cells cells e' (0,0))) (hv:v.ownBlock=some g) (hne:e ≠ e'):HdrOf (w.setCell ⟨g,off,none⟩ x) V j u:=by
 obtain ⟨ad,n,c,rfl,h0,h1,hc⟩:=h
 refine ⟨ad,n,c,rfl,h0,h1,?_⟩
 rw [cell_far]
 ·exact hc
 ·rw [add_block]
  intro h_
  obtain ⟨c1,h1⟩:=hP ad.block (by simp [Value.ownBlock])
  obtain ⟨c2,h2⟩:=hx ad.block (by rw [hv];exact congrArg some h_.symm)
  rw [h1] at h2
  injection h2 with h2
  injection h2 with _ h2
  exact hne h2
theorem cell_ne {ad:Addr} {n c k i:Nat} (h:some k ≠ (Value.slice (some ad) n c).ownBlock):some (ad.add i).block ≠ some k:=by
 rw [add_block]
 intro e
 exact h (by rw [← e];simp [Value.ownBlock])
theorem below_setA {w W:World} {g j:Nat} {v:Value} (h:Below w.heap.size w W) (hg:Aside0 (w.heap.size≤g)):Below w.heap.size w (W.setCell ⟨g,j,none⟩ v):=below_set h hg.out
theorem bl {b:Nat} {w0 w:World} (h:Below b w0 w:=by repeat (first|(with_reducible first|exact HB.out|apply below_alloc|apply pw_below_drewN|apply below_drew1|refine below_setA ?_ (by assumption))|exact HB.out)):Below b w0 w:=h
theorem bk {w:World} {g:Nat} {o:Obj} (h:w.heap[g]?=some o:=by (with_reducible repeat (first|refine blk_drewN ?_ _|refine blk_drew ?_|refine blk_alloc ?_ _));exact Aside0.out (by assumption)):w.heap[g]?=some o:=h
theorem oD {p:Prop} [Decidable p] (h:decide p=true:=by first|(with_reducible assumption)|assumption):p:=of_decide_eq_true h
theorem gm {α:Type} {a b:α} (h:a=b:=by (try simp only [List.map_toArray,List.map_cons,List.map_nil]);first|done|rfl|(simp only [List.length_drop,List.length_take];rfl)):a=b:=h
theorem rs {α:Type} {a b:α} (h:a=b:=by first|rfl|(simp;done)|(simp [*];done)):a=b:=h
theorem hbc {w w':World} {a:Addr} {v:Value} (B:Aside0 (Below w.heap.size w w')) (h:w.cell? a=some v):w'.cell? a=some v:=(B.out.cell (World.block_lt_of_cell? w _ h)).trans h
/-! ### short words -/
def baL : Nat → Nat → List Bool
 | 0,_=>[]
 | n+1,b=>Nat.beq (b % 2) 1 :: baL n (b / 2)
/-- A row of bools, as the bits of a number. -/
def ba (n b:Nat):Array Bool:=⟨baL n b⟩
theorem pu {P : Program} {md : Region.Mode} {ops : Array Oper} {Q : Exit → Act → World → Prop} {S : World → Prop} {ds : List Nat} {T : Bool × List (List Nat × List Nat)} {oi : Oper} {v : Value} {fuel : Nat} {l : Array Bool} {a a' : Act} {w : World} (i : Nat) (N : Option Tmp) (l' : Array Bool) (HT : Aside0 (rtab md ops = T)) (hi : ops[i]? = some oi := by exact rfl) (hN : oi.dst = N := by exact rfl) (hc : anyT T l.toList l'.toList i = true := by kernel_rfl)
  (hQ:∀ c a w,Q (.panic c) (a.put oi.dst v) w→Q (.panic c) a w:=by exact (fun _ _ _ h=>h)) (hy:Yields P ops oi v a:=by refine Or.inl ⟨by rfl,?_⟩;intro w';go_simp;with_reducible rfl) (ha:a.put N v=a':=by simp only [Act.put,zI,zZ,zS,i64_w,i32_w];rfl) (h:wpAnyLast P md ops Q S ds fuel l' a' w):wpAnyLast P md ops Q S ds (fuel+1) l a w :=
 pure_ l' hi hN (any_of HT.out hc) hQ hy ha h
theorem ta {P : Program} {md : Region.Mode} {ops : Array Oper} {Q : Exit → Act → World → Prop} {S : World → Prop} {ds B : List Nat} {T : Bool × List (List Nat × List Nat)} {oi : Oper} {v : Value} {fuel : Nat} {l : Array Bool} {a a' : Act} {w : World} (i : Nat) (N : Option Tmp) (l' : Array Bool) (HT : Aside0 (rtab md ops = T)) (HW : Aside0 (waitsOk T.2 B = true)) (hS : S w) (hi : ops[i]? = some oi := by exact rfl) (hN : oi.dst = N := by exact rfl) (hc : takeW T B ds l.toList l'.toList i = true := by kernel_rfl)
  (hQ:∀ c a w,Q (.panic c) (a.put oi.dst v) w→Q (.panic c) a w:=by exact (fun _ _ _ h=>h)) (hy:YieldsIf P ops S oi v a) (ha:a.put N v=a':=by simp only [Act.put,zI,zZ,zS,i64_w,i32_w];rfl) (h:wpAnyLast P md ops Q S ds fuel l' a' w):wpAnyLast P md ops Q S ds (fuel+1) l a w :=
 take_ l' hi hN (take_ofW HT.out HW.out hc) hQ hy hS ha h
theorem iS {α:Type} {p:Prop} [Decidable p] {x:Option α} {r:α} (h:(if p then x else none)=some r):p∧x=some r:=by
 by_cases c:p
 ·rw [if_pos c] at h;exact ⟨c,h⟩
 ·rw [if_neg c] at h;exact absurd h (by simp)
theorem aR {α:Type} {d:Kd α} {e b:Nat} {ok:Nat→Prop} {v:Value} {xs:List α} {w w1:World} (h:Kd.R d e w b ok v xs) (g:Kd.R d e w b ok v xs→Kd.R d e w1 b ok v xs:=by intro h;(with_reducible repeat (first|apply Kd.R_alloc|apply Kd.R_drewN|apply Kd.R_drew));exact h):Kd.R d e w1 b ok v xs:=g h
theorem aS {α:Type} {d:Kd α} {e b:Nat} {ok:Nat→Prop} {v:Value} {xs:List α} {w w1:World} (h:Kd.S d e w b ok v xs) (g:Kd.S d e w b ok v xs→Kd.S d e w1 b ok v xs:=by intro h;(with_reducible repeat (first|apply Kd.S_alloc|apply Kd.S_drewN|apply Kd.S_drew));exact h):Kd.S d e w1 b ok v xs:=g h
theorem aV {α:Type} {d:Kd α} {e b:Nat} {ok:Nat→Prop} {v:Value} {xs:List α} {w w1:World} (h:Kd.V d e w b ok v xs) (g:Kd.V d e w b ok v xs→Kd.V d e w1 b ok v xs:=by intro h;(with_reducible repeat (first|apply Kd.V_alloc|apply Kd.V_drewN|apply Kd.V_drew));exact h):Kd.V d e w1 b ok v xs:=g h
theorem aN {α:Type} {d:Kd α} {e b:Nat} {ok:Nat→Prop} {v:Value} {xs:List α} {w w1:World} (h:Kd.N d e w b ok v xs) (g:Kd.N d e w b ok v xs→Kd.N d e w1 b ok v xs:=by intro h;(with_reducible repeat (first|apply Kd.N_alloc|apply Kd.N_drewN|apply Kd.N_drew));exact h):Kd.N d e w1 b ok v xs:=g h
theorem aQ {α:Type} {d:Kd α} {e b:Nat} {ok:Nat→Prop} {v:Value} {xs:List α} {w w1:World} (h:Kd.Q d e w b ok v xs) (g:Kd.Q d e w b ok v xs→Kd.Q d e w1 b ok v xs:=by intro h;(with_reducible repeat (first|apply Kd.Q_alloc|apply Kd.Q_drewN|apply Kd.Q_drew));exact h):Kd.Q d e w1 b ok v xs:=g h
theorem aC {α:Type} {d:Kd α} {n:Nat} {A:Option Addr} {xs:List α} {w w1:World} (h:Kd.C d w A n xs) (g:Kd.C d w A n xs→Kd.C d w1 A n xs:=by intro h;repeat (first|exact h|(with_reducible refine Kd.C_alloc ?_ _)|(with_reducible refine Kd.C_drewN ?_ _)|(with_reducible refine Kd.C_drew ?_))):Kd.C d w1 A n xs:=g h
abbrev sO (a:Int) (A:Option Addr) {α:Type} (l:List α) (c t:Nat):Obj:=.cells #[.int .i64 a,.slice A l.length c] t (0,0)
theorem k0 {p:Prop} (h:p):Aside0 p:=Aside0.mk h
theorem aB {w w1:World} {g:Nat} {o:Obj} (h:w.heap[g]?=some o) (k:w.heap[g]?=some o→w1.heap[g]?=some o:=by intro h;(with_reducible repeat (first|refine blk_drewN ?_ _|refine blk_drew ?_|refine blk_alloc ?_ _));exact h):w1.heap[g]?=some o:=k h
theorem kB {w0 w w1:World} {g:Nat} {o:Obj} (h:Aside0 (w0.heap[g]?=some o)) (hb:Below w.heap.size w w1) (k:w0.heap[g]?=some o→w.heap[g]?=some o:=by intro h;(with_reducible repeat (first|refine blk_drewN ?_ _|refine blk_drew ?_|refine blk_alloc ?_ _));exact h):Aside0 (w1.heap[g]?=some o):=⟨blk_below (k h.out) hb⟩
theorem nL {w0 w:World} {g g':Nat} {o:Obj} (hg:g'=w.heap.size) (h:Aside0 (w0.heap[g]?=some o)) (k:w0.heap[g]?=some o→w.heap[g]?=some o:=by intro h;(with_reducible repeat (first|refine blk_drewN ?_ _|refine blk_drew ?_|refine blk_alloc ?_ _));exact h):Aside0 (g ≠ g'):=⟨by rw [hg];exact Nat.ne_of_lt (blk_lt (k h.out))⟩
theorem nG {a b:Nat} (h:Aside0 (a ≠ b)):Aside0 (b ≠ a):=⟨h.out.symm⟩
theorem gW {n m g:Nat} (hg:g=m) (h:n≤m):Aside0 (n≤g):=⟨by rw [hg];exact h⟩
theorem ce0 {w:World} {g:Nat} {a:Value} {l:List Value} {t:TypeId} (h:Aside0 (w.heap[g]?=some (.cells (a :: l).toArray t (0,0)))):w.cell? ⟨g,0,none⟩=some a:=(blk_cell h.out 0).trans (by simp)
theorem ce1 {w:World} {g:Nat} {a b:Value} {l:List Value} {t:TypeId} (h:Aside0 (w.heap[g]?=some (.cells (a :: b :: l).toArray t (0,0)))):w.cell? ⟨g,1,none⟩=some b:=(blk_cell h.out 1).trans (by simp)
theorem ce2 {w:World} {g:Nat} {a b c:Value} {l:List Value} {t:TypeId} (h:Aside0 (w.heap[g]?=some (.cells (a :: b :: c :: l).toArray t (0,0)))):w.cell? ⟨g,2,none⟩=some c:=(blk_cell h.out 2).trans (by simp)
theorem bF {w:World} {g:Nat} {t:TypeId} {cs:Array Value} (h:Aside0 (w.heap[g]?=some (.cells cs t (0,0)))) (i:Nat):w.frozen? ⟨g,i,none⟩=false:=blk_frozen h.out i
theorem eR {p:Prop} (h:p:=by first|rfl|(simp [errW_none,errW_some]<;>rfl)|(simp [*,errW_none,errW_some]<;>rfl)):p:=h
theorem dW {w w':World} (h:Drawn0 w w':=by repeat (first|exact Drawn0.refl _|apply Drawn0.step)):Drawn0 w w':=h
theorem dN {p:Prop} (h:p:=by first|exact ⟨rfl,_,World.drewN_drewN _ _ _⟩|exact ⟨rfl,_,Eq.trans (World.drewN_drewN _ _ _) (congrArg (World.drewN _) (Nat.add_assoc _ _ _))⟩):p:=h
theorem aK {w W W1:World} {g:Nat} {row:Option Nat} (h:KeepBut w W g row) (k:KeepBut w W g row→KeepBut w W1 g row:=by intro h;repeat (first|(with_reducible first|exact h|apply KeepBut.set_|apply keep_drewN|apply keep_drew|apply keep_alloc|refine keep_far ?_ (Aside0.out (by assumption)) _)|exact h)):KeepBut w W1 g row:=k h
theorem aL {b:Nat} {w W W1:World} (h:Below b w W) (k:Below b w W→Below b w W1:=by intro h;repeat (first|(with_reducible first|exact h|apply below_alloc|apply pw_below_drewN|apply below_drew1|refine below_setA ?_ (by assumption))|exact h)):Below b w W1:=k h
theorem rH {α:Type} {y e:α} {p q:Prop} (hy:y=e) (H:p) (k:y=e→p→q:=by intro hy H;first|(rw [hy];with_reducible exact H)|(have H2_:=(Option.bind_some _ _).symm.trans H;rw [hy];with_reducible exact H2_)|(have H2_:=(Option.bind_some _ _).symm.trans H;with_reducible exact H2_)|with_reducible exact H|(rw [hy];exact H)|exact H):q:=k hy H
theorem bxe {P : Program} {ops : Array Oper} {rest : List Oper} {o : Oper} {a : Act} {Q : Exit → Act → World → Prop} {W : World} (N : Tmp) (cs : Array Value) (t : TypeId)
  (h:∀ g,g=W.heap.size→∀ w1,w1.heap[g]?=some (.cells cs t (0,0))→Below W.heap.size W w1→wpList P ops Q rest (a.put o.dst (.pointer (some ⟨g,0,none⟩))) w1) (hd:o.dst=some N:=by exact rfl) (hgd:o.guard=none:=by exact rfl)
  (hrun:(execOp a.eval o).run P W=.ok (.value (.pointer (some ⟨W.heap.size,0,none⟩))) (W.alloc (.cells cs t (0,0))):=by first|(go_simp;done)|(go_simp;rfl)):wpList P ops Q (o :: rest) a W:=box_event hgd hd hrun h
theorem gC {P : Program} {ops : Array Oper} {Q : Exit → Act → World → Prop} {rest : List Oper} {oi : Oper} {a : Act} {w : World} (N : Option Tmp) {f : FuncId} {fn : Func} {ags : Array Operand} {ts : Array TypeId} (hf : P.funcs[f]? = some fn) (args : Array Value)
  (h : Calls P f args w fun e w' => ∃ v, e = .returned v ∧ wpList P ops Q rest (a.put N v) w') (hd : oi.dst = N := by exact rfl) (hg : oi.guard = none := by exact rfl) (hop : oi.op = .call { callee := .value (.func f), args := ags, argTypes := ts } := by exact rfl) (hname : (fn.name == "runtime.NumGoroutine") = false := by kernel_rfl) (hb : fn.body.isSome = true := by exact rfl)
  (hargs:ags.map a.eval=args:=by (try simp only [List.map_toArray,List.map_cons,List.map_nil]);first|done|rfl|(simp only [List.length_drop,List.length_take];rfl)):wpList P ops Q (oi :: rest) a w:=goesL_ N hd hg hf hname hb args hop hargs h
theorem tS {α:Type} {d:Kd α} {e b:Nat} {ok:Nat→Prop} {v:Value} {xs:List α} {w:World} {g t:Nat} {cells:Array Value} (h:Aside0 (Kd.S d e w b ok v xs)) (hb:Aside0 (w.heap[g]?=some (.cells cells t (0,0)))) (ht:∀ q,q ∈ e :: d.E→q ≠ t:=by decide):Kd.S d e w b (fun k=>ok k∧k ≠ g) v xs:=Kd.S_types h.out hb.out ht
theorem gS {α:Type} {d:Kd α} {e b:Nat} {ok:Nat→Prop} {v:Value} {xs:List α} {w:World} {g:Nat} (i:Nat) (u:Value) (h:Kd.S d e w b (fun k=>ok k∧k ≠ g) v xs):Kd.S d e (w.setCell ⟨g,i,none⟩ u) b (fun k=>ok k∧k ≠ g) v xs:=Kd.S_far h (p:=⟨g,i,none⟩) (fun _ hk=>hk.2) u
theorem tR {α:Type} {d:Kd α} {e b:Nat} {ok:Nat→Prop} {v:Value} {xs:List α} {w:World} {g t:Nat} {cells:Array Value} (h:Aside0 (Kd.R d e w b ok v xs)) (hb:Aside0 (w.heap[g]?=some (.cells cells t (0,0)))) (ht:∀ q,q ∈ e :: d.E→q ≠ t:=by decide):Kd.R d e w b (fun k=>ok k∧k ≠ g) v xs:=Kd.R_types h.out hb.out ht
theorem gR {α:Type} {d:Kd α} {e b:Nat} {ok:Nat→Prop} {v:Value} {xs:List α} {w:World} {g:Nat} (i:Nat) (u:Value) (h:Kd.R d e w b (fun k=>ok k∧k ≠ g) v xs):Kd.R d e (w.setCell ⟨g,i,none⟩ u) b (fun k=>ok k∧k ≠ g) v xs:=Kd.R_far h (p:=⟨g,i,none⟩) (fun _ hk=>hk.2) u
theorem bS {α β:Type} {x:Option α} {f:α→Option β} {r:β} (h:x.bind f=some r):∃ a,Aside0 (x=some a)∧f a=some r:=by
 obtain ⟨a,h1,h2⟩:=Option.bind_eq_some_iff.mp h
 exact ⟨a,⟨h1⟩,h2⟩
theorem iF {α:Type} {a b c:α} (h:(if false=true then a else b)=c):b=c:=by simpa using h
theorem iT {α:Type} {a b c:α} (h:(if true=true then a else b)=c):a=c:=by simpa using h
theorem cz1 {w:World} {g:Nat} {a:Value} {l:List Value} {t:TypeId} (h:Aside0 (w.heap[g]?=some (.cells (a :: l).toArray t (0,0)))):w.cell? ⟨g,0,none⟩=some a∧w.frozen? ⟨g,0,none⟩=false:=⟨(blk_cell h.out 0).trans (by simp),blk_frozen h.out 0⟩
theorem cz2 {w:World} {g:Nat} {a b:Value} {l:List Value} {t:TypeId} (h:Aside0 (w.heap[g]?=some (.cells (a :: b :: l).toArray t (0,0)))):w.cell? ⟨g,0,none⟩=some a∧w.cell? ⟨g,1,none⟩=some b∧w.frozen? ⟨g,0,none⟩=false∧w.frozen? ⟨g,1,none⟩=false:=⟨(blk_cell h.out 0).trans (by simp),(blk_cell h.out 1).trans (by simp),blk_frozen h.out 0,blk_frozen h.out 1⟩
theorem bfr {w:World} {g:Nat} {o:Obj} (h:w.heap[g]?=some o) {p:Addr} (hp:Aside0 (g ≠ p.block)) (u:Value):(w.setCell p u).heap[g]?=some o:=(Below.heap_setCell w p u g hp.out).trans h
theorem kF {w0 w w1:World} {g:Nat} {o:Obj} (h:Aside0 (w0.heap[g]?=some o)) (hb:Below w.heap.size w w1) (k:w0.heap[g]?=some o→w.heap[g]?=some o:=by intro h;repeat (first|(with_reducible first|exact h|refine blk_drewN ?_ _|refine blk_drew ?_|refine blk_alloc ?_ _|refine bfr ?_ (by assumption) _)|exact h)):Aside0 (w1.heap[g]?=some o):=⟨blk_below (k h.out) hb⟩
theorem kP {w0 w w1:World} {g:Nat} {o:Obj} (o':Obj) (h:Aside0 (w0.heap[g]?=some o)) (hb:Below w.heap.size w w1) (k:w0.heap[g]?=some o→w.heap[g]?=some o':=by intro h;repeat (first|(with_reducible first|refine blk_drewN ?_ _|refine blk_drew ?_|refine blk_alloc ?_ _)|exact h|apply blk_put|refine bfr ?_ (by assumption) _|exact rfl)):Aside0 (w1.heap[g]?=some o'):=⟨blk_below (k h.out) hb⟩
theorem iC {α:Type} {p:Prop} [Decidable p] {x y z:α} (h:(if p then x else y)=z):(decide p=false∧y=z)∨(decide p=true∧x=z):=by
 by_cases c:p
 ·rw [if_pos c] at h;exact .inr ⟨decide_eq_true c,h⟩
 ·rw [if_neg c] at h;exact .inl ⟨decide_eq_false c,h⟩
theorem iE {α β:Type} [BEq β] [LawfulBEq β] {a b:β} [Decidable (a=b)] {x y z:α} (h:(if a=b then x else y)=z):(¬ a=b∧(a == b)=false∧(a != b)=true∧y=z)∨((a == b)=true∧(a != b)=false∧x=z):=by
 by_cases c:a=b
 ·rw [if_pos c] at h;exact .inr ⟨beq_iff_eq.mpr c,bne_eq_false_iff_eq.mpr c,h⟩
 ·rw [if_neg c] at h;exact .inl ⟨c,beq_eq_false_iff_ne.mpr c,bne_iff_ne.mpr c,h⟩
theorem bW {w W w1:World} (hb:Below W.heap.size W w1) (h:Below w.heap.size w W:=by exact bl):Aside0 (Below w.heap.size w w1):=⟨below_step h hb⟩
theorem eT {p:Prop} (h:p):p=True:=eq_true h
theorem iN (i n:Int) (p:0≤i:=by exact oD) (q:i < n:=by exact oD):0≤i∧i < n:=⟨p,q⟩
theorem bxz {P : Program} {ops : Array Oper} {rest : List Oper} {o : Oper} {a : Act} {Q : Exit → Act → World → Prop} {W w : World} (N : Tmp) (cs : Array Value) (t : TypeId) (hB : Below w.heap.size w W)
  (h:∀ g w1,Aside0 (w1.heap[g]?=some (.cells cs t (0,0)))→Aside0 (w.heap.size≤g)→Aside0 (Below w.heap.size w w1)→wpList P ops Q rest (a.put o.dst (.pointer (some ⟨g,0,none⟩))) w1) (hd:o.dst=some N:=by exact rfl) (hgd:o.guard=none:=by exact rfl)
  (hrun:(execOp a.eval o).run P W=.ok (.value (.pointer (some ⟨W.heap.size,0,none⟩))) (W.alloc (.cells cs t (0,0))):=by first|(go_simp;done)|(go_simp;rfl)):wpList P ops Q (o :: rest) a W:=box_event hgd hd hrun fun g hg w1 hb hbl=>h g w1 ⟨hb⟩ ⟨by rw [hg];exact below_size hB⟩ ⟨below_step hB hbl⟩
theorem kK {w0 w w1:World} {g g':Nat} {row:Option Nat} {o:Obj} (hk:KeepBut w w1 g row) (h:Aside0 (w0.heap[g']?=some o)) (hn:Aside0 (g' ≠ g)) (hr:some g' ≠ row:=by simp) (k:w0.heap[g']?=some o→w.heap[g']?=some o:=by intro h;(with_reducible repeat (first|refine blk_drewN ?_ _|refine blk_drew ?_|refine blk_alloc ?_ _));exact h):Aside0 (w1.heap[g']?=some o):=⟨KeepBut.blk hk (k h.out) hn.out hr⟩
theorem nY {α:Type} (x:α):∃ y,Aside0 (y=x):=⟨_,⟨rfl⟩⟩
theorem nE {a b:Nat} (h:Aside0 (a ≠ b)):a ≠ b∧b ≠ a:=⟨h.out,h.out.symm⟩
theorem oL {p:Prop} (h:p:=by first|omega|exact Nat.le_refl _):p:=h
theorem kZ {p:Prop} (h:p:=by repeat (first|(with_reducible first|refine blk_drewN ?_ _|refine blk_drew ?_|refine blk_alloc ?_ _|exact Aside0.out (by assumption)|apply blk_put|refine bfr ?_ (by assumption) _)|exact Aside0.out (by assumption)|apply blk_put|refine bfr ?_ (by assumption) _|exact rfl)):p:=h
theorem aG {b g:Nat} {w W W1:World} (hge:b≤g) (h:Below b w W) (k:b≤g→Below b w W→Below b w W1:=by intro hge h;repeat (first|(with_reducible first|exact h|apply below_alloc|apply pw_below_drewN|apply below_drew1|refine below_set ?_ hge|refine below_setA ?_ (by assumption))|exact h|refine below_set ?_ hge)):Below b w W1:=k hge h
theorem fR {α:Type} {d:Kd α} {e b:Nat} {ok:Nat→Prop} {v:Value} {xs:List α} {w w1:World} (h:Aside0 (Kd.R d e w b ok v xs)) (k:Kd.R d e w b ok v xs→Kd.R d e w1 b ok v xs:=by intro h;repeat (first|(with_reducible first|exact h|apply Kd.R_alloc|apply Kd.R_drewN|apply Kd.R_drew)|exact h|refine Kd.R_far ?_ (fun _ hk=>by (repeat (first|exact hk|exact hk.2|exact hk.2.1|exact hk.2.2|exact Nat.ne_of_lt hk|replace hk:=hk.1))) _)):Kd.R d e w1 b ok v xs:=k h.out
theorem bwR {α:Type} {d:Kd α} {e b:Nat} {ok:Nat→Prop} {v:Value} {xs:List α} {w W w1:World} (h:Aside0 (Kd.R d e w b ok v xs)) (hb:Below W.heap.size W w1) (k:Kd.R d e w b ok v xs→Kd.R d e W b ok v xs:=by exact fun h=>fR ⟨h⟩):Aside0 (Kd.R d e w1 b ok v xs):=⟨Kd.R_below (k h.out) hb⟩
theorem elR {α:Type} {d:Kd α} {e b:Nat} {ok:Nat→Prop} {u v:Value} {xs:List α} {w W w1:World} (h:Aside0 (Kd.R d e w b ok u xs)) (hl:∀ k,v.ownBlock=some k→W.heap.size≤k) (hb:Below W.heap.size W w1) (k:Kd.R d e w b ok u xs→Kd.R d e W b ok u xs:=by exact fun h=>fR ⟨h⟩):Aside0 (Kd.R d e w1 b (fun k=>ok k∧some k ≠ v.ownBlock) u xs):=⟨Kd.R_elder' (k h.out) hl hb⟩
theorem tfR {α:Type} {d:Kd α} {e b:Nat} {ok:Nat→Prop} {v:Value} {xs:List α} {w w1:World} {g t:Nat} {cells:Array Value} (h:Aside0 (Kd.R d e w b ok v xs)) (hb:Aside0 (w.heap[g]?=some (.cells cells t (0,0)))) (ht:∀ q,q ∈ e :: d.E→q ≠ t:=by decide) (k:Kd.R d e w b (fun k=>ok k∧k ≠ g) v xs→Kd.R d e w1 b (fun k=>ok k∧k ≠ g) v xs:=by exact fun h=>fR ⟨h⟩):Kd.R d e w1 b ok v xs:=Kd.R_mono (k (Kd.R_types h.out hb.out ht)) (fun _ h=>h.1)
theorem fS {α:Type} {d:Kd α} {e b:Nat} {ok:Nat→Prop} {v:Value} {xs:List α} {w w1:World} (h:Aside0 (Kd.S d e w b ok v xs)) (k:Kd.S d e w b ok v xs→Kd.S d e w1 b ok v xs:=by intro h;repeat (first|(with_reducible first|exact h|apply Kd.S_alloc|apply Kd.S_drewN|apply Kd.S_drew)|exact h|refine Kd.S_far ?_ (fun _ hk=>by (repeat (first|exact hk|exact hk.2|exact hk.2.1|exact hk.2.2|exact Nat.ne_of_lt hk|replace hk:=hk.1))) _)):Kd.S d e w1 b ok v xs:=k h.out
theorem bwS {α:Type} {d:Kd α} {e b:Nat} {ok:Nat→Prop} {v:Value} {xs:List α} {w W w1:World} (h:Aside0 (Kd.S d e w b ok v xs)) (hb:Below W.heap.size W w1) (k:Kd.S d e w b ok v xs→Kd.S d e W b ok v xs:=by exact fun h=>fS ⟨h⟩):Aside0 (Kd.S d e w1 b ok v xs):=⟨Kd.S_below (k h.out) hb⟩
theorem elS {α:Type} {d:Kd α} {e b:Nat} {ok:Nat→Prop} {u v:Value} {xs:List α} {w W w1:World} (h:Aside0 (Kd.S d e w b ok u xs)) (hl:∀ k,v.ownBlock=some k→W.heap.size≤k) (hb:Below W.heap.size W w1) (k:Kd.S d e w b ok u xs→Kd.S d e W b ok u xs:=by exact fun h=>fS ⟨h⟩):Aside0 (Kd.S d e w1 b (fun k=>ok k∧some k ≠ v.ownBlock) u xs):=⟨Kd.S_elder' (k h.out) hl hb⟩
theorem tfS {α:Type} {d:Kd α} {e b:Nat} {ok:Nat→Prop} {v:Value} {xs:List α} {w w1:World} {g t:Nat} {cells:Array Value} (h:Aside0 (Kd.S d e w b ok v xs)) (hb:Aside0 (w.heap[g]?=some (.cells cells t (0,0)))) (ht:∀ q,q ∈ e :: d.E→q ≠ t:=by decide) (k:Kd.S d e w b (fun k=>ok k∧k ≠ g) v xs→Kd.S d e w1 b (fun k=>ok k∧k ≠ g) v xs:=by exact fun h=>fS ⟨h⟩):Kd.S d e w1 b ok v xs:=Kd.S_mono (k (Kd.S_types h.out hb.out ht)) (fun _ h=>h.1)
theorem fV {α:Type} {d:Kd α} {e b:Nat} {ok:Nat→Prop} {v:Value} {xs:List α} {w w1:World} (h:Aside0 (Kd.V d e w b ok v xs)) (k:Kd.V d e w b ok v xs→Kd.V d e w1 b ok v xs:=by intro h;repeat (first|(with_reducible first|exact h|apply Kd.V_alloc|apply Kd.V_drewN|apply Kd.V_drew)|exact h|refine Kd.V_far ?_ (fun _ hk=>by (repeat (first|exact hk|exact hk.2|exact hk.2.1|exact hk.2.2|exact Nat.ne_of_lt hk|replace hk:=hk.1))) _)):Kd.V d e w1 b ok v xs:=k h.out
theorem rV {α:Type} {d:Kd α} {e b:Nat} {ok:Nat→Prop} {A:Option Addr} {n c:Nat} {xs:List α} {w w1:World} (h:Aside0 (Kd.V d e w b ok (.slice A n c) xs)) (k:Kd.V d e w b ok (.slice A n c) xs→Kd.V d e w1 b ok (.slice A n c) xs:=by exact fun h=>fV ⟨h⟩):Kd.C d w1 A xs.length xs:=(Kd.V_reads' (k h.out)).2.2
theorem bwV {α:Type} {d:Kd α} {e b:Nat} {ok:Nat→Prop} {v:Value} {xs:List α} {w W w1:World} (h:Aside0 (Kd.V d e w b ok v xs)) (hb:Below W.heap.size W w1) (k:Kd.V d e w b ok v xs→Kd.V d e W b ok v xs:=by exact fun h=>fV ⟨h⟩):Aside0 (Kd.V d e w1 b ok v xs):=⟨Kd.V_below (k h.out) hb⟩
theorem ebV {α:Type} {d:Kd α} {e b:Nat} {ok:Nat→Prop} {v:Value} {xs:List α} {w W w1:World} {g:Nat} (h:Aside0 (Kd.V d e w b ok v xs)) (hg:g=W.heap.size) (hb:Below W.heap.size W w1) (k:Kd.V d e w b ok v xs→Kd.V d e W b ok v xs:=by exact fun h=>fV ⟨h⟩):Aside0 (Kd.V d e w1 b (fun k=>ok k∧k ≠ g) v xs):=⟨Kd.V_below (Kd.V_elderB (k h.out) g (Nat.le_of_eq hg.symm)) hb⟩
theorem elV {α:Type} {d:Kd α} {e b:Nat} {ok:Nat→Prop} {u v:Value} {xs:List α} {w W w1:World} (h:Aside0 (Kd.V d e w b ok u xs)) (hl:∀ k,v.ownBlock=some k→W.heap.size≤k) (hb:Below W.heap.size W w1) (k:Kd.V d e w b ok u xs→Kd.V d e W b ok u xs:=by exact fun h=>fV ⟨h⟩):Aside0 (Kd.V d e w1 b (fun k=>ok k∧some k ≠ v.ownBlock) u xs):=⟨Kd.V_elder' (k h.out) hl hb⟩
theorem zRt {P : Program} {ops : Array Oper} {rest : List Oper} {o : Oper} {a : Act} {Q : Exit → Act → World → Prop} {W : World} (e : Nat) {N : Tmp} {xs : List Int} {inner : List Value} (hrep : Reps ((Kd.int .i64).M W W.heap.size (fun _ => True)) (Kd.int .i64).sz xs inner)
  (h:∀ v1 w1,Kd.R (Kd.int .i64) e w1 W.heap.size (fun _=>True) v1 xs→Below W.heap.size W w1→W.grownBy w1 none→(∃ b,v1.ownBlock=some b∧W.heap.size≤b)→wpList P ops Q rest (a.put o.dst v1) w1) (hd:o.dst=some N:=by exact rfl) (hgd:o.guard=none:=by exact rfl)
  (hrun:(execOp a.eval o).run P W=.ok (.value (.slice (some ⟨W.heap.size,0,none⟩) xs.length xs.length)) (W.alloc (.cells inner.toArray e)):=by first|(go_simp;done)|(go_simp;rfl)) (hm:xs.length≤9223372036854775807:=by simp):wpList P ops Q (o :: rest) a W :=
 Kd.R_lit (Kd.int .i64) _ e hgd hd hrun hrep (fun _ hk=>hk) trivial (Below.refl _ _) (Nat.le_refl _) hm h
theorem zRs {P : Program} {ops : Array Oper} {o : Oper} {a : Act} {Q : Exit → Act → World → Prop} {Kc : Act → World → Prop} {W : World} (e : Nat) {N : Tmp} {xs : List Int} {inner : List Value} (hrep : Reps ((Kd.int .i64).M W W.heap.size (fun _ => True)) (Kd.int .i64).sz xs inner)
  (h:∀ v1 w1,Kd.R (Kd.int .i64) e w1 W.heap.size (fun _=>True) v1 xs→Below W.heap.size W w1→W.grownBy w1 none→(∃ b,v1.ownBlock=some b∧W.heap.size≤b)→Kc (a.put o.dst v1) w1) (hd:o.dst=some N:=by exact rfl) (hgd:Region.wanted o (yielded ops a.tmps)=true:=by exact rfl)
  (hrun:(execOp a.eval o).run P W=.ok (.value (.slice (some ⟨W.heap.size,0,none⟩) xs.length xs.length)) (W.alloc (.cells inner.toArray e)):=by first|(go_simp;done)|(go_simp;rfl)) (hm:xs.length≤9223372036854775807:=by simp):if Region.wanted o (yielded ops a.tmps)=true then Oper.wp P o a W Kc Q else Kc (a.put o.dst undef) W :=
 Kd.R_lit_step (Kd.int .i64) _ e hgd hd hrun hrep (fun _ hk=>hk) trivial (Below.refl _ _) (Nat.le_refl _) hm h
theorem zKc {w W W1 W2:World} {g:Nat} {row:Option Nat} (h:Aside0 (KeepBut w W g row)) (hk:KeepBut W1 W2 g row) (k:KeepBut w W g row→KeepBut w W1 g row:=by exact fun h=>aK h):Aside0 (KeepBut w W2 g row):=⟨KeepBut.trans (k h.out) hk (.inl rfl)⟩
theorem zKd {w W W1 W2:World} {g:Nat} (h:Aside0 (KeepBut w W g none)) (hb:Below W1.heap.size W1 W2) (k:KeepBut w W g none→KeepBut w W1 g none:=by exact fun h=>aK h):Aside0 (KeepBut w W2 g none):=⟨KeepBut.trans (k h.out) (KeepBut.of_below hb g none) (.inl rfl)⟩
theorem zSo {α β:Type} {a c:α} {b d:β} (h:some (a,b)=some (c,d)):a=c∧b=d:=by simpa using h
theorem zT2 {P : Program} {md : Region.Mode} {ops : Array Oper} {Q : Exit → Act → World → Prop} {S : World → Prop} {ds B : List Nat} {T : Bool × List (List Nat × List Nat)} {oi : Oper} {v : Value} {fuel : Nat} {l : Array Bool} {a a' : Act} {w : World} (i : Nat) (N : Option Tmp) (l' : Array Bool) (HT : Aside0 (rtab md ops = T)) (HW : Aside0 (waitsOk T.2 B = true)) (hS : S w) (hi : ops[i]? = some oi := by exact rfl) (hN : oi.dst = N := by exact rfl) (hc : takeW T B ds l.toList l'.toList i = true := by kernel_rfl)
  (hQ:∀ c a w,Q (.panic c) (a.put oi.dst v) w→Q (.panic c) a w:=by exact (fun _ _ _ h=>h)) (hy:YieldsIf P ops S oi v a:=by refine Or.inl ⟨by rfl,?_⟩;rintro w' ⟨s0,s1⟩;go_simp;with_reducible rfl) (ha:a.put N v=a':=by simp only [Act.put,zI,zZ,zS,i64_w,i32_w];rfl) (h:wpAnyLast P md ops Q S ds fuel l' a' w):wpAnyLast P md ops Q S ds (fuel+1) l a w :=
 take_ l' hi hN (take_ofW HT.out HW.out hc) hQ hy hS ha h
theorem zT3 {P : Program} {md : Region.Mode} {ops : Array Oper} {Q : Exit → Act → World → Prop} {S : World → Prop} {ds B : List Nat} {T : Bool × List (List Nat × List Nat)} {oi : Oper} {v : Value} {fuel : Nat} {l : Array Bool} {a a' : Act} {w : World} (i : Nat) (N : Option Tmp) (l' : Array Bool) (HT : Aside0 (rtab md ops = T)) (HW : Aside0 (waitsOk T.2 B = true)) (hS : S w) (hi : ops[i]? = some oi := by exact rfl) (hN : oi.dst = N := by exact rfl) (hc : takeW T B ds l.toList l'.toList i = true := by kernel_rfl)
  (hQ:∀ c a w,Q (.panic c) (a.put oi.dst v) w→Q (.panic c) a w:=by exact (fun _ _ _ h=>h)) (hy:YieldsIf P ops S oi v a:=by refine Or.inl ⟨by rfl,?_⟩;rintro w' ⟨s0,s1,s2⟩;go_simp;with_reducible rfl) (ha:a.put N v=a':=by simp only [Act.put,zI,zZ,zS,i64_w,i32_w];rfl) (h:wpAnyLast P md ops Q S ds fuel l' a' w):wpAnyLast P md ops Q S ds (fuel+1) l a w :=
 take_ l' hi hN (take_ofW HT.out HW.out hc) hQ hy hS ha h
theorem zT4 {P : Program} {md : Region.Mode} {ops : Array Oper} {Q : Exit → Act → World → Prop} {S : World → Prop} {ds B : List Nat} {T : Bool × List (List Nat × List Nat)} {oi : Oper} {v : Value} {fuel : Nat} {l : Array Bool} {a a' : Act} {w : World} (i : Nat) (N : Option Tmp) (l' : Array Bool) (HT : Aside0 (rtab md ops = T)) (HW : Aside0 (waitsOk T.2 B = true)) (hS : S w) (hi : ops[i]? = some oi := by exact rfl) (hN : oi.dst = N := by exact rfl) (hc : takeW T B ds l.toList l'.toList i = true := by kernel_rfl)
  (hQ:∀ c a w,Q (.panic c) (a.put oi.dst v) w→Q (.panic c) a w:=by exact (fun _ _ _ h=>h)) (hy:YieldsIf P ops S oi v a:=by refine Or.inl ⟨by rfl,?_⟩;rintro w' ⟨s0,s1,s2,s3⟩;go_simp;with_reducible rfl) (ha:a.put N v=a':=by simp only [Act.put,zI,zZ,zS,i64_w,i32_w];rfl) (h:wpAnyLast P md ops Q S ds fuel l' a' w):wpAnyLast P md ops Q S ds (fuel+1) l a w :=
 take_ l' hi hN (take_ofW HT.out HW.out hc) hQ hy hS ha h
theorem zT5 {P : Program} {md : Region.Mode} {ops : Array Oper} {Q : Exit → Act → World → Prop} {S : World → Prop} {ds B : List Nat} {T : Bool × List (List Nat × List Nat)} {oi : Oper} {v : Value} {fuel : Nat} {l : Array Bool} {a a' : Act} {w : World} (i : Nat) (N : Option Tmp) (l' : Array Bool) (HT : Aside0 (rtab md ops = T)) (HW : Aside0 (waitsOk T.2 B = true)) (hS : S w) (hi : ops[i]? = some oi := by exact rfl) (hN : oi.dst = N := by exact rfl) (hc : takeW T B ds l.toList l'.toList i = true := by kernel_rfl)
  (hQ:∀ c a w,Q (.panic c) (a.put oi.dst v) w→Q (.panic c) a w:=by exact (fun _ _ _ h=>h)) (hy:YieldsIf P ops S oi v a:=by refine Or.inl ⟨by rfl,?_⟩;rintro w' ⟨s0,s1,s2,s3,s4⟩;go_simp;with_reducible rfl) (ha:a.put N v=a':=by simp only [Act.put,zI,zZ,zS,i64_w,i32_w];rfl) (h:wpAnyLast P md ops Q S ds fuel l' a' w):wpAnyLast P md ops Q S ds (fuel+1) l a w :=
 take_ l' hi hN (take_ofW HT.out HW.out hc) hQ hy hS ha h
end Go.Proofs.Ytgjdbnipcpmhiaa.P
/- Set with little white space, by a program. -/
