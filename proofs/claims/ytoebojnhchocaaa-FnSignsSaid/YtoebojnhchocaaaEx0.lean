/- The functions that one law reaches, each as a Lean function, and that Go's call comes to what it says. Condition of each: that the Lean function answers (is not none). -/
import Derived.Test.YtoebojnhchocaaaProg
import Derived.Below
import Derived.Deep.Draws
import Derived.Deep.AppendLies
import Derived.Maps.AppendAt
import Derived.OwnWalk
import Derived.Laws.BytesArg
import Derived.Laws.MakeOwn
import Derived.Laws.OwnMore
import Derived.Deep.OwnRows
import Derived.Tactics
import Derived.Lib.ConvBytes
import Derived.Laws.Slices
import Derived.WalkKit
import Derived.KernelRfl
import Derived.RowKit3
import Derived.Deep.LoopGhost
import Derived.Deep.QuietTactic
import Derived.BigQuiet
import Derived.WideLaws
import Derived.Deep.DeepCutAuto
import Derived.Deep.CutBlock
import Derived.Deep.RegionHeld3
import Derived.Laws.Rows
import Derived.Lib.AppendStr
import Derived.ArgAppend
import Derived.Laws.IdiomCopy
import Derived.OrdersHeld
import Derived.Laws.BitsLemmas
import Derived.RowKit
import Derived.Lib.SliceRun
import Derived.Deep.RegionLaw
import Derived.Test.YtoebojnhchocaaaEWWords
import Derived.Test.YtoebojnhchocaaaEWLast
import Derived.Test.YtoebojnhchocaaaEWTab
import Derived.Test.YtoebojnhchocaaaEWWords
import Derived.Test.YtoebojnhchocaaaEWLast
import Derived.Test.YtoebojnhchocaaaEWApart
import Derived.Test.YtoebojnhchocaaaEWWords
import Derived.Test.YtoebojnhchocaaaEWApart
import Derived.Test.YtoebojnhchocaaaEWWords
import Derived.Test.YtoebojnhchocaaaEWFoot
import Derived.Test.YtoebojnhchocaaaEWKept
import Derived.Test.YtoebojnhchocaaaEWShare
import Derived.Test.YtoebojnhchocaaaEWN
import Derived.Test.YtoebojnhchocaaaEWRepsOne
import Derived.Test.YtoebojnhchocaaaEWGuard
import Derived.Test.YtoebojnhchocaaaEWNEv
import Derived.Test.YtoebojnhchocaaaEWMore
namespace Go.Proofs.bY.apf
theorem aj.z {p:Prop} (h:aj p):p:=h.out
end Go.Proofs.bY.apf
namespace Go.Proofs.Ytoebojnhchocaaa.E
open Go.RowKit Go.Proofs.bY.apf Go.Proofs.bY.ko Go.Proofs.bY.kN
attribute [local go_sem] max2_int min2_int max_two min_two max_three min_three max_four min_four   -- for this text's walks alone
set_option linter.unusedVariables false
set_option linter.unusedSimpArgs false
def Qt : Option Int → Value
 | none=>.nilIface
 | some c=>.iface 0 (.int .i64 c)
theorem je:Qt none=.nilIface:=rfl
theorem jf (c:Int):Qt (some c)=.iface 0 (.int .i64 c):=rfl
theorem mR:(Try.prog.info? 2).map (fun i=>(i.zero,i.size,i.bytes))=some (some (.int .i64 0),1,8):=by kernel_rfl
theorem SQ:(Try.prog.info? 9).map (fun i=>(i.zero,i.size,i.bytes))=some (some (.string ⟨#[]⟩),1,16):=by kernel_rfl
theorem qX:(Try.prog.info? 28).map (fun i=>(i.zero,i.size,i.bytes))=some (some (.slice none 0 0),1,24):=by kernel_rfl
-- the values' own types
def av (xs:List (List Int)) (i:Int):(List Int):=xs.getD i.toNat ([]:List Int)
theorem fW {w:World} {A:Option Addr} {n:Nat} {xs:List (List Int)} (h:Kd.C (Kd.slice 2 (Kd.int .i64)) w A n xs) (i:Int) (h0:0≤i) (h1:i < n):∃ ad A0 c0,A=some ad∧w.cell? (ad.add i.toNat)=some (.slice A0 (av xs i).length c0)∧(av xs i).length≤c0∧(Kd.int .i64).C w A0 (av xs i).length (av xs i):=by
 obtain ⟨ad,c,e,_,hK,hc0⟩:=Kd.U_ h ([]:List Int) i h0 h1
 have hc:∀ j u,c[j]?=some u→w.cell? (ad.add (i.toNat * 1+j))=some u:=hc0
 obtain ⟨A0,c0,rfl,l0,g0⟩:=hK
 exact ⟨ad,A0,c0,e,by have hq:=hc 0 _ rfl;rwa [Nat.mul_one,Nat.add_zero] at hq,l0,g0⟩
/-! ### small words for the contracts proved by hand -/
theorem zI {α:Type} (l:List α) (i:Nat) (a:α):l.toArray.setIfInBounds i a=(l.set i a).toArray:=List.setIfInBounds_toArray l i a
theorem zZ {α:Type} (a b:α) (l:List α):(a :: l).set 0 b=b :: l:=List.set_cons_zero
theorem zS {α:Type} (a b:α) (l:List α) (n:Nat):(a :: l).set (n+1) b=a :: l.set n b:=List.set_cons_succ
def idxFrom (p : Int → Bool) : List Int → Nat → Int
 | [],_=>-1
 | x :: xs,k=>if p x then k else idxFrom p xs (k+1)
theorem SN (p:Int→Bool) (l:List Int) (k:Nat) (h:k < l.length):idxFrom p (l.drop k) k=if p (rd l k) then (k:Int) else idxFrom p (l.drop (k+1)) (k+1):=by
 rw [List.drop_eq_getElem_cons h,idxFrom,rd,Int.toNat_natCast,List.getD_eq_getElem?_getD,List.getElem?_eq_getElem h];rfl
theorem ada (p:Int→Bool) (l:List Int) (k:Nat):decide (0≤idxFrom p l k)=l.any p:=by
 induction l generalizing k with
 | nil=>simp [idxFrom]
 | cons x xs ih =>
  rw [idxFrom,List.any_cons]
  cases p x with
  | true=>simp
  | false=>simp;rw [← ih (k+1)]
def tj (p : List Int → Option Bool) : List (List Int) → Nat → Option Int
 | [],_=>some (-1)
 | x :: xs,k=>(p x).bind fun b=>if b=true then some (k:Int) else tj p xs (k+1)
/-- What a slot holds is the value that lies in a whole at an index. -/
def pz (w:World) (V:Value) (j:Int) (u:Value):Prop:=∃ ad n c,V=.slice (some ad) n c∧0≤j∧j < (n:Int)∧w.cell? (ad.add j.toNat)=some u
theorem s_ {w:World} {V:Value} {j:Int} {u:Value} (h:pz w V j u):0≤j:=by
 obtain ⟨ad,n,c,e,h0,h1,hc⟩:=h
 exact h0
theorem nK {w:World} {A:Option Addr} {n c:Nat} {j:Int} {u:Value} (h:pz w (.slice A n c) j u):j < (n:Int):=by
 obtain ⟨ad,n,c,e,h0,h1,hc⟩:=h
 injection e with _ e2 _
 subst e2
 exact h1
theorem GL {w:World} {ad:Addr} {n c:Nat} {j:Int} {u v:Value} (h:pz w (.slice (some ad) n c) j u) (hc:w.cell? (ad.add j.toNat)=some v):u=v:=by
 obtain ⟨arf,n',c',e,_,_,h'⟩:=h
 injection e with e1 _ _
 injection e1 with e1
 subst e1
 exact Option.some.inj (h'.symm.trans hc)
theorem DV {ad:Addr} {n c k i:Nat} (h:some k ≠ (Value.slice (some ad) n c).ownBlock):some (ad.add i).block ≠ some k:=by
 rw [add_block]
 intro e
 exact h (by rw [← e];simp [Value.ownBlock])
theorem Pn {w W:World} {g j:Nat} {v:Value} (h:Below w.heap.size w W) (hg:aj (w.heap.size≤g)):Below w.heap.size w (W.setCell ⟨g,j,none⟩ v):=aoO h hg.out
theorem bl {b:Nat} {w0 w:World} (h:Below b w0 w:=by repeat (first|(with_reducible first|exact HB.out|apply a_|apply bf|apply aZ|refine Pn ?_ (by assumption))|exact HB.out)):Below b w0 w:=h
theorem bk {w:World} {g:Nat} {o:Obj} (h:w.heap[g]?=some o:=by (with_reducible repeat (first|refine aoU ?_ _|refine aJ ?_|refine aoQ ?_ _));exact aj.out (by assumption)):w.heap[g]?=some o:=h
theorem oD {p:Prop} [Decidable p] (h:decide p=true:=by first|(with_reducible assumption)|assumption):p:=of_decide_eq_true h
theorem gm {α:Type} {a b:α} (h:a=b:=by (try simp only [List.map_toArray,List.map_cons,List.map_nil]);first|done|rfl|(simp only [List.length_drop,List.length_take];rfl)):a=b:=h
theorem rs {α:Type} {a b:α} (h:a=b:=by first|rfl|(simp;done)|(simp [*];done)):a=b:=h
theorem hbc {w w':World} {a:Addr} {v:Value} (B:aj (Below w.heap.size w w')) (h:w.cell? a=some v):w'.cell? a=some v:=(B.out.cell (World.block_lt_of_cell? w _ h)).trans h
/-! ### short words -/
def Pk : Nat → Nat → List Bool
 | 0,_=>[]
 | n+1,b=>Nat.beq (b % 2) 1 :: Pk n (b / 2)
/-- A row of bools, as the bits of a number. -/
def ba (n b:Nat):Array Bool:=⟨Pk n b⟩
theorem pu {P : Program} {md : Region.Mode} {ops : Array Oper} {Q : Exit → Act → World → Prop} {S : World → Prop} {ds : List Nat} {T : Bool × List (List Nat × List Nat)} {oi : Oper} {v : Value} {fuel : Nat} {l : Array Bool} {a a' : Act} {w : World} (i : Nat) (N : Option Tmp) (l' : Array Bool) (HT : aj (iP md ops = T)) (hi : ops[i]? = some oi := by exact rfl) (hN : oi.dst = N := by exact rfl) (hc : JN T l.toList l'.toList i = true := by kernel_rfl)
  (hQ:∀ c a w,Q (.panic c) (a.put oi.dst v) w→Q (.panic c) a w:=by exact (fun _ _ _ h=>h)) (hy:Yields P ops oi v a:=by refine Or.inl ⟨by rfl,?_⟩;intro w';go_simp;with_reducible rfl) (ha:a.put N v=a':=by simp only [Act.put,zI,zZ,zS,cm,cO];rfl) (h:jv P md ops Q S ds fuel l' a' w):jv P md ops Q S ds (fuel+1) l a w :=
 kT l' hi hN (apF HT.out hc) hQ hy ha h
theorem ta {P : Program} {md : Region.Mode} {ops : Array Oper} {Q : Exit → Act → World → Prop} {S : World → Prop} {ds B : List Nat} {T : Bool × List (List Nat × List Nat)} {oi : Oper} {v : Value} {fuel : Nat} {l : Array Bool} {a a' : Act} {w : World} (i : Nat) (N : Option Tmp) (l' : Array Bool) (HT : aj (iP md ops = T)) (HW : aj (nA T.2 B = true)) (hS : S w) (hi : ops[i]? = some oi := by exact rfl) (hN : oi.dst = N := by exact rfl) (hc : Nh T B ds l.toList l'.toList i = true := by kernel_rfl)
  (hQ:∀ c a w,Q (.panic c) (a.put oi.dst v) w→Q (.panic c) a w:=by exact (fun _ _ _ h=>h)) (hy:YieldsIf P ops S oi v a) (ha:a.put N v=a':=by simp only [Act.put,zI,zZ,zS,cm,cO];rfl) (h:jv P md ops Q S ds fuel l' a' w):jv P md ops Q S ds (fuel+1) l a w :=
 aqy l' hi hN (afA HT.out HW.out hc) hQ hy hS ha h
theorem iS {α:Type} {p:Prop} [Decidable p] {x:Option α} {r:α} (h:(if p then x else none)=some r):p∧x=some r:=by
 by_cases c:p
 ·rw [if_pos c] at h;exact ⟨c,h⟩
 ·rw [if_neg c] at h;exact absurd h (by simp)
theorem aR {α:Type} {d:Kd α} {e b:Nat} {ok:Nat→Prop} {v:Value} {xs:List α} {w w1:World} (h:Kd.R d e w b ok v xs) (g:Kd.R d e w b ok v xs→Kd.R d e w1 b ok v xs:=by intro h;(with_reducible repeat (first|apply Kd.dK|apply Kd.dD|apply Kd.cB));exact h):Kd.R d e w1 b ok v xs:=g h
theorem aS {α:Type} {d:Kd α} {e b:Nat} {ok:Nat→Prop} {v:Value} {xs:List α} {w w1:World} (h:Kd.S d e w b ok v xs) (g:Kd.S d e w b ok v xs→Kd.S d e w1 b ok v xs:=by intro h;(with_reducible repeat (first|apply Kd.cM|apply Kd.cI|apply Kd.cr));exact h):Kd.S d e w1 b ok v xs:=g h
theorem aV {α:Type} {d:Kd α} {e b:Nat} {ok:Nat→Prop} {v:Value} {xs:List α} {w w1:World} (h:Kd.V d e w b ok v xs) (g:Kd.V d e w b ok v xs→Kd.V d e w1 b ok v xs:=by intro h;(with_reducible repeat (first|apply Kd.nc|apply Kd.mN|apply Kd.kE));exact h):Kd.V d e w1 b ok v xs:=g h
theorem aN {α:Type} {d:Kd α} {e b:Nat} {ok:Nat→Prop} {v:Value} {xs:List α} {w w1:World} (h:Kd.N d e w b ok v xs) (g:Kd.N d e w b ok v xs→Kd.N d e w1 b ok v xs:=by intro h;(with_reducible repeat (first|apply Kd.agY|apply Kd.Wr|apply Kd.agZ));exact h):Kd.N d e w1 b ok v xs:=g h
theorem aC {α:Type} {d:Kd α} {n:Nat} {A:Option Addr} {xs:List α} {w w1:World} (h:Kd.C d w A n xs) (g:Kd.C d w A n xs→Kd.C d w1 A n xs:=by intro h;repeat (first|exact h|(with_reducible refine Kd.wL ?_ _)|(with_reducible refine Kd.zh ?_ _)|(with_reducible refine Kd.vG ?_))):Kd.C d w1 A n xs:=g h
abbrev sO (a:Int) (A:Option Addr) {α:Type} (l:List α) (c t:Nat):Obj:=.cells #[.int .i64 a,.slice A l.length c] t (0,0)
theorem k0 {p:Prop} (h:p):aj p:=aj.mk h
theorem aB {w w1:World} {g:Nat} {o:Obj} (h:w.heap[g]?=some o) (k:w.heap[g]?=some o→w1.heap[g]?=some o:=by intro h;(with_reducible repeat (first|refine aoU ?_ _|refine aJ ?_|refine aoQ ?_ _));exact h):w1.heap[g]?=some o:=k h
theorem kB {w0 w w1:World} {g:Nat} {o:Obj} (h:aj (w0.heap[g]?=some o)) (hb:Below w.heap.size w w1) (k:w0.heap[g]?=some o→w.heap[g]?=some o:=by intro h;(with_reducible repeat (first|refine aoU ?_ _|refine aJ ?_|refine aoQ ?_ _));exact h):aj (w1.heap[g]?=some o):=⟨cZ (k h.out) hb⟩
theorem nL {w0 w:World} {g g':Nat} {o:Obj} (hg:g'=w.heap.size) (h:aj (w0.heap[g]?=some o)) (k:w0.heap[g]?=some o→w.heap[g]?=some o:=by intro h;(with_reducible repeat (first|refine aoU ?_ _|refine aJ ?_|refine aoQ ?_ _));exact h):aj (g ≠ g'):=⟨by rw [hg];exact Nat.ne_of_lt (qH (k h.out))⟩
theorem nG {a b:Nat} (h:aj (a ≠ b)):aj (b ≠ a):=⟨h.out.symm⟩
theorem gW {n m g:Nat} (hg:g=m) (h:n≤m):aj (n≤g):=⟨by rw [hg];exact h⟩
theorem aQ {w:World} {g:Nat} {a:Value} {l:List Value} {t:TypeId} (h:aj (w.heap[g]?=some (.cells (a :: l).toArray t (0,0)))):w.cell? ⟨g,0,none⟩=some a:=(fq h.out 0).trans (by simp)
theorem aoT {w:World} {g:Nat} {a b:Value} {l:List Value} {t:TypeId} (h:aj (w.heap[g]?=some (.cells (a :: b :: l).toArray t (0,0)))):w.cell? ⟨g,1,none⟩=some b:=(fq h.out 1).trans (by simp)
theorem ao_ {w:World} {g:Nat} {a b c:Value} {l:List Value} {t:TypeId} (h:aj (w.heap[g]?=some (.cells (a :: b :: c :: l).toArray t (0,0)))):w.cell? ⟨g,2,none⟩=some c:=(fq h.out 2).trans (by simp)
theorem ec {w:World} {g:Nat} {a b c d:Value} {l:List Value} {t:TypeId} (h:aj (w.heap[g]?=some (.cells (a :: b :: c :: d :: l).toArray t (0,0)))):w.cell? ⟨g,3,none⟩=some d:=(fq h.out 3).trans (by simp)
theorem bF {w:World} {g:Nat} {t:TypeId} {cs:Array Value} (h:aj (w.heap[g]?=some (.cells cs t (0,0)))) (i:Nat):w.frozen? ⟨g,i,none⟩=false:=iV h.out i
theorem eR {p:Prop} (h:p:=by first|rfl|(simp [je,jf]<;>rfl)|(simp [*,je,jf]<;>rfl)):p:=h
theorem dW {w w':World} (h:iR w w':=by repeat (first|exact iR.refl _|apply iR.step)):iR w w':=h
theorem dN {p:Prop} (h:p:=by first|exact ⟨rfl,_,World.drewN_drewN _ _ _⟩|exact ⟨rfl,_,Eq.trans (World.drewN_drewN _ _ _) (congrArg (World.drewN _) (Nat.add_assoc _ _ _))⟩):p:=h
theorem aK {w W W1:World} {g:Nat} {row:Option Nat} (h:aoR w W g row) (k:aoR w W g row→aoR w W1 g row:=by intro h;repeat (first|(with_reducible first|exact h|apply aoR.ae8|apply adt|apply SX|apply an8|refine adu ?_ (aj.out (by assumption)) _)|exact h)):aoR w W1 g row:=k h
theorem aL {b:Nat} {w W W1:World} (h:Below b w W) (k:Below b w W→Below b w W1:=by intro h;repeat (first|(with_reducible first|exact h|apply a_|apply bf|apply aZ|refine Pn ?_ (by assumption))|exact h)):Below b w W1:=k h
theorem rH {α:Type} {y e:α} {p q:Prop} (hy:y=e) (H:p) (k:y=e→p→q:=by intro hy H;first|(rw [hy];with_reducible exact H)|(have I6:=(Option.bind_some _ _).symm.trans H;rw [hy];with_reducible exact I6)|(have I6:=(Option.bind_some _ _).symm.trans H;with_reducible exact I6)|with_reducible exact H|(rw [hy];exact H)|exact H):q:=k hy H
theorem bR {P : Program} {ops : Array Oper} {rest : List Oper} {o : Oper} {a : Act} {Q : Exit → Act → World → Prop} {W : World} (N : Tmp) (cs : Array Value) (t : TypeId)
  (h:∀ g,g=W.heap.size→∀ w1,w1.heap[g]?=some (.cells cs t (0,0))→Below W.heap.size W w1→wpList P ops Q rest (a.put o.dst (.pointer (some ⟨g,0,none⟩))) w1) (hd:o.dst=some N:=by exact rfl) (hgd:o.guard=none:=by exact rfl)
  (hrun:(execOp a.eval o).run P W=.ok (.value (.pointer (some ⟨W.heap.size,0,none⟩))) (W.alloc (.cells cs t (0,0))):=by first|(go_simp;done)|(go_simp;rfl)):wpList P ops Q (o :: rest) a W:=Xx hgd hd hrun h
theorem gC {P : Program} {ops : Array Oper} {Q : Exit → Act → World → Prop} {rest : List Oper} {oi : Oper} {a : Act} {w : World} (N : Option Tmp) {f : FuncId} {fn : Func} {Ph : Array Operand} {ts : Array TypeId} (hf : P.funcs[f]? = some fn) (args : Array Value)
  (h : Calls P f args w fun e w' => ∃ v, e = .returned v ∧ wpList P ops Q rest (a.put N v) w') (hd : oi.dst = N := by exact rfl) (hg : oi.guard = none := by exact rfl) (hop : oi.op = .call { callee := .value (.func f), args := Ph, argTypes := ts } := by exact rfl) (hname : (fn.name == "runtime.NumGoroutine") = false := by kernel_rfl) (hb : fn.body.isSome = true := by exact rfl)
  (hargs:Ph.map a.eval=args:=by (try simp only [List.map_toArray,List.map_cons,List.map_nil]);first|done|rfl|(simp only [List.length_drop,List.length_take];rfl)):wpList P ops Q (oi :: rest) a w:=Ks N hd hg hf hname hb args hop hargs h
theorem tS {α:Type} {d:Kd α} {e b:Nat} {ok:Nat→Prop} {v:Value} {xs:List α} {w:World} {g t:Nat} {cells:Array Value} (h:aj (Kd.S d e w b ok v xs)) (hb:aj (w.heap[g]?=some (.cells cells t (0,0)))) (ht:∀ q,q ∈ e :: d.E→q ≠ t:=by decide):Kd.S d e w b (fun k=>ok k∧k ≠ g) v xs:=Kd.zK h.out hb.out ht
theorem gS {α:Type} {d:Kd α} {e b:Nat} {ok:Nat→Prop} {v:Value} {xs:List α} {w:World} {g:Nat} (i:Nat) (u:Value) (h:Kd.S d e w b (fun k=>ok k∧k ≠ g) v xs):Kd.S d e (w.setCell ⟨g,i,none⟩ u) b (fun k=>ok k∧k ≠ g) v xs:=Kd.nI h (p:=⟨g,i,none⟩) (fun _ hk=>hk.2) u
theorem tR {α:Type} {d:Kd α} {e b:Nat} {ok:Nat→Prop} {v:Value} {xs:List α} {w:World} {g t:Nat} {cells:Array Value} (h:aj (Kd.R d e w b ok v xs)) (hb:aj (w.heap[g]?=some (.cells cells t (0,0)))) (ht:∀ q,q ∈ e :: d.E→q ≠ t:=by decide):Kd.R d e w b (fun k=>ok k∧k ≠ g) v xs:=Kd.aqA h.out hb.out ht
theorem gR {α:Type} {d:Kd α} {e b:Nat} {ok:Nat→Prop} {v:Value} {xs:List α} {w:World} {g:Nat} (i:Nat) (u:Value) (h:Kd.R d e w b (fun k=>ok k∧k ≠ g) v xs):Kd.R d e (w.setCell ⟨g,i,none⟩ u) b (fun k=>ok k∧k ≠ g) v xs:=Kd.F4 h (p:=⟨g,i,none⟩) (fun _ hk=>hk.2) u
end Go.Proofs.Ytoebojnhchocaaa.E
/- Set with little white space, by a program. -/
