/- What came in as a slice of integers, or of such slices, read as lists. No condition. -/
import Derived.Test.YtoebojnhchocaaaDx0
import Derived.WalkKit
import Derived.ProofKit
import Derived.OpenShut
import Derived.ShutString
import Derived.ChangeOld
import Derived.Below
import Derived.SizedLaws
import Derived.Lib.SmallJoins
import Derived.Deep.Matrix
import Derived.Deep.Strs
namespace Go.Proofs.Ytoebojnhchocaaa.D
open Go.RowKit Go.Proofs.bR.eC Go.Proofs.bR.je Go.Proofs.bR.jO
open Go.ChangeShapes Go.WideShapes Go.ChangeAt
open Go.ChangeMaps (open_string shut_string)
theorem acF {k : IntKind} {e : Nat} {w : World} {a : Addr} {len : Nat} {A : Nat → Option Addr} {L C : Nat → Nat} {Z : Nat → List Int} (hlen : len ≤ maxLen)
  (h:∀ r,r < len→w.cell? (a.add r)=some (.slice (A r) (L r) (C r))∧L r≤C r∧C r≤maxLen∧(Z r).length=C r∧(A r=none→C r=0)∧∀ a',A r=some a'→∀ c,c < C r→w.cell? (a'.add c)=some (.int k ((Z r).getD c 0))) :
  Kd.C (Kd.slice e (Kd.int k)) w (some a) len ((List.range len).map fun r=>(Z r).take (L r)):=by
 unfold maxLen at hlen
 refine ⟨by simp,by omega,fun _=>⟨a,rfl,fun j p hj=>?_⟩⟩
 have hjl:j < len:=by
  have:=(List.getElem?_eq_some_iff.1 hj).1
  simpa using this
 have hp:p=(Z j).take (L j):=by
  rw [List.getElem?_map,List.getElem?_range hjl] at hj
  simpa using hj.symm
 subst hp
 obtain ⟨h1,h2,h3,h4,h5,h6⟩:=h j hjl
 unfold maxLen at h3
 have RI:((Z j).take (L j)).length=L j:=by rw [List.length_take];omega
 refine ⟨[.slice (A j) ((Z j).take (L j)).length (C j)],rfl,⟨A j,C j,rfl,by omega,?_⟩,fun i u hu=>?_⟩
 ·refine Kd.M1 (d := (0 : Int)) (h1 := fun _ => rfl) ⟨rfl, by omega, fun hn => ?_⟩
  cases hA:A j with
  | none=>have:=h5 hA;omega
  | some a' =>
   refine ⟨a',rfl,fun c hc=>?_⟩
   rw [h6 a' hA c (by omega)]
   congr 2
   simp only [List.getD_eq_getElem?_getD]
   rw [List.getElem?_take_of_lt (by omega)]
 ·cases i with
  | zero =>
   simp at hu
   subst hu
   rw [List.length_take] at RI
   rw [RI,show (Kd.slice e (Kd.int k)).sz=1 from rfl,Nat.mul_one,Nat.add_zero]
   exact h1
  | succ i=>simp at hu
/-- A slice of slices of integers that came in. -/
theorem adP {H : Type} {enc : TypeId × Value → H} {P : Program} {w : World} {base : Nat} {held : Bool} {t e q : TypeId} {k : IntKind} {fuel : Nat} {v : Value} {y : DataW H × List MemPlace}
  (ht:P.underlying t=some (.slice e)) (he:P.underlying e=some (.slice q)) (hq:P.underlying q=some (.int k)) (ce:P.cellsOf e=1) (cq:P.cellsOf q=1)
  (h:DataW.trod enc P w base (fun _=>true) held fuel t [v]=some y) :
  ∃ (A:Option Addr) (c:Nat) (l:List (List Int)),v=.slice A l.length c∧l.length≤c∧Kd.C (Kd.slice q (Kd.int k)) w A l.length l∧l.length≤maxLen∧∀ x ∈ l,x.length≤maxLen∧∀ n ∈ x,(Lit.int k n).wf=true:=by
 rcases Deep.open_int_rows ht he hq ce cq h with ⟨hv,_⟩|⟨a,len,cap,A,L,C,Z,hv,_,hl,hm,_,hr⟩
 ·injection hv with hv _
  subst hv
  exact ⟨none,0,[],rfl,Nat.le_refl _,Kd.anC _ _,by simp,by simp⟩
 ·injection hv with hv _
  subst hv
  have hk:=acF (e:=q) (Nat.le_trans hl hm) (fun r hr'=>by
   obtain ⟨g1,g2,g3,g4,g5,g6,g7⟩:=hr r (by omega)
   exact ⟨g1,g2,g3,g4,g6,fun a' ha=>(g7 a' ha).2⟩)
  refine ⟨some a,cap,(List.range len).map fun r=>(Z r).take (L r),by simp,by simpa using hl,by simpa using hk,by simp;omega,fun x hx=>?_⟩
  obtain ⟨r,hr',rfl⟩:=List.mem_map.1 hx
  obtain ⟨g1,g2,g3,g4,g5,g6,g7⟩:=hr r (by have:=List.mem_range.1 hr';omega)
  exact ⟨by rw [List.length_take];omega,fun n hn=>g5 n (List.mem_of_mem_take hn)⟩
/-- A slice of integers that came in. -/
theorem adO {H : Type} {enc : TypeId × Value → H} {P : Program} {w : World} {base : Nat} {held : Bool} {t e : TypeId} {k : IntKind} {fuel : Nat} {v : Value} {y : DataW H × List MemPlace}
  (ht:P.underlying t=some (.slice e)) (he:P.underlying e=some (.int k)) (ce:P.cellsOf e=1)
  (h:DataW.trod enc P w base (fun _=>true) held fuel t [v]=some y) :
  ∃ (A:Option Addr) (c:Nat) (l:List Int),v=.slice A l.length c∧l.length≤c∧Kd.C (Kd.int k) w A l.length l∧l.length≤maxLen∧∀ n ∈ l,(Lit.int k n).wf=true:=by
 rcases open_ints ht he ce h with ⟨hcs,_⟩|⟨x,len,cap,zs,hcs,_,hl,hm,hz,_,hcell,hwz⟩
 ·injection hcs with hcs _
  subst hcs
  exact ⟨none,0,[],rfl,Nat.le_refl _,Kd.anC _ _,by simp,by simp⟩
 ·injection hcs with hcs _
  subst hcs
  simp only [if_true] at hz
  obtain ⟨l,KO,h2,h3,h4,h5⟩:=mA.adM (k:=k) (w:=w) (a:=some x) (len:=len) (cap:=cap) (zs:=zs) (.inr ⟨x,rfl,hl,hm,hz,hcell,hwz⟩)
  subst KO
  exact ⟨some x,cap,l,rfl,h5,Kd.M1 (d:=(0:Int)) (h1:=fun _=>rfl) h2,h3,h4⟩
theorem WT (T:Array Value) (h:T.size=2):∃ v0 v1:Value,T=#[v0,v1]:=by
 match T,h with
 | ⟨[v0,v1]⟩,_=>exact ⟨v0,v1,rfl⟩
theorem ags (T:Array Value) (h:T.size=4):∃ v0 v1 v2 v3:Value,T=#[v0,v1,v2,v3]:=by
 match T,h with
 | ⟨[v0,v1,v2,v3]⟩,_=>exact ⟨v0,v1,v2,v3,rfl⟩
end Go.Proofs.Ytoebojnhchocaaa.D
/- Set with little white space, by a program. -/
