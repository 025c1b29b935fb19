/- Plain lemmas on the Lean functions that FnExactReduceChips reaches, and its pure statement. No condition. -/
import Derived.Test.YtoebojnhchocaaaBLib
namespace Go.Proofs.Ytoebojnhchocaaa.B
open Go.RowKit Go.Proofs.bC.eg Go.Proofs.bC.iZ Go.Proofs.bC.jr
set_option linter.unusedVariables false
set_option linter.unusedSimpArgs false
/-- A row of the Laplacian comes to nothing. -/
theorem adl {n:Nat} {l:List (List Int)} (hE:endsIn n l):∀ i,i≤l.length→∀ r,alw n (fun j=>bP l i r j)=0:=by
 intro i
 induction i with
 | zero =>
  intro _ r
  rw [l9 (g:=fun _=>0) (fun j _=>by unfold bP;split<;>rfl),Cg]
 | succ i ih =>
  intro hi r
  obtain ⟨_,u,v,hu,hv,hun,gG⟩:=hE i (by omega)
  rw [l9 (g:=fun j=>bP l i r j+((if j=u then (if u=v then 0 else (if r=u then 1 else 0) - (if r=v then 1 else 0)) else 0)+(if j=v then (if u=v then 0 else (if r=v then 1 else 0) - (if r=u then 1 else 0)) else 0))) (fun j _=>by
   rw [yd n l i u v hu hv r j]
   by_cases h:u=v
   ·simp [h]
   ·by_cases h1:r=u<;>by_cases h2:r=v<;>by_cases h3:j=u<;>by_cases h4:j=v<;>simp [h,h1,h2,h3,h4]<;>omega),r5,ih (by omega),r5,qz hun,qz gG]
  by_cases h:u=v
  ·simp [h]
  ·simp only [if_neg h];omega
theorem SJ {l:List (List Int)} (i u v:Nat) (h:u ≠ v):bP l i u v≤0:=by
 have:=Cb l (2 * i) u v
 unfold bP
 rw [if_neg h]
 omega
/-- What comes to v from outside of S. -/
def lH (L:Nat→Nat→Int) (n:Nat) (S:Nat→Bool) (v:Nat):Int:=alw n (fun w=>if S w=true then 0 else -(L v w))
def lawful (L:Nat→Nat→Int) (c:Nat→Int) (n:Nat) (S:Nat→Bool):Prop:=∀ v,v < n→S v=true→lH L n S v≤c v
theorem Lo {L:Nat→Nat→Int} {n:Nat} (hs:∀ i j,L i j=L j i) (v:Nat) (h0:alw n (fun j=>L v j)=0) (S:Nat→Bool):alw n (fun i=>if S i=true then L i v else 0)=lH L n S v:=by
 have h:alw n (fun i=>(if S i=true then L i v else 0)+-(if S i=true then 0 else -(L v i)))=0:=by
  refine Eq.trans (l9 fun i _=>?_) h0
  cases S i with
  | true=>simp [hs i v]
  | false=>simp
 rw [r5,Cf] at h
 unfold lH
 omega
theorem adP {L:Nat→Nat→Int} {n:Nat} (ho:∀ u w,u ≠ w→L u w≤0) {S T:Nat→Bool} (anh:∀ j,j < n→S j=true→T j=true) {v:Nat} (hv:S v=true):lH L n T v≤lH L n S v:=by
 unfold lH
 refine r6 fun w hw=>?_
 cases hT:T w with
 | true =>
  cases hS:S w with
  | true=>simp
  | false =>
   have h1:v ≠ w:=fun e=>by rw [e,hS] at hv;exact absurd hv (by decide)
   have h2:=ho v w h1
   simp only [if_true,Bool.false_eq_true,if_false]
   omega
 | false =>
  cases hS:S w with
  | true=>rw [anh w hw hS] at hT;exact absurd hT (by decide)
  | false=>exact Int.le_refl _
def iO : Nat → (Nat → Bool) → Nat
 | 0,_=>0
 | n+1,T=>iO n T+(if T n=true then 1 else 0)
theorem yX (n:Nat) (T:Nat→Bool):iO (n+1) T=iO n T+(if T n=true then 1 else 0):=rfl
theorem Ye {n:Nat} {S T:Nat→Bool} (h:∀ j,j < n→S j=T j):iO n S=iO n T:=by
 induction n with
 | zero=>rfl
 | succ n ih=>rw [yX,yX,ih (fun j hj=>h j (by omega)),h n (by omega)]
def pN (T:Nat→Bool) (v:Nat):Nat→Bool:=fun j=>if j=v then false else T j
theorem Cq {n v:Nat} {T:Nat→Bool} (hv:v < n) (hT:T v=true):iO n (pN T v)+1=iO n T:=by
 induction n with
 | zero=>omega
 | succ n ih =>
  rw [yX,yX]
  by_cases h:n=v
  ·subst h
   rw [Ye (T:=T) (fun j hj=>by unfold pN;rw [if_neg (by omega)]),hT,show pN T n n=false from if_pos rfl]
   simp
  ·rw [show pN T v n = T n from if_neg h]
   have:=ih (by omega)
   omega
/-- One round of the burning. -/
def ju (L : Nat → Nat → Int) (c : Nat → Int) (n : Nat) : Nat → Nat → (Nat → Bool) → Bool → (Nat → Bool) × Bool
 | 0,_,T,m=>(T,m)
 | d+1,v,T,m=>if T v=true∧c v < lH L n T v then ju L c n d (v+1) (pN T v) true else ju L c n d (v+1) T m
theorem Cc {L : Nat → Nat → Int} {c : Nat → Int} {n : Nat} (ho : ∀ u w, u ≠ w → L u w ≤ 0) : ∀ (d v : Nat) (T : Nat → Bool) (m : Bool), v + d ≤ n →
  (∀ j,(ju L c n d v T m).1 j=true→T j=true)∧(∀ S,lawful L c n S→(∀ j,j < n→S j=true→T j=true)→∀ j,j < n→S j=true→(ju L c n d v T m).1 j=true) ∧
  ((ju L c n d v T m).2=false→m=false∧(ju L c n d v T m).1=T∧∀ j,v≤j→j < v+d→T j=true→lH L n T j≤c j) ∧
  iO n (ju L c n d v T m).1≤iO n T∧((ju L c n d v T m).2=true→m=false→iO n (ju L c n d v T m).1 < iO n T):=by
 intro d
 induction d with
 | zero =>
  intro v T m _
  refine ⟨fun j h=>h,fun S _ h=>h,fun h=>⟨h,rfl,fun j h1 h2=>by omega⟩,Nat.le_refl _,fun h1 h2=>?_⟩
  have h3:m=true:=h1
  rw [h2] at h3
  exact absurd h3 (by decide)
 | succ d ih =>
  intro v T m hd
  by_cases h:T v=true∧c v < lH L n T v
  ·have e : ju L c n (d + 1) v T m = ju L c n d (v + 1) (pN T v) true := if_pos h
   rw [e]
   obtain ⟨i1,i2,i3,i4,i5⟩:=ih (v+1) (pN T v) true (by omega)
   have hc:=Cq (show v < n by omega) h.1
   refine ⟨fun j hj=>?_,fun S hS anh=>i2 S hS (fun j hj zg=>?_),fun hm=>?_,by omega,fun _ _=>by omega⟩
   ·have h1 := i1 j hj
    unfold pN at h1
    by_cases e:j=v
    ·rw [if_pos e] at h1;exact absurd h1 (by decide)
    ·rw [if_neg e] at h1;exact h1
   ·unfold pN
    by_cases e:j=v
    ·subst e
     have h1:=hS j hj zg
     have h2:=adP (n:=n) ho anh zg
     omega
    ·rw [if_neg e];exact anh j hj zg
   ·exact absurd (i3 hm).1 (by decide)
  ·have e : ju L c n (d + 1) v T m = ju L c n d (v + 1) T m := if_neg h
   rw [e]
   obtain ⟨i1,i2,i3,i4,i5⟩:=ih (v+1) T m (by omega)
   refine ⟨i1,i2,fun hm=>?_,i4,i5⟩
   obtain ⟨h1,h2,h3⟩:=i3 hm
   refine ⟨h1,h2,fun j zu hj2 hT=>?_⟩
   by_cases e:j=v
   ·subst e
    by_cases h4:lH L n T j≤c j
    ·exact h4
    ·exact absurd ⟨hT,by omega⟩ h
   ·exact h3 j (by omega) (by omega) hT
def mQ (L : Nat → Nat → Int) (c : Nat → Int) (n : Nat) : Nat → (Nat → Bool) → Nat → Bool
 | 0,T=>T
 | N+1,T=>if (ju L c n n 0 T false).2=true then mQ L c n N (ju L c n n 0 T false).1 else T
theorem Oi {L:Nat→Nat→Int} {c:Nat→Int} {n:Nat} (ho:∀ u w,u ≠ w→L u w≤0) {T:Nat→Bool} (h:iO n T=0):(ju L c n n 0 T false).2=false:=by
 cases e:(ju L c n n 0 T false).2 with
 | false=>rfl
 | true =>
  have:=(Cc (L:=L) (c:=c) (n:=n) ho n 0 T false (by omega)).2.2.2.2 e rfl
  omega
theorem Oj {L : Nat → Nat → Int} {c : Nat → Int} {n : Nat} (ho : ∀ u w, u ≠ w → L u w ≤ 0) : ∀ (N : Nat) (T : Nat → Bool), iO n T ≤ N →
  lawful L c n (mQ L c n N T)∧(∀ j,mQ L c n N T j=true→T j=true)∧∀ S,lawful L c n S→(∀ j,j < n→S j=true→T j=true)→∀ j,j < n→S j=true→mQ L c n N T j=true:=by
 intro N
 induction N with
 | zero =>
  intro T h
  obtain ⟨_,_,i3,_,_⟩:=Cc (L:=L) (c:=c) (n:=n) ho n 0 T false (by omega)
  obtain ⟨_,_,h3⟩:=i3 (Oi ho (by omega))
  exact ⟨fun v hv hT=>h3 v (by omega) (by omega) hT,fun j h=>h,fun S _ h=>h⟩
 | succ N ih =>
  intro T h
  obtain ⟨i1,i2,i3,i4,i5⟩:=Cc (L:=L) (c:=c) (n:=n) ho n 0 T false (by omega)
  cases e:(ju L c n n 0 T false).2 with
  | true =>
   have hr:mQ L c n (N+1) T=mQ L c n N (ju L c n n 0 T false).1:=if_pos e
   rw [hr]
   have:=i5 e rfl
   obtain ⟨j1,j2,j3⟩:=ih (ju L c n n 0 T false).1 (by omega)
   exact ⟨j1,fun j hj=>i1 j (j2 j hj),fun S hS anh=>j3 S hS (i2 S hS anh)⟩
  | false =>
   have hr:mQ L c n (N+1) T=T:=if_neg (by rw [e];decide)
   rw [hr]
   obtain ⟨_,_,h3⟩:=i3 e
   exact ⟨fun v hv hT=>h3 v (by omega) (by omega) hT,fun j h=>h,fun S _ h=>h⟩
/-- A set as a number. -/
def rM : Nat → (Nat → Bool) → Nat
 | 0,_=>0
 | n+1,S=>2 * rM n (fun i=>S (i+1))+(S 0).toNat
theorem adH (n:Nat):∀ S,rM n S < 2 ^ n:=by
 induction n with
 | zero=>intro S;simp [rM]
 | succ n ih =>
  intro S
  have h:=ih (fun i=>S (i+1))
  have h2:(S 0).toNat≤1:=by cases S 0<;>simp
  rw [rM,Nat.pow_succ]
  omega
theorem GB:∀ (n:Nat) (S:Nat→Bool) (i:Nat),(rM n S).testBit i=(decide (i < n) && S i):=by
 intro n
 induction n with
 | zero=>intro S i;simp [rM]
 | succ n ih =>
  intro S i
  have h2:(S 0).toNat≤1:=by cases S 0<;>simp
  cases i with
  | zero =>
   rw [Nat.testBit_zero,rM,show (2 * rM n (fun i=>S (i+1))+(S 0).toNat) % 2=(S 0).toNat by omega]
   cases S 0<;>simp
  | succ i =>
   rw [Nat.testBit_succ,rM,show (2 * rM n (fun i=>S (i+1))+(S 0).toNat) / 2=rM n (fun i=>S (i+1)) by omega,ih]
   simp
/-- The eight marks, as the code keeps them. -/
def lb (T:Nat→Bool):List Bool:=(List.range 8).map T
theorem GA (T:Nat→Bool) {i:Nat} (h:i < 8):nS false (lb T) (i:Int)=T i:=by
 unfold nS lb
 rw [List.getD_eq_getElem?_getD,Int.toNat_natCast,List.getElem?_map,List.getElem?_range h]
 rfl
theorem ads {S T:Nat→Bool} (h:∀ j,j < 8→S j=T j):lb S=lb T:=by
 unfold lb
 refine List.map_congr_left fun j hj=>h j (by simpa using hj)
theorem SM (T:Nat→Bool) (v:Nat) (b:Bool):(lb T).set v b=lb (fun j=>if j=v then b else T j):=by
 refine List.ext_getElem (by simp [lb]) fun i h1 h2=>?_
 rw [List.getElem_set]
 simp only [lb,List.getElem_map,List.getElem_range]
 by_cases h:v=i
 ·subst h;simp
 ·rw [if_neg h,if_neg (fun e=>h e.symm)]
/-- What has been counted of v's burning before w. -/
def uv (L:Nat→Nat→Int) (T:Nat→Bool) (v w:Nat):Int:=alw w (fun u=>if u=v∨T u=true then 0 else -(L v u))
theorem adZ {L:Nat→Nat→Int} {T:Nat→Bool} {v:Nat} (n:Nat) (h:T v=true):uv L T v n=lH L n T v:=by
 unfold uv lH
 refine l9 fun u _=>?_
 by_cases h1:T u=true
 ·rw [if_pos (Or.inr h1),if_pos h1]
 ·rw [if_neg h1,if_neg (fun e=>e.elim (fun e=>h1 (e ▸ h)) h1)]
theorem adY {L:Nat→Nat→Int} (hL:∀ u w,-20≤L u w∧L u w≤20) (T:Nat→Bool) (v:Nat) {w:Nat} (hw:w≤8):-160≤uv L T v w∧uv L T v w≤160:=by
 have h:=W6 (n:=w) (f:=fun u=>if u=v∨T u=true then 0 else -(L v u)) (fun u _=>by
  have:=hL v u
  by_cases e:u=v∨T u=true
  ·simp only [if_pos e];omega
  ·simp only [if_neg e];omega)
 unfold uv
 omega
theorem Xb (n : Nat) (hn : n ≤ 8) (L : Nat → Nat → Int) (hL : ∀ u w, -20 ≤ L u w ∧ L u w ≤ 20) (c : List Int) (hc : c.length = n) (T : Nat → Bool) (any more : Bool) (v : Nat) (hv : v < n) (R : List Bool × Bool)
  (next:Ev (fun k=>if T v=true∧rd c (v:Int) < lH L n T v then bz.l2 k (b9 n L) c (lb (pN T v)) any true ((v+1:Nat):Int) else bz.l2 k (b9 n L) c (lb T) any more ((v+1:Nat):Int)) R) :
  ∀ (q w:Nat),n - w=q→w≤n→Ev (fun k=>bz.l3 k (b9 n L) c (lb T) any more v (uv L T v w) w) R:=by
 intro q
 induction q with
 | zero =>
  intro w hq hw
  obtain rfl:w=n:=by omega
  refine Ev.step (fun k=>by simp only [bz.l3];rfl) ?_
  simp only [fk,Int.lt_irrefl,if_false,cJ v,show ((v:Int) < 8) by omega,if_true,GA T (show v < 8 by omega),hc,lI v w (by omega),wI ((v:Int)+1) (by omega),Int.toNat_natCast,SM]
  cases hT:T v with
  | false =>
   simp only [hT,Bool.false_eq_true,false_and,if_false] at next ⊢
   exact next
  | true =>
   simp only [hT,true_and,if_true,adZ w hT] at next ⊢
   by_cases h:rd c (v:Int) < lH L w T v
   ·simp only [if_pos h, show lH L w T v > rd c (v : Int) from h, if_true] at next ⊢
    exact next
   ·simp only [if_neg h, show ¬ (lH L w T v > rd c (v : Int)) from h, if_false] at next ⊢
    exact next
 | succ q ih =>
  intro w hq hw
  have hwn:w < n:=by omega
  have e:uv L T v (w+1)=uv L T v w+(if w=v∨T w=true then 0 else -(L v w)):=rfl
  have hb:=adY hL T v (show w≤8 by omega)
  have h1:=hL v w
  have h2:=ih (w+1) (by omega) (by omega)
  refine Ev.step (fun k=>by simp only [bz.l3];rfl) ?_
  simp only [fk,lI w n (by omega),if_true,cJ w,cJ v,show ((w:Int) < 8) by omega,lI v n (by omega),GA T (show w < 8 by omega),nU hv,fE,gH hwn,wI ((w:Int)+1) (by omega)]
  by_cases h:w=v
  ·subst h
   rw [e,if_pos (Or.inl rfl),Int.add_zero] at h2
   simp only [if_true]
   exact h2
  ·simp only [show ¬ ((v : Int) = (w : Int)) by omega, if_false]
   cases hT:T w with
   | true =>
    rw [e,if_pos (Or.inr hT),Int.add_zero] at h2
    simp only [if_true]
    exact h2
   | false =>
    rw [e,if_neg (fun e=>e.elim h (fun e=>by rw [hT] at e;exact absurd e (by decide)))] at h2
    simp only [Bool.false_eq_true,if_false]
    rw [wI (uv L T v w - L v w) (by omega),show uv L T v w - L v w=uv L T v w+-(L v w) by omega]
    exact h2
theorem Ou (n : Nat) (hn : n ≤ 8) (L : Nat → Nat → Int) (hL : ∀ u w, -20 ≤ L u w ∧ L u w ≤ 20) (c : List Int) (hc : c.length = n) (any : Bool) (R : List Bool × Bool) :
  ∀ (d v:Nat) (T:Nat→Bool) (m:Bool),n - v=d→v≤n→Ev (fun k=>bz.l1 k (b9 n L) c (lb (ju L (fun j=>rd c (j:Int)) n d v T m).1) any (ju L (fun j=>rd c (j:Int)) n d v T m).2) R →
  Ev (fun k=>bz.l2 k (b9 n L) c (lb T) any m v) R:=by
 intro d
 induction d with
 | zero =>
  intro v T m hd hv h
  obtain rfl:v=n:=by omega
  refine Ev.step (fun k=>by simp only [bz.l2];rfl) ?_
  simp only [fk,Int.lt_irrefl,if_false]
  exact h
 | succ d ih =>
  intro v T m hd hv h
  have gG:v < n:=by omega
  refine Ev.step (fun k=>by simp only [bz.l2];rfl) ?_
  simp only [fk,lI v n (by omega),if_true]
  have h0:=Xb n hn L hL c hc T any m v gG R ?_ n 0 (by omega) (by omega)
  ·exact h0
  ·by_cases e : T v = true ∧ rd c (v : Int) < lH L n T v
   ·simp only [if_pos e]
    refine ih (v+1) (pN T v) true (by omega) (by omega) ?_
    have e2:ju L (fun j=>rd c (j:Int)) n (d+1) v T m=ju L (fun j=>rd c (j:Int)) n d (v+1) (pN T v) true:=if_pos e
    rw [e2] at h
    exact h
   ·simp only [if_neg e]
    refine ih (v+1) T m (by omega) (by omega) ?_
    have e2:ju L (fun j=>rd c (j:Int)) n (d+1) v T m=ju L (fun j=>rd c (j:Int)) n d (v+1) T m:=if_neg e
    rw [e2] at h
    exact h
theorem Xa (n : Nat) (hn : n ≤ 8) (L : Nat → Nat → Int) (hL : ∀ u w, -20 ≤ L u w ∧ L u w ≤ 20) (ho : ∀ u w, u ≠ w → L u w ≤ 0) (c : List Int) (hc : c.length = n) (any : Bool) (R : List Bool × Bool) :
  ∀ (N:Nat) (T:Nat→Bool),iO n T≤N→Ev (fun k=>bz.l4 k (b9 n L) (lb (mQ L (fun j=>rd c (j:Int)) n N T)) any 0) R→Ev (fun k=>bz.l1 k (b9 n L) c (lb T) any true) R:=by
 have stop:∀ T:Nat→Bool,(ju L (fun j=>rd c (j:Int)) n n 0 T false).2=false→Ev (fun k=>bz.l4 k (b9 n L) (lb T) any 0) R→Ev (fun k=>bz.l1 k (b9 n L) c (lb T) any true) R:=by
  intro T h0 h
  refine Ev.step (fun k=>by simp only [bz.l1];rfl) ?_
  simp only [if_true]
  refine Ou n hn L hL c hc any R n 0 T false (by omega) (by omega) ?_
  obtain ⟨_,e,_⟩:=(Cc (L:=L) (c:=fun j=>rd c (j:Int)) (n:=n) ho n 0 T false (by omega)).2.2.1 h0
  rw [h0,e]
  refine Ev.step (fun k=>by simp only [bz.l1];rfl) ?_
  simp only [Bool.false_eq_true,if_false]
  exact h
 intro N
 induction N with
 | zero=>intro T hT h;exact stop T (Oi ho (by omega)) h
 | succ N ih =>
  intro T hT h
  cases e:(ju L (fun j=>rd c (j:Int)) n n 0 T false).2 with
  | false =>
   rw [show mQ L (fun j=>rd c (j:Int)) n (N+1) T=T from if_neg (by rw [e];decide)] at h
   exact stop T e h
  | true =>
   rw [show mQ L (fun j=>rd c (j:Int)) n (N+1) T=mQ L (fun j=>rd c (j:Int)) n N (ju L (fun j=>rd c (j:Int)) n n 0 T false).1 from if_pos e] at h
   have h5:=(Cc (L:=L) (c:=fun j=>rd c (j:Int)) (n:=n) ho n 0 T false (by omega)).2.2.2.2 e rfl
   refine Ev.step (fun k=>by simp only [bz.l1];rfl) ?_
   simp only [if_true]
   refine Ou n hn L hL c hc any R n 0 T false (by omega) (by omega) ?_
   rw [e]
   exact ih _ (by omega) h
def xu : Nat → Nat → (Nat → Bool) → Bool
 | 0,_,_=>false
 | d+1,v,T=>T v || xu d (v+1) T
theorem Of (T:Nat→Bool):∀ d v,xu d v T=true↔∃ j,v≤j∧j < v+d∧T j=true:=by
 intro d
 induction d with
 | zero=>intro v;simp only [xu,Bool.false_eq_true,false_iff];rintro ⟨j,h1,h2,_⟩;omega
 | succ d ih =>
  intro v
  rw [xu,Bool.or_eq_true,ih]
  constructor
  ·rintro (h | ⟨j, h1, h2, h3⟩)
   ·exact ⟨v,by omega,by omega,h⟩
   ·exact ⟨j,by omega,by omega,h3⟩
  ·rintro ⟨j, h1, h2, h3⟩
   by_cases e:j=v
   ·subst e;exact .inl h3
   ·exact .inr ⟨j,by omega,by omega,h3⟩
theorem Xc (n:Nat) (hn:n≤8) (L:Nat→Nat→Int) (T:Nat→Bool):∀ (d v:Nat) (b:Bool),n - v=d→v≤n→Ev (fun k=>bz.l4 k (b9 n L) (lb T) b v) (lb T,b || xu d v T):=by
 intro d
 induction d with
 | zero =>
  intro v b hd hv
  obtain rfl:v=n:=by omega
  refine Ev.step (fun k=>by simp only [bz.l4];rfl) ?_
  simp only [fk,Int.lt_irrefl,if_false,xu,Bool.or_false]
  exact Ev.now _
 | succ d ih =>
  intro v b hd hv
  have h1:=ih (v+1) true (by omega) (by omega)
  have h2:=ih (v+1) (T v) (by omega) (by omega)
  refine Ev.step (fun k=>by simp only [bz.l4];rfl) ?_
  simp only [fk,lI v n (by omega),if_true,cJ v,show ((v:Int) < 8) by omega,GA T (show v < 8 by omega),wI ((v:Int)+1) (by omega),xu]
  cases b with
  | true=>simp only [if_true,Bool.true_or] at h1 ⊢;exact h1
  | false=>simp only [Bool.false_eq_true,if_false,Bool.false_or];exact h2
def iN (n:Nat) (q:Int):Nat→Bool:=fun j=>decide (j < n) && ((j:Int) != q)
theorem W_ (n : Nat) (hn : n ≤ 8) (L : Nat → Nat → Int) (c : List Int) (q : Int) (R : List Bool × Bool) (next : Ev (fun k => bz.l1 k (b9 n L) c (lb (iN n q)) false true) R) :
  ∀ (d v:Nat),n - v=d→v≤n→Ev (fun k=>bz.l0 k (b9 n L) c q (lb (iN v q)) false v) R:=by
 intro d
 induction d with
 | zero =>
  intro v hd hv
  obtain rfl:v=n:=by omega
  refine Ev.step (fun k=>by simp only [bz.l0];rfl) ?_
  simp only [fk,Int.lt_irrefl,if_false]
  exact next
 | succ d ih =>
  intro v hd hv
  have h1:=ih (v+1) (by omega) (by omega)
  refine Ev.step (fun k=>by simp only [bz.l0];rfl) ?_
  simp only [fk,lI v n (by omega),if_true,cJ v,show ((v:Int) < 8) by omega,wI ((v:Int)+1) (by omega),Int.toNat_natCast,SM]
  rw [show lb (fun j=>if j=v then ((v:Int) != q) else iN v q j)=lb (iN (v+1) q) from ads fun j _=>by
   unfold iN
   by_cases e:j=v
   ·subst e;simp
   ·rw [if_neg e,decide_eq_decide.2 (show j < v↔j < v+1 by omega)]]
  exact h1
/-- Something is left unburnt: the burning's answer. -/
def zV (n:Nat) (L:Nat→Nat→Int) (c:List Int) (q:Int):Bool:=xu n 0 (mQ L (fun j=>rd c (j:Int)) n (iO n (iN n q)) (iN n q))
/-- The answer is yes if a lawful set without q is there. -/
theorem adt (n:Nat) (L:Nat→Nat→Int) (ho:∀ u w,u ≠ w→L u w≤0) (c:List Int) (q:Nat):zV n L c q=true↔∃ S:Nat→Bool,lawful L (fun j=>rd c (j:Int)) n S∧S q=false∧∃ j,j < n∧S j=true:=by
 obtain ⟨h1,h2,h3⟩:=Oj (L:=L) (c:=fun j=>rd c (j:Int)) (n:=n) ho (iO n (iN n q)) (iN n q) (Nat.le_refl _)
 unfold zV
 rw [Of]
 constructor
 ·rintro ⟨j, _, hj, hT⟩
  refine ⟨_,h1,?_,j,by omega,hT⟩
  cases e:mQ L (fun j=>rd c (j:Int)) n (iO n (iN n q)) (iN n q) q with
  | false=>rfl
  | true =>
   have:=h2 q e
   simp [iN] at this
 ·rintro ⟨S, hS, hq, j, hj, hT⟩
  refine ⟨j,by omega,by omega,h3 S hS (fun i hi P5=>?_) j hj hT⟩
  unfold iN
  have:i ≠ q:=fun e=>by rw [e,hq] at P5;exact absurd P5 (by decide)
  simp only [hi,decide_true,Bool.true_and,bne_iff_ne,ne_eq]
  omega
theorem Ol (m i:Nat) (hm:m≤256) (hi:i≤8):Go.bits .and .i64 (shr .i64 (m:Int) (i:Int)) 1=if m.testBit i=true then 1 else 0:=by
 have e1:shr .i64 (m:Int) (i:Int)=((m / 2 ^ i:Nat):Int):=by
  unfold shr
  rw [Int.toNat_natCast,Nat.min_eq_left (show i≤IntKind.i64.bits by show i≤64;omega)]
  simp
 have hy:m / 2 ^ i≤256:=Nat.le_trans (Nat.div_le_self _ _) hm
 rw [e1,Nat.testBit_eq_decide_div_mod_eq]
 generalize m / 2 ^ i=y at hy ⊢
 have e:Go.bits .and .i64 (y:Int) 1=IntKind.i64.wrap ((BitVec.ofInt 64 (y:Int) &&& BitVec.ofInt 64 1).toNat:Int):=rfl
 have e2:(BitVec.ofInt 64 (y:Int)).toNat=y:=by
  rw [BitVec.ofInt_natCast,BitVec.toNat_ofNat]
  omega
 rw [e,BitVec.toNat_and,e2,show (BitVec.ofInt 64 1).toNat=1 from rfl,Nat.and_one_is_mod,IntWalk.i64_left,jO (by omega) (by omega)]
 by_cases h:y % 2=1
 ·rw [h];rfl
 ·rw [show y % 2=0 by omega];rfl
theorem aey (n:Nat) (hn:n≤8):shl .i64 1 (n:Int)=((2 ^ n:Nat):Int):=by
 have h:n=0∨n=1∨n=2∨n=3∨n=4∨n=5∨n=6∨n=7∨n=8:=by omega
 rcases h with rfl|rfl|rfl|rfl|rfl|rfl|rfl|rfl|rfl<;>decide
theorem ad2 {n:Nat} (hn:n≤8):2 ^ n≤256:=Nat.pow_le_pow_right (n:=2) (by decide) hn
def sW (m i:Nat):Int:=if m.testBit i=true then 1 else 0
def sL (n m:Nat):List Int:=aE n (sW m)
/-- What row r does to w. -/
def gW (L:Nat→Nat→Int) (m w r:Nat):Int:=if m.testBit r=true then L r w else 0
def ane (n:Nat) (L:Nat→Nat→Int) (c:List Int) (m:Nat):List Int:=aE n (fun w=>rd c (w:Int) - alw n (gW L m w))
theorem Li {l:List (List Int)} (hl:l.length≤10) (u w:Nat):-20≤bP l l.length u w∧bP l l.length u w≤20:=by
 have:=SG l l.length u w
 omega
/-- Is no vertex of the set in debt behind the firing, from v on? -/
def okF (n : Nat) (L : Nat → Nat → Int) (c : List Int) (m : Nat) : Nat → Nat → Bool
 | 0,_=>true
 | d+1,v=>(!m.testBit v || decide (0≤rd c (v:Int) - alw n (gW L m v))) && okF n L c m d (v+1)
theorem S8 (n:Nat) (L:Nat→Nat→Int) (c:List Int) (m:Nat):∀ d v,okF n L c m d v=true↔∀ j,v≤j→j < v+d→m.testBit j=true→0≤rd c (j:Int) - alw n (gW L m j):=by
 intro d
 induction d with
 | zero=>intro v;simp only [okF,true_iff];intro j h1 h2;omega
 | succ d ih =>
  intro v
  rw [okF,Bool.and_eq_true,ih]
  constructor
  ·rintro ⟨h1, h2⟩ j zu hj2 hb
   by_cases e:j=v
   ·subst e
    rw [hb] at h1
    simpa using h1
   ·exact h2 j (by omega) (by omega) hb
  ·intro h
   refine ⟨?_,fun j h1 h2 hb=>h j (by omega) (by omega) hb⟩
   cases e:m.testBit v with
   | false=>rfl
   | true=>simpa using h v (by omega) (by omega) e
theorem adz (n : Nat) (hn : n ≤ 8) (L : Nat → Nat → Int) (c : List Int) (q : Int) (P m : Nat) (l : List (List Int)) (R : List Int) : ∀ (d v : Nat) (b : Bool), n - v = d → v ≤ n →
  Ev (fun k=>if (b && okF n L c m d v)=true then (if sL n m=[] then none else some (sL n m)) else alv.l0 k c q P (wrap64 ((m:Int)+1)) n l) R →
  Ev (fun k=>alv.l2 k c q (sL n m) b P m (ane n L c m) n v n l) R:=by
 intro d
 induction d with
 | zero =>
  intro v b hd hv h
  obtain rfl:v=n:=by omega
  refine Ev.step (fun k=>by simp only [alv.l2];rfl) ?_
  simp only [Int.lt_irrefl,if_false]
  simp only [okF,Bool.and_true] at h
  exact h
 | succ d ih =>
  intro v b hd hv h
  have gG:v < n:=by omega
  have hle:(ane n L c m).length=n:=fE _ _
  have hls:(sL n m).length=n:=fE _ _
  have hsr:rd (sL n m) (v:Int)=sW m v:=gH gG
  have her:rd (ane n L c m) (v:Int)=rd c (v:Int) - alw n (gW L m v):=gH gG
  refine Ev.step (fun k=>by simp only [alv.l2];rfl) ?_
  simp only [lI v n (by omega),if_true,cJ v,hle,hls,hsr,her,wI ((v:Int)+1) (by omega)]
  simp only [okF] at h
  cases b with
  | false =>
   simp only [Bool.false_and,Bool.false_eq_true,if_false] at h ⊢
   refine ih (v+1) false (by omega) (by omega) ?_
   simp only [Bool.false_and,Bool.false_eq_true,if_false]
   exact h
  | true =>
   simp only [if_true,Bool.true_and] at h ⊢
   unfold sW
   cases e:m.testBit v with
   | false =>
    simp only [e,Bool.not_false,Bool.true_or,Bool.true_and,Bool.false_eq_true,if_false,if_true] at h ⊢
    refine ih (v+1) true (by omega) (by omega) ?_
    simp only [Bool.true_and]
    exact h
   | true =>
    simp only [e,Bool.not_true,Bool.false_or,if_true,show ¬ ((1:Int)=0) by decide,if_false,ge_iff_le] at h ⊢
    exact ih (v+1) (decide (0≤rd c (v:Int) - alw n (gW L m v))) (by omega) (by omega) h
theorem ady (n : Nat) (hn : n ≤ 8) (c : List Int) (q : Int) (P m : Nat) (hm : m ≤ 256) (l : List (List Int)) (F R : List Int) (hF : Ev (fun k => cG.f k n l c (sL n m)) F)
  (next:Ev (fun k=>alv.l2 k c q (sL n m) true P m F (F.length:Int) 0 n l) R):∀ (d v:Nat),n - v=d→v≤n →
  Ev (fun k=>alv.l1 k c q m (aE n (fun w=>if w < v then sW m w else 0)) P m n v n l) R:=by
 intro d
 induction d with
 | zero =>
  intro v hd hv
  obtain rfl:v=n:=by omega
  refine Ev.step (fun k=>by simp only [alv.l1];rfl) ?_
  simp only [Int.lt_irrefl,if_false]
  rw [show aE v (fun w=>if w < v then sW m w else 0)=sL v m from kJ fun w hw=>if_pos hw]
  exact Ev.bind hF next
 | succ d ih =>
  intro v hd hv
  have gG:v < n:=by omega
  have h1:=ih (v+1) (by omega) (by omega)
  refine Ev.step (fun k=>by simp only [alv.l1];rfl) ?_
  simp only [lI v n (by omega),if_true,cJ v,fE,Int.toNat_natCast,Ol m v hm (by omega),qT,wI ((v:Int)+1) (by omega)]
  rw [show aE n (fun j=>if j=v then (if m.testBit v=true then 1 else 0) else if j < v then sW m j else 0)=aE n (fun w=>if w < v+1 then sW m w else 0) from kJ fun w _=>by
   by_cases e:w=v
   ·subst e;rw [if_pos rfl,if_pos (show w < w+1 by omega)];rfl
   ·rw [if_neg e]
    by_cases e2:w < v
    ·rw [if_pos e2,if_pos (show w < v+1 by omega)]
    ·rw [if_neg e2,if_neg (show ¬ w < v+1 by omega)]]
  exact h1
/-- A number that stands for a lawful set. -/
def zb (n:Nat) (L:Nat→Nat→Int) (c:List Int) (q m:Nat):Prop:=m ≠ 0∧m.testBit q=false∧okF n L c m n 0=true
theorem acG (c:List Int) (hc:c.length≤1048576):∀ (d i z:Nat),c.length - i=d→i≤c.length→z≤i→Ev (fun k=>iK.l0 k c z i) ((z+jM c d i:Nat):Int):=by
 intro d
 induction d with
 | zero =>
  intro i z hd hi hz
  obtain rfl:i=c.length:=by omega
  refine Ev.step (fun k=>by simp only [iK.l0];rfl) ?_
  simp only [Int.lt_irrefl,if_false]
  exact Ev.now _
 | succ d ih =>
  intro i z hd hi hz
  refine Ev.step (fun k=>by simp only [iK.l0];rfl) ?_
  simp only [show ((i:Int) < (c.length:Int)) by omega,cJ i,if_true,wI ((i:Int)+1) (by omega),wI ((z:Int)+1) (by omega)]
  by_cases h:rd c (i:Int)=(i:Int)
  ·have h1 := ih (i + 1) (z + 1) (by omega) (by omega) (by omega)
   rw [show jM c (d+1) i=1+jM c d (i+1) from by rw [Cr,if_pos h],show z+(1+jM c d (i+1))=z+1+jM c d (i+1) by omega]
   simp only [h,if_true]
   exact h1
  ·have h1 := ih (i + 1) z (by omega) (by omega) (by omega)
   rw [show jM c (d+1) i=jM c d (i+1) from by rw [Cr,if_neg h,Nat.zero_add]]
   simp only [h,if_false]
   exact h1
theorem acF (n:Nat) (mA:1≤n) (hn:n≤8) (l:List (List Int)) (hl:l.length≤10) (hE:endsIn n l):Ev (fun k=>ni.f k n l) (qQ (jL n l)):=by
 have FV:=Ft n l hE
 unfold ni.f
 have h:Ev (fun k=>iK.f k n l) ((jM (jL n l) (jL n l).length 0:Nat):Int):=by
  unfold iK.f
  refine Ev.bind (aeH n (by omega) l (by omega) hE) ?_
  have h:=acG (jL n l) (by have:=FV.1;omega) (jL n l).length 0 0 (by omega) (by omega) (by omega)
  rw [Nat.zero_add] at h
  exact h
 refine Ev.bind h ?_
 rw [OS mA FV]
 exact Ev.now _
theorem ad0 (n:Nat) (hn:n≤8) (l:List (List Int)) (hl:l.length≤10) (hE:endsIn n l):Ev (fun k=>amc.f k n l) ((jM (jL n l) (jL n l).length 0:Nat):Int):=by
 have FV:=Ft n l hE
 unfold amc.f
 refine Ev.bind (acq n (by omega) l (by omega) hE) ?_
 exact Ev.bind (Yu _ (by have:=FV.1;omega)) (Ev.now _)
/-- The code of chips and a vertex upon a graph in one part. -/
def yU (a:Int) (l:List (List Int)) (c:List Int) (q:Int):Int :=
 if mC a l then (if vV a c && amk a q then (if qQ (jL a.toNat l) then 0 else 5) else 2) else 1
theorem Sm (a:Int) (l:List (List Int)) (c:List Int) (q:Int) (hl:l.length≤maxLen) (hc:c.length≤maxLen):Ev (fun k=>alJ.f k a l q [c]) (yU a l c q):=by
 unfold alJ.f yU
 refine Ev.bind (acK a l c hl hc) ?_
 cases hg:mC a l with
 | false =>
  simp only [Bool.false_eq_true,if_false,show ¬ ((1:Int)=0) by omega]
  refine Ev.step (fun k=>by simp only [alJ.j0];rfl) ?_
  simp only [Bool.false_eq_true,if_false,show ¬ ((1:Int)=0) by omega]
  exact Ev.now _
 | true =>
  cases hk:vV a c with
  | false =>
   simp only [Bool.false_eq_true,if_false,if_true,Bool.false_and,show ¬ ((2:Int)=0) by omega]
   refine Ev.step (fun k=>by simp only [alJ.j0];rfl) ?_
   simp only [Bool.false_eq_true,if_false,show ¬ ((2:Int)=0) by omega]
   exact Ev.now _
  | true =>
   simp only [if_true,Gp,Option.bind_some,Bool.true_and]
   rw [show (decide (0≤q) && decide (q≤wrap64 (a - 1)))=amk a q from rfl]
   refine Ev.step (fun k=>by simp only [alJ.j0];rfl) ?_
   cases amk a q with
   | false=>simp only [Bool.not_false,if_true,Bool.false_eq_true,if_false,show ¬ ((2:Int)=0) by omega];exact Ev.now _
   | true =>
    obtain ⟨n,rfl,mA,wG,hE⟩:=K0 hg
    have Bf:=K1 hg
    simp only [Bool.not_true,Bool.false_eq_true,if_false,if_true,Int.toNat_natCast]
    refine Ev.bind (acF n mA wG l Bf hE) ?_
    by_cases h3:qQ (jL n l)=true
    ·simp only [if_pos h3];exact Ev.now _
    ·simp only [if_neg h3];exact Ev.now _
theorem OK (a:Int) (l:List (List Int)) (c:List Int) (q:Int) (hl:l.length≤maxLen):Ev (fun k=>pQ.f k a l q [c]) (yU a l c q):=by
 unfold pQ.f
 refine Ev.bind ?_ (Ev.now _)
 unfold amb.f yU
 refine Ev.bind (aco a l hl) ?_
 cases hg:mC a l with
 | false=>simp only [Bool.false_eq_true,if_false];exact Ev.now _
 | true =>
  simp only [if_true,vB.f,Af.f,Mi,nL,Option.bind_some,Option.map_some]
  rw [show (decide ((c.length:Int)=a) && !c.any oq)=vV a c from rfl,show (decide (0≤q) && decide (q≤wrap64 (a - 1)))=amk a q from rfl]
  cases amk a q with
  | false=>simp only [Bool.false_eq_true,if_false,Bool.and_false];exact Ev.now _
  | true =>
   cases vV a c with
   | false=>simp;exact Ev.now _
   | true =>
    obtain ⟨n,rfl,mA,wG,hE⟩:=K0 hg
    have Bf:=K1 hg
    have h1:=OS mA (Ft n l hE)
    have h2:=ad0 n wG l Bf hE
    simp only [if_true,Bool.not_true,Bool.false_eq_true,if_false,Option.bind_some,Bool.and_self,Int.toNat_natCast,show ¬ ((0:Int)≤-1) by omega]
    refine Ev.bind h2 ?_
    by_cases h3:qQ (jL n l)=true
    ·rw [h3] at h1
     simp only [if_pos h3,if_pos (beq_iff_eq.1 h1)]
     exact Ev.now _
    ·rw [Bool.eq_false_iff.2 h3] at h1
     simp only [if_neg h3,if_neg (beq_eq_false_iff_ne.1 h1)]
     exact Ev.now _
/-- Off the diagonal nothing above 0, rows that add up to 0 or more, and each row that adds up to 0 leads on to another one. -/
def amX (m:Nat) (A:Nat→Nat→Int) (D:Nat→Nat):Prop:=∀ v,v < m→(∀ w,w < m→w ≠ v→A v w≤0)∧0≤ay m (A v)∧(ay m (A v)≤0→∃ w,w < m∧D w < D v∧A v w < 0)
theorem YF {m:Nat} {A:Nat→Nat→Int} {D:Nat→Nat} (h:amX (m+1) A D):amX m A D:=by
 intro v hv
 obtain ⟨h1,h2,h3⟩:=h v (by omega)
 have e:ay (m+1) (A v)=ay m (A v)+A v m:=rfl
 have h4:=h1 m (by omega) (by omega)
 refine ⟨fun w hw hn=>h1 w (by omega) hn,by omega,fun h5=>?_⟩
 obtain ⟨w,hw,hd,ha⟩:=h3 (by omega)
 by_cases hwm:w=m
 ·rw [hwm] at ha;omega
 ·exact ⟨w,by omega,hd,ha⟩
theorem YG {m:Nat} {A:Nat→Nat→Int} {D:Nat→Nat} (h:amX m A D) (x:Nat→Int) (hx:∀ v,v < m→ay m (fun w=>A v w * x w)=0) (M:Int) (hM:0 < M) (hb:∀ v,v < m→x v≤M):∀ d v,v < m→D v < d→x v < M:=by
 intro d
 induction d with
 | zero=>intro v _ h;omega
 | succ d ih =>
  intro v hv hd
  obtain ⟨h1,h2,h3⟩:=h v hv
  by_cases e:x v < M
  ·exact e
  ·exfalso
   have e2:x v=M:=by have:=hb v hv;omega
   have s1:ay m (fun w=>A v w * x w)=M * ay m (A v)+ay m (fun w=>A v w * (x w - M)):=by
    rw [← jC,← uY]
    exact eI fun w _=>by rw [Int.mul_sub,Int.mul_comm M];omega
   have s2:∀ w,w < m→0≤A v w * (x w - M):=fun w hw=>by
    by_cases R_:w=v
    ·rw [R_,e2,Int.sub_self,Int.mul_zero];exact Int.le_refl _
    ·exact Int.mul_nonneg_of_nonpos_of_nonpos (h1 w hw R_) (by have:=hb w hw;omega)
   have s3:=pL s2
   have s4:0≤M * ay m (A v):=Int.mul_nonneg (by omega) h2
   have s5:=hx v hv
   have s6:M * ay m (A v)=0:=by omega
   have s7:ay m (A v)=0:=(Int.mul_eq_zero.1 s6).resolve_left (by omega)
   obtain ⟨w,hw,hdw,ha⟩:=h3 (by omega)
   have h8:=ih w hw (by omega)
   have s9:=Tw s2 w hw
   have s10:0 < A v w * (x w - M):=Int.mul_pos_of_neg_of_neg ha (by omega)
   omega
theorem OY {m:Nat} {A:Nat→Nat→Int} {D:Nat→Nat} (h:amX m A D) (x:Nat→Int) (hx:∀ v,v < m→ay m (fun w=>A v w * x w)=0):∀ M:Nat,(∀ v,v < m→x v≤M)→∀ v,v < m→x v≤0:=by
 intro M
 induction M with
 | zero=>intro hb v hv;exact hb v hv
 | succ M ih =>
  intro hb
  exact ih fun v hv=>by
   have:=YG h x hx ((M+1:Nat):Int) (by omega) hb (D v+1) v hv (by omega)
   omega
theorem YE {m:Nat} {A:Nat→Nat→Int} {D:Nat→Nat} (h:amX m A D) (x:Nat→Int) (hx:∀ v,v < m→ay m (fun w=>A v w * x w)=0) (v:Nat) (hv:v < m):x v=0:=by
 have b:∀ v,v < m→alh (x v)≤ay m (fun v=>alh (x v)):=fun v hv=>K4 x v hv
 obtain ⟨M,hM⟩:∃ M:Nat,(M:Int)=ay m (fun v=>alh (x v)):=⟨_,Int.toNat_of_nonneg (pL fun _ _=>iQ _)⟩
 have h1:=OY h x hx M (fun v hv=>by have:=b v hv;unfold alh at this hM;omega) v hv
 have h2:=OY h (fun v=>-x v) (fun v hv=>by rw [eI (g:=fun w=>-(A v w * x w)) (fun w _=>Int.mul_neg _ _),DX,hx v hv];rfl) M (fun v hv=>by have:=b v hv;unfold alh at this hM;omega) v hv
 have h3:-x v≤0:=h2
 omega
theorem OX:∀ {m:Nat} {A:Nat→Nat→Int} {D:Nat→Nat},amX m A D→aH m A ≠ 0:=by
 intro m
 induction m with
 | zero=>intro A D _;show (1:Int) ≠ 0;decide
 | succ m ih =>
  intro A D h h0
  have h1:=ih (YF h)
  have h2:=YE h (fun j=>ia (m+1) A j m) (fun v hv=>by rw [K5 A v m (by omega) hv,h0];split<;>rfl) m (by omega)
  have h3:ia (m+1) A m m=aH m A:=by
   unfold ia
   rw [DT _ (fun b hb=>by unfold bh;rw [if_pos rfl];exact zP (by omega))]
   rw [show bh A m (cL m) m m=1 from by unfold bh;rw [if_pos rfl];exact Gu m,Int.one_mul]
   exact jg fun a b ha hb=>by unfold bh;rw [if_neg (by omega)]
  exact h1 (by rw [← h3];exact h2)
/-- A column put in place of each column solves the equations. -/
theorem Yw {m:Nat} (A:Nat→Nat→Int) (c:Nat→Int) (r:Nat) (hr:r < m):ay m (fun k=>A r k * aH m (cu A k c))=aH m A * c r:=by
 have e:∀ k,k < m→aH m (cu A k c)=ay m (fun i=>c i * ia m A k i):=fun k hk=>by
  rw [show aH m (cu A k c)=aH m (cu A k (fun b=>ay m (fun j=>c j * cL j b))) from jg fun a b ha hb=>by
   unfold cu
   by_cases h:b=k
   ·rw [if_pos h, if_pos h]
    exact (DW c a ha).symm
   ·rw [if_neg h,if_neg h],Gt A k hk m c cL]
  exact eI fun i hi=>by rw [Sq A i k hi hk]
 rw [eI (g:=fun k=>ay m (fun i=>c i * (A r k * ia m A k i))) (fun k hk=>by
  rw [e k hk,← jC]
  exact eI fun i _=>Int.mul_left_comm _ _ _),zT,eI (g:=fun i=>c i * (if r=i then aH m A else 0)) (fun i hi=>by
  rw [jC,K5 A r i hi hr]),u_ r hr (fun i _ hne=>by rw [if_neg (fun h=>hne h.symm),Int.mul_zero]),if_pos rfl,Int.mul_comm]
theorem lO (n:Nat) (f:Nat→Int):alw n f=ay n f:=by
 induction n with
 | zero=>rfl
 | succ n ih=>show alw n f+f n=ay n f+f n;rw [ih]
/-- A Laplacian: what the steps upon chips ask of it. -/
structure eB (n:Nat) (L:Nat→Nat→Int):Prop where
 sym:∀ i j,L i j=L j i
 sum:∀ r,alw n (fun j=>L r j)=0
 off:∀ u w,u ≠ w→L u w≤0
 top:∀ v,L v v≤20
 tr:alw n (fun v=>L v v)≤20
theorem adn {n:Nat} {l:List (List Int)} (hE:endsIn n l):∀ i,i≤l.length→alw n (fun v=>bP l i v v)≤2 * (i:Int):=by
 intro i
 induction i with
 | zero =>
  intro _
  rw [l9 (g:=fun _=>0) (fun j _=>by unfold bP;rw [if_pos rfl];rfl),Cg]
  decide
 | succ i ih =>
  intro hi
  obtain ⟨_,u,v,hu,hv,hun,gG⟩:=hE i (by omega)
  have h1:alw n (fun r=>bP l (i+1) r r)≤alw n (fun r=>bP l i r r+((if r=u then 1 else 0)+(if r=v then 1 else 0))):=r6 fun r _=>by
   rw [yd n l i u v hu hv r r]
   by_cases e:u=v
   ·rw [if_pos e]
    split<;>split<;>omega
   ·rw [if_neg e, if_neg (show ¬ (r = u ∧ r = v) from fun h => e (by omega)), if_neg (show ¬ (r = v ∧ r = u) from fun h => e (by omega))]
    by_cases e1:r=u
    ·rw [if_pos ⟨e1, e1⟩, if_pos e1]
     split<;>split<;>omega
    ·rw [if_neg (fun h => e1 h.1), if_neg e1]
     split<;>split<;>omega
  have h2:=ih (by omega)
  rw [r5,r5,qz hun,qz gG] at h1
  omega
theorem zU {n:Nat} {l:List (List Int)} (hE:endsIn n l) (hl:l.length≤10):eB n (bP l l.length) :=
 ⟨adm hE l.length (Nat.le_refl _),adl hE l.length (Nat.le_refl _),SJ l.length,fun v=>(Li hl v v).2,by have:=adn hE l.length (Nat.le_refl _);omega⟩
/-- What a vertex loses when the vertices of a set are fired. -/
def gF (L:Nat→Nat→Int) (n:Nat) (S:Nat→Bool) (v:Nat):Int:=alw n (fun w=>if S w=true then L v w else 0)
theorem ZI {n:Nat} {L:Nat→Nat→Int} (h:eB n L) (S:Nat→Bool) (v:Nat) (hv:v < n) (hS:S v=true):0≤gF L n S v∧gF L n S v≤20:=by
 constructor
 ·rw [← eB.sum h v]
  refine r6 fun w _=>?_
  by_cases e:S w=true
  ·rw [if_pos e];exact Int.le_refl _
  ·rw [if_neg e]
   exact eB.off h v w (fun e2=>e (by rw [← e2];exact hS))
 ·refine Int.le_trans ?_ (eB.top h v)
  rw [← qz hv (L v v)]
  refine r6 fun w _=>?_
  by_cases e:w=v
  ·rw [if_pos e,e,if_pos hS];exact Int.le_refl _
  ·rw [if_neg e]
   have:=eB.off h v w (fun e2=>e e2.symm)
   split<;>omega
theorem FA {n:Nat} {L:Nat→Nat→Int} (h:eB n L) (S:Nat→Bool) (v:Nat) (hv:v < n) (hS:S v=false):-20≤gF L n S v∧gF L n S v≤0:=by
 constructor
 ·have h1:alw n (fun w=>L v w+(if w=v then -(L v v) else 0))≤gF L n S v:=r6 fun w _=>by
   by_cases e:w=v
   ·rw [if_pos e,e,if_neg (by rw [hS];decide)];omega
   ·rw [if_neg e]
    have:=eB.off h v w (fun e2=>e e2.symm)
    split<;>omega
  rw [r5,qz hv,eB.sum h v] at h1
  have:=eB.top h v
  omega
 ·rw [← Cg n]
  refine r6 fun w _=>?_
  by_cases e:S w=true
  ·rw [if_pos e]
   exact eB.off h v w (fun e2=>by rw [e2,e] at hS;exact absurd hS (by decide))
  ·rw [if_neg e];exact Int.le_refl _
theorem ZJ {n:Nat} {L:Nat→Nat→Int} (h:eB n L) (S:Nat→Bool) (v:Nat) (hS:S v=false) (w:Nat) (hw:w < n) (hSw:S w=true) (KW:L v w≤-1):gF L n S v≤-1:=by
 rw [← qz hw (-1)]
 refine r6 fun j _=>?_
 by_cases e:j=w
 ·rw [if_pos e,e,if_pos hSw];exact KW
 ·rw [if_neg e]
  by_cases e1:S j=true
  ·rw [if_pos e1]
   exact eB.off h v j (fun e2=>by rw [e2,e1] at hS;exact absurd hS (by decide))
  ·rw [if_neg e1];exact Int.le_refl _
theorem ZH {n:Nat} {L:Nat→Nat→Int} (h:eB n L) (S:Nat→Bool) (v:Nat) (hv:v < n):-20≤gF L n S v∧gF L n S v≤20:=by
 cases e:S v with
 | true=>have:=ZI h S v hv e;omega
 | false=>have:=FA h S v hv e;omega
/-- The chips of one are those of the other with vertices fired. -/
def mR (n:Nat) (L:Nat→Nat→Int) (c d:Nat→Int):Prop:=∃ f:Nat→Int,∀ v,v < n→d v=c v - alw n (fun w=>L v w * f w)
theorem Cv (n:Nat) (L:Nat→Nat→Int) (c:Nat→Int):mR n L c c :=
 ⟨fun _=>0,fun v _=>by rw [l9 (g:=fun _=>0) (fun w _=>Int.mul_zero _),Cg,Int.sub_zero]⟩
theorem anf {n:Nat} {L:Nat→Nat→Int} {c d e:Nat→Int} (h1:mR n L c d) (h2:mR n L d e):mR n L c e:=by
 obtain ⟨f,hf⟩:=h1
 obtain ⟨g,hg⟩:=h2
 refine ⟨fun w=>f w+g w,fun v hv=>?_⟩
 rw [hg v hv,hf v hv,l9 (f:=fun w=>L v w * (f w+g w)) (g:=fun w=>L v w * f w+L v w * g w) (fun w _=>Int.mul_add _ _ _),r5]
 omega
theorem Zr {n:Nat} {L:Nat→Nat→Int} {c d:Nat→Int} (h:mR n L c d):mR n L d c:=by
 obtain ⟨f,hf⟩:=h
 refine ⟨fun w=>-f w,fun v hv=>?_⟩
 rw [hf v hv,l9 (f:=fun w=>L v w * -f w) (g:=fun w=>-(L v w * f w)) (fun w _=>Int.mul_neg _ _),Cf]
 omega
theorem Pe {n:Nat} {L:Nat→Nat→Int} (S:Nat→Bool) {c d:Nat→Int} (h:∀ v,v < n→d v=c v - gF L n S v):mR n L c d :=
 ⟨fun w=>if S w=true then 1 else 0,fun v hv=>by
  rw [h v hv]
  unfold gF
  congr 1
  refine l9 fun w _=>?_
  by_cases e:S w=true
  ·show (if S w = true then L v w else 0) = L v w * (if S w = true then 1 else 0)
   rw [if_pos e,if_pos e,Int.mul_one]
  ·show (if S w = true then L v w else 0) = L v w * (if S w = true then 1 else 0)
   rw [if_neg e,if_neg e,Int.mul_zero]⟩
theorem Pf {n:Nat} {L:Nat→Nat→Int} (h:eB n L) {c d:Nat→Int} (e:mR n L c d):alw n d=alw n c:=by
 obtain ⟨f,hf⟩:=e
 rw [l9 hf,l9 (f:=fun v=>c v - alw n (fun w=>L v w * f w)) (g:=fun v=>c v+-(alw n (fun w=>L v w * f w))) (fun v _=>Int.sub_eq_add_neg),r5,Cf]
 have:alw n (fun v=>alw n (fun w=>L v w * f w))=0:=by
  rw [lO,eI (g:=fun v=>ay n (fun w=>L v w * f w)) (fun v _=>lO _ _),zT]
  refine pM fun w _=>?_
  rw [eI (g:=fun v=>f w * L w v) (fun v _=>by rw [Int.mul_comm,eB.sym h v w]),jC,← lO,eB.sum h w,Int.mul_zero]
 rw [this]
 omega
/-- Chips that are reduced at q. -/
def wU (n:Nat) (L:Nat→Nat→Int) (q:Nat) (c:Nat→Int):Prop:=(∀ v,v < n→v ≠ q→0≤c v)∧∀ S:Nat→Bool,lawful L c n S→S q=false→∀ j,j < n→S j=false
theorem Tk {n : Nat} {L : Nat → Nat → Int} (h : eB n L) {q : Nat} {c d : Nat → Int} {f : Nat → Int} (hf : ∀ v, v < n → d v = c v - alw n (fun w => L v w * f w)) (r : wU n L q c) (hd : ∀ v, v < n → v ≠ q → 0 ≤ d v) :
  ∀ k:Nat,(∀ v,v < n→f v≤f q+k)→∀ v,v < n→f v≤f q:=by
 intro k
 induction k with
 | zero=>intro hb v hv;have:=hb v hv;omega
 | succ k ih =>
  intro hb
  refine ih fun v hv=>?_
  have h1:=r.2 (fun w=>decide (f w=f q+((k+1:Nat):Int))) (fun u hu hS=>by
   have FP:f u=f q+((k+1:Nat):Int):=of_decide_eq_true hS
   have huq:u ≠ q:=fun e=>by rw [e] at FP;omega
   have h2:lH L n (fun w=>decide (f w=f q+((k+1:Nat):Int))) u≤alw n (fun w=>L u w * f w+-(f u) * L u w):=by
    unfold lH
    refine r6 fun w hw=>?_
    have h3:L u w * f w+-(f u) * L u w=-(L u w) * (f u - f w):=by
     rw [Int.mul_sub,Int.neg_mul,Int.neg_mul,Int.neg_mul,Int.mul_comm (f u)]
     omega
    rw [h3]
    by_cases e:f w=f q+((k+1:Nat):Int)
    ·rw [if_pos (decide_eq_true e),FP,e,Int.sub_self,Int.mul_zero];exact Int.le_refl _
    ·rw [if_neg (by simpa using e)]
     have h4:=eB.off h u w (fun e2=>e (by rw [← e2];exact FP))
     have h5:=hb w hw
     have h6:-(L u w) * 1≤-(L u w) * (f u - f w):=Int.mul_le_mul_of_nonneg_left (by omega) (by omega)
     rw [Int.mul_one] at h6
     exact h6
   rw [r5] at h2
   have h7:alw n (fun w=>-(f u) * L u w)=0:=by
    rw [lO,jC,← lO,eB.sum h u,Int.mul_zero]
   have h8:=hf u hu
   have h9:=hd u hu huq
   omega) (decide_eq_false (by omega)) v hv
  have h10:f v ≠ f q+((k+1:Nat):Int):=of_decide_eq_false h1
  have h11:=hb v hv
  omega
/-- Two reduced forms of the same chips are one. -/
theorem aee {n:Nat} {L:Nat→Nat→Int} (h:eB n L) {q:Nat} {c d:Nat→Int} (e:mR n L c d) (r:wU n L q c) (r2:wU n L q d) (v:Nat) (hv:v < n):c v=d v:=by
 have top:∀ f:Nat→Int,∃ k:Nat,∀ v,v < n→f v≤f q+k:=fun f=>by
  obtain ⟨k,hk⟩:∃ k:Nat,(k:Int)=ay n (fun v=>alh (f v - f q)):=⟨_,Int.toNat_of_nonneg (pL fun _ _=>iQ _)⟩
  refine ⟨k,fun v hv=>?_⟩
  have:=K4 (fun v=>f v - f q) v hv
  unfold alh at this hk
  omega
 obtain ⟨f,hf⟩:=e
 have hg:∀ v,v < n→c v=d v - alw n (fun w=>L v w * (fun w=>-f w) w):=fun v hv=>by
  rw [hf v hv,l9 (f:=fun w=>L v w * (fun w=>-f w) w) (g:=fun w=>-(L v w * f w)) (fun w _=>Int.mul_neg _ _),Cf]
  omega
 obtain ⟨k1,zy⟩:=top f
 obtain ⟨k2,hk2⟩:=top (fun w=>-f w)
 have h1:=Tk h hf r r2.1 k1 zy
 have h2:=Tk h hg r2 r.1 k2 hk2
 have h3:∀ w,w < n→f w=f q:=fun w hw=>by
  have a1:=h1 w hw
  have a2:-f w≤-f q:=h2 w hw
  omega
 rw [hf v hv,l9 (g:=fun w=>f q * L v w) (fun w hw=>by rw [h3 w hw,Int.mul_comm]),lO,jC,← lO,eB.sum h v,Int.mul_zero,Int.sub_zero]
/-- Each vertex but q has a neighbour that is nearer. -/
def nO (n:Nat) (L:Nat→Nat→Int) (q:Nat) (D:Nat→Nat):Prop:=q < n∧D q=0∧(∀ v,v < n→D v≤n)∧∀ v,v < n→v ≠ q→∃ w,w < n∧D w < D v∧L v w≤-1
def jh (n:Nat) (D:Nat→Nat) (v:Nat):Int:=((21 ^ (n - D v):Nat):Int)
theorem TS {n:Nat} {L:Nat→Nat→Int} (h:eB n L) {q:Nat} {D:Nat→Nat} (hD:nO n L q D) (v:Nat) (hv:v < n) (hq:v ≠ q):alw n (fun w=>L v w * jh n D w)≤-1:=by
 obtain ⟨w0,hw0,hd0,FZ⟩:=hD.2.2.2 v hv hq
 have hp:∀ w,(0:Int) < jh n D w:=fun w=>by
  have:0 < 21 ^ (n - D w):=Nat.pow_pos (by decide)
  unfold jh
  omega
 have h1:21 * jh n D v≤jh n D w0:=by
  have h2:=hD.2.2.1 v hv
  have h3:21 ^ (n - D v+1)≤21 ^ (n - D w0):=Nat.pow_le_pow_right (by decide) (by omega)
  rw [Nat.pow_succ] at h3
  unfold jh
  omega
 have h4:alw n (fun w=>L v w * jh n D w)≤alw n (fun w=>(if w=v then 20 * jh n D v else 0)+(if w=w0 then -(21 * jh n D v) else 0)):=r6 fun w hw=>by
  by_cases e1:w=v
  ·have h5 := Int.mul_le_mul_of_nonneg_right (eB.top h v) (Int.le_of_lt (hp v))
   rw [if_pos e1,if_neg (fun e2=>by rw [← e2,e1] at hd0;omega),e1]
   omega
  ·have h6 := eB.off h v w (fun e => e1 e.symm)
   rw [if_neg e1]
   by_cases e2:w=w0
   ·rw [if_pos e2, e2]
    have h7:=Int.mul_le_mul_of_nonneg_right FZ (Int.le_of_lt (hp w0))
    omega
   ·rw [if_neg e2]
    have h8:=Int.mul_le_mul_of_nonneg_right h6 (Int.le_of_lt (hp w))
    omega
 rw [r5,qz hv,qz hw0] at h4
 have:=hp v
 omega
/-- What each lawful firing makes less. -/
def wQ (n:Nat) (b:Nat→Int) (q:Nat) (c:Nat→Int):Int:=alw n (fun v=>(b q - b v) * c v)
theorem Tc {n:Nat} {L:Nat→Nat→Int} (h:eB n L) {q:Nat} {D:Nat→Nat} (hD:nO n L q D) (S:Nat→Bool) (hq:S q=false) (hne:∃ j,j < n∧S j=true) {c d:Nat→Int} (hd:∀ v,v < n→d v=c v - gF L n S v):wQ n (jh n D) q d≤wQ n (jh n D) q c - 1:=by
 have h1:wQ n (jh n D) q d=wQ n (jh n D) q c - ay n (fun v=>(jh n D q - jh n D v) * gF L n S v):=by
  unfold wQ
  rw [lO,lO,← Gw]
  exact eI fun v hv=>by rw [hd v hv,Int.mul_sub]
 have h2:ay n (fun v=>(jh n D q - jh n D v) * gF L n S v)=ay n (fun w=>if S w=true then -(alw n (fun v=>L w v * jh n D v)) else 0):=by
  rw [eI (g:=fun v=>ay n (fun w=>(jh n D q - jh n D v) * (if S w=true then L v w else 0))) (fun v _=>by rw [jC];unfold gF;rw [lO]),zT]
  refine eI fun w _=>?_
  by_cases e:S w=true
  ·rw [if_pos e,eI (g:=fun v=>jh n D q * L w v - L w v * jh n D v) (fun v _=>by
    rw [if_pos e,Int.sub_mul,eB.sym h v w,Int.mul_comm (jh n D v)]),Gw,jC,← lO,← lO,eB.sum h w]
   omega
  ·rw [if_neg e]
   exact pM fun v _=>by rw [if_neg e,Int.mul_zero]
 obtain ⟨j,hj,zg⟩:=hne
 have h3:∀ w,w < n→0≤(fun w=>if S w=true then -(alw n (fun v=>L w v * jh n D v)) else 0) w:=fun w hw=>by
  show 0≤if S w=true then _ else _
  by_cases e:S w=true
  ·rw [if_pos e]
   have:=TS h hD w hw (fun e2=>by rw [e2,hq] at e;exact absurd e (by decide))
   omega
  ·rw [if_neg e];exact Int.le_refl _
 have h4:=Tw h3 j hj
 rw [h2] at h1
 have h5:(1:Int)≤(fun w=>if S w=true then -(alw n (fun v=>L w v * jh n D v)) else 0) j:=by
  show 1≤if S j=true then _ else _
  rw [if_pos zg]
  have:=TS h hD j hj (fun e2=>by rw [e2,hq] at zg;exact absurd zg (by decide))
  omega
 have h6:=Int.le_trans h5 h4
 have h7:(1:Int)≤ay n (fun w=>if S w=true then -(alw n (fun v=>L w v * jh n D v)) else 0):=h6
 generalize ay n (fun w=>if S w=true then -(alw n (fun v=>L w v * jh n D v)) else 0)=X at h1 h7
 omega
theorem aoa {n:Nat} {L:Nat→Nat→Int} {q:Nat} {D:Nat→Nat} (hD:nO n L q D) {c:Nat→Int} (hc:∀ v,v < n→v ≠ q→0≤c v):0≤wQ n (jh n D) q c:=by
 unfold wQ
 rw [lO]
 refine pL fun v hv=>?_
 by_cases e:v=q
 ·rw [e,Int.sub_self,Int.zero_mul];exact Int.le_refl _
 ·refine Int.mul_nonneg ?_ (hc v hv e)
  have h1:21 ^ (n - D v)≤21 ^ (n - D q):=Nat.pow_le_pow_right (by decide) (by rw [hD.2.1];omega)
  unfold jh
  omega
theorem adj {n:Nat} {l:List (List Int)} (hE:endsIn n l) (a b:Nat) (hab:a ≠ b):∀ d i,i+d≤l.length→bP l (i+d) a b≤bP l i a b:=by
 intro d
 induction d with
 | zero=>intro i _;exact Int.le_refl _
 | succ d ih =>
  intro i hi
  obtain ⟨_,u,v,hu,hv,_,_⟩:=hE (i+d) (by omega)
  have h1:=ih i (by omega)
  rw [show i+(d+1)=i+d+1 by omega,yd n l (i+d) u v hu hv a b]
  refine Int.le_trans ?_ h1
  by_cases e:u=v
  ·rw [if_pos e];omega
  ·rw [if_neg e, if_neg (show ¬ (a = u ∧ b = u) from fun h => hab (by omega)), if_neg (show ¬ (a = v ∧ b = v) from fun h => hab (by omega))]
   split<;>split<;>omega
/-- An edge stands in the Laplacian. -/
theorem SI {n:Nat} {l:List (List Int)} (hE:endsIn n l) (i:Nat) (hi:i < l.length) (u v:Nat) (hu:rd (ag l (i:Int)) 0=u) (hv:rd (ag l (i:Int)) 1=v) (huv:u ≠ v):bP l l.length u v≤-1∧bP l l.length v u≤-1:=by
 have h1:∀ a b,a ≠ b→(a=u∧b=v∨a=v∧b=u)→bP l l.length a b≤-1:=fun a b hab h=>by
  have h2:=adj hE a b hab (l.length - (i+1)) (i+1) (by omega)
  rw [show i+1+(l.length - (i+1))=l.length by omega,yd n l i u v hu hv a b,if_neg huv] at h2
  have h3:=SJ (l:=l) i a b hab
  rcases h with ⟨h4,h5⟩|⟨h4,h5⟩
  ·rw [if_neg (show ¬ (a = u ∧ b = u) from fun h => hab (by omega)), if_pos (show a = u ∧ b = v from ⟨h4, h5⟩), if_neg (show ¬ (a = v ∧ b = v) from fun h => hab (by omega)), if_neg (show ¬ (a = v ∧ b = u) from fun h => huv (by omega))] at h2
   omega
  ·rw [if_neg (show ¬ (a = u ∧ b = u) from fun h => hab (by omega)), if_neg (show ¬ (a = u ∧ b = v) from fun h => huv (by omega)), if_neg (show ¬ (a = v ∧ b = v) from fun h => hab (by omega)), if_pos (show a = v ∧ b = u from ⟨h4, h5⟩)] at h2
   omega
 exact ⟨h1 u v huv (.inl ⟨rfl,rfl⟩),h1 v u (fun e=>huv e.symm) (.inr ⟨rfl,rfl⟩)⟩
/-- Vertices of one class are alike in all that edges keep. -/
theorem Yd {n : Nat} {l : List (List Int)} (hE : endsIn n l) (P : Nat → Prop) (hP : ∀ i, i < l.length → ∀ u v : Nat, rd (ag l (i : Int)) 0 = u → rd (ag l (i : Int)) 1 = v → (P u ↔ P v)) :
  ∀ (d i:Nat) (c:List Int),i+d≤l.length→c.length=n→(∀ a b:Nat,a < n→b < n→rd c (a:Int)=rd c (b:Int)→(P a↔P b))→∀ a b:Nat,a < n→b < n→rd (pX l d i c) (a:Int)=rd (pX l d i c) (b:Int)→(P a↔P b):=by
 intro d
 induction d with
 | zero=>intro i c _ _ h;exact h
 | succ d ih =>
  intro i c hi hc h
  obtain ⟨hx,u,v,hu,hv,hun,gG⟩:=hE i (by omega)
  rw [show pX l (d+1) i c=pX l d (i+1) (c.map (gl (rd c (rd (ag l (i:Int)) 0)) (rd c (rd (ag l (i:Int)) 1)))) from rfl,hu,hv]
  refine ih (i+1) _ (by omega) (by rw [List.length_map];exact hc) fun a b ha hb e=>?_
  rw [GW _ _ a (by omega),GW _ _ b (by omega)] at e
  have huv:=hP i (by omega) u v hu hv
  have haa:=h a
  have key:∀ w:Nat,w < n→(P w↔P u)∨gl (rd c (u:Int)) (rd c (v:Int)) (rd c (w:Int))=rd c (w:Int)∧rd c (w:Int) ≠ mx (rd c (u:Int)) (rd c (v:Int)):=fun w hw=>by
   by_cases h1:rd c (w:Int)=mx (rd c (u:Int)) (rd c (v:Int))
   ·refine .inl ?_
    unfold mx at h1
    split at h1
    ·first|exact h w u hw hun h1|exact (h w v hw gG h1).trans huv.symm
    ·first|exact (h w v hw gG h1).trans huv.symm|exact h w u hw hun h1
   ·exact .inr ⟨by unfold gl;rw [if_neg h1],h1⟩
  have near:∀ w:Nat,w < n→rd c (w:Int)=mn (rd c (u:Int)) (rd c (v:Int))→(P w↔P u):=fun w hw h1=>by
   unfold mn at h1
   split at h1
   ·first|exact h w u hw hun h1|exact (h w v hw gG h1).trans huv.symm
   ·first|exact (h w v hw gG h1).trans huv.symm|exact h w u hw hun h1
  by_cases zh:rd c (a:Int)=mx (rd c (u:Int)) (rd c (v:Int))
  ·have pa:P a↔P u:=by
    rcases key a ha with h1|⟨_,h1⟩
    ·exact h1
    ·exact absurd zh h1
   by_cases hb1:rd c (b:Int)=mx (rd c (u:Int)) (rd c (v:Int))
   ·rcases key b hb with h1 | ⟨_, h1⟩
    ·exact pa.trans h1.symm
    ·exact absurd hb1 h1
   ·unfold gl at e
    rw [if_pos zh,if_neg hb1] at e
    exact pa.trans (near b hb e.symm).symm
  ·by_cases hb1 : rd c (b : Int) = mx (rd c (u : Int)) (rd c (v : Int))
   ·have pb:P b↔P u:=by
     rcases key b hb with h1|⟨_,h1⟩
     ·exact h1
     ·exact absurd hb1 h1
    unfold gl at e
    rw [if_neg zh,if_pos hb1] at e
    exact (near a ha e).trans pb.symm
   ·unfold gl at e
    rw [if_neg zh,if_neg hb1] at e
    exact h a b ha hb e
/-- In a graph of one part, what edges keep is all or nothing. -/
theorem Sj {n:Nat} {l:List (List Int)} (hE:endsIn n l) (h1:qQ (jL n l)=true) (P:Nat→Prop) (hP:∀ i,i < l.length→∀ u v:Nat,rd (ag l (i:Int)) 0=u→rd (ag l (i:Int)) 1=v→(P u↔P v)) (a b:Nat) (ha:a < n) (hb:b < n):P a↔P b:=by
 have Bk:∀ w:Nat,w < n→rd (upto n) (w:Int)=(w:Int):=fun w hw=>by
  rw [sI _ _ (by rw [yu];exact hw)]
  simp [upto]
 have h2:∀ v,v < (jL n l).length→rd (jL n l) ((v:Nat):Int)=rd (jL n l) 0:=of_decide_eq_true h1
 have hlen:=(Ft n l hE).1
 refine Yd hE P hP l.length 0 (upto n) (by omega) (yu n) (fun x y hx hy e=>?_) a b ha hb ?_
 ·rw [Bk x hx, Bk y hy] at e
  rw [show x=y by omega]
 ·show rd (jL n l) _ = rd (jL n l) _
  rw [h2 a (by omega),h2 b (by omega)]
/-- A quotient, rounded: near enough. -/
def uT (a b:Int):Int:=if a < 0 then -(Int.tdiv (-a+b - 1) b) else Int.tdiv a b
theorem Tz (a b:Int) (hb:b ≠ 0):alh (Int.tmod a b) < alh b:=by
 unfold alh
 have h1:=Int.natAbs_tmod a b
 have h2:=Nat.mod_lt a.natAbs (show b.natAbs > 0 by omega)
 omega
theorem Po (a b:Int) (hb:b ≠ 0):alh (a - b * uT a b)≤2 * alh b:=by
 unfold uT
 by_cases h:a < 0
 ·rw [if_pos h]
  have h1:=Int.mul_tdiv_add_tmod (-a+b - 1) b
  have h2:=Tz (-a+b - 1) b hb
  rw [Int.mul_neg]
  generalize b * Int.tdiv (-a+b - 1) b=x at h1
  generalize Int.tmod (-a+b - 1) b=y at h1 h2
  unfold alh at h2 ⊢
  omega
 ·rw [if_neg h]
  have h1:=Int.mul_tdiv_add_tmod a b
  have h2:=Tz a b hb
  generalize b * Int.tdiv a b=x at h1
  generalize Int.tmod a b=y at h1 h2
  unfold alh at h2 ⊢
  omega
theorem ZF (a b:Int) (hb:b ≠ 0):alh (uT a b)≤alh a+2 * alh b:=by
 have h1:=Po a b hb
 have h2:alh (b * uT a b)≤alh a+2 * alh b:=by
  unfold alh at h1 ⊢
  omega
 rw [um] at h2
 have h3:1 * alh (uT a b)≤alh b * alh (uT a b):=Int.mul_le_mul_of_nonneg_right (by unfold alh;omega) (iQ _)
 rw [Int.one_mul] at h3
 omega
/-- The Laplacian without q's row and column. -/
def fO (L:Nat→Nat→Int) (q:Nat):Nat→Nat→Int:=fun a b=>L (alm q a) (alm q b)
def amB (m:Nat) (L:Nat→Nat→Int) (q:Nat) (c:Nat→Int) (k:Nat):Int:=uT (aH m (cu (fO L q) k (fun b=>c (alm q b)))) (aH m (fO L q))
def td (m:Nat) (L:Nat→Nat→Int) (q:Nat) (c:Nat→Int) (w:Nat):Int:=if w=q then 0 else amB m L q c (nN q w)
def si (m:Nat) (L:Nat→Nat→Int) (q:Nat) (c:Nat→Int) (v:Nat):Int:=c v - alw (m+1) (fun w=>L v w * td m L q c w)
theorem aeB (q:Nat) {a b:Nat} (h:a ≠ b):alm q a ≠ alm q b:=by unfold alm;split<;>split<;>omega
theorem OZ {m:Nat} {L:Nat→Nat→Int} (h:eB (m+1) L) {q:Nat} {D:Nat→Nat} (hD:nO (m+1) L q D):amX m (fO L q) (fun a=>D (alm q a)):=by
 intro v hv
 have hq:=hD.1
 have hvs:alm q v < m+1:=yc hq hv
 have hs:ay m (fO L q v)=-(L (alm q v) q):=by
  have h1:=eB.sum h (alm q v)
  rw [lO,am5 m q hq] at h1
  show ay m (fun b=>L (alm q v) (alm q b))=_
  omega
 refine ⟨fun w _ hw=>eB.off h _ _ (aeB q (fun e=>hw e.symm)),?_,fun h2=>?_⟩
 ·rw [hs]
  have:=eB.off h (alm q v) q (zR q v)
  omega
 ·obtain ⟨w, hw, hd, hl⟩ := hD.2.2.2 (alm q v) hvs (zR q v)
  have Dw:w ≠ q:=fun e=>by rw [e] at hl;omega
  refine ⟨nN q w,Gx hq hw Dw,?_,?_⟩
  ·show D (alm q (nN q w)) < _
   rw [Lg Dw];exact hd
  ·show L (alm q v) (alm q (nN q w)) < 0
   rw [Lg Dw];omega
theorem SH {n:Nat} {L:Nat→Nat→Int} (h:eB n L) (v:Nat) (hv:v < n):0≤L v v∧ay n (fun w=>alh (L v w))=2 * L v v:=by
 have h1:alw n (fun w=>if w=v then L v v+L v v else 0)=alw n (fun w=>alh (L v w)+L v w)∨L v v < 0:=by
  by_cases e:0≤L v v
  ·refine .inl (l9 fun w _ => ?_)
   by_cases e1:w=v
   ·rw [if_pos e1,e1];unfold alh;omega
   ·rw [if_neg e1]
    have:=eB.off h v w (fun e2=>e1 e2.symm)
    unfold alh
    omega
  ·exact .inr (by omega)
 have h2:alw n (fun w=>if w=v then L v v else 0) ≥ alw n (fun w=>L v w):=r6 fun w _=>by
  by_cases e1:w=v
  ·rw [if_pos e1,e1];exact Int.le_refl _
  ·rw [if_neg e1];exact eB.off h v w (fun e2=>e1 e2.symm)
 rw [qz hv,eB.sum h v] at h2
 refine ⟨h2,?_⟩
 rcases h1 with h1|h1
 ·rw [qz hv, r5, eB.sum h v, lO] at h1
  omega
 ·omega
theorem adk {n:Nat} {L:Nat→Nat→Int} (h:eB n L):wN n L≤40:=by
 unfold wN
 rw [eI (fun v hv=>(SH h v hv).2),jC,← lO]
 have:=eB.tr h
 omega
theorem JC {m:Nat} {L:Nat→Nat→Int} (h:eB (m+1) L) {q:Nat} (hq:q < m+1):wN m (fO L q)≤40:=by
 refine Int.le_trans ?_ (adk h)
 unfold wN
 rw [am5 m q hq (fun a=>ay (m+1) (fun b=>alh (L a b)))]
 have h1:0≤ay (m+1) (fun b=>alh (L q b)):=pL fun _ _=>iQ _
 have h2:ay m (fun a=>ay m (fun b=>alh (fO L q a b)))≤ay m (fun t=>ay (m+1) (fun b=>alh (L (alm q t) b))):=uZ fun a _=>by
  rw [am5 m q hq (fun b=>alh (L (alm q a) b))]
  have:=iQ (L (alm q a) q)
  show ay m (fun b=>alh (L (alm q a) (alm q b)))≤_
  omega
 omega
theorem G1 (n:Nat) {f:Nat→Int} {x:Int} (h:∀ i,i < n→f i≤x):ay n f≤n * x:=by
 induction n with
 | zero=>show (0:Int)≤((0:Nat):Int) * x;simp
 | succ n ih =>
  have h1:=ih fun i hi=>h i (by omega)
  have h2:=h n (by omega)
  show ay n f+f n≤_
  rw [Int.natCast_add,Int.add_mul]
  omega
theorem Pt {m:Nat} (hm:m+1≤8) {L:Nat→Nat→Int} (h:eB (m+1) L) {q:Nat} (hq:q < m+1) (c:Nat→Int) (hc:∀ v,v < m+1→v ≠ q→alh (c v)≤200) (k:Nat) (hk:k < m):okB m (cu (fO L q) k (fun b=>c (alm q b))):=by
 refine .inr ⟨k,hk,by omega,?_,?_⟩
 ·rw [eI (g := fun a => alh (c (alm q a))) (fun a _ => by unfold cu; rw [if_pos rfl])]
  have:=G1 m (f:=fun a=>alh (c (alm q a))) (x:=200) fun a ha=>hc _ (yc hq ha) (zR q a)
  omega
 ·refine Int.le_trans ?_ (JC h hq)
  unfold wN
  rw [zT]
  refine uZ fun b _=>?_
  by_cases e:b=k
  ·rw [if_pos e];exact pL fun _ _=>iQ _
  ·rw [if_neg e]
   exact Int.le_of_eq (eI fun a _=>by unfold cu;rw [if_neg e])
theorem ZP {m:Nat} {L:Nat→Nat→Int} {q:Nat} (hq:q < m+1) (c:Nat→Int) (r:Nat):alw (m+1) (fun w=>L (alm q r) w * td m L q c w)=ay m (fun k=>fO L q r k * amB m L q c k):=by
 rw [lO,am5 m q hq,show L (alm q r) q * td m L q c q=0 by unfold td;rw [if_pos rfl,Int.mul_zero],Int.zero_add]
 refine eI fun k _=>?_
 unfold td fO
 rw [if_neg (zR q k),adi]
theorem ZO {m:Nat} {L:Nat→Nat→Int} (h:eB (m+1) L) {q:Nat} {D:Nat→Nat} (hD:nO (m+1) L q D) (c:Nat→Int) (v:Nat) (hv:v < m+1) (qO:v ≠ q):alh (si m L q c v)≤80:=by
 have hq:=hD.1
 have hW:=OX (OZ h hD)
 obtain ⟨r,hr,rfl⟩:∃ r,r < m∧v=alm q r:=⟨nN q v,Gx hq hv qO,(Lg qO).symm⟩
 have h1:=Yw (fO L q) (fun b=>c (alm q b)) r hr
 have h2:aH m (fO L q) * si m L q c (alm q r)=ay m (fun k=>fO L q r k * (aH m (cu (fO L q) k (fun b=>c (alm q b))) - aH m (fO L q) * amB m L q c k)):=by
  unfold si
  rw [ZP hq,Int.mul_sub,← h1,← jC,← Gw]
  exact eI fun k _=>by rw [Int.mul_sub,Int.mul_left_comm (aH m (fO L q))]
 have h3:alh (aH m (fO L q) * si m L q c (alm q r))≤(2 * alh (aH m (fO L q))) * 40:=by
  rw [h2]
  refine Int.le_trans (Gq _ _) ?_
  have h4:ay m (fun k=>alh (fO L q r k))≤40:=by
   have h5:=(SH h (alm q r) hv).2
   rw [am5 m q hq] at h5
   have h6:=eB.top h (alm q r)
   have h7:=iQ (L (alm q r) q)
   show ay m (fun k=>alh (L (alm q r) (alm q k)))≤40
   omega
  refine Int.le_trans (uZ (g:=fun k=>(2 * alh (aH m (fO L q))) * alh (fO L q r k)) fun k _=>?_) ?_
  ·rw [um, Int.mul_comm]
   exact Int.mul_le_mul_of_nonneg_right (Po _ _ hW) (iQ _)
  ·rw [jC]
   exact Int.mul_le_mul_of_nonneg_left h4 (by have:=iQ (aH m (fO L q));omega)
 rw [um] at h3
 have h8:0 < alh (aH m (fO L q)):=by unfold alh;omega
 have h9:alh (aH m (fO L q)) * alh (si m L q c (alm q r))≤alh (aH m (fO L q)) * 80:=by
  generalize alh (aH m (fO L q))=x at h3
  omega
 exact Int.le_of_mul_le_mul_left h9 h8
theorem ZK (m:Nat) (L:Nat→Nat→Int) (q:Nat) (c:Nat→Int):mR (m+1) L c (si m L q c):=⟨td m L q c,fun _ _=>rfl⟩
theorem Ot {n:Nat} {f:Nat→Int} (h:∀ i,i < n→-20000000000000≤f i∧f i≤20000000000000):-(20000000000000 * (n:Int))≤alw n f∧alw n f≤20000000000000 * n:=by
 induction n with
 | zero=>exact ⟨by simp [alw],by simp [alw]⟩
 | succ n ih =>
  have h1:=ih (fun i hi=>h i (by omega))
  have h2:=h n (by omega)
  rw [pW]
  omega
/-- What row r does to w, where the vertices are fired t times. -/
def tG (L:Nat→Nat→Int) (t:Nat→Int) (w r:Nat):Int:=L r w * t r
theorem G2 {L:Nat→Nat→Int} (hL:∀ u w,-20≤L u w∧L u w≤20) {t:Nat→Int} {r:Nat} (ht:alh (t r)≤1000000000000) (w:Nat):-20000000000000≤tG L t w r∧tG L t w r≤20000000000000:=by
 have h1:=hL r w
 have h2:alh (L r w)≤20:=by unfold alh;omega
 have h3:alh (tG L t w r)≤20 * 1000000000000:=by
  unfold tG
  rw [um]
  exact Int.mul_le_mul h2 ht (iQ _) (by decide)
 unfold alh at h3
 omega
def gU (S:Nat→Bool) (r:Nat):Int:=if S r=true then 1 else 0
theorem GD (S:Nat→Bool) (r:Nat):alh (gU S r)≤1000000000000:=by
 unfold gU
 split
 ·show (1:Int)≤1000000000000;decide
 ·show (0:Int)≤1000000000000;decide
theorem Ta {n:Nat} {L:Nat→Nat→Int} (hs:∀ i j,L i j=L j i) (S:Nat→Bool) (w:Nat):alw n (tG L (gU S) w)=gF L n S w:=by
 unfold gF
 refine l9 fun r _=>?_
 show L r w * gU S r=_
 unfold gU
 rw [hs r w]
 split<;>omega
def mD (n:Nat) (L:Nat→Nat→Int) (c t:Nat→Int) (i j:Nat):List Int:=aE n (fun w=>c w - (alw i (tG L t w)+if w < j then tG L t w i else 0))
theorem SR (n:Nat) (L:Nat→Nat→Int) (c t:Nat→Int) (i:Nat):mD n L c t i n=mD n L c t (i+1) 0:=by
 unfold mD
 refine kJ fun w hw=>?_
 rw [if_pos hw,if_neg (Nat.not_lt_zero _),pW]
 omega
theorem SQ (n:Nat) (L:Nat→Nat→Int) (c t:Nat→Int):mD n L c t n 0=aE n (fun w=>c w - alw n (tG L t w)):=kJ fun w _=>by rw [if_neg (Nat.not_lt_zero _)];omega
theorem SV (n:Nat) (L:Nat→Nat→Int) (c t:Nat→Int):mD n L c t 0 0=aE n c:=kJ fun w _=>by rw [if_neg (Nat.not_lt_zero _)];simp [alw]
theorem SU {n:Nat} (L:Nat→Nat→Int) (c t:Nat→Int) (i j:Nat):(mD n L c t i j).set j (c j - alw i (tG L t j) - tG L t j i)=mD n L c t i (j+1):=by
 unfold mD
 rw [qT]
 refine kJ fun w hw=>?_
 by_cases e2:w=j
 ·subst e2;rw [if_pos rfl,if_pos (by omega)];omega
 ·rw [if_neg e2]
  by_cases e3:w < j
  ·rw [if_pos e3,if_pos (show w < j+1 by omega)]
  ·rw [if_neg e3,if_neg (show ¬ w < j+1 by omega)]
theorem SS {n:Nat} (L:Nat→Nat→Int) (c t:Nat→Int) (i:Nat) {j:Nat} (hj:j < n):rd (mD n L c t i j) (j:Int)=c j - alw i (tG L t j):=by
 unfold mD
 rw [gH hj,if_neg (Nat.lt_irrefl _)]
 omega
theorem ZD (n : Nat) (hn : n ≤ 8) (L : Nat → Nat → Int) (hL : ∀ u w, -20 ≤ L u w ∧ L u w ≤ 20) (c t : Nat → Int) (hc : ∀ v, v < n → alh (c v) ≤ 100000000000000000) (ht : ∀ r, r < n → alh (t r) ≤ 1000000000000) (i : Nat) (hi : i < n) (R : List Int)
  (next:Ev (fun k=>cG.l0 k (aE n t) (mD n L c t (i+1) 0) (b9 n L) n ((i+1:Nat):Int)) R) :
  ∀ (q j:Nat),n - j=q→j≤n→Ev (fun k=>cG.l1 k (aE n t) (mD n L c t i j) i (b9 n L) n i n j) R:=by
 intro q
 induction q with
 | zero =>
  intro j hq hj
  obtain rfl:j=n:=by omega
  refine Ev.step (fun k=>by simp only [cG.l1];rfl) ?_
  simp only [Int.lt_irrefl,if_false,wI ((i:Int)+1) (by omega)]
  rw [SR]
  exact next
 | succ q ih =>
  intro j hq hj
  have hjn:j < n:=by omega
  have h2:alh (c j)≤100000000000000000:=hc j hjn
  have h3:=Ot (n:=i) (f:=tG L t j) (fun r hr=>G2 hL (ht r (by omega)) j)
  refine Ev.step (fun k=>by simp only [cG.l1];rfl) ?_
  have hrd:=SS L c t i hjn
  have hlen:(mD n L c t i j).length=n:=fE _ _
  have hg:L i j * t i=tG L t j i:=rfl
  have hgb:=G2 hL (ht i hi) j
  unfold alh at h2
  simp only [lI j n (by omega),if_true,cJ j,nU hi,fE,hlen,cJ i,lI i n (by omega),gH hjn,gH hi,hrd,hg,Int.toNat_natCast,wI ((j:Int)+1) (by omega),wI (tG L t j i) (by omega)]
  rw [wI (c j - alw i (tG L t j) - tG L t j i) (by omega),SU]
  exact ih (j+1) (by omega) (by omega)
theorem ZC (n : Nat) (hn : n ≤ 8) (L : Nat → Nat → Int) (hL : ∀ u w, -20 ≤ L u w ∧ L u w ≤ 20) (c t : Nat → Int) (hc : ∀ v, v < n → alh (c v) ≤ 100000000000000000) (ht : ∀ r, r < n → alh (t r) ≤ 1000000000000) : ∀ (q i : Nat), n - i = q → i ≤ n →
  Ev (fun k=>cG.l0 k (aE n t) (mD n L c t i 0) (b9 n L) n i) (aE n (fun w=>c w - alw n (tG L t w))):=by
 intro q
 induction q with
 | zero =>
  intro i hq hi
  obtain rfl:i=n:=by omega
  refine Ev.step (fun k=>by simp only [cG.l0];rfl) ?_
  simp only [Int.lt_irrefl,if_false,SQ]
  exact Ev.now _
 | succ q ih =>
  intro i hq hi
  have hin:i < n:=by omega
  refine Ev.step (fun k=>by simp only [cG.l0];rfl) ?_
  simp only [fk,lI i n (by omega),if_true,cJ i,nU hin,fE]
  exact ZD n hn L hL c t hc ht i hin _ (ih (i+1) (by omega) (by omega)) n 0 (by omega) (by omega)
theorem JB (n:Nat) (hn:n≤8) (l:List (List Int)) (hl:l.length≤10) (hE:endsIn n l) (c t:Nat→Int) (hc:∀ v,v < n→alh (c v)≤100000000000000000) (ht:∀ r,r < n→alh (t r)≤1000000000000):Ev (fun k=>cG.f k n l (aE n c) (aE n t)) (aE n (fun w=>c w - alw n (tG (bP l l.length) t w))):=by
 unfold cG.f oa.f
 simp only [fE,show n < 17592186044416 by omega,if_true,Option.bind_some]
 refine Ev.bind (SK n hn l hl hE) ?_
 have h:=ZC n hn (bP l l.length) (Li hl) c t hc ht n 0 (by omega) (by omega)
 rw [SV] at h
 simp only [fk]
 exact h
/-- The implementation fires a set. -/
theorem Pm (n:Nat) (hn:n≤8) (l:List (List Int)) (hl:l.length≤10) (hE:endsIn n l) (c:Nat→Int) (hc:∀ v,v < n→alh (c v)≤100000000000000000) (S:Nat→Bool):Ev (fun k=>cG.f k n l (aE n c) (aE n (gU S))) (aE n (fun w=>c w - gF (bP l l.length) n S w)):=by
 have h:=JB n hn l hl hE c (gU S) hc (fun r _=>GD S r)
 rw [kJ (g:=fun w=>c w - alw n (tG (bP l l.length) (gU S) w)) (h:=fun w=>c w - gF (bP l l.length) n S w) (fun w _=>by rw [Ta (zU hE hl).sym])] at h
 exact h
theorem ZA (n : Nat) (hn : n ≤ 8) (L : Nat → Nat → Int) (hL : ∀ u w, -20 ≤ L u w ∧ L u w ≤ 20) (c : Nat → Int) (hc : ∀ v, v < n → alh (c v) ≤ 100000000000000000) (S : Nat → Bool) (i : Nat) (hi : i < n) (R : List Int)
  (next:Ev (fun k=>cY.l0 k (b9 n L) (lb S) 1 (mD n L c (gU S) (i+1) 0) ((i+1:Nat):Int)) R) :
  ∀ (q j:Nat),n - j=q→j≤n→(S i=true∨j=0)→Ev (fun k=>cY.l1 k (b9 n L) (lb S) 1 (mD n L c (gU S) i j) i j) R:=by
 intro q
 induction q with
 | zero =>
  intro j hq hj _
  obtain rfl:j=n:=by omega
  refine Ev.step (fun k=>by simp only [cY.l1];rfl) ?_
  simp only [fk,Int.lt_irrefl,if_false,wI ((i:Int)+1) (by omega)]
  rw [SR]
  exact next
 | succ q ih =>
  intro j hq hj hS
  have hjn:j < n:=by omega
  have hi8:i < 8:=by omega
  refine Ev.step (fun k=>by simp only [cY.l1];rfl) ?_
  simp only [fk,lI j n (by omega),if_true,cJ j,cJ i,show ((i:Int) < (8:Int)) by omega,GA S hi8]
  cases e:S i with
  | false =>
   obtain rfl:j=0:=by
    rcases hS with h|h
    ·rw [e] at h;exact absurd h (by decide)
    ·exact h
   simp only [Bool.false_eq_true,if_false,wI ((i:Int)+1) (by omega)]
   rw [show mD n L c (gU S) i 0=mD n L c (gU S) (i+1) 0 from kJ fun w _=>by
    rw [if_neg (Nat.not_lt_zero _),if_neg (Nat.not_lt_zero _),pW,show tG L (gU S) w i=0 from by unfold tG gU;rw [if_neg (by rw [e];decide)];omega]
    omega]
   exact next
  | true =>
   have h2:alh (c j)≤100000000000000000:=hc j hjn
   have h3:=Ot (n:=i) (f:=tG L (gU S) j) (fun r hr=>G2 hL (GD S r) j)
   have hrd:=SS L c (gU S) i hjn
   have hlen:(mD n L c (gU S) i j).length=n:=fE _ _
   have hg:L i j=tG L (gU S) j i:=by unfold tG gU;rw [if_pos e];omega
   have hgb:=G2 hL (GD S i) j
   unfold alh at h2
   simp only [if_true,hlen,lI j n (by omega),lI i n (by omega),nU hi,fE,gH hjn,hrd,Int.one_mul,Int.toNat_natCast,wI ((j:Int)+1) (by omega),hg,wI (tG L (gU S) j i) (by omega)]
   rw [jO (show -9223372036854775808≤c j - alw i (tG L (gU S) j) - tG L (gU S) j i by omega) (by omega),SU]
   exact ih (j+1) (by omega) (by omega) (Or.inl e)
theorem Zz (n : Nat) (hn : n ≤ 8) (L : Nat → Nat → Int) (hL : ∀ u w, -20 ≤ L u w ∧ L u w ≤ 20) (c : Nat → Int) (hc : ∀ v, v < n → alh (c v) ≤ 100000000000000000) (S : Nat → Bool) : ∀ (q i : Nat), n - i = q → i ≤ n →
  Ev (fun k=>cY.l0 k (b9 n L) (lb S) 1 (mD n L c (gU S) i 0) i) (aE n (fun w=>c w - alw n (tG L (gU S) w))):=by
 intro q
 induction q with
 | zero =>
  intro i hq hi
  obtain rfl:i=n:=by omega
  refine Ev.step (fun k=>by simp only [cY.l0];rfl) ?_
  simp only [fk,Int.lt_irrefl,if_false,SQ]
  exact Ev.now _
 | succ q ih =>
  intro i hq hi
  have hin:i < n:=by omega
  refine Ev.step (fun k=>by simp only [cY.l0];rfl) ?_
  simp only [fk,lI i n (by omega),if_true]
  exact ZA n hn L hL c hc S i hin _ (ih (i+1) (by omega) (by omega)) n 0 (by omega) (by omega) (Or.inr rfl)
/-- The reference fires a set. -/
theorem Pk (n:Nat) (hn:n≤8) (L:Nat→Nat→Int) (hL:∀ u w,-20≤L u w∧L u w≤20) (hs:∀ i j,L i j=L j i) (c:Nat→Int) (hc:∀ v,v < n→alh (c v)≤100000000000000000) (S:Nat→Bool):Ev (fun k=>cY.fA k (b9 n L) (aE n c) (lb S) 1) (aE n (fun w=>c w - gF L n S w)):=by
 have h:=Zz n hn L hL c hc S n 0 (by omega) (by omega)
 rw [SV,kJ (g:=fun w=>c w - alw n (tG L (gU S) w)) (h:=fun w=>c w - gF L n S w) (fun w _=>by rw [Ta hs])] at h
 unfold cY.fA
 rw [Sl _ (by rw [fE];omega)]
 exact h
/-- The vertices nearer than d. -/
def jD (n:Nat) (D:Nat→Nat) (d:Nat):Nat→Bool:=fun v=>decide (v < n) && decide (D v < d)
theorem SN {n:Nat} {D:Nat→Nat} {d v:Nat}:jD n D d v=true↔v < n∧D v < d:=by simp [jD]
theorem Lj {n:Nat} {D:Nat→Nat} {d v:Nat} (h:d≤D v):jD n D d v=false:=by
 unfold jD
 rw [decide_eq_false (show ¬ D v < d by omega),Bool.and_false]
theorem adC {n:Nat} {L:Nat→Nat→Int} (h:eB n L) {D:Nat→Nat} {d v:Nat} (hv:v < n) (hd:d≤D v):gF L n (jD n D d) v≤0:=(FA h _ v hv (Lj hd)).2
theorem adB {n:Nat} {L:Nat→Nat→Int} (h:eB n L) {q:Nat} {D:Nat→Nat} (hD:nO n L q D) {d v:Nat} (h1:1≤d) (hv:v < n) (hd:D v=d):gF L n (jD n D d) v≤-1:=by
 obtain ⟨hq,RM,_,abN⟩:=hD
 obtain ⟨w,hw,hwd,hL⟩:=abN v hv (fun e=>by rw [e,RM] at hd;omega)
 exact ZJ h _ v (Lj (by omega)) w hw (SN.2 ⟨hw,by omega⟩) hL
def Cw (n:Nat) (D:Nat→Nat) (c:Nat→Int) (d:Nat):Prop:=∀ v,v < n→d≤D v→0≤c v
def l8 (n:Nat) (c:Nat→Int) (B:Nat):Prop:=∀ v,v < n→alh (c v)≤(B:Int)
def ams (n:Nat) (D:Nat→Nat) (c:Nat→Int) (d:Nat):Prop:=∃ v,v < n∧D v=d∧c v < 0
theorem YB {n : Nat} {L : Nat → Nat → Int} (h : eB n L) {q : Nat} {D : Nat → Nat} (hD : nO n L q D) (d : Nat) (h1 : 1 ≤ d) (F G : List Int → (Nat → Int) → Prop)
  (C0:∀ R c,l8 n c 100000000000000000→ams n D c d→F R (fun v=>c v - gF L n (jD n D d) v)→F R c)
  (Ba:∀ R c,l8 n c 100000000000000000→¬ ams n D c d→G R c→F R c) :
  ∀ (r B : Nat) (c : Nat → Int), (∀ v, v < n → D v = d → -(r : Int) ≤ c v) → l8 n c B → B + 20 * r ≤ 100000000000000000 → Cw n D c (d + 1) →
   ∃ c',mR n L c c'∧Cw n D c' d∧l8 n c' (B+20 * r)∧∀ R,G R c'→F R c:=by
 intro r
 induction r with
 | zero =>
  intro B c hr hb hB hf
  have QN:Cw n D c d:=fun v hv hd=>by
   by_cases e:D v=d
   ·have:=hr v hv e;omega
   ·exact hf v hv (by omega)
  refine ⟨c,Cv n L c,QN,hb,fun R hG=>Ba R c (fun v hv=>?_) ?_ hG⟩
  ·have:=hb v hv;omega
  ·rintro ⟨v, hv, e, hn⟩
   have:=QN v hv (by omega)
   omega
 | succ r ih =>
  intro B c hr hb hB hf
  have rD:l8 n c 100000000000000000:=fun v hv=>by have:=hb v hv;omega
  by_cases hq:ams n D c d
  ·obtain ⟨c',he,hf',hb',hG⟩:=ih (B+20) (fun v=>c v - gF L n (jD n D d) v) (fun v hv e=>by
    have h2:=hr v hv e
    have h3:=adB h hD h1 hv e
    show -(r:Int)≤c v - gF L n (jD n D d) v
    omega) (fun v hv=>by
    have h2:=hb v hv
    have h3:=ZH h (jD n D d) v hv
    show alh (c v - gF L n (jD n D d) v)≤_
    unfold alh at h2 ⊢
    omega) (by omega) (fun v hv hd=>by
    have h2:=hf v hv hd
    have h3:=adC h hv (show d≤D v by omega)
    show 0≤c v - gF L n (jD n D d) v
    omega)
   refine ⟨c',anf (Pe (jD n D d) (fun v _=>rfl)) he,hf',fun v hv=>?_,fun R hR=>C0 R c rD hq (hG R hR)⟩
   have:=hb' v hv
   omega
  ·refine ⟨c, Cv n L c, fun v hv hd => ?_, fun v hv => ?_, fun R hG => Ba R c rD hq hG⟩
   ·by_cases e : D v = d
    ·by_cases hn : c v < 0
     ·exact absurd ⟨v,hv,e,hn⟩ hq
     ·omega
    ·exact hf v hv (by omega)
   ·have:=hb v hv;omega
theorem Yz {n : Nat} {L : Nat → Nat → Int} (h : eB n L) {q : Nat} {D : Nat → Nat} (hD : nO n L q D) (qu Loop : Nat → List Int → (Nat → Int) → Prop)
  (hin:∀ d R c,1≤d→d≤n→Loop d R c→qu d R c)
  (C0:∀ d R c,1≤d→d≤n→l8 n c 100000000000000000→ams n D c d→Loop d R (fun v=>c v - gF L n (jD n D d) v)→Loop d R c)
  (Ba:∀ d R c,1≤d→d≤n→l8 n c 100000000000000000→¬ ams n D c d→qu (d - 1) R c→Loop d R c) :
  ∀ (d B : Nat) (c : Nat → Int), d ≤ n → l8 n c B → B * 21 ^ d ≤ 100000000000000000 → Cw n D c (d + 1) →
   ∃ c',mR n L c c'∧Cw n D c' 1∧l8 n c' (B * 21 ^ d)∧∀ R,qu 0 R c'→qu d R c:=by
 intro d
 induction d with
 | zero =>
  intro B c _ hb hB hf
  exact ⟨c,Cv n L c,hf,fun v hv=>by have:=hb v hv;simpa using this,fun R hR=>hR⟩
 | succ d ih =>
  intro B c hd hb hB hf
  have hp:0 < 21 ^ d:=Nat.pow_pos (by decide)
  have e1:B * 21 ^ (d+1)=(B+20 * B) * 21 ^ d:=by rw [Nat.pow_succ,show B+20 * B=B * 21 by omega,Nat.mul_assoc,Nat.mul_comm 21]
  have hle:B+20 * B≤(B+20 * B) * 21 ^ d:=Nat.le_mul_of_pos_right _ hp
  obtain ⟨c1,ann,xU,hb1,CL⟩:=YB h hD (d+1) (by omega) (Loop (d+1)) (fun R c=>qu d R c) (fun R c hb hq=>C0 (d+1) R c (by omega) hd hb hq) (fun R c hb hq=>Ba (d+1) R c (by omega) hd hb hq) B B c (fun v hv _=>by
   have:=hb v hv
   unfold alh at this
   omega) hb (by omega) hf
  obtain ⟨c',he,hf',hb',hG⟩:=ih (B+20 * B) c1 (by omega) hb1 (by omega) xU
  exact ⟨c',anf ann he,hf',by rw [e1];exact hb',fun R hR=>hin (d+1) R c (by omega) hd (CL R (hG R hR))⟩
theorem W8 {n:Nat} {c:Nat→Int} {q v:Nat} (hq:q < n) (hv:v < n) (qO:v ≠ q) (ho:∀ w,w < n→w ≠ q→0≤c w):c v+c q≤alw n c:=by
 have h1:alw n (fun j=>(if j=v then c v else 0)+(if j=q then c q else 0))≤alw n c:=r6 fun j hj=>by
  by_cases e:j=v
  ·subst e;rw [if_pos rfl,if_neg qO];omega
  ·rw [if_neg e]
   by_cases e2:j=q
   ·subst e2;rw [if_pos rfl];omega
   ·rw [if_neg e2]
    have:=ho j hj e2
    omega
 rw [r5,qz hv,qz hq] at h1
 exact h1
theorem W7 {n:Nat} {c:Nat→Int} {q:Nat} (hq:q < n) (ho:∀ w,w < n→w ≠ q→0≤c w):c q≤alw n c:=by
 have h1:alw n (fun j=>if j=q then c q else 0)≤alw n c:=r6 fun j hj=>by
  by_cases e2:j=q
  ·subst e2;rw [if_pos rfl];omega
  ·rw [if_neg e2]
   exact ho j hj e2
 rw [qz hq] at h1
 exact h1
theorem S6 {n:Nat} {c:Nat→Int} {q:Nat} (hq:q < n) (ho:∀ w,w < n→w ≠ q→0≤c w) {s m:Int} (hs:alw n c=s) (hm:m≤c q) (h1:s≤10000000000000000) (h2:-10000000000000000≤m):l8 n c 100000000000000000:=by
 intro v hv
 have h3:=W7 hq ho
 unfold alh
 by_cases e:v=q
 ·subst e;omega
 ·have h4 := W8 hq hv e ho
  have h5:=ho v hv e
  omega
theorem Pr {n:Nat} {L:Nat→Nat→Int} (h:eB n L) {S:Nat→Bool} {c:Nat→Int} (hl:lawful L c n S) {v:Nat} (hv:v < n) (hc:0≤c v):0≤c v - gF L n S v:=by
 cases e:S v with
 | false=>have:=(FA h S v hv e).2;omega
 | true =>
  have h1:=hl v hv e
  have h2:=Lo h.sym v (h.sum v) S
  have h3:gF L n S v=lH L n S v:=by
   rw [← h2]
   unfold gF
   exact l9 fun w _=>by rw [h.sym v w]
  omega
theorem Xd {n : Nat} {L : Nat → Nat → Int} (h : eB n L) {q : Nat} {D : Nat → Nat} (hD : nO n L q D) (F : List Int → (Nat → Int) → Prop)
  (hstep:∀ c,l8 n c 100000000000000000→(∃ S:Nat→Bool,lawful L c n S∧S q=false∧(∃ j,j < n∧S j=true)∧∀ R,F R (fun v=>c v - gF L n S v)→F R c)∨((∀ S:Nat→Bool,lawful L c n S→S q=false→∀ j,j < n→S j=false)∧F (aE n c) c))
  (s m:Int) (h1:s≤10000000000000000) (h2:-10000000000000000≤m) :
  ∀ (P:Nat) (c:Nat→Int),wQ n (jh n D) q c≤(P:Int)→(∀ w,w < n→w ≠ q→0≤c w)→alw n c=s→m≤c q→∃ c',wU n L q c'∧mR n L c c'∧F (aE n c') c:=by
 have hq:q < n:=hD.1
 intro P
 induction P with
 | zero =>
  intro c hP ho hs hm
  rcases hstep c (S6 hq ho hs hm h1 h2) with ⟨S,hl,ani,hne,hF⟩|⟨hno,hF⟩
  ·have h3 := Tc h hD S ani hne (c := c) (d := fun v => c v - gF L n S v) (fun v _ => rfl)
   have h4:=aoa hD (c:=fun v=>c v - gF L n S v) (fun v hv qO=>Pr h hl hv (ho v hv qO))
   omega
  ·exact ⟨c,⟨ho,hno⟩,Cv n L c,hF⟩
 | succ P ih =>
  intro c hP ho hs hm
  rcases hstep c (S6 hq ho hs hm h1 h2) with ⟨S,hl,ani,hne,hF⟩|⟨hno,hF⟩
  ·have h3 := Tc h hD S ani hne (c := c) (d := fun v => c v - gF L n S v) (fun v _ => rfl)
   have h5:mR n L c (fun v=>c v - gF L n S v):=Pe S (fun v _=>rfl)
   have h6:=(FA h S q hq ani).2
   obtain ⟨c',hr,he,hFc⟩:=ih (fun v=>c v - gF L n S v) (by omega) (fun v hv qO=>Pr h hl hv (ho v hv qO)) (by rw [Pf h h5];exact hs) (by show m≤c q - gF L n S q;omega)
   exact ⟨c',hr,anf h5 he,hF _ hFc⟩
  ·exact ⟨c,⟨ho,hno⟩,Cv n L c,hF⟩
/-- The two phases, one behind the other. -/
theorem Tl {n : Nat} (hn : n ≤ 8) {L : Nat → Nat → Int} (h : eB n L) {q : Nat} {D : Nat → Nat} (hD : nO n L q D) (qu Loop : Nat → List Int → (Nat → Int) → Prop)
  (hin:∀ d R c,1≤d→d≤n→Loop d R c→qu d R c)
  (C0:∀ d R c,1≤d→d≤n→l8 n c 100000000000000000→ams n D c d→Loop d R (fun v=>c v - gF L n (jD n D d) v)→Loop d R c)
  (Ba:∀ d R c,1≤d→d≤n→l8 n c 100000000000000000→¬ ams n D c d→qu (d - 1) R c→Loop d R c)
  (hstep:∀ c,l8 n c 100000000000000000→(∃ S:Nat→Bool,lawful L c n S∧S q=false∧(∃ j,j < n∧S j=true)∧∀ R,qu 0 R (fun v=>c v - gF L n S v)→qu 0 R c)∨((∀ S:Nat→Bool,lawful L c n S→S q=false→∀ j,j < n→S j=false)∧qu 0 (aE n c) c))
  (c:Nat→Int) (hb:l8 n c 4000):∃ c',wU n L q c'∧mR n L c c'∧qu n (aE n c') c:=by
 have hp:4000 * 21 ^ n≤4000 * 21 ^ 8:=Nat.mul_le_mul_left _ (Nat.pow_le_pow_right (by decide) hn)
 obtain ⟨c1,ann,xU,hb1,hG⟩:=Yz h hD qu Loop hin C0 Ba n 4000 c (Nat.le_refl _) hb (Nat.le_trans hp (by decide)) (fun v hv hd=>by
  have:=hD.2.2.1 v hv
  omega)
 have hb2:∀ v,v < n→alh (c1 v)≤151291437444000:=fun v hv=>by
  have h3:=hb1 v hv
  have h4:((4000 * 21 ^ n:Nat):Int)≤((4000 * 21 ^ 8:Nat):Int):=Int.ofNat_le.2 hp
  have h5:((4000 * 21 ^ 8:Nat):Int)=151291437444000:=by decide
  omega
 have ho:∀ w,w < n→w ≠ q→0≤c1 w:=fun w hw Dw=>xU w hw (by
  obtain ⟨u,_,hu,_⟩:=hD.2.2.2 w hw Dw
  omega)
 have hs:alw n c1≤10000000000000000:=by
  have h3:alw n c1≤(n:Int) * 151291437444000:=by
   rw [lO]
   exact G1 n (fun i hi=>by have:=hb2 i hi;unfold alh at this;omega)
  have h4:(n:Int) * 151291437444000≤8 * 151291437444000:=Int.mul_le_mul_of_nonneg_right (by omega) (by decide)
  omega
 have hm:-10000000000000000≤c1 q:=by
  have:=hb2 q hD.1
  unfold alh at this
  omega
 obtain ⟨c',hr,he,hF⟩:=Xd h hD (qu 0) hstep (alw n c1) (c1 q) hs hm (wQ n (jh n D) q c1).toNat c1 (by omega) ho rfl (Int.le_refl _)
 exact ⟨c',hr,anf ann he,hG _ hF⟩
theorem W9 (n:Nat) (hn:n≤8) (L:Nat→Nat→Int) (hL:∀ u w,-20≤L u w∧L u w≤20) (ho:∀ u w,u ≠ w→L u w≤0) (c:List Int) (hc:c.length=n) (q:Int):Ev (fun k=>bz.fA k (b9 n L) c q) (lb (mQ L (fun j=>rd c (j:Int)) n (iO n (iN n q)) (iN n q)),zV n L c q):=by
 have h4:=Xc n hn L (mQ L (fun j=>rd c (j:Int)) n (iO n (iN n q)) (iN n q)) n 0 false (by omega) (by omega)
 have h1:=Xa n hn L hL ho c hc false _ (iO n (iN n q)) (iN n q) (Nat.le_refl _) h4
 have h0:=W_ n hn L c q _ h1 n 0 (by omega) (by omega)
 rw [show lb (iN 0 q)=List.replicate 8 false from by simp [lb,iN,List.range,List.range.loop,List.replicate],Bool.false_or] at h0
 refine Ev.congr (fun k=>?_) h0
 unfold bz.fA
 rw [if_pos (by omega)]
 rfl
theorem aeu {n:Nat} (hn:n≤8) (D:Nat→Nat) (d:Nat):bW.oL (aE n fun v=>(D v:Int)) (d:Int) n=lb (jD n D d):=by
 unfold bW.oL lb
 refine List.map_congr_left fun v _=>?_
 unfold jD
 by_cases e:v < n
 ·rw [gH e]
  simp
 ·rw [decide_eq_false e]
  rfl
theorem OW {n:Nat} (D:Nat→Nat) (c:Nat→Int) (d:Nat):bW.amr (aE n fun v=>(D v:Int)) (aE n c) (d:Int) n=true↔ams n D c d:=by
 unfold bW.amr ams
 rw [List.any_eq_true]
 constructor
 ·rintro ⟨v, hv, h⟩
  rw [List.mem_range] at hv
  rw [gH hv,gH hv,Bool.and_eq_true,beq_iff_eq,decide_eq_true_eq] at h
  exact ⟨v,hv,by omega,h.2⟩
 ·rintro ⟨v, hv, h1, h2⟩
  refine ⟨v,List.mem_range.2 hv,?_⟩
  rw [gH hv,gH hv,Bool.and_eq_true,beq_iff_eq,decide_eq_true_eq]
  exact ⟨by omega,h2⟩
theorem adu {n:Nat} {L:Nat→Nat→Int} (ho:∀ u w,u ≠ w→L u w≤0) {c:Nat→Int} {q:Nat} (h:zV n L (aE n c) q=false):∀ S:Nat→Bool,lawful L c n S→S q=false→∀ j,j < n→S j=false:=by
 intro S hS hq j hj
 cases e:S j with
 | false=>rfl
 | true =>
  have h1:=(adt n L ho (aE n c) q).2 ⟨S,fun v hv J6=>by show _≤rd (aE n c) (v:Int);rw [gH hv];exact hS v hv J6,hq,j,hj,e⟩
  rw [h] at h1
  exact absurd h1 (by decide)
theorem adv {n:Nat} {L:Nat→Nat→Int} (ho:∀ u w,u ≠ w→L u w≤0) {c:Nat→Int} {q:Nat} (h:zV n L (aE n c) q=true):lawful L c n (mQ L (fun j=>rd (aE n c) (j:Int)) n (iO n (iN n q)) (iN n q))∧mQ L (fun j=>rd (aE n c) (j:Int)) n (iO n (iN n q)) (iN n q) q=false∧∃ j,j < n∧mQ L (fun j=>rd (aE n c) (j:Int)) n (iO n (iN n q)) (iN n q) j=true:=by
 obtain ⟨h1,h2,h3⟩:=Oj (L:=L) (c:=fun j=>rd (aE n c) (j:Int)) (n:=n) ho (iO n (iN n q)) (iN n q) (Nat.le_refl _)
 unfold zV at h
 rw [Of] at h
 obtain ⟨j,_,hj,hT⟩:=h
 refine ⟨fun v hv J6=>?_,?_,j,by omega,hT⟩
 ·exact Int.le_trans (h1 v hv J6) (Int.le_of_eq (gH hv))
 ·cases e:mQ L (fun j=>rd (aE n c) (j:Int)) n (iO n (iN n q)) (iN n q) q with
  | false=>rfl
  | true =>
   have:=h2 q e
   simp [iN] at this
theorem Cd {n:Nat} {c:Nat→Int} (h:l8 n c 100000000000000000):∀ v,v < n→alh (c v)≤100000000000000000:=fun v hv=>h v hv
theorem acR (n : Nat) (hn : n ≤ 8) {L : Nat → Nat → Int} (h : eB n L) (hL : ∀ u w, -20 ≤ L u w ∧ L u w ≤ 20) {q : Nat} {D : Nat → Nat} (hD : nO n L q D) (c : Nat → Int) (hb : l8 n c 4000) :
  ∃ c',wU n L q c'∧mR n L c c'∧Ev (fun k=>bW.l0 k (b9 n L) (q:Int) (aE n c) (aE n fun v=>(D v:Int)) (n:Int)) (aE n c'):=by
 refine Tl hn h hD (fun d R c=>Ev (fun k=>bW.l0 k (b9 n L) (q:Int) (aE n c) (aE n fun v=>(D v:Int)) (d:Int)) R) (fun d R c=>Ev (fun k=>bW.l1 k (b9 n L) (q:Int) (aE n c) (aE n fun v=>(D v:Int)) (d:Int)) R) ?_ ?_ ?_ ?_ c hb
 ·intro d R c h1 hd hR
  refine Ev.step (fun k=>by simp only [bW.l0];rfl) ?_
  simp only [show ((d:Int) > 0) by omega,if_true]
  exact hR
 ·intro d R c h1 hd rD hq hR
  refine Ev.step (fun k=>by simp only [bW.l1];rfl) ?_
  simp only [fk,fE,hn,and_self,if_true,(OW D c d).2 hq,aeu hn]
  exact Ev.bind (Pk n hn L hL h.sym c (Cd rD) (jD n D d)) hR
 ·intro d R c h1 hd rD hq hR
  refine Ev.step (fun k=>by simp only [bW.l1];rfl) ?_
  have e:bW.amr (aE n fun v=>(D v:Int)) (aE n c) (d:Int) n=false:=by
   cases e:bW.amr (aE n fun v=>(D v:Int)) (aE n c) (d:Int) n with
   | false=>rfl
   | true=>exact absurd ((OW D c d).1 e) hq
  simp only [fk,fE,hn,and_self,if_true,e,Bool.false_eq_true,if_false,wI ((d:Int) - 1) (by omega)]
  refine Ev.congr (fun k=>?_) hR
  rw [show ((d - 1:Nat):Int)=(d:Int) - 1 by omega]
 ·intro c rD
  have hB:=W9 n hn L hL h.off (aE n c) (fE _ _) (q:Int)
  cases e:zV n L (aE n c) q with
  | true =>
   obtain ⟨h1,h2,h3⟩:=adv h.off e
   refine Or.inl ⟨_,h1,h2,h3,fun R hR=>?_⟩
   refine Ev.step (fun k=>by simp only [bW.l0];rfl) ?_
   simp only [show ¬ ((((0:Nat):Int)) > 0) by omega,if_false]
   refine Ev.step (fun k=>by simp only [bW.l2];rfl) ?_
   refine Ev.bind hB ?_
   simp only [e,if_true]
   refine Ev.bind (Pk n hn L hL h.sym c (Cd rD) _) ?_
   obtain ⟨K,hK⟩:=hR
   refine ⟨K,fun k hk=>?_⟩
   have:=hK (k+1) (by omega)
   simp only [bW.l0,show ¬ ((((0:Nat):Int)) > 0) by omega,if_false] at this
   exact this
  | false =>
   refine Or.inr ⟨adu h.off e,?_⟩
   refine Ev.step (fun k=>by simp only [bW.l0];rfl) ?_
   simp only [show ¬ ((((0:Nat):Int)) > 0) by omega,if_false]
   refine Ev.step (fun k=>by simp only [bW.l2];rfl) ?_
   refine Ev.bind hB ?_
   simp only [e,Bool.false_eq_true,if_false]
   exact Ev.now _
theorem acQ (n : Nat) (hn : n ≤ 8) {L : Nat → Nat → Int} (h : eB n L) (hL : ∀ u w, -20 ≤ L u w ∧ L u w ≤ 20) {q : Nat} {D : Nat → Nat} (hD : nO n L q D) (hds : Ev (fun k => alr.f k (b9 n L) (q : Int)) (aE n fun v => (D v : Int))) (c : Nat → Int) (hb : l8 n c 4000) :
  ∃ c',wU n L q c'∧mR n L c c'∧Ev (fun k=>bW.f k (b9 n L) (aE n c) (q:Int)) (aE n c'):=by
 obtain ⟨c',hr,he,hE⟩:=acR n hn h hL hD c hb
 refine ⟨c',hr,he,?_⟩
 unfold bW.f
 rw [Sl _ (by rw [fE];omega)]
 simp only [Option.bind_some,fk]
 exact Ev.bind hds hE
theorem OP {n:Nat} {S T:Nat→Bool} (h:∀ y,y < n→S y=true→T y=true):iO n S≤iO n T:=by
 induction n with
 | zero=>exact Nat.le_refl _
 | succ n ih =>
  have h1:=ih (fun y hy=>h y (by omega))
  rw [yX,yX]
  by_cases e:S n=true
  ·rw [if_pos e,if_pos (h n (by omega) e)];omega
  ·rw [if_neg e];split<;>omega
theorem OO (n:Nat) (T:Nat→Bool):iO n T≤n:=by
 induction n with
 | zero=>exact Nat.le_refl _
 | succ n ih=>rw [yX];split<;>omega
structure DI (n:Nat) (L:Nat→Nat→Int) (q:Nat) (f:Nat→Int) (d v w:Nat):Prop where
 z:f q=0
 r:∀ x,x < n→f x=-1∨(0≤f x∧f x≤(d:Int)+1)
 u:∀ x,x < n→x ≠ q→0≤f x→∃ y,y < n∧0≤f y∧f y=f x - 1∧L x y≤-1
 c:∀ x,x < n→0≤f x→f x < (d:Int)→∀ y,y < n→L x y≤-1→0≤f y
 p:∀ x y,x < n→y < n→f x=(d:Int)→(x < v∨(x=v∧y < w))→L x y≤-1→0≤f y
theorem Uw {n:Nat} {L:Nat→Nat→Int} (hs:∀ i j,L i j=L j i) {q:Nat} {f:Nat→Int} {d v w:Nat} (h:DI n L q f d v w) (hv:v < n) (hw:w < n) (uV:f v=(d:Int)) (hL:L v w≤-1) (hfw:f w < 0):DI n L q (fun j=>if j=w then (d:Int)+1 else f j) d v (w+1):=by
 have hw1:f w=-1:=by have:=h.r w hw;omega
 have Bk:∀ y,0≤f y→0≤(if y=w then (d:Int)+1 else f y):=fun y hy=>by split<;>omega
 refine ⟨?_,fun x hx=>?_,fun x hx hq h0=>?_,fun x hx h0 h1 y hy hxy=>?_,fun x y hx hy rL hxy hLx=>?_⟩
 ·show (if q = w then (d : Int) + 1 else f q) = 0
  rw [if_neg (fun e=>by rw [← e,h.z] at hfw;omega)]
  exact h.z
 ·show (if x = w then (d : Int) + 1 else f x) = -1 ∨ _
  by_cases e:x=w
  ·simp only [if_pos e];omega
  ·simp only [if_neg e];exact h.r x hx
 ·by_cases e : x = w
  ·subst e
   refine ⟨v,hv,?_,?_,?_⟩
   ·exact Bk v (by omega)
   ·simp only [if_pos, if_neg (show ¬ v = x from fun e2 => by rw [e2, hw1] at uV; omega)]
    omega
   ·rw [hs];exact hL
  ·simp only [if_neg e] at h0 ⊢
   obtain ⟨y,hy,hy0,wK,wJ⟩:=h.u x hx hq h0
   have e2:¬ y=w:=fun e2=>by rw [e2,hw1] at hy0;omega
   exact ⟨y,hy,by rw [if_neg e2];exact hy0,by rw [if_neg e2];exact wK,wJ⟩
 ·by_cases e : x = w
  ·simp only [if_pos e] at h1;omega
  ·simp only [if_neg e] at h0 h1
   exact Bk y (h.c x hx h0 h1 y hy hxy)
 ·by_cases e : x = w
  ·simp only [if_pos e] at rL;omega
  ·simp only [if_neg e] at rL
   by_cases e2:y=w
   ·simp only [if_pos e2];omega
   ·exact Bk y (h.p x y hx hy rL (by omega) hLx)
theorem MS {n:Nat} {L:Nat→Nat→Int} {q:Nat} {f:Nat→Int} {d v w:Nat} (h:DI n L q f d v w) (hs:L v w≤-1→0≤f w):DI n L q f d v (w+1) :=
 ⟨h.z,h.r,h.u,h.c,fun x y hx hy rL hxy hL=>by
  by_cases e:x=v∧y=w
  ·rw [e.2];rw [e.1,e.2] at hL;exact hs hL
  ·exact h.p x y hx hy rL (by omega) hL⟩
theorem Uv {n:Nat} {L:Nat→Nat→Int} {q:Nat} {f:Nat→Int} {d v:Nat} (h:DI n L q f d v n):DI n L q f d (v+1) 0 :=
 ⟨h.z,h.r,h.u,h.c,fun x y hx hy rL hxy hL=>h.p x y hx hy rL (by omega) hL⟩
theorem Ut {n:Nat} {L:Nat→Nat→Int} {q:Nat} {f:Nat→Int} {d v:Nat} (h:DI n L q f d v 0) (hv:f v ≠ (d:Int)):DI n L q f d (v+1) 0 :=
 ⟨h.z,h.r,h.u,h.c,fun x y hx hy rL hxy hL=>by
  by_cases e:x=v
  ·rw [e] at rL;exact absurd rL hv
  ·exact h.p x y hx hy rL (by omega) hL⟩
theorem Uu {n:Nat} {L:Nat→Nat→Int} {q:Nat} {f:Nat→Int} {d:Nat} (h:DI n L q f d n 0):DI n L q f (d+1) 0 0 :=
 ⟨h.z,fun x hx=>by have:=h.r x hx;omega,h.u,fun x hx h0 h1 y hy hL=>by
  by_cases e:f x=(d:Int)
  ·exact h.p x y hx hy e (by omega) hL
  ·exact h.c x hx h0 (by omega) y hy hL,fun x y hx hy rL hxy hL=>by omega⟩
theorem aet (n : Nat) (hn : n ≤ 8) {L : Nat → Nat → Int} (hs : ∀ i j, L i j = L j i) (q d v : Nat) (hd : d < n) (hv : v < n)
  (next:∀ f',DI n L q f' d (v+1) 0→∃ g,DI n L q g n 0 0∧Ev (fun k=>alr.l2 k (b9 n L) (aE n f') d ((v+1:Nat):Int)) (aE n g)) :
  ∀ (t w:Nat) (f:Nat→Int),n - w=t→w≤n→DI n L q f d v w→f v=(d:Int)→∃ g,DI n L q g n 0 0∧Ev (fun k=>alr.l3 k (b9 n L) (aE n f) d v w) (aE n g):=by
 intro t
 induction t with
 | zero =>
  intro w f ht hw h uV
  obtain rfl:w=n:=by omega
  obtain ⟨g,hg,hE⟩:=next f (Uv h)
  refine ⟨g,hg,?_⟩
  refine Ev.step (fun k=>by simp only [alr.l3];rfl) ?_
  simp only [fk,Int.lt_irrefl,if_false]
  refine Ev.step (fun k=>by simp only [alr.j4];rfl) ?_
  simp only [Bool.false_eq_true,if_false,wI ((v:Int)+1) (by omega)]
  exact hE
 | succ t ih =>
  intro w f ht hw h uV
  have hwn:w < n:=by omega
  have start:∀ R,Ev (fun k=>if L v w < 0 then (if f w < 0 then alr.l3 k (b9 n L) ((aE n f).set w ((d:Int)+1)) d v ((w:Int)+1) else alr.l3 k (b9 n L) (aE n f) d v ((w:Int)+1)) else alr.l3 k (b9 n L) (aE n f) d v ((w:Int)+1)) R→Ev (fun k=>alr.l3 k (b9 n L) (aE n f) d v w) R:=by
   intro R hR
   refine Ev.step (fun k=>by simp only [alr.l3];rfl) ?_
   simp only [fk,fE,lI w n (by omega),if_true,cJ v,lI v n (by omega),gH hv,uV,beq_self_eq_true]
   refine Ev.step (fun k=>by simp only [alr.j4];rfl) ?_
   simp only [fk,fE,if_true,cJ v,lI v n (by omega),cJ w,lI w n (by omega),nU hv,gH hwn,Int.toNat_natCast,wI ((w:Int)+1) (by omega),wI ((d:Int)+1) (by omega)]
   exact hR
  by_cases e1:L v w < 0
  ·by_cases e2 : f w < 0
   ·obtain ⟨g,hg,hE⟩:=ih (w+1) (fun j=>if j=w then (d:Int)+1 else f j) (by omega) (by omega) (Uw hs h hv hwn uV (by omega) e2) (by
     show (if v=w then (d:Int)+1 else f v)=(d:Int)
     rw [if_neg (fun e=>by rw [← e,uV] at e2;omega)]
     exact uV)
    refine ⟨g,hg,start _ ?_⟩
    simp only [if_pos e1,if_pos e2,qT]
    exact hE
   ·obtain ⟨g, hg, hE⟩ := ih (w + 1) f (by omega) (by omega) (MS h (fun _ => by omega)) uV
    refine ⟨g,hg,start _ ?_⟩
    simp only [if_pos e1,if_neg e2]
    exact hE
  ·obtain ⟨g, hg, hE⟩ := ih (w + 1) f (by omega) (by omega) (MS h (fun hL => by omega)) uV
   refine ⟨g,hg,start _ ?_⟩
   simp only [if_neg e1]
   exact hE
theorem aes (n : Nat) (hn : n ≤ 8) {L : Nat → Nat → Int} (hs : ∀ i j, L i j = L j i) (q d : Nat) (hd : d < n)
  (next:∀ f',DI n L q f' (d+1) 0 0→∃ g,DI n L q g n 0 0∧Ev (fun k=>alr.l1 k (b9 n L) (aE n f') ((d+1:Nat):Int)) (aE n g)) :
  ∀ (t v:Nat) (f:Nat→Int),n - v=t→v≤n→DI n L q f d v 0→∃ g,DI n L q g n 0 0∧Ev (fun k=>alr.l2 k (b9 n L) (aE n f) d v) (aE n g):=by
 intro t
 induction t with
 | zero =>
  intro v f ht hv h
  obtain rfl:v=n:=by omega
  obtain ⟨g,hg,hE⟩:=next f (Uu h)
  refine ⟨g,hg,?_⟩
  refine Ev.step (fun k=>by simp only [alr.l2];rfl) ?_
  simp only [fk,Int.lt_irrefl,if_false,wI ((d:Int)+1) (by omega)]
  exact hE
 | succ t ih =>
  intro v f ht hv h
  have gG:v < n:=by omega
  by_cases e:f v=(d:Int)
  ·obtain ⟨g, hg, hE⟩ := aet n hn hs q d v hd gG (fun f' h' => ih (v + 1) f' (by omega) (by omega) h') n 0 f (by omega) (by omega) h e
   refine ⟨g,hg,?_⟩
   refine Ev.step (fun k=>by simp only [alr.l2];rfl) ?_
   simp only [fk,lI v n (by omega),if_true]
   exact hE
  ·obtain ⟨g, hg, hE⟩ := ih (v + 1) f (by omega) (by omega) (Ut h e)
   refine ⟨g,hg,?_⟩
   refine Ev.step (fun k=>by simp only [alr.l2];rfl) ?_
   simp only [fk,lI v n (by omega),if_true]
   refine Ev.step (fun k=>by simp only [alr.l3];rfl) ?_
   simp only [fk,fE,show ((0:Int) < (n:Int)) by omega,if_true,cJ v,lI v n (by omega),gH gG,beq_eq_false_iff_ne.mpr e]
   refine Ev.step (fun k=>by simp only [alr.j4];rfl) ?_
   simp only [Bool.false_eq_true,if_false,wI ((v:Int)+1) (by omega)]
   exact hE
theorem aer (n:Nat) (hn:n≤8) {L:Nat→Nat→Int} (hs:∀ i j,L i j=L j i) (q:Nat):∀ (t d:Nat) (f:Nat→Int),n - d=t→d≤n→DI n L q f d 0 0→∃ g,DI n L q g n 0 0∧Ev (fun k=>alr.l1 k (b9 n L) (aE n f) d) (aE n g):=by
 intro t
 induction t with
 | zero =>
  intro d f ht hd h
  obtain rfl:d=n:=by omega
  refine ⟨f,h,?_⟩
  refine Ev.step (fun k=>by simp only [alr.l1];rfl) ?_
  simp only [fk,Int.lt_irrefl,if_false]
  exact Ev.now _
 | succ t ih =>
  intro d f ht hd h
  obtain ⟨g,hg,hE⟩:=aes n hn hs q d (by omega) (fun f' h'=>ih (d+1) f' (by omega) (by omega) h') n 0 f (by omega) (by omega) h
  refine ⟨g,hg,?_⟩
  refine Ev.step (fun k=>by simp only [alr.l1];rfl) ?_
  simp only [fk,lI d n (by omega),if_true]
  exact hE
theorem aeq (n : Nat) (hn : n ≤ 8) (L : Nat → Nat → Int) (q : Nat) (hq : q < n) (R : List Int) (next : Ev (fun k => alr.l1 k (b9 n L) (aE n fun j => if j = q then 0 else -1) 0) R) :
  ∀ (t v:Nat),n - v=t→v≤n→Ev (fun k=>alr.l0 k (b9 n L) q (aE n fun j=>if j < v then -1 else 0) v) R:=by
 intro t
 induction t with
 | zero =>
  intro v ht hv
  obtain rfl:v=n:=by omega
  refine Ev.step (fun k=>by simp only [alr.l0];rfl) ?_
  simp only [fE,Int.lt_irrefl,if_false,cJ q,if_true,lI q v (by omega),Int.toNat_natCast,qT]
  rw [show (aE v fun j=>if j=q then (0:Int) else if j < v then -1 else 0)=aE v fun j=>if j=q then 0 else -1 from kJ fun j hj=>by rw [if_pos hj]]
  exact next
 | succ t ih =>
  intro v ht hv
  have h1:=ih (v+1) (by omega) (by omega)
  refine Ev.step (fun k=>by simp only [alr.l0];rfl) ?_
  simp only [fE,lI v n (by omega),if_true,cJ v,Int.toNat_natCast,qT,wI ((v:Int)+1) (by omega)]
  rw [show (aE n fun j=>if j=v then (-1:Int) else if j < v then -1 else 0)=aE n fun j=>if j < v+1 then -1 else 0 from kJ fun j hj=>by
   by_cases e:j=v
   ·rw [if_pos e,if_pos (by omega)]
   ·rw [if_neg e]
    by_cases e2:j < v
    ·rw [if_pos e2,if_pos (by omega)]
    ·rw [if_neg e2,if_neg (by omega)]]
  exact h1
theorem Ux {n:Nat} {L:Nat→Nat→Int} {q:Nat} (hq:q < n):DI n L q (fun j=>if j=q then 0 else -1) 0 0 0:=by
 refine ⟨if_pos rfl,fun x hx=>?_,fun x hx x_ h0=>?_,fun x hx h0 h1=>?_,fun x y hx hy rL hxy=>by omega⟩
 ·show (if x = q then (0 : Int) else -1) = -1 ∨ _
  by_cases e:x=q
  ·simp only [if_pos e];omega
  ·exact Or.inl (if_neg e)
 ·simp only [if_neg x_] at h0;omega
 ·omega
theorem Ur {n:Nat} {L:Nat→Nat→Int} {q:Nat} {f:Nat→Int} {d v w:Nat} (h:DI n L q f d v w):∀ (j x:Nat),x < n→f x=(j:Int)→j+1≤iO n (fun y=>decide (0≤f y) && decide (f y≤(j:Int))):=by
 intro j
 induction j with
 | zero =>
  intro x hx hf
  have:=Cq (n:=n) (v:=x) (T:=fun y=>decide (0≤f y) && decide (f y≤((0:Nat):Int))) hx (by simp;omega)
  omega
 | succ j ih =>
  intro x hx hf
  have x_:x ≠ q:=fun e=>by rw [e,h.z] at hf;omega
  obtain ⟨y,hy,hy0,wK,_⟩:=h.u x hx x_ (by omega)
  have h1:=ih y hy (by omega)
  have h2:=Cq (n:=n) (v:=x) (T:=fun y=>decide (0≤f y) && decide (f y≤((j+1:Nat):Int))) hx (by simp;omega)
  have h3:=OP (n:=n) (S:=fun y=>decide (0≤f y) && decide (f y≤(j:Int))) (T:=pN (fun y=>decide (0≤f y) && decide (f y≤((j+1:Nat):Int))) x) (fun z hz hS=>by
   simp only [Bool.and_eq_true,decide_eq_true_eq] at hS
   unfold pN
   rw [if_neg (fun e=>by rw [e] at hS;omega)]
   simp only [Bool.and_eq_true,decide_eq_true_eq]
   omega)
  omega
theorem Hp {n:Nat} {L:Nat→Nat→Int} {q:Nat} {f:Nat→Int} {d v w:Nat} (h:DI n L q f d v w) {x:Nat} (hx:x < n):f x < n:=by
 by_cases e:0≤f x
 ·have h1 := Ur h (f x).toNat x hx (by omega)
  have h2:=OO n (fun y=>decide (0≤f y) && decide (f y≤((f x).toNat:Int)))
  omega
 ·omega
theorem Us {n:Nat} {l:List (List Int)} (hE:endsIn n l) (h1:qQ (jL n l)=true) {q:Nat} (hq:q < n) {f:Nat→Int} (h:DI n (bP l l.length) q f n 0 0):(∀ v,v < n→f v=(((f v).toNat:Nat):Int))∧nO n (bP l l.length) q (fun v=>(f v).toNat):=by
 have hall:∀ v,v < n→0≤f v:=fun v hv=>by
  have hP:=Sj hE h1 (fun x=>0≤f x) (fun i hi u w hu hw=>by
   obtain ⟨_,u',w',Dg,hw',hun,hwn⟩:=hE i hi
   obtain rfl:u=u':=by omega
   obtain rfl:w=w':=by omega
   by_cases e:u=w
   ·rw [e]
   ·obtain ⟨ha, hb⟩ := SI hE i hi u w hu hw e
    exact ⟨fun h0=>h.c u hun h0 (Hp h hun) w hwn ha,fun h0=>h.c w hwn h0 (Hp h hwn) u hun hb⟩) q v hq hv
  exact hP.1 (by show 0≤f q;rw [h.z];exact Int.le_refl _)
 refine ⟨fun v hv=>by have:=hall v hv;omega,hq,by show (f q).toNat=0;rw [h.z];rfl,fun v hv=>?_,fun v hv qO=>?_⟩
 ·have := Hp h hv
  show (f v).toNat≤n
  omega
 ·obtain ⟨y, hy, hy0, wK, wJ⟩ := h.u v hv qO (hall v hv)
  exact ⟨y,hy,by show (f y).toNat < (f v).toNat;omega,wJ⟩
theorem acM (n : Nat) (hn : n ≤ 8) (l : List (List Int)) (hE : endsIn n l) (hl : l.length ≤ 10) (h1 : qQ (jL n l) = true) (q : Nat) (hq : q < n) :
  ∃ D:Nat→Nat,nO n (bP l l.length) q D∧Ev (fun k=>alr.f k (b9 n (bP l l.length)) (q:Int)) (aE n fun v=>(D v:Int)):=by
 obtain ⟨g,hg,we⟩:=aer n hn (zU hE hl).sym q n 0 _ (by omega) (by omega) (Ux hq)
 obtain ⟨he,hD⟩:=Us hE h1 hq hg
 refine ⟨fun v=>(g v).toNat,hD,?_⟩
 have h0:=aeq n hn (bP l l.length) q hq _ we n 0 (by omega) (by omega)
 rw [kJ he] at h0
 unfold alr.f
 simp only [fk,cJ n,if_true,Int.toNat_natCast,show n≤35184372088832 by omega]
 rw [show List.replicate n (0:Int)=aE n (fun j=>if j < 0 then -1 else 0) from by
  refine List.ext_getElem (by simp [aE]) fun i h1 h2=>?_
  simp [aE]]
 exact h0
structure EI (n:Nat) (L:Nat→Nat→Int) (q:Nat) (f:Nat→Int):Prop where
 z:f q=0
 r:∀ x,x < n→0≤f x∧f x≤(n:Int)
 u:∀ x,x < n→x ≠ q→f x=(n:Int)∨∃ y,y < n∧f y < f x∧L x y≤-1
def kI (f:Nat→Int) (u v:Nat):Nat→Int:=fun j=>if j=u then mn (f u) (f v+1) else f j
theorem SX (a b:Int):mn a b≤a∧mn a b≤b:=by unfold mn;split<;>omega
theorem uz (f:Nat→Int) (u v x:Nat):kI f u v x≤f x:=by
 unfold kI
 by_cases e:x=u
 ·rw [if_pos e,e];exact (SX _ _).1
 ·rw [if_neg e];exact Int.le_refl _
theorem Tq (f:Nat→Int) (u v:Nat):kI f u v u≤f v+1:=by
 unfold kI
 rw [if_pos rfl]
 exact (SX _ _).2
theorem MT {n:Nat} {L:Nat→Nat→Int} {q:Nat} {f:Nat→Int} (h:EI n L q f) {u v:Nat} (hu:u < n) (hv:v < n) (hL:u ≠ v→L u v≤-1):EI n L q (kI f u v):=by
 have uV:=h.r v hv
 have FP:=h.r u hu
 have hval:kI f u v u=f u∨(kI f u v u=f v+1∧f v+1 < f u):=by
  unfold kI mn
  rw [if_pos rfl]
  split<;>omega
 have KN:∀ x,x ≠ u→kI f u v x=f x:=fun x hx=>if_neg hx
 refine ⟨?_,fun x hx=>?_,fun x hx x_=>?_⟩
 ·by_cases e : q = u
  ·have hz := h.z
   rw [e] at hz ⊢
   omega
  ·rw [KN q e];exact h.z
 ·by_cases e : x = u
  ·rw [e];omega
  ·rw [KN x e];exact h.r x hx
 ·by_cases e : x = u
  ·rcases hval with h1 | ⟨h1, h2⟩
   ·rw [show kI f u v x = f x from by rw [e]; exact h1]
    rcases h.u x hx x_ with h3|⟨y,hy,wK,wJ⟩
    ·exact Or.inl h3
    ·exact Or.inr ⟨y,hy,Int.lt_of_le_of_lt (uz f u v y) wK,wJ⟩
   ·refine Or.inr ⟨v, hv, ?_, ?_⟩
    ·have := uz f u v v
     rw [e,h1]
     omega
    ·rw [e]
     exact hL (fun e2=>by rw [e2] at h2;omega)
  ·rw [KN x e]
   rcases h.u x hx x_ with h3|⟨y,hy,wK,wJ⟩
   ·exact Or.inl h3
   ·exact Or.inr ⟨y,hy,Int.lt_of_le_of_lt (uz f u v y) wK,wJ⟩
/-- What a round knows at edge i: nearer than before, and the edges told their ends. -/
def GC (l:List (List Int)) (f g:Nat→Int) (i:Nat):Prop:=(∀ x,g x≤f x)∧∀ j,j < i→∀ u v:Nat,rd (ag l (j:Int)) 0=u→rd (ag l (j:Int)) 1=v→g u≤f v+1∧g v≤f u+1
theorem acm (n : Nat) (mA : 1 ≤ n) (hn : n ≤ 8) (l : List (List Int)) (hl : l.length ≤ 10) (hE : endsIn n l) (q r : Nat) (hr : r < n) (f : Nat → Int)
  (next:∀ g,EI n (bP l l.length) q g→GC l f g l.length→∃ g',EI n (bP l l.length) q g'∧(∀ x,x < n→g' x < n)∧Ev (fun k=>cK.l0 k (aE n g) n ((r+1:Nat):Int) n l) (aE n g')) :
  ∀ (t i:Nat) (g:Nat→Int),l.length - i=t→i≤l.length→EI n (bP l l.length) q g→GC l f g i→∃ g',EI n (bP l l.length) q g'∧(∀ x,x < n→g' x < n)∧Ev (fun k=>cK.l1 k (aE n g) n r l l.length i n l) (aE n g'):=by
 intro t
 induction t with
 | zero =>
  intro i g ht hi h hm
  obtain rfl:i=l.length:=by omega
  obtain ⟨g',hg',hlt,pJ⟩:=next g h hm
  refine ⟨g',hg',hlt,?_⟩
  refine Ev.step (fun k=>by simp only [cK.l1];rfl) ?_
  simp only [Int.lt_irrefl,if_false,wI ((r:Int)+1) (by omega)]
  exact pJ
 | succ t ih =>
  intro i g ht hi h hm
  have hin:i < l.length:=by omega
  obtain ⟨hlen,u,v,hu,hv,hun,gG⟩:=hE i hin
  have hgu:=h.r u hun
  have hgv:=h.r v gG
  have hd:u ≠ v→bP l l.length u v≤-1∧bP l l.length v u≤-1:=SI hE i hin u v hu hv
  have PT:=MT h hun gG (fun e=>(hd e).1)
  have hI2:=MT PT gG hun (fun e=>(hd (fun e2=>e e2.symm)).2)
  have aiu:=PT.r u hun
  have hm2:GC l f (kI (kI g u v) v u) (i+1):=by
   refine ⟨fun x=>Int.le_trans (uz _ _ _ _) (Int.le_trans (uz _ _ _ _) (hm.1 x)),fun j hj u' v' Dg hv'=>?_⟩
   by_cases e:j=i
   ·subst e
    obtain rfl:u=u':=by omega
    obtain rfl:v=v':=by omega
    have h1:=uz (kI g u v) v u u
    have h2:=Tq g u v
    have h3:=Tq (kI g u v) v u
    have h4:=uz g u v u
    have h5:=hm.1 u
    have h6:=hm.1 v
    omega
   ·obtain ⟨h1, h2⟩ := hm.2 j (by omega) u' v' Dg hv'
    have h3:=uz (kI g u v) v u u'
    have h4:=uz g u v u'
    have h5:=uz (kI g u v) v u v'
    have h6:=uz g u v v'
    omega
  obtain ⟨g',hg',hlt,pJ⟩:=ih (i+1) (kI (kI g u v) v u) (by omega) (by omega) hI2 hm2
  refine ⟨g',hg',hlt,?_⟩
  refine Ev.step (fun k=>by simp only [cK.l1];rfl) ?_
  simp only [show ((i:Int) < (l.length:Int)) by omega,if_true,cJ i,hlen,hu,hv,show (0:Int) < ((2:Nat):Int) by decide,show (1:Int) < ((2:Nat):Int) by decide,cJ u,cJ v,fE,lI u n (by omega),lI v n (by omega),gH hun,gH gG,Int.toNat_natCast,wI (g v+1) (by omega),qT,Option.bind_some,wI ((i:Int)+1) (by omega)]
  have e1:mn (g u) (g v+1)=kI g u v u:=(if_pos rfl).symm
  have e2:(if v=u then kI g u v u else g v)=kI g u v v:=by
   show _=(if v=u then mn (g u) (g v+1) else g v)
   rw [e1]
  rw [e1,e2,wI (kI g u v u+1) (by omega)]
  refine Ev.congr (fun k=>?_) pJ
  rw [show ((i+1:Nat):Int)=(i:Int)+1 by omega]
  congr 1
  refine kJ fun j hj=>?_
  show _=(if j=v then mn (kI g u v v) (kI g u v u+1) else kI g u v j)
  by_cases e3:j=v
  ·rw [if_pos e3,if_pos e3]
  ·rw [if_neg e3, if_neg e3]
   by_cases e4:j=u
   ·rw [if_pos e4,e4]
   ·rw [if_neg e4]
    exact (if_neg e4).symm
theorem acj {n : Nat} {l : List (List Int)} (hE : endsIn n l) (h1 : qQ (jL n l) = true) {q : Nat} (hq : q < n) {f g : Nat → Int} (hf : EI n (bP l l.length) q f) {r : Nat} (hr : r < n) (hm : GC l f g l.length)
  (h:r+1≤iO n (fun x=>decide (f x≤(r:Int)))∨∀ x,x < n→f x < (n:Int)):r+1+1≤iO n (fun x=>decide (g x≤((r+1:Nat):Int)))∨∀ x,x < n→g x < (n:Int):=by
 rcases h with h|h
 ·by_cases hall : ∀ x, x < n → g x < (n : Int)
  ·exact Or.inr hall
  ·left
   obtain ⟨y,hy,wK,hyg⟩:∃ y,y < n∧(r:Int) < f y∧g y≤((r+1:Nat):Int):=by
    by_cases hno:∃ y,y < n∧(r:Int) < f y∧g y≤((r+1:Nat):Int)
    ·exact hno
    ·refine absurd (fun x hx => ?_) hall
     have hP:=Sj hE h1 (fun x=>f x≤(r:Int)) (fun i hi u w hu hw=>by
      obtain ⟨_,u',w',Dg,hw',hun,hwn⟩:=hE i hi
      obtain rfl:u=u':=by omega
      obtain rfl:w=w':=by omega
      obtain ⟨ha,hb⟩:=hm.2 i hi u w hu hw
      constructor
      ·intro h0
       by_cases e:f w≤(r:Int)
       ·exact e
       ·exact absurd ⟨w,hwn,by omega,by omega⟩ hno
      ·intro h0
       by_cases e:f u≤(r:Int)
       ·exact e
       ·exact absurd ⟨u,hun,by omega,by omega⟩ hno) q x hq hx
     have h2:f x≤(r:Int):=hP.1 (by show f q≤(r:Int);rw [hf.z];omega)
     have h3:=hm.1 x
     omega
   have h2:=Cq (n:=n) (v:=y) (T:=fun x=>decide (g x≤((r+1:Nat):Int))) hy (by simp only [decide_eq_true_eq];exact hyg)
   have h3:=OP (n:=n) (S:=fun x=>decide (f x≤(r:Int))) (T:=pN (fun x=>decide (g x≤((r+1:Nat):Int))) y) (fun z hz hS=>by
    simp only [decide_eq_true_eq] at hS
    unfold pN
    rw [if_neg (fun e=>by rw [e] at hS;omega)]
    simp only [decide_eq_true_eq]
    have:=hm.1 z
    omega)
   omega
 ·right
  intro x hx
  have h2:=h x hx
  have h3:=hm.1 x
  omega
theorem ack (n : Nat) (mA : 1 ≤ n) (hn : n ≤ 8) (l : List (List Int)) (hl : l.length ≤ 10) (hE : endsIn n l) (h1 : qQ (jL n l) = true) (q : Nat) (hq : q < n) : ∀ (t r : Nat) (f : Nat → Int), n - r = t → r ≤ n → EI n (bP l l.length) q f →
  (r+1≤iO n (fun x=>decide (f x≤(r:Int)))∨∀ x,x < n→f x < (n:Int))→∃ g',EI n (bP l l.length) q g'∧(∀ x,x < n→g' x < n)∧Ev (fun k=>cK.l0 k (aE n f) n r n l) (aE n g'):=by
 intro t
 induction t with
 | zero =>
  intro r f ht hr h hc
  obtain rfl:r=n:=by omega
  refine ⟨f,h,?_,?_⟩
  ·rcases hc with hc | hc
   ·have := OO r (fun x => decide (f x ≤ (r : Int)))
    omega
   ·exact hc
  ·refine Ev.step (fun k => by simp only [cK.l0]; rfl) ?_
   simp only [Int.lt_irrefl,if_false]
   exact Ev.now _
 | succ t ih =>
  intro r f ht hr h hc
  obtain ⟨g',hg',hlt,pJ⟩:=acm n mA hn l hl hE q r (by omega) f (fun g hg hm=>ih (r+1) g (by omega) (by omega) hg (acj hE h1 hq h (by omega) hm hc)) l.length 0 f (by omega) (by omega) h ⟨fun x=>Int.le_refl _,fun j hj=>absurd hj (Nat.not_lt_zero _)⟩
  refine ⟨g',hg',hlt,?_⟩
  refine Ev.step (fun k=>by simp only [cK.l0];rfl) ?_
  simp only [lI r n (by omega),if_true]
  exact pJ
theorem Uy {n:Nat} {L:Nat→Nat→Int} {q:Nat} (hq:q < n):EI n L q (fun j=>if j=q then 0 else (n:Int)):=by
 refine ⟨if_pos rfl,fun x hx=>?_,fun x hx x_=>Or.inl (if_neg x_)⟩
 show 0≤(if x=q then (0:Int) else (n:Int))∧(if x=q then (0:Int) else (n:Int))≤(n:Int)
 split<;>omega
theorem YD (n : Nat) (mA : 1 ≤ n) (hn : n ≤ 8) (l : List (List Int)) (hl : l.length ≤ 10) (hE : endsIn n l) (h1 : qQ (jL n l) = true) (q : Nat) (hq : q < n) :
  ∃ D:Nat→Nat,nO n (bP l l.length) q D∧Ev (fun k=>cK.f k n l (q:Int)) (aE n fun v=>(D v:Int)):=by
 obtain ⟨g,hg,hlt,pJ⟩:=ack n mA hn l hl hE h1 q hq n 0 _ (by omega) (by omega) (Uy hq) (Or.inl (by
  have:=Cq (n:=n) (v:=q) (T:=fun x=>decide ((if x=q then (0:Int) else (n:Int))≤((0:Nat):Int))) hq (by simp)
  omega))
 refine ⟨fun v=>(g v).toNat,⟨hq,by show (g q).toNat=0;rw [hg.z];rfl,fun v hv=>by have:=hg.r v hv;show (g v).toNat≤n;omega,fun v hv qO=>?_⟩,?_⟩
 ·rcases hg.u v hv qO with h2 | ⟨y, hy, wK, wJ⟩
  ·have := hlt v hv
   omega
  ·have := hg.r y hy
   exact ⟨y,hy,by show (g y).toNat < (g v).toNat;omega,wJ⟩
 ·unfold cK.f amN.f
  simp only [List.length_singleton,true_and,show (1:Int)≤(n:Int) by omega,show (n:Int)≤1048576 by omega,and_self,if_true,Option.bind_some,Int.toNat_natCast,List.length_replicate,cJ q,lI q n (by omega)]
  rw [show (List.replicate n (rd [(n:Int)] 0)).set q 0=aE n (fun j=>if j=q then 0 else (n:Int)) from by
   refine List.ext_getElem (by simp [aE]) fun i h1 h2=>?_
   rw [List.getElem_set]
   simp only [aE,List.getElem_map,List.getElem_range,List.getElem_replicate]
   by_cases e:q=i
   ·rw [if_pos e,if_pos e.symm]
   ·rw [if_neg e, if_neg (fun h => e h.symm)]
    rfl]
  rw [← kJ (g:=fun v=>g v) (h:=fun v=>(((g v).toNat:Nat):Int)) (fun v hv=>by have:=(hg.r v hv).1;omega)]
  exact pJ
theorem ZB (n:Nat) (hn:n≤8) (l:List (List Int)) (hl:l.length≤10) (hE:endsIn n l) (c:Nat→Int) (hc:∀ v,v < n→alh (c v)≤100000000000000000) (m:Nat):Ev (fun k=>cG.f k n l (aE n c) (sL n m)) (ane n (bP l l.length) (aE n c) m):=by
 have h:=JB n hn l hl hE c (sW m) hc (fun r _=>GD (fun i=>m.testBit i) r)
 rw [show (aE n fun w=>c w - alw n (tG (bP l l.length) (sW m) w))=ane n (bP l l.length) (aE n c) m from kJ fun w hw=>by
  rw [gH hw,l9 (g:=gW (bP l l.length) m w) (fun r _=>by
   unfold tG sW gW
   split<;>omega)]] at h
 exact h
theorem adx (n : Nat) (mA : 1 ≤ n) (hn : n ≤ 8) (l : List (List Int)) (hl : l.length ≤ 10) (hE : endsIn n l) (c : Nat → Int) (hb : ∀ v, v < n → alh (c v) ≤ 100000000000000000) (q : Nat) (hq : q < n) : ∀ (d m : Nat), 2 ^ n - m = d → m ≤ 2 ^ n →
  ∃ R:List Int,Ev (fun k=>alv.l0 k (aE n c) (q:Int) ((2 ^ n:Nat):Int) m n l) R∧((R=[]∧∀ m',m≤m'→m' < 2 ^ n→¬ zb n (bP l l.length) (aE n c) q m')∨∃ m',m' < 2 ^ n∧zb n (bP l l.length) (aE n c) q m'∧R=sL n m'):=by
 have hP:=ad2 hn
 generalize 2 ^ n=P at hP ⊢
 intro d
 induction d with
 | zero =>
  intro m hd hm
  obtain rfl:m=P:=by omega
  refine ⟨[],?_,Or.inl ⟨rfl,fun m' h1 h2=>by omega⟩⟩
  refine Ev.step (fun k=>by simp only [alv.l0];rfl) ?_
  simp only [Int.lt_irrefl,if_false]
  exact Ev.now _
 | succ d ih =>
  intro m hd hm
  have hmP:m < P:=by omega
  obtain ⟨R,hR,hiff⟩:=ih (m+1) (by omega) (by omega)
  have e1:wrap64 ((m:Int)+1)=((m+1:Nat):Int):=jO (by omega) (by omega)
  have more:¬ zb n (bP l l.length) (aE n c) q m→((R=[]∧∀ m',m≤m'→m' < P→¬ zb n (bP l l.length) (aE n c) q m')∨∃ m',m' < P∧zb n (bP l l.length) (aE n c) q m'∧R=sL n m'):=by
   intro hg
   rcases hiff with ⟨h0,h⟩|h
   ·refine Or.inl ⟨h0, fun m' h1 h2 => ?_⟩
    by_cases e:m'=m
    ·rw [e];exact hg
    ·exact h m' (by omega) h2
   ·exact Or.inr h
  have skip:Ev (fun k=>alv.j1 k (aE n c) (q:Int) m P m true n l) R:=by
   refine Ev.step (fun k=>by simp only [alv.j1];rfl) ?_
   simp only [if_true,e1]
   exact hR
  by_cases h0:m=0
  ·refine ⟨R, ?_, more (fun h => h.1 h0)⟩
   refine Ev.step (fun k=>by simp only [alv.l0];rfl) ?_
   simp only [show ((m:Int) < (P:Int)) by omega,if_true]
   simp only [show ((m:Int)=0) by omega,if_true]
   have:=skip
   simp only [show ((m:Int)=0) by omega] at this
   exact this
  ·have first:∀ R',Ev (fun k=>alv.j1 k (aE n c) (q:Int) m P m (m.testBit q) n l) R'→Ev (fun k=>alv.l0 k (aE n c) (q:Int) (P:Int) m n l) R':=by
    intro R' h
    refine Ev.step (fun k=>by simp only [alv.l0];rfl) ?_
    simp only [show ((m:Int) < (P:Int)) by omega,if_true,show ¬ ((m:Int)=0) by omega,if_false,cJ q,Ol m q (by omega) (by omega)]
    cases e:m.testBit q with
    | true=>rw [e] at h;simp only [if_true];exact h
    | false=>rw [e] at h;simp only [Bool.false_eq_true,if_false];exact h
   cases CR:m.testBit q with
   | true =>
    rw [CR] at first
    exact ⟨R,first R skip,more (fun h=>by rw [h.2.1] at CR;exact absurd CR (by decide))⟩
   | false =>
    rw [CR] at first
    have go:∀ R',Ev (fun k=>if (true && okF n (bP l l.length) (aE n c) m n 0)=true then (if sL n m=[] then none else some (sL n m)) else alv.l0 k (aE n c) (q:Int) P (wrap64 ((m:Int)+1)) n l) R'→Ev (fun k=>alv.j1 k (aE n c) (q:Int) m P m false n l) R':=by
     intro R' h
     have h2:=adz n hn (bP l l.length) (aE n c) (q:Int) P m l R' n 0 true (by omega) (by omega) h
     have h1:=ady n hn (aE n c) (q:Int) P m (by omega) l _ R' (ZB n hn l hl hE c hb m) (by rw [show (ane n (bP l l.length) (aE n c) m).length=n from fE _ _];exact h2) n 0 (by omega) (by omega)
     refine Ev.step (fun k=>by simp only [alv.j1];rfl) ?_
     simp only [Bool.false_eq_true,if_false,cJ n,if_true,Int.toNat_natCast,show n≤35184372088832 by omega,Option.bind_some,List.length_replicate]
     rw [show List.replicate n (0:Int)=aE n (fun w=>if w < 0 then sW m w else 0) from by
      refine List.ext_getElem (by simp [aE]) fun i h1 h2=>?_
      simp [aE]]
     exact h1
    have hne:sL n m ≠ []:=fun e=>by
     have h1:(sL n m).length=n:=fE _ _
     rw [e] at h1
     simp at h1
     omega
    cases hok:okF n (bP l l.length) (aE n c) m n 0 with
    | true =>
     refine ⟨sL n m,first _ (go _ ?_),Or.inr ⟨m,hmP,⟨h0,CR,hok⟩,rfl⟩⟩
     simp only [hok,Bool.and_self,if_true,if_neg hne]
     exact Ev.now _
    | false =>
     refine ⟨R,first _ (go _ ?_),more (fun h=>by rw [h.2.2] at hok;exact absurd hok (by decide))⟩
     simp only [hok,Bool.and_false,Bool.false_eq_true,if_false,e1]
     exact hR
theorem Z7 {n:Nat} {L:Nat→Nat→Int} (h:eB n L) {c:Nat→Int} {q m:Nat} (hm:m < 2 ^ n) (hg:zb n L (aE n c) q m):lawful L c n (fun i=>m.testBit i)∧m.testBit q=false∧∃ j,j < n∧m.testBit j=true:=by
 obtain ⟨h0,hq,hok⟩:=hg
 rw [S8] at hok
 refine ⟨fun v hv hS=>?_,hq,?_⟩
 ·have h1 := hok v (by omega) (by omega) hS
  rw [gH hv] at h1
  have h2:=Lo h.sym v (h.sum v) (fun i=>m.testBit i)
  have h3:alw n (gW L m v)=lH L n (fun i=>m.testBit i) v:=by
   rw [← h2]
   rfl
  omega
 ·obtain ⟨j, hj⟩ := Nat.exists_testBit_of_ne_zero h0
  refine ⟨j,?_,hj⟩
  by_cases e:j < n
  ·exact e
  ·rw [Nat.testBit_lt_two_pow (Nat.lt_of_lt_of_le hm (Nat.pow_le_pow_right (by decide) (by omega)))] at hj
   exact absurd hj (by decide)
theorem adr {n:Nat} {L:Nat→Nat→Int} (h:eB n L) {c:Nat→Int} {q:Nat} {S:Nat→Bool} (hl:lawful L c n S) (hq:S q=false) {j:Nat} (hj:j < n) (hS:S j=true):∃ m,m < 2 ^ n∧zb n L (aE n c) q m:=by
 refine ⟨rM n S,adH n S,fun e=>?_,by rw [GB,hq,Bool.and_false],?_⟩
 ·have := GB n S j
  rw [e,hS,decide_eq_true hj] at this
  simp at this
 ·rw [S8]
  intro v _ hv hb
  have gG:v < n:=by omega
  rw [GB,Bool.and_eq_true] at hb
  have h1:=hl v gG hb.2
  have h2:=Lo h.sym v (h.sum v) S
  rw [gH gG]
  have h3:alw n (gW L (rM n S) v)=lH L n S v:=by
   rw [← h2]
   refine l9 fun r hr=>?_
   unfold gW
   rw [GB,decide_eq_true hr,Bool.true_and]
  omega
theorem adw (n : Nat) (mA : 1 ≤ n) (hn : n ≤ 8) (l : List (List Int)) (hl : l.length ≤ 10) (hE : endsIn n l) (c : Nat → Int) (hb : ∀ v, v < n → alh (c v) ≤ 100000000000000000) (q : Nat) (hq : q < n) :
  (Ev (fun k=>alv.f k n l (aE n c) (q:Int)) []∧∀ S:Nat→Bool,lawful (bP l l.length) c n S→S q=false→∀ j,j < n→S j=false) ∨
  ∃ S:Nat→Bool,lawful (bP l l.length) c n S∧S q=false∧(∃ j,j < n∧S j=true)∧Ev (fun k=>alv.f k n l (aE n c) (q:Int)) (aE n (gU S)):=by
 have hM:=zU hE hl
 obtain ⟨R,hR,h⟩:=adx n mA hn l hl hE c hb q hq (2 ^ n) 0 (Nat.sub_zero _) (Nat.zero_le _)
 have pJ:Ev (fun k=>alv.f k n l (aE n c) (q:Int)) R:=by
  unfold alv.f
  simp only [cJ n,if_true,aey n hn]
  exact hR
 rcases h with ⟨h0,h⟩|⟨m,hm,hg,hRm⟩
 ·rw [h0] at pJ
  refine Or.inl ⟨pJ,fun S hS ani j hj=>?_⟩
  cases e:S j with
  | false=>rfl
  | true =>
   obtain ⟨m,hm,hg⟩:=adr hM hS ani hj e
   exact absurd hg (h m (by omega) hm)
 ·obtain ⟨h1, h2, h3⟩ := Z7 hM hm hg
  rw [hRm] at pJ
  exact Or.inr ⟨fun i=>m.testBit i,h1,h2,h3,pJ⟩
theorem ZE (n:Nat) (hn:n≤8):∀ (t i:Nat),n - i=t→i≤n→Ev (fun k=>iu.l0 k (aE i fun v=>(v:Int)) n i) (aE n fun v=>(v:Int)):=by
 intro t
 induction t with
 | zero =>
  intro i ht hi
  obtain rfl:i=n:=by omega
  refine Ev.step (fun k=>by simp only [iu.l0];rfl) ?_
  simp only [Int.lt_irrefl,if_false]
  exact Ev.now _
 | succ t ih =>
  intro i ht hi
  have h1:=ih (i+1) (by omega) (by omega)
  refine Ev.step (fun k=>by simp only [iu.l0];rfl) ?_
  simp only [lI i n (by omega),if_true,fE,show i < 17592186044416 by omega,wI ((i:Int)+1) (by omega)]
  have e:=Md i (fun v=>(v:Int))
  rw [e]
  exact h1
theorem Pn (n:Nat) (hn:n≤8) (l:List (List Int)):Ev (fun k=>iu.f k n l) (aE n fun v=>(v:Int)):=by
 unfold iu.f
 exact ZE n hn n 0 (by omega) (by omega)
theorem Tm (n:Nat) (D:Nat→Nat) (c:Nat→Int) (d:Nat) (b:Bool) (hb:b=true↔ams n D c d):Ev (fun k=>oc.f k (aE n fun v=>(v:Int)) (aE n fun v=>(D v:Int)) (d:Int) (aE n c)) b:=by
 refine ⟨0,fun k _=>?_⟩
 show oc.f k (aE n fun v=>(v:Int)) (aE n fun v=>(D v:Int)) (d:Int) (aE n c)=some b
 unfold oc.f
 rw [if_pos (by
  rw [List.all_eq_true]
  intro x hx
  unfold aE at hx
  rw [List.mem_map] at hx
  obtain ⟨v,hv,rfl⟩:=hx
  rw [List.mem_range] at hv
  simp only [fE,Bool.and_eq_true,decide_eq_true_eq]
  omega)]
 congr 1
 have key:(aE n fun v=>(v:Int)).any (vX (aE n fun v=>(D v:Int)) (d:Int) (aE n c))=true↔ams n D c d:=by
  rw [List.any_eq_true]
  constructor
  ·rintro ⟨x, hx, h⟩
   unfold aE at hx
   rw [List.mem_map] at hx
   obtain ⟨v,hv,rfl⟩:=hx
   rw [List.mem_range] at hv
   unfold vX at h
   rw [gH hv,gH hv,Bool.and_eq_true,beq_iff_eq,decide_eq_true_eq] at h
   exact ⟨v,hv,by omega,h.2⟩
  ·rintro ⟨v, hv, h1, h2⟩
   refine ⟨(v:Int),?_,?_⟩
   ·unfold aE
    exact List.mem_map.2 ⟨v,List.mem_range.2 hv,rfl⟩
   ·unfold vX
    rw [gH hv,gH hv,Bool.and_eq_true,beq_iff_eq,decide_eq_true_eq]
    exact ⟨by omega,h2⟩
 rw [Bool.eq_iff_iff,key,hb]
theorem aeh (n : Nat) (hn : n ≤ 8) (l : List (List Int)) (q : Nat) (D : Nat → Nat) (c : Nat → Int) (d : Nat) (R : List Int)
  (next:Ev (fun k=>alu.l2 k (q:Int) (aE n (gU (jD n D d))) (aE n fun v=>(D v:Int)) n l (aE n c) (aE n fun v=>(D v:Int)) (d:Int)) R) :
  ∀ (t i:Nat),n - i=t→i≤n→Ev (fun k=>alu.l1 k (q:Int) (aE n fun v=>if v < i then gU (jD n D d) v else 0) (aE n fun v=>(D v:Int)) n i n l (aE n c) (aE n fun v=>(D v:Int)) (d:Int)) R:=by
 intro t
 induction t with
 | zero =>
  intro i ht hi
  obtain rfl:i=n:=by omega
  refine Ev.step (fun k=>by simp only [alu.l1];rfl) ?_
  simp only [Int.lt_irrefl,if_false]
  rw [show (aE i fun v=>if v < i then gU (jD i D d) v else 0)=aE i (gU (jD i D d)) from kJ fun v hv=>if_pos hv]
  exact next
 | succ t ih =>
  intro i ht hi
  have hin:i < n:=by omega
  have h1:=ih (i+1) (by omega) (by omega)
  refine Ev.step (fun k=>by simp only [alu.l1];rfl) ?_
  simp only [lI i n (by omega),if_true,cJ i,fE,gH hin,Int.toNat_natCast,qT,wI ((i:Int)+1) (by omega)]
  by_cases e:D i < d
  ·simp only [show ((D i : Int) < (d : Int)) by omega, if_true]
   rw [show (aE n fun j=>if j=i then (1:Int) else if j < i then gU (jD n D d) j else 0)=aE n fun v=>if v < i+1 then gU (jD n D d) v else 0 from kJ fun j hj=>by
    by_cases e2:j=i
    ·rw [if_pos e2, if_pos (show j < i + 1 by omega), e2]
     unfold gU
     rw [if_pos (SN.2 ⟨hin,e⟩)]
    ·rw [if_neg e2]
     by_cases e3:j < i
     ·rw [if_pos e3,if_pos (show j < i+1 by omega)]
     ·rw [if_neg e3,if_neg (show ¬ j < i+1 by omega)]]
   exact h1
  ·simp only [show ¬ ((D i : Int) < (d : Int)) by omega, if_false]
   rw [show (aE n fun v=>if v < i then gU (jD n D d) v else 0)=aE n fun v=>if v < i+1 then gU (jD n D d) v else 0 from kJ fun j hj=>by
    by_cases e2:j=i
    ·rw [if_neg (show ¬ j < i by omega), if_pos (show j < i + 1 by omega), e2]
     unfold gU
     rw [if_neg (by rw [Lj (show d≤D i by omega)];decide)]
    ·by_cases e3 : j < i
     ·rw [if_pos e3,if_pos (show j < i+1 by omega)]
     ·rw [if_neg e3,if_neg (show ¬ j < i+1 by omega)]]
   exact h1
theorem aeg (n : Nat) (mA : 1 ≤ n) (hn : n ≤ 8) (l : List (List Int)) (hl : l.length ≤ 10) (hE : endsIn n l) {q : Nat} {D : Nat → Nat} (hD : nO n (bP l l.length) q D) (c : Nat → Int) (hb : l8 n c 4000) :
  ∃ c',wU n (bP l l.length) q c'∧mR n (bP l l.length) c c'∧Ev (fun k=>alu.l0 k (q:Int) (aE n fun v=>(D v:Int)) n l (aE n c) (n:Int)) (aE n c'):=by
 have hM:=zU hE hl
 refine Tl hn hM hD (fun d R c=>Ev (fun k=>alu.l0 k (q:Int) (aE n fun v=>(D v:Int)) n l (aE n c) (d:Int)) R) (fun d R c=>Ev (fun k=>alu.l2 k (q:Int) (aE n (gU (jD n D d))) (aE n fun v=>(D v:Int)) n l (aE n c) (aE n fun v=>(D v:Int)) (d:Int)) R) ?_ ?_ ?_ ?_ c hb
 ·intro d R c h1 hd hR
  refine Ev.step (fun k=>by simp only [alu.l0];rfl) ?_
  simp only [show ((d:Int) > 0) by omega,if_true,cJ n,Int.toNat_natCast,show n≤35184372088832 by omega,Option.bind_some,List.length_replicate]
  have h2:=aeh n hn l q D c d R hR n 0 (by omega) (by omega)
  rw [show (aE n fun v=>if v < 0 then gU (jD n D d) v else 0)=List.replicate n (0:Int) from by
   refine List.ext_getElem (by simp [aE]) fun i h1 h2=>?_
   simp [aE]] at h2
  exact h2
 ·intro d R c h1 hd rD hq hR
  refine Ev.step (fun k=>by simp only [alu.l2];rfl) ?_
  refine Ev.bind (Pn n hn l) (Ev.bind (Tm n D c d true ⟨fun _=>hq,fun _=>rfl⟩) ?_)
  simp only [if_true]
  exact Ev.bind (Pm n hn l hl hE c (Cd rD) (jD n D d)) hR
 ·intro d R c h1 hd rD hq hR
  refine Ev.step (fun k=>by simp only [alu.l2];rfl) ?_
  refine Ev.bind (Pn n hn l) (Ev.bind (Tm n D c d false ⟨fun h=>absurd h (by decide),fun h=>absurd h hq⟩) ?_)
  simp only [Bool.false_eq_true,if_false,wI ((d:Int) - 1) (by omega)]
  refine Ev.congr (fun k=>?_) hR
  rw [show ((d - 1:Nat):Int)=(d:Int) - 1 by omega]
 ·intro c rD
  have start:∀ (t R:List Int),Ev (fun k=>alv.f k n l (aE n c) (q:Int)) t→Ev (fun k=>alu.l3 k (q:Int) t n l (aE n c)) R→Ev (fun k=>alu.l0 k (q:Int) (aE n fun v=>(D v:Int)) n l (aE n c) (((0:Nat):Int))) R:=by
   intro t R ht hR
   refine Ev.step (fun k=>by simp only [alu.l0];rfl) ?_
   simp only [show ¬ ((((0:Nat):Int)) > 0) by omega,if_false]
   exact Ev.bind ht hR
  rcases adw n mA hn l hl hE c (Cd rD) q hD.1 with ⟨pJ,hno⟩|⟨S,h1,h2,h3,pJ⟩
  ·refine Or.inr ⟨hno, start _ _ pJ ?_⟩
   refine Ev.step (fun k=>by simp only [alu.l3];rfl) ?_
   simp only [List.length_nil,if_true,show (((0:Nat):Int)=0) by omega]
   exact Ev.now _
  ·refine Or.inl ⟨S, h1, h2, h3, fun R hR => start _ _ pJ ?_⟩
   refine Ev.step (fun k=>by simp only [alu.l3];rfl) ?_
   simp only [fE,show ¬ ((n:Int)=0) by omega,if_false]
   refine Ev.bind (Pm n hn l hl hE c (Cd rD) S) ?_
   obtain ⟨K,hK⟩:=hR
   refine ⟨K,fun k hk=>?_⟩
   have:=hK (k+1) (by omega)
   simp only [alu.l0,show ¬ ((((0:Nat):Int)) > 0) by omega,if_false] at this
   exact this
def z1 (a m:Nat) (f:Nat→Nat→Int):List (List Int):=(List.range a).map fun i=>aE m (f i)
theorem L0 (a m:Nat) (f:Nat→Nat→Int):(z1 a m f).length=a:=by simp [z1]
theorem Tr (a m:Nat) (f:Nat→Nat→Int):z1 a m f ++ [aE m (f a)]=z1 (a+1) m f:=by
 unfold z1
 rw [List.range_succ,List.map_append]
 rfl
theorem afh {m q:Nat} (hq:q < m+1) (g:Nat→Int):(aE (m+1) g).eraseIdx q=aE m (fun b=>g (alm q b)):=by
 refine List.ext_getElem ?_ fun i h1 h2=>?_
 ·rw [List.length_eraseIdx, fE, fE, if_pos hq]
  omega
 ·rw [List.getElem_eraseIdx]
  unfold alm
  simp only [aE,List.getElem_map,List.getElem_range]
  split<;>rfl
def nG (q i:Nat):Nat:=if i≤q then i else i - 1
theorem OQ {q i:Nat} (h:i ≠ q):alm q (nG q i)=i:=by
 unfold alm nG
 by_cases e:i≤q
 ·rw [if_pos e,if_pos (by omega)]
 ·rw [if_neg e,if_neg (by omega)];omega
theorem Yi {q i:Nat} (h:i ≠ q):nG q (i+1)=nG q i+1:=by
 unfold nG
 by_cases e:i≤q
 ·rw [if_pos e,if_pos (by omega)]
 ·rw [if_neg e,if_neg (by omega)];omega
theorem Yh (q:Nat):nG q (q+1)=nG q q:=by
 unfold nG
 rw [if_neg (by omega),if_pos (Nat.le_refl _)]
 omega
theorem Yg (q i:Nat):nG q i≤i:=by unfold nG;split<;>omega
theorem acw {m q:Nat} (hq:q < m+1) (t:Nat→Int):qP (aE m t) (q:Int) 0=aE (m+1) (fun w=>if w=q then 0 else t (nN q w)):=by
 unfold qP
 rw [Int.toNat_natCast]
 refine List.ext_getElem ?_ fun i h1 h2=>?_
 ·simp [aE];omega
 ·have hi : i < m + 1 := by simpa [aE] using h2
  rw [List.getElem_append]
  unfold nN
  by_cases e:i < q
  ·rw [dif_pos (by simp [aE]; omega)]
   simp only [aE,List.getElem_map,List.getElem_range,List.getElem_take]
   rw [if_neg (by omega),if_pos e]
  ·rw [dif_neg (by simp [aE]; omega), List.getElem_cons]
   by_cases e2:i=q
   ·rw [dif_pos (by simp [aE]; omega)]
    simp only [aE,List.getElem_map,List.getElem_range]
    rw [if_pos e2]
   ·rw [dif_neg (by simp [aE]; omega)]
    simp only [aE,List.getElem_map,List.getElem_range,List.getElem_drop,List.length_take,List.length_map,List.length_range]
    rw [if_neg e2,if_neg e]
    congr 1
    omega
theorem ZG {a b:Int} (ha:-2000000000≤a∧a≤2000000000) (hb:-2000000000≤b∧b≤2000000000) (h0:b ≠ 0):amM.f a b=some (uT a b):=by
 unfold amM.f uT
 by_cases e:a < 0
 ·have h1:alh (Int.tdiv (-a+b - 1) b)≤alh (-a+b - 1):=by
   unfold alh
   have:=Int.natAbs_tdiv_le_natAbs (-a+b - 1) b
   omega
  unfold alh at h1
  rw [if_pos e,if_pos e,if_neg h0,wI (-a) (by omega),wI (-a+b) (by omega),wI (-a+b - 1) (by omega),wI (Int.tdiv (-a+b - 1) b) (by omega),jO (by omega) (by omega)]
 ·have h1:alh (Int.tdiv a b)≤alh a:=by
   unfold alh
   have:=Int.natAbs_tdiv_le_natAbs a b
   omega
  unfold alh at h1
  rw [if_neg e,if_neg e,if_neg h0,jO (by omega) (by omega)]
theorem ZN (m : Nat) (hm : m + 1 ≤ 8) (L : Nat → Nat → Int) (q : Nat) (c : Nat → Int) (l : List (List Int)) (X : List Int) (dt : Int) (j : Nat) (hj : j < m) (R : List Int)
  (next:Ev (fun k=>(bq.f k (b9 m (cu (fO L q) j (fun b=>c (alm q b))))).bind fun t147=>(amM.f t147 dt).bind fun t148=>if (aE j (amB m L q c)).length < 17592186044416 then cw.l1 k X (q:Int) (b9 m (fO L q)) (aE m fun b=>c (alm q b)) dt (aE j (amB m L q c) ++ [t148]) m (wrap64 ((j:Int)+1)) ((m+1:Nat):Int) l else none) R) :
  ∀ (t i:Nat),m - i=t→i≤m→Ev (fun k=>cw.l2 k X (q:Int) (b9 m (fO L q)) (aE m fun b=>c (alm q b)) dt (aE j (amB m L q c)) j (z1 i m (cu (fO L q) j (fun b=>c (alm q b)))) m j m i ((m+1:Nat):Int) l) R:=by
 intro t
 induction t with
 | zero =>
  intro i ht hi
  obtain rfl:i=m:=by omega
  refine Ev.step (fun k=>by simp only [cw.l2];rfl) ?_
  simp only [Int.lt_irrefl,if_false]
  exact next
 | succ t ih =>
  intro i ht hi
  have C5:i < m:=by omega
  have h1:=ih (i+1) (by omega) (by omega)
  refine Ev.step (fun k=>by simp only [cw.l2];rfl) ?_
  simp only [lI i m (by omega),if_true,cJ i,fk,nU C5,oa.f,fE,show m < 17592186044416 by omega,Option.bind_some,cJ j,lI j m (by omega),L0,show i < 5864062014805 by omega,Int.toNat_natCast,gH C5,qT,wI ((i:Int)+1) (by omega)]
  rw [show (aE m fun b=>if b=j then c (alm q i) else fO L q i b)=aE m (cu (fO L q) j (fun b=>c (alm q b)) i) from rfl,Tr]
  exact h1
theorem ZM (m : Nat) (hm : m + 1 ≤ 8) (l : List (List Int)) (hl : l.length ≤ 10) (hE : endsIn (m + 1) l) {q : Nat} {D : Nat → Nat} (hD : nO (m + 1) (bP l l.length) q D) (c : Nat → Int) (hc : ∀ v, v < m + 1 → alh (c v) ≤ 100000000000000000) (zj : ∀ v, v < m + 1 → v ≠ q → alh (c v) ≤ 200) :
  ∀ (t j:Nat),m - j=t→j≤m→Ev (fun k=>cw.l1 k (aE (m+1) c) (q:Int) (b9 m (fO (bP l l.length) q)) (aE m fun b=>c (alm q b)) (aH m (fO (bP l l.length) q)) (aE j (amB m (bP l l.length) q c)) m j ((m+1:Nat):Int) l) (aE (m+1) (si m (bP l l.length) q c)):=by
 have hM:=zU hE hl
 have hq:q < m+1:=hD.1
 have h0:=OX (OZ hM hD)
 have hA:okB m (fO (bP l l.length) q):=.inl (JC hM hq)
 intro t
 induction t with
 | zero =>
  intro j ht hj
  obtain rfl:j=m:=by omega
  refine Ev.step (fun k=>by simp only [cw.l1];rfl) ?_
  simp only [Int.lt_irrefl,if_false,fE,show j < 17592186044416 by omega,true_and,cJ q,show (q:Int)≤(j:Int) by omega,and_self,if_true]
  rw [acw hq]
  have hf:=JB (j+1) hm l hl hE c (td j (bP l l.length) q c) hc (fun r hr=>by
   unfold td
   by_cases e:r=q
   ·rw [if_pos e];show (0:Int)≤1000000000000;decide
   ·rw [if_neg e]
    have hu:=Gx hq hr e
    have h1:=Fw (n:=j) (by omega) _ hA
    have h2:=Fw (n:=j) (by omega) _ (Pt hm hM hq c zj (nN q r) hu)
    have h3:=ZF (aH j (cu (fO (bP l l.length) q) (nN q r) (fun b=>c (alm q b)))) (aH j (fO (bP l l.length) q)) h0
    unfold amB
    unfold alh at h3 ⊢
    omega)
  rw [show (aE (j+1) fun w=>c w - alw (j+1) (tG (bP l l.length) (td j (bP l l.length) q c) w))=aE (j+1) (si j (bP l l.length) q c) from kJ fun w hw=>by
   unfold si
   rw [l9 (f:=tG (bP l l.length) (td j (bP l l.length) q c) w) (g:=fun r=>bP l l.length w r * td j (bP l l.length) q c r) (fun r _=>by
    unfold tG
    rw [hM.sym r w])]] at hf
  exact Ev.bind hf (Ev.now _)
 | succ t ih =>
  intro j ht hj
  have Be:j < m:=by omega
  have h1:=ih (j+1) (by omega) (by omega)
  have hB:=Pt hm hM hq c zj j Be
  refine Ev.step (fun k=>by simp only [cw.l1];rfl) ?_
  simp only [lI j m (by omega),if_true,fk]
  refine ZN m hm (bP l l.length) q c l _ _ j Be _ ?_ m 0 (by omega) (by omega)
  refine Ev.bind (TQ m (by omega) _ hB) ?_
  rw [ZG (Fw (by omega) _ hB) (Fw (by omega) _ hA) h0]
  simp only [Option.bind_some,fE,show j < 17592186044416 by omega,if_true,wI ((j:Int)+1) (by omega)]
  rw [show uT (aH m (cu (fO (bP l l.length) q) j (fun b=>c (alm q b)))) (aH m (fO (bP l l.length) q))=amB m (bP l l.length) q c j from rfl,Md]
  exact h1
theorem ZL (m : Nat) (hm : m + 1 ≤ 8) (L : Nat → Nat → Int) {q : Nat} (hq : q < m + 1) (c : Nat → Int) (l : List (List Int)) (R : List Int)
  (next:Ev (fun k=>(bq.f k (b9 m (fO L q))).bind fun t125=>cw.l1 k (aE (m+1) c) (q:Int) (b9 m (fO L q)) (aE m fun b=>c (alm q b)) t125 [] m 0 ((m+1:Nat):Int) l) R) :
  ∀ (t i:Nat),m+1 - i=t→i≤m+1→Ev (fun k=>cw.l0 k (aE (m+1) c) (q:Int) (z1 (nG q i) m (fO L q)) (aE (nG q i) fun b=>c (alm q b)) (b9 (m+1) L) ((m+1:Nat):Int) i ((m+1:Nat):Int) l) R:=by
 intro t
 induction t with
 | zero =>
  intro i ht hi
  obtain rfl:i=m+1:=by omega
  have e:nG q (m+1)=m:=by unfold nG;rw [if_neg (by omega)];omega
  refine Ev.step (fun k=>by simp only [cw.l0];rfl) ?_
  simp only [Int.lt_irrefl,if_false,e,L0]
  exact next
 | succ t ih =>
  intro i ht hi
  have C5:i < m+1:=by omega
  have h1:=ih (i+1) (by omega) (by omega)
  refine Ev.step (fun k=>by simp only [cw.l0];rfl) ?_
  simp only [show ((i:Int) < ((m+1:Nat):Int)) by omega,if_true,cJ i,fk,nU C5,oa.f,fE,show m+1 < 17592186044416 by omega,Option.bind_some,cJ q,show ((q:Int) < ((m+1:Nat):Int)) by omega,L0,Int.toNat_natCast,gH C5,wI ((i:Int)+1) (by omega)]
  by_cases e:i=q
  ·simp only [show ((i : Int) = (q : Int)) by omega, if_true]
   rw [e,Yh] at h1
   rw [e]
   exact h1
  ·have hle := Yg q i
   simp only [show ¬ ((i:Int)=(q:Int)) by omega,if_false,show nG q i < 5864062014805 by omega,show nG q i < 17592186044416 by omega,if_true]
   rw [Yi e] at h1
   rw [afh hq]
   rw [show (aE m fun b=>L i (alm q b))=aE m (fO L q (nG q i)) from kJ fun b _=>by unfold fO;rw [OQ e],Tr]
   have e3:=Md (nG q i) (fun b=>c (alm q b))
   simp only [OQ e] at e3
   rw [e3]
   exact h1
theorem ZQ (m : Nat) (hm : m + 1 ≤ 8) (l : List (List Int)) (hl : l.length ≤ 10) (hE : endsIn (m + 1) l) {q : Nat} {D : Nat → Nat} (hD : nO (m + 1) (bP l l.length) q D) (c : Nat → Int) (hc : ∀ v, v < m + 1 → alh (c v) ≤ 100000000000000000) (zj : ∀ v, v < m + 1 → v ≠ q → alh (c v) ≤ 200) :
  Ev (fun k=>cw.f k ((m+1:Nat):Int) l (aE (m+1) c) (q:Int)) (aE (m+1) (si m (bP l l.length) q c)):=by
 have hM:=zU hE hl
 have hA:okB m (fO (bP l l.length) q):=.inl (JC hM hD.1)
 unfold cw.f
 refine Ev.bind (SK (m+1) hm l hl hE) ?_
 simp only [fk]
 have h0:=ZL m hm (bP l l.length) hD.1 c l _ (Ev.bind (TQ m (by omega) _ hA) (ZM m hm l hl hE hD c hc zj m 0 (by omega) (by omega))) (m+1) 0 (by omega) (by omega)
 exact h0
theorem S7 {m q:Nat} (hm:m+1≤8) (hq:q < m+1) {c:Nat→Int} {X:Int} (hX:0≤X) (h:∀ v,v < m+1→v ≠ q→alh (c v)≤X):alw (m+1) c - c q≤7 * X∧-(7 * X)≤alw (m+1) c - c q:=by
 have h7:(m:Int) * X≤7 * X:=Int.mul_le_mul_of_nonneg_right (by omega) hX
 have h1:ay m (fun t=>c (alm q t))≤m * X:=G1 m fun i hi=>by
  have:=h _ (yc hq hi) (zR q i)
  unfold alh at this
  omega
 have h2:ay m (fun t=>-c (alm q t))≤m * X:=G1 m fun i hi=>by
  have:=h _ (yc hq hi) (zR q i)
  unfold alh at this
  omega
 have h3:ay m (fun t=>-c (alm q t))=-ay m (fun t=>c (alm q t)):=by rw [← lO,← lO,Cf]
 have h4:=am5 m q hq c
 rw [lO,h4]
 omega
/-- Both reductions, at chips that are small enough. -/
theorem aef (n : Nat) (mA : 1 ≤ n) (hn : n ≤ 8) (l : List (List Int)) (hl : l.length ≤ 10) (hE : endsIn n l) (h1 : qQ (jL n l) = true) (q : Nat) (hq : q < n) (c : Nat → Int) (hc : ∀ v, v < n → v ≠ q → alh (c v) ≤ 200) (zj : alh (c q) ≤ 2000) :
  ∃ c',wU n (bP l l.length) q c'∧mR n (bP l l.length) c c'∧Ev (fun k=>bW.f k (b9 n (bP l l.length)) (aE n c) (q:Int)) (aE n c')∧Ev (fun k=>alu.f k n l (aE n c) (q:Int)) (aE n c'):=by
 have hM:=zU hE hl
 obtain ⟨D1,hD1,hds⟩:=acM n hn l hE hl h1 q hq
 obtain ⟨D2,JX,CZ⟩:=YD n mA hn l hl hE h1 q hq
 have hb:∀ v,v < n→alh (c v)≤2000:=fun v hv=>by
  by_cases e:v=q
  ·rw [e];exact zj
  ·have:=hc v hv e;omega
 obtain ⟨c1,cE,ann,we⟩:=acQ n hn hM (Li hl) hD1 hds c (fun v hv=>by have:=hb v hv;omega)
 obtain ⟨m,rfl⟩:∃ m,n=m+1:=⟨n - 1,by omega⟩
 have hg:=ZQ m hn l hl hE JX c (fun v hv=>by have:=hb v hv;omega) hc
 have Q4:∀ v,v < m+1→v ≠ q→alh (si m (bP l l.length) q c v)≤80:=fun v hv qO=>ZO hM JX c v hv qO
 have QJ:=ZK m (bP l l.length) q c
 have J8:l8 (m+1) (si m (bP l l.length) q c) 4000:=fun v hv=>by
  by_cases e:v=q
  ·have h2 := S7 hn hq (by decide) Q4
   have h3:=S7 hn hq (by decide) hc
   have h4:=Pf hM QJ
   rw [e]
   unfold alh at zj ⊢
   omega
  ·have := Q4 v hv e
   omega
 obtain ⟨c2,lC,he2,zc⟩:=aeg (m+1) mA hn l hl hE JX _ J8
 have hsame:∀ v,v < m+1→c1 v=c2 v:=fun v hv=>aee hM (anf (Zr ann) (anf QJ he2)) cE lC v hv
 refine ⟨c1,cE,ann,we,?_⟩
 rw [kJ hsame]
 unfold alu.f
 exact Ev.bind hg (Ev.bind CZ zc)
theorem afg {n:Nat} {c:List Int} (h:c.length=n):aE n (fun w=>rd c (w:Int))=c:=(afi h).symm
/-- Both sides of ReduceChips. -/
theorem Wq (a : Int) (l : List (List Int)) (c : List Int) (q : Int) (hl : l.length ≤ maxLen) (hc : c.length ≤ maxLen) :
  ∃ (r:List Int) (e:Int),Ev (fun k=>o_.f k a l c q) (r,e)∧Ev (fun k=>og.f k a l c q) (r,e)∧r.length≤1048576:=by
 by_cases h:yU a l c q=0
 ·have h' := h
  unfold yU at h'
  cases hg:mC a l with
  | false=>rw [hg] at h';simp at h'
  | true =>
   cases hk:vV a c && amk a q with
   | false=>rw [hg,hk] at h';simp at h'
   | true =>
    cases hp:qQ (jL a.toNat l) with
    | false=>rw [hg,hk,hp] at h';simp at h'
    | true =>
     rw [Bool.and_eq_true] at hk
     obtain ⟨n,rfl,mA,wG,hE⟩:=K0 hg
     have Bf:=K1 hg
     obtain ⟨hcl,hcb⟩:=X3 hk.1
     have wh:c.length=n:=by omega
     have RN:=hk.2
     unfold amk at RN
     rw [Bool.and_eq_true,decide_eq_true_eq,decide_eq_true_eq,jO (by omega) (by omega)] at RN
     obtain ⟨q',rfl⟩:∃ q':Nat,q=(q':Int):=⟨q.toNat,by omega⟩
     rw [Int.toNat_natCast] at hp
     have hb:∀ v,v < n→alh (rd c (v:Int))≤200:=fun v hv=>by
      have:=X2 hcb v (by omega)
      unfold alh
      omega
     obtain ⟨c',_,_,we,zc⟩:=aef n mA wG l Bf hE hp q' (by omega) (fun v=>rd c (v:Int)) (fun v hv _=>hb v hv) (by have:=hb q' (by omega);omega)
     rw [afg wh] at we zc
     refine ⟨aE n c',0,?_,?_,by rw [fE];omega⟩
     ·unfold o_.f
      refine Ev.bind (Sm n l c q' hl hc) ?_
      simp only [h,if_true]
      exact Ev.bind (acN n wG l Bf hE) (Ev.bind we (Ev.now _))
     ·unfold og.f
      refine Ev.bind (OK n l c q' hl) ?_
      simp only [h,if_true]
      exact Ev.bind zc (Ev.now _)
 ·refine ⟨[], yU a l c q, ?_, ?_, by simp⟩
  ·unfold o_.f
   refine Ev.bind (Sm a l c q hl hc) ?_
   simp only [h,if_false]
   exact Ev.now _
  ·unfold og.f
   refine Ev.bind (OK a l c q hl) ?_
   simp only [h,if_false]
   exact Ev.now _
theorem adD (a : Int) (l : List (List Int)) (c : List Int) (v : Int) (_ : (Lit.int .i64 a).wf = true) (hl : l.length ≤ maxLen) (_ : ∀ x ∈ l, x.length ≤ maxLen ∧ ∀ n ∈ x, (Lit.int .i64 n).wf = true) (hc : c.length ≤ maxLen) (_ : ∀ n ∈ c, (Lit.int .i64 n).wf = true) (_ : (Lit.int .i64 v).wf = true) :
  ∃ (r:List Int) (e:Int),Ev (fun k=>o_.f k a l c v) (r,e)∧Ev (fun k=>og.f k a l c v) (r,e)∧r.length≤1048576:=Wq a l c v hl hc
end Go.Proofs.Ytoebojnhchocaaa.B
namespace Go.Proofs.Ytoebojnhchocaaa.Pure
open Go.RowKit Go.Proofs.bC.eg Go.Proofs.bC.iZ Go.Proofs.bC.jr Go.Proofs.Ytoebojnhchocaaa.B
theorem UL:amz.Pure:=by
 intro a0 l0 l1 a2 w0 hm0 hx0 zA hx1 w2 qG
 have hy0:∀ x ∈ l0,x.length≤maxLen:=fun x h=>(hx0 x h).1
 obtain ⟨z0,Pj,z01,z02,z03⟩:=aeP a0 l0 1048576 (by omega) (by omega) hm0 hy0
 by_cases hn0:z0 < 0
 ·obtain ⟨k, hk⟩ := Ev.rounds Pj
  exact Or.inl ⟨k,z0,hn0,hk⟩
 ·refine Or.inr ?_
  obtain ⟨FZ,hs0⟩:=z03 (by omega)
  obtain ⟨ic,sH,es,ei,I_⟩:=adD a0 l0 l1 a2 w0 hm0 hx0 zA hx1 w2
  have tt0:=ae7 l0 FZ hs0
  obtain ⟨k0,YP⟩:=ae2 a0 l0 (by omega) (fun x h=>by have:=hs0 x h;omega)
  obtain ⟨k1,YW⟩:=Zn a0 l0 hm0 hy0
  obtain ⟨k2,YQ⟩:=TA l1 (by omega)
  obtain ⟨k3,YX⟩:=Jz l1 zA
  obtain ⟨k4,YZ⟩:=Pj
  obtain ⟨k5,YY⟩:=es
  obtain ⟨k6,YS⟩:=ei
  obtain ⟨k7,YO⟩:=Jz ic (Nat.le_trans I_ (by unfold maxLen;omega))
  obtain ⟨k8,YT⟩:=adE l0 (1) FZ hs0 (by omega) (by omega)
  obtain ⟨k9,YU⟩:=Lm l1 (1+(tot l0:Int)) qG (by omega) (by omega)
  obtain ⟨k10,YV⟩:=Lm ic (1) I_ (by omega) (by omega)
  obtain ⟨k11,YR⟩:=aa_ ic.length (1) I_ (by omega) (by omega)
  exact ⟨k0+k1+k2+k3+k4+k5+k6+k7+k8+k9+k10+k11,z0,ic,sH,1+(tot l0:Int),ye l0 (1),1+(tot l0:Int)+(l1.length:Int),mZ l1.length (1+(tot l0:Int)),1+(ic.length:Int),mZ ic.length (1),by omega,by omega,by omega,YP _ (by omega),YW _ (by omega),YQ _ (by omega),YX _ (by omega),YZ _ (by omega),YY _ (by omega),YS _ (by omega),YO _ (by omega),YT _ (by omega),YU _ (by omega),YV _ (by omega),YR _ (by omega)⟩
end Go.Proofs.Ytoebojnhchocaaa.Pure
/- Set with little white space, by a program. -/
