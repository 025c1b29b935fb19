/- Plain lemmas on the Lean functions that FnExactAreEquivalentChips reaches, and its pure statement. No condition. -/
import Derived.Test.YtoebojnhchocaaaCLib
namespace Go.Proofs.Ytoebojnhchocaaa.C
open Go.RowKit Go.Proofs.bI.en Go.Proofs.bI.je Go.Proofs.bI.jC
set_option linter.unusedVariables false
set_option linter.unusedSimpArgs false
/-- The eight marks, as the code keeps them. -/
def lb (T:Nat→Bool):List Bool:=(List.range 8).map T
theorem FP (T:Nat→Bool) {i:Nat} (h:i < 8):nP false (lb T) (i:Int)=T i:=by
 unfold nP lb
 rw [List.getD_eq_getElem?_getD,Int.toNat_natCast,List.getElem?_map,List.getElem?_range h]
 rfl
theorem acT {S T:Nat→Bool} (h:∀ j,j < 8→S j=T j):lb S=lb T:=by
 unfold lb
 refine List.map_congr_left fun j hj=>h j (by simpa using hj)
theorem RA (T:Nat→Bool) (v:Nat) (b:Bool):(lb T).set v b=lb (fun j=>if j=v then b else T j):=by
 refine List.ext_getElem (by simp [lb]) fun i h1 h2=>?_
 rw [List.getElem_set]
 simp only [lb,List.getElem_map,List.getElem_range]
 by_cases h:v=i
 ·subst h;simp
 ·rw [if_neg h,if_neg (fun e=>h e.symm)]
/-- What has been counted of v's burning before w. -/
def tE (L:Nat→Nat→Int) (T:Nat→Bool) (v w:Nat):Int:=aku w (fun u=>if u=v∨T u=true then 0 else -(L v u))
theorem adm {L:Nat→Nat→Int} {T:Nat→Bool} {v:Nat} (n:Nat) (h:T v=true):tE L T v n=akY L n T v:=by
 unfold tE akY
 refine mq fun u _=>?_
 by_cases h1:T u=true
 ·rw [if_pos (Or.inr h1),if_pos h1]
 ·rw [if_neg h1,if_neg (fun e=>e.elim (fun e=>h1 (e ▸ h)) h1)]
theorem adl {L:Nat→Nat→Int} (hL:∀ u w,-20≤L u w∧L u w≤20) (T:Nat→Bool) (v:Nat) {w:Nat} (hw:w≤8):-160≤tE L T v w∧tE L T v w≤160:=by
 have h:=V2 (n:=w) (f:=fun u=>if u=v∨T u=true then 0 else -(L v u)) (fun u _=>by
  have:=hL v u
  by_cases e:u=v∨T u=true
  ·simp only [if_pos e];omega
  ·simp only [if_neg e];omega)
 unfold tE
 omega
theorem V8 (n : Nat) (hn : n ≤ 8) (L : Nat → Nat → Int) (hL : ∀ u w, -20 ≤ L u w ∧ L u w ≤ 20) (c : List Int) (hc : c.length = n) (T : Nat → Bool) (any more : Bool) (v : Nat) (hv : v < n) (R : List Bool × Bool)
  (next:Ev (fun k=>if T v=true∧rd c (v:Int) < akY L n T v then bB.l2 k (bZ n L) c (lb (oW T v)) any true ((v+1:Nat):Int) else bB.l2 k (bZ n L) c (lb T) any more ((v+1:Nat):Int)) R) :
  ∀ (q w:Nat),n - w=q→w≤n→Ev (fun k=>bB.l3 k (bZ n L) c (lb T) any more v (tE L T v w) w) R:=by
 intro q
 induction q with
 | zero =>
  intro w hq hw
  obtain rfl:w=n:=by omega
  refine Ev.step (fun k=>by simp only [bB.l3];rfl) ?_
  simp only [fo,Int.lt_irrefl,if_false,cD v,show ((v:Int) < 8) by omega,if_true,FP T (show v < 8 by omega),hc,lI v w (by omega),wI ((v:Int)+1) (by omega),Int.toNat_natCast,RA]
  cases hT:T v with
  | false =>
   simp only [hT,Bool.false_eq_true,false_and,if_false] at next ⊢
   exact next
  | true =>
   simp only [hT,true_and,if_true,adm w hT] at next ⊢
   by_cases h:rd c (v:Int) < akY L w T v
   ·simp only [if_pos h, show akY L w T v > rd c (v : Int) from h, if_true] at next ⊢
    exact next
   ·simp only [if_neg h, show ¬ (akY L w T v > rd c (v : Int)) from h, if_false] at next ⊢
    exact next
 | succ q ih =>
  intro w hq hw
  have hwn:w < n:=by omega
  have e:tE L T v (w+1)=tE L T v w+(if w=v∨T w=true then 0 else -(L v w)):=rfl
  have hb:=adl hL T v (show w≤8 by omega)
  have h1:=hL v w
  have h2:=ih (w+1) (by omega) (by omega)
  refine Ev.step (fun k=>by simp only [bB.l3];rfl) ?_
  simp only [fo,lI w n (by omega),if_true,cD w,cD v,show ((w:Int) < 8) by omega,lI v n (by omega),FP T (show w < 8 by omega),nQ hv,fq,gu hwn,wI ((w:Int)+1) (by omega)]
  by_cases h:w=v
  ·subst h
   rw [e,if_pos (Or.inl rfl),Int.add_zero] at h2
   simp only [if_true]
   exact h2
  ·simp only [show ¬ ((v : Int) = (w : Int)) by omega, if_false]
   cases hT:T w with
   | true =>
    rw [e,if_pos (Or.inr hT),Int.add_zero] at h2
    simp only [if_true]
    exact h2
   | false =>
    rw [e,if_neg (fun e=>e.elim h (fun e=>by rw [hT] at e;exact absurd e (by decide)))] at h2
    simp only [Bool.false_eq_true,if_false]
    rw [wI (tE L T v w - L v w) (by omega),show tE L T v w - L v w=tE L T v w+-(L v w) by omega]
    exact h2
theorem Nt (n : Nat) (hn : n ≤ 8) (L : Nat → Nat → Int) (hL : ∀ u w, -20 ≤ L u w ∧ L u w ≤ 20) (c : List Int) (hc : c.length = n) (any : Bool) (R : List Bool × Bool) :
  ∀ (d v:Nat) (T:Nat→Bool) (m:Bool),n - v=d→v≤n→Ev (fun k=>bB.l1 k (bZ n L) c (lb (jk L (fun j=>rd c (j:Int)) n d v T m).1) any (jk L (fun j=>rd c (j:Int)) n d v T m).2) R →
  Ev (fun k=>bB.l2 k (bZ n L) c (lb T) any m v) R:=by
 intro d
 induction d with
 | zero =>
  intro v T m hd hv h
  obtain rfl:v=n:=by omega
  refine Ev.step (fun k=>by simp only [bB.l2];rfl) ?_
  simp only [fo,Int.lt_irrefl,if_false]
  exact h
 | succ d ih =>
  intro v T m hd hv h
  have gq:v < n:=by omega
  refine Ev.step (fun k=>by simp only [bB.l2];rfl) ?_
  simp only [fo,lI v n (by omega),if_true]
  have h0:=V8 n hn L hL c hc T any m v gq R ?_ n 0 (by omega) (by omega)
  ·exact h0
  ·by_cases e : T v = true ∧ rd c (v : Int) < akY L n T v
   ·simp only [if_pos e]
    refine ih (v+1) (oW T v) true (by omega) (by omega) ?_
    have e2:jk L (fun j=>rd c (j:Int)) n (d+1) v T m=jk L (fun j=>rd c (j:Int)) n d (v+1) (oW T v) true:=if_pos e
    rw [e2] at h
    exact h
   ·simp only [if_neg e]
    refine ih (v+1) T m (by omega) (by omega) ?_
    have e2:jk L (fun j=>rd c (j:Int)) n (d+1) v T m=jk L (fun j=>rd c (j:Int)) n d (v+1) T m:=if_neg e
    rw [e2] at h
    exact h
theorem V7 (n : Nat) (hn : n ≤ 8) (L : Nat → Nat → Int) (hL : ∀ u w, -20 ≤ L u w ∧ L u w ≤ 20) (ho : ∀ u w, u ≠ w → L u w ≤ 0) (c : List Int) (hc : c.length = n) (any : Bool) (R : List Bool × Bool) :
  ∀ (N:Nat) (T:Nat→Bool),iM n T≤N→Ev (fun k=>bB.l4 k (bZ n L) (lb (mY L (fun j=>rd c (j:Int)) n N T)) any 0) R→Ev (fun k=>bB.l1 k (bZ n L) c (lb T) any true) R:=by
 have stop:∀ T:Nat→Bool,(jk L (fun j=>rd c (j:Int)) n n 0 T false).2=false→Ev (fun k=>bB.l4 k (bZ n L) (lb T) any 0) R→Ev (fun k=>bB.l1 k (bZ n L) c (lb T) any true) R:=by
  intro T h0 h
  refine Ev.step (fun k=>by simp only [bB.l1];rfl) ?_
  simp only [if_true]
  refine Nt n hn L hL c hc any R n 0 T false (by omega) (by omega) ?_
  obtain ⟨_,e,_⟩:=(Bt (L:=L) (c:=fun j=>rd c (j:Int)) (n:=n) ho n 0 T false (by omega)).2.2.1 h0
  rw [h0,e]
  refine Ev.step (fun k=>by simp only [bB.l1];rfl) ?_
  simp only [Bool.false_eq_true,if_false]
  exact h
 intro N
 induction N with
 | zero=>intro T hT h;exact stop T (Nh ho (by omega)) h
 | succ N ih =>
  intro T hT h
  cases e:(jk L (fun j=>rd c (j:Int)) n n 0 T false).2 with
  | false =>
   rw [show mY L (fun j=>rd c (j:Int)) n (N+1) T=T from if_neg (by rw [e];decide)] at h
   exact stop T e h
  | true =>
   rw [show mY L (fun j=>rd c (j:Int)) n (N+1) T=mY L (fun j=>rd c (j:Int)) n N (jk L (fun j=>rd c (j:Int)) n n 0 T false).1 from if_pos e] at h
   have h5:=(Bt (L:=L) (c:=fun j=>rd c (j:Int)) (n:=n) ho n 0 T false (by omega)).2.2.2.2 e rfl
   refine Ev.step (fun k=>by simp only [bB.l1];rfl) ?_
   simp only [if_true]
   refine Nt n hn L hL c hc any R n 0 T false (by omega) (by omega) ?_
   rw [e]
   exact ih _ (by omega) h
def wD : Nat → Nat → (Nat → Bool) → Bool
 | 0,_,_=>false
 | d+1,v,T=>T v || wD d (v+1) T
theorem Nd (T:Nat→Bool):∀ d v,wD d v T=true↔∃ j,v≤j∧j < v+d∧T j=true:=by
 intro d
 induction d with
 | zero=>intro v;simp only [wD,Bool.false_eq_true,false_iff];rintro ⟨j,h1,h2,_⟩;omega
 | succ d ih =>
  intro v
  rw [wD,Bool.or_eq_true,ih]
  constructor
  ·rintro (h | ⟨j, h1, h2, h3⟩)
   ·exact ⟨v,by omega,by omega,h⟩
   ·exact ⟨j,by omega,by omega,h3⟩
  ·rintro ⟨j, h1, h2, h3⟩
   by_cases e:j=v
   ·subst e;exact .inl h3
   ·exact .inr ⟨j,by omega,by omega,h3⟩
theorem V9 (n:Nat) (hn:n≤8) (L:Nat→Nat→Int) (T:Nat→Bool):∀ (d v:Nat) (b:Bool),n - v=d→v≤n→Ev (fun k=>bB.l4 k (bZ n L) (lb T) b v) (lb T,b || wD d v T):=by
 intro d
 induction d with
 | zero =>
  intro v b hd hv
  obtain rfl:v=n:=by omega
  refine Ev.step (fun k=>by simp only [bB.l4];rfl) ?_
  simp only [fo,Int.lt_irrefl,if_false,wD,Bool.or_false]
  exact Ev.now _
 | succ d ih =>
  intro v b hd hv
  have h1:=ih (v+1) true (by omega) (by omega)
  have h2:=ih (v+1) (T v) (by omega) (by omega)
  refine Ev.step (fun k=>by simp only [bB.l4];rfl) ?_
  simp only [fo,lI v n (by omega),if_true,cD v,show ((v:Int) < 8) by omega,FP T (show v < 8 by omega),wI ((v:Int)+1) (by omega),wD]
  cases b with
  | true=>simp only [if_true,Bool.true_or] at h1 ⊢;exact h1
  | false=>simp only [Bool.false_eq_true,if_false,Bool.false_or];exact h2
def iL (n:Nat) (q:Int):Nat→Bool:=fun j=>decide (j < n) && ((j:Int) != q)
theorem V6 (n : Nat) (hn : n ≤ 8) (L : Nat → Nat → Int) (c : List Int) (q : Int) (R : List Bool × Bool) (next : Ev (fun k => bB.l1 k (bZ n L) c (lb (iL n q)) false true) R) :
  ∀ (d v:Nat),n - v=d→v≤n→Ev (fun k=>bB.l0 k (bZ n L) c q (lb (iL v q)) false v) R:=by
 intro d
 induction d with
 | zero =>
  intro v hd hv
  obtain rfl:v=n:=by omega
  refine Ev.step (fun k=>by simp only [bB.l0];rfl) ?_
  simp only [fo,Int.lt_irrefl,if_false]
  exact next
 | succ d ih =>
  intro v hd hv
  have h1:=ih (v+1) (by omega) (by omega)
  refine Ev.step (fun k=>by simp only [bB.l0];rfl) ?_
  simp only [fo,lI v n (by omega),if_true,cD v,show ((v:Int) < 8) by omega,wI ((v:Int)+1) (by omega),Int.toNat_natCast,RA]
  rw [show lb (fun j=>if j=v then ((v:Int) != q) else iL v q j)=lb (iL (v+1) q) from acT fun j _=>by
   unfold iL
   by_cases e:j=v
   ·subst e;simp
   ·rw [if_neg e,decide_eq_decide.2 (show j < v↔j < v+1 by omega)]]
  exact h1
/-- Something is left unburnt: the burning's answer. -/
def zh (n:Nat) (L:Nat→Nat→Int) (c:List Int) (q:Int):Bool:=wD n 0 (mY L (fun j=>rd c (j:Int)) n (iM n (iL n q)) (iL n q))
/-- The answer is yes if a lawful set without q is there. -/
theorem acU (n:Nat) (L:Nat→Nat→Int) (ho:∀ u w,u ≠ w→L u w≤0) (c:List Int) (q:Nat):zh n L c q=true↔∃ S:Nat→Bool,lawful L (fun j=>rd c (j:Int)) n S∧S q=false∧∃ j,j < n∧S j=true:=by
 obtain ⟨h1,h2,h3⟩:=amU (L:=L) (c:=fun j=>rd c (j:Int)) (n:=n) ho (iM n (iL n q)) (iL n q) (Nat.le_refl _)
 unfold zh
 rw [Nd]
 constructor
 ·rintro ⟨j, _, hj, hT⟩
  refine ⟨_,h1,?_,j,by omega,hT⟩
  cases e:mY L (fun j=>rd c (j:Int)) n (iM n (iL n q)) (iL n q) q with
  | false=>rfl
  | true =>
   have:=h2 q e
   simp [iL] at this
 ·rintro ⟨S, hS, hq, j, hj, hT⟩
  refine ⟨j,by omega,by omega,h3 S hS (fun i hi OX=>?_) j hj hT⟩
  unfold iL
  have:i ≠ q:=fun e=>by rw [e,hq] at OX;exact absurd OX (by decide)
  simp only [hi,decide_true,Bool.true_and,bne_iff_ne,ne_eq]
  omega
theorem Nl (m i:Nat) (hm:m≤256) (hi:i≤8):Go.bits .and .i64 (shr .i64 (m:Int) (i:Int)) 1=if m.testBit i=true then 1 else 0:=by
 have e1:shr .i64 (m:Int) (i:Int)=((m / 2 ^ i:Nat):Int):=by
  unfold shr
  rw [Int.toNat_natCast,Nat.min_eq_left (show i≤IntKind.i64.bits by show i≤64;omega)]
  simp
 have hy:m / 2 ^ i≤256:=Nat.le_trans (Nat.div_le_self _ _) hm
 rw [e1,Nat.testBit_eq_decide_div_mod_eq]
 generalize m / 2 ^ i=y at hy ⊢
 have e:Go.bits .and .i64 (y:Int) 1=IntKind.i64.wrap ((BitVec.ofInt 64 (y:Int) &&& BitVec.ofInt 64 1).toNat:Int):=rfl
 have e2:(BitVec.ofInt 64 (y:Int)).toNat=y:=by
  rw [BitVec.ofInt_natCast,BitVec.toNat_ofNat]
  omega
 rw [e,BitVec.toNat_and,e2,show (BitVec.ofInt 64 1).toNat=1 from rfl,Nat.and_one_is_mod,IntWalk.i64_left,jH (by omega) (by omega)]
 by_cases h:y % 2=1
 ·rw [h];rfl
 ·rw [show y % 2=0 by omega];rfl
theorem adZ (n:Nat) (hn:n≤8):shl .i64 1 (n:Int)=((2 ^ n:Nat):Int):=by
 have h:n=0∨n=1∨n=2∨n=3∨n=4∨n=5∨n=6∨n=7∨n=8:=by omega
 rcases h with rfl|rfl|rfl|rfl|rfl|rfl|rfl|rfl|rfl<;>decide
theorem adp {n:Nat} (hn:n≤8):2 ^ n≤256:=Nat.pow_le_pow_right (n:=2) (by decide) hn
def sW (m i:Nat):Int:=if m.testBit i=true then 1 else 0
def sL (n m:Nat):List Int:=aG n (sW m)
/-- What row r does to w. -/
def gW (L:Nat→Nat→Int) (m w r:Nat):Int:=if m.testBit r=true then L r w else 0
def Aj (n:Nat) (L:Nat→Nat→Int) (c:List Int) (m:Nat):List Int:=aG n (fun w=>rd c (w:Int) - aku n (gW L m w))
theorem Ko {l:List (List Int)} (hl:l.length≤10) (u w:Nat):-20≤bO l l.length u w∧bO l l.length u w≤20:=by
 have:=Ru l l.length u w
 omega
/-- Is no vertex of the set in debt behind the firing, from v on? -/
def okF (n : Nat) (L : Nat → Nat → Int) (c : List Int) (m : Nat) : Nat → Nat → Bool
 | 0,_=>true
 | d+1,v=>(!m.testBit v || decide (0≤rd c (v:Int) - aku n (gW L m v))) && okF n L c m d (v+1)
theorem RQ (n:Nat) (L:Nat→Nat→Int) (c:List Int) (m:Nat):∀ d v,okF n L c m d v=true↔∀ j,v≤j→j < v+d→m.testBit j=true→0≤rd c (j:Int) - aku n (gW L m j):=by
 intro d
 induction d with
 | zero=>intro v;simp only [okF,true_iff];intro j h1 h2;omega
 | succ d ih =>
  intro v
  rw [okF,Bool.and_eq_true,ih]
  constructor
  ·rintro ⟨h1, h2⟩ j yH hj2 hb
   by_cases e:j=v
   ·subst e
    rw [hb] at h1
    simpa using h1
   ·exact h2 j (by omega) (by omega) hb
  ·intro h
   refine ⟨?_,fun j h1 h2 hb=>h j (by omega) (by omega) hb⟩
   cases e:m.testBit v with
   | false=>rfl
   | true=>simpa using h v (by omega) (by omega) e
theorem ac0 (n : Nat) (hn : n ≤ 8) (L : Nat → Nat → Int) (c : List Int) (q : Int) (P m : Nat) (l : List (List Int)) (R : List Int) : ∀ (d v : Nat) (b : Bool), n - v = d → v ≤ n →
  Ev (fun k=>if (b && okF n L c m d v)=true then (if sL n m=[] then none else some (sL n m)) else akt.l0 k c q P (wrap64 ((m:Int)+1)) n l) R →
  Ev (fun k=>akt.l2 k c q (sL n m) b P m (Aj n L c m) n v n l) R:=by
 intro d
 induction d with
 | zero =>
  intro v b hd hv h
  obtain rfl:v=n:=by omega
  refine Ev.step (fun k=>by simp only [akt.l2];rfl) ?_
  simp only [Int.lt_irrefl,if_false]
  simp only [okF,Bool.and_true] at h
  exact h
 | succ d ih =>
  intro v b hd hv h
  have gq:v < n:=by omega
  have hle:(Aj n L c m).length=n:=fq _ _
  have hls:(sL n m).length=n:=fq _ _
  have hsr:rd (sL n m) (v:Int)=sW m v:=gu gq
  have her:rd (Aj n L c m) (v:Int)=rd c (v:Int) - aku n (gW L m v):=gu gq
  refine Ev.step (fun k=>by simp only [akt.l2];rfl) ?_
  simp only [lI v n (by omega),if_true,cD v,hle,hls,hsr,her,wI ((v:Int)+1) (by omega)]
  simp only [okF] at h
  cases b with
  | false =>
   simp only [Bool.false_and,Bool.false_eq_true,if_false] at h ⊢
   refine ih (v+1) false (by omega) (by omega) ?_
   simp only [Bool.false_and,Bool.false_eq_true,if_false]
   exact h
  | true =>
   simp only [if_true,Bool.true_and] at h ⊢
   unfold sW
   cases e:m.testBit v with
   | false =>
    simp only [e,Bool.not_false,Bool.true_or,Bool.true_and,Bool.false_eq_true,if_false,if_true] at h ⊢
    refine ih (v+1) true (by omega) (by omega) ?_
    simp only [Bool.true_and]
    exact h
   | true =>
    simp only [e,Bool.not_true,Bool.false_or,if_true,show ¬ ((1:Int)=0) by decide,if_false,ge_iff_le] at h ⊢
    exact ih (v+1) (decide (0≤rd c (v:Int) - aku n (gW L m v))) (by omega) (by omega) h
theorem acZ (n : Nat) (hn : n ≤ 8) (c : List Int) (q : Int) (P m : Nat) (hm : m ≤ 256) (l : List (List Int)) (F R : List Int) (hF : Ev (fun k => cF.f k n l c (sL n m)) F)
  (next:Ev (fun k=>akt.l2 k c q (sL n m) true P m F (F.length:Int) 0 n l) R):∀ (d v:Nat),n - v=d→v≤n →
  Ev (fun k=>akt.l1 k c q m (aG n (fun w=>if w < v then sW m w else 0)) P m n v n l) R:=by
 intro d
 induction d with
 | zero =>
  intro v hd hv
  obtain rfl:v=n:=by omega
  refine Ev.step (fun k=>by simp only [akt.l1];rfl) ?_
  simp only [Int.lt_irrefl,if_false]
  rw [show aG v (fun w=>if w < v then sW m w else 0)=sL v m from kH fun w hw=>if_pos hw]
  exact Ev.bind hF next
 | succ d ih =>
  intro v hd hv
  have gq:v < n:=by omega
  have h1:=ih (v+1) (by omega) (by omega)
  refine Ev.step (fun k=>by simp only [akt.l1];rfl) ?_
  simp only [lI v n (by omega),if_true,cD v,fq,Int.toNat_natCast,Nl m v hm (by omega),qt,wI ((v:Int)+1) (by omega)]
  rw [show aG n (fun j=>if j=v then (if m.testBit v=true then 1 else 0) else if j < v then sW m j else 0)=aG n (fun w=>if w < v+1 then sW m w else 0) from kH fun w _=>by
   by_cases e:w=v
   ·subst e;rw [if_pos rfl,if_pos (show w < w+1 by omega)];rfl
   ·rw [if_neg e]
    by_cases e2:w < v
    ·rw [if_pos e2,if_pos (show w < v+1 by omega)]
    ·rw [if_neg e2,if_neg (show ¬ w < v+1 by omega)]]
  exact h1
/-- A number that stands for a lawful set. -/
def yj (n:Nat) (L:Nat→Nat→Int) (c:List Int) (q m:Nat):Prop:=m ≠ 0∧m.testBit q=false∧okF n L c m n 0=true
theorem ab5 (c:List Int) (hc:c.length≤1048576):∀ (d i z:Nat),c.length - i=d→i≤c.length→z≤i→Ev (fun k=>iH.l0 k c z i) ((z+jF c d i:Nat):Int):=by
 intro d
 induction d with
 | zero =>
  intro i z hd hi hz
  obtain rfl:i=c.length:=by omega
  refine Ev.step (fun k=>by simp only [iH.l0];rfl) ?_
  simp only [Int.lt_irrefl,if_false]
  exact Ev.now _
 | succ d ih =>
  intro i z hd hi hz
  refine Ev.step (fun k=>by simp only [iH.l0];rfl) ?_
  simp only [show ((i:Int) < (c.length:Int)) by omega,cD i,if_true,wI ((i:Int)+1) (by omega),wI ((z:Int)+1) (by omega)]
  by_cases h:rd c (i:Int)=(i:Int)
  ·have h1 := ih (i + 1) (z + 1) (by omega) (by omega) (by omega)
   rw [show jF c (d+1) i=1+jF c d (i+1) from by rw [BJ,if_pos h],show z+(1+jF c d (i+1))=z+1+jF c d (i+1) by omega]
   simp only [h,if_true]
   exact h1
  ·have h1 := ih (i + 1) z (by omega) (by omega) (by omega)
   rw [show jF c (d+1) i=jF c d (i+1) from by rw [BJ,if_neg h,Nat.zero_add]]
   simp only [h,if_false]
   exact h1
theorem ab4 (n:Nat) (mH:1≤n) (hn:n≤8) (l:List (List Int)) (hl:l.length≤10) (hE:endsIn n l):Ev (fun k=>nC.f k n l) (ak6 (jE n l)):=by
 have E_:=EG n l hE
 unfold nC.f
 have h:Ev (fun k=>iH.f k n l) ((jF (jE n l) (jE n l).length 0:Nat):Int):=by
  unfold iH.f
  refine Ev.bind (ad6 n (by omega) l (by omega) hE) ?_
  have h:=ab5 (jE n l) (by have:=E_.1;omega) (jE n l).length 0 0 (by omega) (by omega) (by omega)
  rw [Nat.zero_add] at h
  exact h
 refine Ev.bind h ?_
 rw [NN mH E_]
 exact Ev.now _
theorem adn (n:Nat) (hn:n≤8) (l:List (List Int)) (hl:l.length≤10) (hE:endsIn n l):Ev (fun k=>qD.f k n l) ((jF (jE n l) (jE n l).length 0:Nat):Int):=by
 have E_:=EG n l hE
 unfold qD.f
 refine Ev.bind (abR n (by omega) l (by omega) hE) ?_
 exact Ev.bind (Xw _ (by have:=E_.1;omega)) (Ev.now _)
/-- Off the diagonal nothing above 0, rows that add up to 0 or more, and each row that adds up to 0 leads on to another one. -/
def x_ (m:Nat) (A:Nat→Nat→Int) (D:Nat→Nat):Prop:=∀ v,v < m→(∀ w,w < m→w ≠ v→A v w≤0)∧0≤ax m (A v)∧(ax m (A v)≤0→∃ w,w < m∧D w < D v∧A v w < 0)
theorem XH {m:Nat} {A:Nat→Nat→Int} {D:Nat→Nat} (h:x_ (m+1) A D):x_ m A D:=by
 intro v hv
 obtain ⟨h1,h2,h3⟩:=h v (by omega)
 have e:ax (m+1) (A v)=ax m (A v)+A v m:=rfl
 have h4:=h1 m (by omega) (by omega)
 refine ⟨fun w hw hn=>h1 w (by omega) hn,by omega,fun h5=>?_⟩
 obtain ⟨w,hw,hd,ha⟩:=h3 (by omega)
 by_cases hwm:w=m
 ·rw [hwm] at ha;omega
 ·exact ⟨w,by omega,hd,ha⟩
theorem XI {m:Nat} {A:Nat→Nat→Int} {D:Nat→Nat} (h:x_ m A D) (x:Nat→Int) (hx:∀ v,v < m→ax m (fun w=>A v w * x w)=0) (M:Int) (hM:0 < M) (hb:∀ v,v < m→x v≤M):∀ d v,v < m→D v < d→x v < M:=by
 intro d
 induction d with
 | zero=>intro v _ h;omega
 | succ d ih =>
  intro v hv hd
  obtain ⟨h1,h2,h3⟩:=h v hv
  by_cases e:x v < M
  ·exact e
  ·exfalso
   have e2:x v=M:=by have:=hb v hv;omega
   have s1:ax m (fun w=>A v w * x w)=M * ax m (A v)+ax m (fun w=>A v w * (x w - M)):=by
    rw [← ju,← uv]
    exact eM fun w _=>by rw [Int.mul_sub,Int.mul_comm M];omega
   have s2:∀ w,w < m→0≤A v w * (x w - M):=fun w hw=>by
    by_cases QY:w=v
    ·rw [QY,e2,Int.sub_self,Int.mul_zero];exact Int.le_refl _
    ·exact Int.mul_nonneg_of_nonpos_of_nonpos (h1 w hw QY) (by have:=hb w hw;omega)
   have s3:=oU s2
   have s4:0≤M * ax m (A v):=Int.mul_nonneg (by omega) h2
   have s5:=hx v hv
   have s6:M * ax m (A v)=0:=by omega
   have s7:ax m (A v)=0:=(Int.mul_eq_zero.1 s6).resolve_left (by omega)
   obtain ⟨w,hw,hdw,ha⟩:=h3 (by omega)
   have h8:=ih w hw (by omega)
   have s9:=Sf s2 w hw
   have s10:0 < A v w * (x w - M):=Int.mul_pos_of_neg_of_neg ha (by omega)
   omega
theorem NV {m:Nat} {A:Nat→Nat→Int} {D:Nat→Nat} (h:x_ m A D) (x:Nat→Int) (hx:∀ v,v < m→ax m (fun w=>A v w * x w)=0):∀ M:Nat,(∀ v,v < m→x v≤M)→∀ v,v < m→x v≤0:=by
 intro M
 induction M with
 | zero=>intro hb v hv;exact hb v hv
 | succ M ih =>
  intro hb
  exact ih fun v hv=>by
   have:=XI h x hx ((M+1:Nat):Int) (by omega) hb (D v+1) v hv (by omega)
   omega
theorem XG {m:Nat} {A:Nat→Nat→Int} {D:Nat→Nat} (h:x_ m A D) (x:Nat→Int) (hx:∀ v,v < m→ax m (fun w=>A v w * x w)=0) (v:Nat) (hv:v < m):x v=0:=by
 have b:∀ v,v < m→akm (x v)≤ax m (fun v=>akm (x v)):=fun v hv=>J' x v hv
 obtain ⟨M,hM⟩:∃ M:Nat,(M:Int)=ax m (fun v=>akm (x v)):=⟨_,Int.toNat_of_nonneg (oU fun _ _=>iO _)⟩
 have h1:=NV h x hx M (fun v hv=>by have:=b v hv;unfold akm at this hM;omega) v hv
 have h2:=NV h (fun v=>-x v) (fun v hv=>by rw [eM (g:=fun w=>-(A v w * x w)) (fun w _=>Int.mul_neg _ _),Ds,hx v hv];rfl) M (fun v hv=>by have:=b v hv;unfold akm at this hM;omega) v hv
 have h3:-x v≤0:=h2
 omega
theorem NU:∀ {m:Nat} {A:Nat→Nat→Int} {D:Nat→Nat},x_ m A D→akh m A ≠ 0:=by
 intro m
 induction m with
 | zero=>intro A D _;show (1:Int) ≠ 0;decide
 | succ m ih =>
  intro A D h h0
  have h1:=ih (XH h)
  have h2:=XG h (fun j=>akI (m+1) A j m) (fun v hv=>by rw [J_ A v m (by omega) hv,h0];split<;>rfl) m (by omega)
  have h3:akI (m+1) A m m=akh m A:=by
   unfold akI
   rw [Dn _ (fun b hb=>by unfold bp;rw [if_pos rfl];exact za (by omega))]
   rw [show bp A m (cK m) m m=1 from by unfold bp;rw [if_pos rfl];exact FJ m,Int.one_mul]
   exact ja fun a b ha hb=>by unfold bp;rw [if_neg (by omega)]
  exact h1 (by rw [← h3];exact h2)
/-- A column put in place of each column solves the equations. -/
theorem Xy {m:Nat} (A:Nat→Nat→Int) (c:Nat→Int) (r:Nat) (hr:r < m):ax m (fun k=>A r k * akh m (ck A k c))=akh m A * c r:=by
 have e:∀ k,k < m→akh m (ck A k c)=ax m (fun i=>c i * akI m A k i):=fun k hk=>by
  rw [show akh m (ck A k c)=akh m (ck A k (fun b=>ax m (fun j=>c j * cK j b))) from ja fun a b ha hb=>by
   unfold ck
   by_cases h:b=k
   ·rw [if_pos h, if_pos h]
    exact (Dr c a ha).symm
   ·rw [if_neg h,if_neg h],FI A k hk m c cK]
  exact eM fun i hi=>by rw [Re A i k hi hk]
 rw [eM (g:=fun k=>ax m (fun i=>c i * (A r k * akI m A k i))) (fun k hk=>by
  rw [e k hk,← ju]
  exact eM fun i _=>Int.mul_left_comm _ _ _),zf,eM (g:=fun i=>c i * (if r=i then akh m A else 0)) (fun i hi=>by
  rw [ju,J_ A r i hi hr]),ux r hr (fun i _ hne=>by rw [if_neg (fun h=>hne h.symm),Int.mul_zero]),if_pos rfl,Int.mul_comm]
theorem lT (n:Nat) (f:Nat→Int):aku n f=ax n f:=by
 induction n with
 | zero=>rfl
 | succ n ih=>show aku n f+f n=ax n f+f n;rw [ih]
/-- A Laplacian: what the steps upon chips ask of it. -/
structure eE (n:Nat) (L:Nat→Nat→Int):Prop where
 sym:∀ i j,L i j=L j i
 sum:∀ r,aku n (fun j=>L r j)=0
 off:∀ u w,u ≠ w→L u w≤0
 top:∀ v,L v v≤20
 tr:aku n (fun v=>L v v)≤20
theorem acO {n:Nat} {l:List (List Int)} (hE:endsIn n l):∀ i,i≤l.length→aku n (fun v=>bO l i v v)≤2 * (i:Int):=by
 intro i
 induction i with
 | zero =>
  intro _
  rw [mq (g:=fun _=>0) (fun j _=>by unfold bO;rw [if_pos rfl];rfl),Bx]
  decide
 | succ i ih =>
  intro hi
  obtain ⟨_,u,v,hu,hv,hun,gq⟩:=hE i (by omega)
  have h1:aku n (fun r=>bO l (i+1) r r)≤aku n (fun r=>bO l i r r+((if r=u then 1 else 0)+(if r=v then 1 else 0))):=rF fun r _=>by
   rw [xq n l i u v hu hv r r]
   by_cases e:u=v
   ·rw [if_pos e]
    split<;>split<;>omega
   ·rw [if_neg e, if_neg (show ¬ (r = u ∧ r = v) from fun h => e (by omega)), if_neg (show ¬ (r = v ∧ r = u) from fun h => e (by omega))]
    by_cases e1:r=u
    ·rw [if_pos ⟨e1, e1⟩, if_pos e1]
     split<;>split<;>omega
    ·rw [if_neg (fun h => e1 h.1), if_neg e1]
     split<;>split<;>omega
  have h2:=ih (by omega)
  rw [rE,rE,ak5 hun,ak5 gq] at h1
  omega
theorem zg {n:Nat} {l:List (List Int)} (hE:endsIn n l) (hl:l.length≤10):eE n (bO l l.length) :=
 ⟨acN hE l.length (Nat.le_refl _),acM hE l.length (Nat.le_refl _),Rx l.length,fun v=>(Ko hl v v).2,by have:=acO hE l.length (Nat.le_refl _);omega⟩
/-- What a vertex loses when the vertices of a set are fired. -/
def gp (L:Nat→Nat→Int) (n:Nat) (S:Nat→Bool) (v:Nat):Int:=aku n (fun w=>if S w=true then L v w else 0)
theorem YA {n:Nat} {L:Nat→Nat→Int} (h:eE n L) (S:Nat→Bool) (v:Nat) (hv:v < n) (hS:S v=true):0≤gp L n S v∧gp L n S v≤20:=by
 constructor
 ·rw [← eE.sum h v]
  refine rF fun w _=>?_
  by_cases e:S w=true
  ·rw [if_pos e];exact Int.le_refl _
  ·rw [if_neg e]
   exact eE.off h v w (fun e2=>e (by rw [← e2];exact hS))
 ·refine Int.le_trans ?_ (eE.top h v)
  rw [← ak5 hv (L v v)]
  refine rF fun w _=>?_
  by_cases e:w=v
  ·rw [if_pos e,e,if_pos hS];exact Int.le_refl _
  ·rw [if_neg e]
   have:=eE.off h v w (fun e2=>e e2.symm)
   split<;>omega
theorem ET {n:Nat} {L:Nat→Nat→Int} (h:eE n L) (S:Nat→Bool) (v:Nat) (hv:v < n) (hS:S v=false):-20≤gp L n S v∧gp L n S v≤0:=by
 constructor
 ·have h1:aku n (fun w=>L v w+(if w=v then -(L v v) else 0))≤gp L n S v:=rF fun w _=>by
   by_cases e:w=v
   ·rw [if_pos e,e,if_neg (by rw [hS];decide)];omega
   ·rw [if_neg e]
    have:=eE.off h v w (fun e2=>e e2.symm)
    split<;>omega
  rw [rE,ak5 hv,eE.sum h v] at h1
  have:=eE.top h v
  omega
 ·rw [← Bx n]
  refine rF fun w _=>?_
  by_cases e:S w=true
  ·rw [if_pos e]
   exact eE.off h v w (fun e2=>by rw [e2,e] at hS;exact absurd hS (by decide))
  ·rw [if_neg e];exact Int.le_refl _
theorem YB {n:Nat} {L:Nat→Nat→Int} (h:eE n L) (S:Nat→Bool) (v:Nat) (hS:S v=false) (w:Nat) (hw:w < n) (hSw:S w=true) (J2:L v w≤-1):gp L n S v≤-1:=by
 rw [← ak5 hw (-1)]
 refine rF fun j _=>?_
 by_cases e:j=w
 ·rw [if_pos e,e,if_pos hSw];exact J2
 ·rw [if_neg e]
  by_cases e1:S j=true
  ·rw [if_pos e1]
   exact eE.off h v j (fun e2=>by rw [e2,e1] at hS;exact absurd hS (by decide))
  ·rw [if_neg e1];exact Int.le_refl _
theorem Yz {n:Nat} {L:Nat→Nat→Int} (h:eE n L) (S:Nat→Bool) (v:Nat) (hv:v < n):-20≤gp L n S v∧gp L n S v≤20:=by
 cases e:S v with
 | true=>have:=YA h S v hv e;omega
 | false=>have:=ET h S v hv e;omega
/-- The chips of one are those of the other with vertices fired. -/
def m_ (n:Nat) (L:Nat→Nat→Int) (c d:Nat→Int):Prop:=∃ f:Nat→Int,∀ v,v < n→d v=c v - aku n (fun w=>L v w * f w)
theorem BP (n:Nat) (L:Nat→Nat→Int) (c:Nat→Int):m_ n L c c :=
 ⟨fun _=>0,fun v _=>by rw [mq (g:=fun _=>0) (fun w _=>Int.mul_zero _),Bx,Int.sub_zero]⟩
theorem Am {n:Nat} {L:Nat→Nat→Int} {c d e:Nat→Int} (h1:m_ n L c d) (h2:m_ n L d e):m_ n L c e:=by
 obtain ⟨f,hf⟩:=h1
 obtain ⟨g,hg⟩:=h2
 refine ⟨fun w=>f w+g w,fun v hv=>?_⟩
 rw [hg v hv,hf v hv,mq (f:=fun w=>L v w * (f w+g w)) (g:=fun w=>L v w * f w+L v w * g w) (fun w _=>Int.mul_add _ _ _),rE]
 omega
theorem Ym {n:Nat} {L:Nat→Nat→Int} {c d:Nat→Int} (h:m_ n L c d):m_ n L d c:=by
 obtain ⟨f,hf⟩:=h
 refine ⟨fun w=>-f w,fun v hv=>?_⟩
 rw [hf v hv,mq (f:=fun w=>L v w * -f w) (g:=fun w=>-(L v w * f w)) (fun w _=>Int.mul_neg _ _),Bw]
 omega
theorem N9 {n:Nat} {L:Nat→Nat→Int} (S:Nat→Bool) {c d:Nat→Int} (h:∀ v,v < n→d v=c v - gp L n S v):m_ n L c d :=
 ⟨fun w=>if S w=true then 1 else 0,fun v hv=>by
  rw [h v hv]
  unfold gp
  congr 1
  refine mq fun w _=>?_
  by_cases e:S w=true
  ·show (if S w = true then L v w else 0) = L v w * (if S w = true then 1 else 0)
   rw [if_pos e,if_pos e,Int.mul_one]
  ·show (if S w = true then L v w else 0) = L v w * (if S w = true then 1 else 0)
   rw [if_neg e,if_neg e,Int.mul_zero]⟩
theorem N_ {n:Nat} {L:Nat→Nat→Int} (h:eE n L) {c d:Nat→Int} (e:m_ n L c d):aku n d=aku n c:=by
 obtain ⟨f,hf⟩:=e
 rw [mq hf,mq (f:=fun v=>c v - aku n (fun w=>L v w * f w)) (g:=fun v=>c v+-(aku n (fun w=>L v w * f w))) (fun v _=>Int.sub_eq_add_neg),rE,Bw]
 have:aku n (fun v=>aku n (fun w=>L v w * f w))=0:=by
  rw [lT,eM (g:=fun v=>ax n (fun w=>L v w * f w)) (fun v _=>lT _ _),zf]
  refine oV fun w _=>?_
  rw [eM (g:=fun v=>f w * L w v) (fun v _=>by rw [Int.mul_comm,eE.sym h v w]),ju,← lT,eE.sum h w,Int.mul_zero]
 rw [this]
 omega
/-- Chips that are reduced at q. -/
def vU (n:Nat) (L:Nat→Nat→Int) (q:Nat) (c:Nat→Int):Prop:=(∀ v,v < n→v ≠ q→0≤c v)∧∀ S:Nat→Bool,lawful L c n S→S q=false→∀ j,j < n→S j=false
theorem R5 {n : Nat} {L : Nat → Nat → Int} (h : eE n L) {q : Nat} {c d : Nat → Int} {f : Nat → Int} (hf : ∀ v, v < n → d v = c v - aku n (fun w => L v w * f w)) (r : vU n L q c) (hd : ∀ v, v < n → v ≠ q → 0 ≤ d v) :
  ∀ k:Nat,(∀ v,v < n→f v≤f q+k)→∀ v,v < n→f v≤f q:=by
 intro k
 induction k with
 | zero=>intro hb v hv;have:=hb v hv;omega
 | succ k ih =>
  intro hb
  refine ih fun v hv=>?_
  have h1:=r.2 (fun w=>decide (f w=f q+((k+1:Nat):Int))) (fun u hu hS=>by
   have E7:f u=f q+((k+1:Nat):Int):=of_decide_eq_true hS
   have huq:u ≠ q:=fun e=>by rw [e] at E7;omega
   have h2:akY L n (fun w=>decide (f w=f q+((k+1:Nat):Int))) u≤aku n (fun w=>L u w * f w+-(f u) * L u w):=by
    unfold akY
    refine rF fun w hw=>?_
    have h3:L u w * f w+-(f u) * L u w=-(L u w) * (f u - f w):=by
     rw [Int.mul_sub,Int.neg_mul,Int.neg_mul,Int.neg_mul,Int.mul_comm (f u)]
     omega
    rw [h3]
    by_cases e:f w=f q+((k+1:Nat):Int)
    ·rw [if_pos (decide_eq_true e),E7,e,Int.sub_self,Int.mul_zero];exact Int.le_refl _
    ·rw [if_neg (by simpa using e)]
     have h4:=eE.off h u w (fun e2=>e (by rw [← e2];exact E7))
     have h5:=hb w hw
     have h6:-(L u w) * 1≤-(L u w) * (f u - f w):=Int.mul_le_mul_of_nonneg_left (by omega) (by omega)
     rw [Int.mul_one] at h6
     exact h6
   rw [rE] at h2
   have h7:aku n (fun w=>-(f u) * L u w)=0:=by
    rw [lT,ju,← lT,eE.sum h u,Int.mul_zero]
   have h8:=hf u hu
   have h9:=hd u hu huq
   omega) (decide_eq_false (by omega)) v hv
  have h10:f v ≠ f q+((k+1:Nat):Int):=of_decide_eq_false h1
  have h11:=hb v hv
  omega
/-- Two reduced forms of the same chips are one. -/
theorem adD {n:Nat} {L:Nat→Nat→Int} (h:eE n L) {q:Nat} {c d:Nat→Int} (e:m_ n L c d) (r:vU n L q c) (r2:vU n L q d) (v:Nat) (hv:v < n):c v=d v:=by
 have top:∀ f:Nat→Int,∃ k:Nat,∀ v,v < n→f v≤f q+k:=fun f=>by
  obtain ⟨k,hk⟩:∃ k:Nat,(k:Int)=ax n (fun v=>akm (f v - f q)):=⟨_,Int.toNat_of_nonneg (oU fun _ _=>iO _)⟩
  refine ⟨k,fun v hv=>?_⟩
  have:=J' (fun v=>f v - f q) v hv
  unfold akm at this hk
  omega
 obtain ⟨f,hf⟩:=e
 have hg:∀ v,v < n→c v=d v - aku n (fun w=>L v w * (fun w=>-f w) w):=fun v hv=>by
  rw [hf v hv,mq (f:=fun w=>L v w * (fun w=>-f w) w) (g:=fun w=>-(L v w * f w)) (fun w _=>Int.mul_neg _ _),Bw]
  omega
 obtain ⟨k1,yL⟩:=top f
 obtain ⟨k2,hk2⟩:=top (fun w=>-f w)
 have h1:=R5 h hf r r2.1 k1 yL
 have h2:=R5 h hg r2 r.1 k2 hk2
 have h3:∀ w,w < n→f w=f q:=fun w hw=>by
  have a1:=h1 w hw
  have a2:-f w≤-f q:=h2 w hw
  omega
 rw [hf v hv,mq (g:=fun w=>f q * L v w) (fun w hw=>by rw [h3 w hw,Int.mul_comm]),lT,ju,← lT,eE.sum h v,Int.mul_zero,Int.sub_zero]
/-- Each vertex but q has a neighbour that is nearer. -/
def nM (n:Nat) (L:Nat→Nat→Int) (q:Nat) (D:Nat→Nat):Prop:=q < n∧D q=0∧(∀ v,v < n→D v≤n)∧∀ v,v < n→v ≠ q→∃ w,w < n∧D w < D v∧L v w≤-1
def jc (n:Nat) (D:Nat→Nat) (v:Nat):Int:=((21 ^ (n - D v):Nat):Int)
theorem SE {n:Nat} {L:Nat→Nat→Int} (h:eE n L) {q:Nat} {D:Nat→Nat} (hD:nM n L q D) (v:Nat) (hv:v < n) (hq:v ≠ q):aku n (fun w=>L v w * jc n D w)≤-1:=by
 obtain ⟨w0,hw0,hd0,hl0⟩:=hD.2.2.2 v hv hq
 have hp:∀ w,(0:Int) < jc n D w:=fun w=>by
  have:0 < 21 ^ (n - D w):=Nat.pow_pos (by decide)
  unfold jc
  omega
 have h1:21 * jc n D v≤jc n D w0:=by
  have h2:=hD.2.2.1 v hv
  have h3:21 ^ (n - D v+1)≤21 ^ (n - D w0):=Nat.pow_le_pow_right (by decide) (by omega)
  rw [Nat.pow_succ] at h3
  unfold jc
  omega
 have h4:aku n (fun w=>L v w * jc n D w)≤aku n (fun w=>(if w=v then 20 * jc n D v else 0)+(if w=w0 then -(21 * jc n D v) else 0)):=rF fun w hw=>by
  by_cases e1:w=v
  ·have h5 := Int.mul_le_mul_of_nonneg_right (eE.top h v) (Int.le_of_lt (hp v))
   rw [if_pos e1,if_neg (fun e2=>by rw [← e2,e1] at hd0;omega),e1]
   omega
  ·have h6 := eE.off h v w (fun e => e1 e.symm)
   rw [if_neg e1]
   by_cases e2:w=w0
   ·rw [if_pos e2, e2]
    have h7:=Int.mul_le_mul_of_nonneg_right hl0 (Int.le_of_lt (hp w0))
    omega
   ·rw [if_neg e2]
    have h8:=Int.mul_le_mul_of_nonneg_right h6 (Int.le_of_lt (hp w))
    omega
 rw [rE,ak5 hv,ak5 hw0] at h4
 have:=hp v
 omega
/-- What each lawful firing makes less. -/
def vQ (n:Nat) (b:Nat→Int) (q:Nat) (c:Nat→Int):Int:=aku n (fun v=>(b q - b v) * c v)
theorem RW {n:Nat} {L:Nat→Nat→Int} (h:eE n L) {q:Nat} {D:Nat→Nat} (hD:nM n L q D) (S:Nat→Bool) (hq:S q=false) (hne:∃ j,j < n∧S j=true) {c d:Nat→Int} (hd:∀ v,v < n→d v=c v - gp L n S v):vQ n (jc n D) q d≤vQ n (jc n D) q c - 1:=by
 have h1:vQ n (jc n D) q d=vQ n (jc n D) q c - ax n (fun v=>(jc n D q - jc n D v) * gp L n S v):=by
  unfold vQ
  rw [lT,lT,← FL]
  exact eM fun v hv=>by rw [hd v hv,Int.mul_sub]
 have h2:ax n (fun v=>(jc n D q - jc n D v) * gp L n S v)=ax n (fun w=>if S w=true then -(aku n (fun v=>L w v * jc n D v)) else 0):=by
  rw [eM (g:=fun v=>ax n (fun w=>(jc n D q - jc n D v) * (if S w=true then L v w else 0))) (fun v _=>by rw [ju];unfold gp;rw [lT]),zf]
  refine eM fun w _=>?_
  by_cases e:S w=true
  ·rw [if_pos e,eM (g:=fun v=>jc n D q * L w v - L w v * jc n D v) (fun v _=>by
    rw [if_pos e,Int.sub_mul,eE.sym h v w,Int.mul_comm (jc n D v)]),FL,ju,← lT,← lT,eE.sum h w]
   omega
  ·rw [if_neg e]
   exact oV fun v _=>by rw [if_neg e,Int.mul_zero]
 obtain ⟨j,hj,yp⟩:=hne
 have h3:∀ w,w < n→0≤(fun w=>if S w=true then -(aku n (fun v=>L w v * jc n D v)) else 0) w:=fun w hw=>by
  show 0≤if S w=true then _ else _
  by_cases e:S w=true
  ·rw [if_pos e]
   have:=SE h hD w hw (fun e2=>by rw [e2,hq] at e;exact absurd e (by decide))
   omega
  ·rw [if_neg e];exact Int.le_refl _
 have h4:=Sf h3 j hj
 rw [h2] at h1
 have h5:(1:Int)≤(fun w=>if S w=true then -(aku n (fun v=>L w v * jc n D v)) else 0) j:=by
  show 1≤if S j=true then _ else _
  rw [if_pos yp]
  have:=SE h hD j hj (fun e2=>by rw [e2,hq] at yp;exact absurd yp (by decide))
  omega
 have h6:=Int.le_trans h5 h4
 have h7:(1:Int)≤ax n (fun w=>if S w=true then -(aku n (fun v=>L w v * jc n D v)) else 0):=h6
 generalize ax n (fun w=>if S w=true then -(aku n (fun v=>L w v * jc n D v)) else 0)=X at h1 h7
 omega
theorem ado {n:Nat} {L:Nat→Nat→Int} {q:Nat} {D:Nat→Nat} (hD:nM n L q D) {c:Nat→Int} (hc:∀ v,v < n→v ≠ q→0≤c v):0≤vQ n (jc n D) q c:=by
 unfold vQ
 rw [lT]
 refine oU fun v hv=>?_
 by_cases e:v=q
 ·rw [e,Int.sub_self,Int.zero_mul];exact Int.le_refl _
 ·refine Int.mul_nonneg ?_ (hc v hv e)
  have h1:21 ^ (n - D v)≤21 ^ (n - D q):=Nat.pow_le_pow_right (by decide) (by rw [hD.2.1];omega)
  unfold jc
  omega
theorem acK {n:Nat} {l:List (List Int)} (hE:endsIn n l) (a b:Nat) (hab:a ≠ b):∀ d i,i+d≤l.length→bO l (i+d) a b≤bO l i a b:=by
 intro d
 induction d with
 | zero=>intro i _;exact Int.le_refl _
 | succ d ih =>
  intro i hi
  obtain ⟨_,u,v,hu,hv,_,_⟩:=hE (i+d) (by omega)
  have h1:=ih i (by omega)
  rw [show i+(d+1)=i+d+1 by omega,xq n l (i+d) u v hu hv a b]
  refine Int.le_trans ?_ h1
  by_cases e:u=v
  ·rw [if_pos e];omega
  ·rw [if_neg e, if_neg (show ¬ (a = u ∧ b = u) from fun h => hab (by omega)), if_neg (show ¬ (a = v ∧ b = v) from fun h => hab (by omega))]
   split<;>split<;>omega
/-- An edge stands in the Laplacian. -/
theorem Rw {n:Nat} {l:List (List Int)} (hE:endsIn n l) (i:Nat) (hi:i < l.length) (u v:Nat) (hu:rd (ah l (i:Int)) 0=u) (hv:rd (ah l (i:Int)) 1=v) (huv:u ≠ v):bO l l.length u v≤-1∧bO l l.length v u≤-1:=by
 have h1:∀ a b,a ≠ b→(a=u∧b=v∨a=v∧b=u)→bO l l.length a b≤-1:=fun a b hab h=>by
  have h2:=acK hE a b hab (l.length - (i+1)) (i+1) (by omega)
  rw [show i+1+(l.length - (i+1))=l.length by omega,xq n l i u v hu hv a b,if_neg huv] at h2
  have h3:=Rx (l:=l) i a b hab
  rcases h with ⟨h4,h5⟩|⟨h4,h5⟩
  ·rw [if_neg (show ¬ (a = u ∧ b = u) from fun h => hab (by omega)), if_pos (show a = u ∧ b = v from ⟨h4, h5⟩), if_neg (show ¬ (a = v ∧ b = v) from fun h => hab (by omega)), if_neg (show ¬ (a = v ∧ b = u) from fun h => huv (by omega))] at h2
   omega
  ·rw [if_neg (show ¬ (a = u ∧ b = u) from fun h => hab (by omega)), if_neg (show ¬ (a = u ∧ b = v) from fun h => huv (by omega)), if_neg (show ¬ (a = v ∧ b = v) from fun h => hab (by omega)), if_pos (show a = v ∧ b = u from ⟨h4, h5⟩)] at h2
   omega
 exact ⟨h1 u v huv (.inl ⟨rfl,rfl⟩),h1 v u (fun e=>huv e.symm) (.inr ⟨rfl,rfl⟩)⟩
/-- Vertices of one class are alike in all that edges keep. -/
theorem Xa {n : Nat} {l : List (List Int)} (hE : endsIn n l) (P : Nat → Prop) (hP : ∀ i, i < l.length → ∀ u v : Nat, rd (ah l (i : Int)) 0 = u → rd (ah l (i : Int)) 1 = v → (P u ↔ P v)) :
  ∀ (d i:Nat) (c:List Int),i+d≤l.length→c.length=n→(∀ a b:Nat,a < n→b < n→rd c (a:Int)=rd c (b:Int)→(P a↔P b))→∀ a b:Nat,a < n→b < n→rd (pg l d i c) (a:Int)=rd (pg l d i c) (b:Int)→(P a↔P b):=by
 intro d
 induction d with
 | zero=>intro i c _ _ h;exact h
 | succ d ih =>
  intro i c hi hc h
  obtain ⟨hx,u,v,hu,hv,hun,gq⟩:=hE i (by omega)
  rw [show pg l (d+1) i c=pg l d (i+1) (c.map (fZ (rd c (rd (ah l (i:Int)) 0)) (rd c (rd (ah l (i:Int)) 1)))) from rfl,hu,hv]
  refine ih (i+1) _ (by omega) (by rw [List.length_map];exact hc) fun a b ha hb e=>?_
  rw [F_ _ _ a (by omega),F_ _ _ b (by omega)] at e
  have huv:=hP i (by omega) u v hu hv
  have haa:=h a
  have key:∀ w:Nat,w < n→(P w↔P u)∨fZ (rd c (u:Int)) (rd c (v:Int)) (rd c (w:Int))=rd c (w:Int)∧rd c (w:Int) ≠ mx (rd c (u:Int)) (rd c (v:Int)):=fun w hw=>by
   by_cases h1:rd c (w:Int)=mx (rd c (u:Int)) (rd c (v:Int))
   ·refine .inl ?_
    unfold mx at h1
    split at h1
    ·first|exact h w u hw hun h1|exact (h w v hw gq h1).trans huv.symm
    ·first|exact (h w v hw gq h1).trans huv.symm|exact h w u hw hun h1
   ·exact .inr ⟨by unfold fZ;rw [if_neg h1],h1⟩
  have near:∀ w:Nat,w < n→rd c (w:Int)=mn (rd c (u:Int)) (rd c (v:Int))→(P w↔P u):=fun w hw h1=>by
   unfold mn at h1
   split at h1
   ·first|exact h w u hw hun h1|exact (h w v hw gq h1).trans huv.symm
   ·first|exact (h w v hw gq h1).trans huv.symm|exact h w u hw hun h1
  by_cases yq:rd c (a:Int)=mx (rd c (u:Int)) (rd c (v:Int))
  ·have pa:P a↔P u:=by
    rcases key a ha with h1|⟨_,h1⟩
    ·exact h1
    ·exact absurd yq h1
   by_cases hb1:rd c (b:Int)=mx (rd c (u:Int)) (rd c (v:Int))
   ·rcases key b hb with h1 | ⟨_, h1⟩
    ·exact pa.trans h1.symm
    ·exact absurd hb1 h1
   ·unfold fZ at e
    rw [if_pos yq,if_neg hb1] at e
    exact pa.trans (near b hb e.symm).symm
  ·by_cases hb1 : rd c (b : Int) = mx (rd c (u : Int)) (rd c (v : Int))
   ·have pb:P b↔P u:=by
     rcases key b hb with h1|⟨_,h1⟩
     ·exact h1
     ·exact absurd hb1 h1
    unfold fZ at e
    rw [if_neg yq,if_pos hb1] at e
    exact (near a ha e).trans pb.symm
   ·unfold fZ at e
    rw [if_neg yq,if_neg hb1] at e
    exact h a b ha hb e
/-- In a graph of one part, what edges keep is all or nothing. -/
theorem Q9 {n:Nat} {l:List (List Int)} (hE:endsIn n l) (h1:ak6 (jE n l)=true) (P:Nat→Prop) (hP:∀ i,i < l.length→∀ u v:Nat,rd (ah l (i:Int)) 0=u→rd (ah l (i:Int)) 1=v→(P u↔P v)) (a b:Nat) (ha:a < n) (hb:b < n):P a↔P b:=by
 have al7:∀ w:Nat,w < n→rd (upto n) (w:Int)=(w:Int):=fun w hw=>by
  rw [oX _ _ (by rw [xE];exact hw)]
  simp [upto]
 have h2:∀ v,v < (jE n l).length→rd (jE n l) ((v:Nat):Int)=rd (jE n l) 0:=of_decide_eq_true h1
 have hlen:=(EG n l hE).1
 refine Xa hE P hP l.length 0 (upto n) (by omega) (xE n) (fun x y hx hy e=>?_) a b ha hb ?_
 ·rw [al7 x hx, al7 y hy] at e
  rw [show x=y by omega]
 ·show rd (jE n l) _ = rd (jE n l) _
  rw [h2 a (by omega),h2 b (by omega)]
/-- A quotient, rounded: near enough. -/
def ua (a b:Int):Int:=if a < 0 then -(Int.tdiv (-a+b - 1) b) else Int.tdiv a b
theorem Sj (a b:Int) (hb:b ≠ 0):akm (Int.tmod a b) < akm b:=by
 unfold akm
 have h1:=Int.natAbs_tmod a b
 have h2:=Nat.mod_lt a.natAbs (show b.natAbs > 0 by omega)
 omega
theorem Of (a b:Int) (hb:b ≠ 0):akm (a - b * ua a b)≤2 * akm b:=by
 unfold ua
 by_cases h:a < 0
 ·rw [if_pos h]
  have h1:=Int.mul_tdiv_add_tmod (-a+b - 1) b
  have h2:=Sj (-a+b - 1) b hb
  rw [Int.mul_neg]
  generalize b * Int.tdiv (-a+b - 1) b=x at h1
  generalize Int.tmod (-a+b - 1) b=y at h1 h2
  unfold akm at h2 ⊢
  omega
 ·rw [if_neg h]
  have h1:=Int.mul_tdiv_add_tmod a b
  have h2:=Sj a b hb
  generalize b * Int.tdiv a b=x at h1
  generalize Int.tmod a b=y at h1 h2
  unfold akm at h2 ⊢
  omega
theorem Yx (a b:Int) (hb:b ≠ 0):akm (ua a b)≤akm a+2 * akm b:=by
 have h1:=Of a b hb
 have h2:akm (b * ua a b)≤akm a+2 * akm b:=by
  unfold akm at h1 ⊢
  omega
 rw [als] at h2
 have h3:1 * akm (ua a b)≤akm b * akm (ua a b):=Int.mul_le_mul_of_nonneg_right (by unfold akm;omega) (iO _)
 rw [Int.one_mul] at h3
 omega
/-- The Laplacian without q's row and column. -/
def fH (L:Nat→Nat→Int) (q:Nat):Nat→Nat→Int:=fun a b=>L (aW q a) (aW q b)
def vq (m:Nat) (L:Nat→Nat→Int) (q:Nat) (c:Nat→Int) (k:Nat):Int:=ua (akh m (ck (fH L q) k (fun b=>c (aW q b)))) (akh m (fH L q))
def sC (m:Nat) (L:Nat→Nat→Int) (q:Nat) (c:Nat→Int) (w:Nat):Int:=if w=q then 0 else vq m L q c (nL q w)
def rL (m:Nat) (L:Nat→Nat→Int) (q:Nat) (c:Nat→Int) (v:Nat):Int:=c v - aku (m+1) (fun w=>L v w * sC m L q c w)
theorem ad2 (q:Nat) {a b:Nat} (h:a ≠ b):aW q a ≠ aW q b:=by unfold aW;split<;>split<;>omega
theorem NW {m:Nat} {L:Nat→Nat→Int} (h:eE (m+1) L) {q:Nat} {D:Nat→Nat} (hD:nM (m+1) L q D):x_ m (fH L q) (fun a=>D (aW q a)):=by
 intro v hv
 have hq:=hD.1
 have hvs:aW q v < m+1:=xp hq hv
 have hs:ax m (fH L q v)=-(L (aW q v) q):=by
  have h1:=eE.sum h (aW q v)
  rw [lT,ze m q hq] at h1
  show ax m (fun b=>L (aW q v) (aW q b))=_
  omega
 refine ⟨fun w _ hw=>eE.off h _ _ (ad2 q (fun e=>hw e.symm)),?_,fun h2=>?_⟩
 ·rw [hs]
  have:=eE.off h (aW q v) q (zc q v)
  omega
 ·obtain ⟨w, hw, hd, hl⟩ := hD.2.2.2 (aW q v) hvs (zc q v)
  have C0:w ≠ q:=fun e=>by rw [e] at hl;omega
  refine ⟨nL q w,FM hq hw C0,?_,?_⟩
  ·show D (aW q (nL q w)) < _
   rw [Km C0];exact hd
  ·show L (aW q v) (aW q (nL q w)) < 0
   rw [Km C0];omega
theorem Rv {n:Nat} {L:Nat→Nat→Int} (h:eE n L) (v:Nat) (hv:v < n):0≤L v v∧ax n (fun w=>akm (L v w))=2 * L v v:=by
 have h1:aku n (fun w=>if w=v then L v v+L v v else 0)=aku n (fun w=>akm (L v w)+L v w)∨L v v < 0:=by
  by_cases e:0≤L v v
  ·refine .inl (mq fun w _ => ?_)
   by_cases e1:w=v
   ·rw [if_pos e1,e1];unfold akm;omega
   ·rw [if_neg e1]
    have:=eE.off h v w (fun e2=>e1 e2.symm)
    unfold akm
    omega
  ·exact .inr (by omega)
 have h2:aku n (fun w=>if w=v then L v v else 0) ≥ aku n (fun w=>L v w):=rF fun w _=>by
  by_cases e1:w=v
  ·rw [if_pos e1,e1];exact Int.le_refl _
  ·rw [if_neg e1];exact eE.off h v w (fun e2=>e1 e2.symm)
 rw [ak5 hv,eE.sum h v] at h2
 refine ⟨h2,?_⟩
 rcases h1 with h1|h1
 ·rw [ak5 hv, rE, eE.sum h v, lT] at h1
  omega
 ·omega
theorem acL {n:Nat} {L:Nat→Nat→Int} (h:eE n L):vN n L≤40:=by
 unfold vN
 rw [eM (fun v hv=>(Rv h v hv).2),ju,← lT]
 have:=eE.tr h
 omega
theorem IA {m:Nat} {L:Nat→Nat→Int} (h:eE (m+1) L) {q:Nat} (hq:q < m+1):vN m (fH L q)≤40:=by
 refine Int.le_trans ?_ (acL h)
 unfold vN
 rw [ze m q hq (fun a=>ax (m+1) (fun b=>akm (L a b)))]
 have h1:0≤ax (m+1) (fun b=>akm (L q b)):=oU fun _ _=>iO _
 have h2:ax m (fun a=>ax m (fun b=>akm (fH L q a b)))≤ax m (fun t=>ax (m+1) (fun b=>akm (L (aW q t) b))):=uw fun a _=>by
  rw [ze m q hq (fun b=>akm (L (aW q a) b))]
  have:=iO (L (aW q a) q)
  show ax m (fun b=>akm (L (aW q a) (aW q b)))≤_
  omega
 omega
theorem Ge (n:Nat) {f:Nat→Int} {x:Int} (h:∀ i,i < n→f i≤x):ax n f≤n * x:=by
 induction n with
 | zero=>show (0:Int)≤((0:Nat):Int) * x;simp
 | succ n ih =>
  have h1:=ih fun i hi=>h i (by omega)
  have h2:=h n (by omega)
  show ax n f+f n≤_
  rw [Int.natCast_add,Int.add_mul]
  omega
theorem Oj {m:Nat} (hm:m+1≤8) {L:Nat→Nat→Int} (h:eE (m+1) L) {q:Nat} (hq:q < m+1) (c:Nat→Int) (hc:∀ v,v < m+1→v ≠ q→akm (c v)≤200) (k:Nat) (hk:k < m):okB m (ck (fH L q) k (fun b=>c (aW q b))):=by
 refine .inr ⟨k,hk,by omega,?_,?_⟩
 ·rw [eM (g := fun a => akm (c (aW q a))) (fun a _ => by unfold ck; rw [if_pos rfl])]
  have:=Ge m (f:=fun a=>akm (c (aW q a))) (x:=200) fun a ha=>hc _ (xp hq ha) (zc q a)
  omega
 ·refine Int.le_trans ?_ (IA h hq)
  unfold vN
  rw [zf]
  refine uw fun b _=>?_
  by_cases e:b=k
  ·rw [if_pos e];exact oU fun _ _=>iO _
  ·rw [if_neg e]
   exact Int.le_of_eq (eM fun a _=>by unfold ck;rw [if_neg e])
theorem YH {m:Nat} {L:Nat→Nat→Int} {q:Nat} (hq:q < m+1) (c:Nat→Int) (r:Nat):aku (m+1) (fun w=>L (aW q r) w * sC m L q c w)=ax m (fun k=>fH L q r k * vq m L q c k):=by
 rw [lT,ze m q hq,show L (aW q r) q * sC m L q c q=0 by unfold sC;rw [if_pos rfl,Int.mul_zero],Int.zero_add]
 refine eM fun k _=>?_
 unfold sC fH
 rw [if_neg (zc q k),acJ]
theorem YG {m:Nat} {L:Nat→Nat→Int} (h:eE (m+1) L) {q:Nat} {D:Nat→Nat} (hD:nM (m+1) L q D) (c:Nat→Int) (v:Nat) (hv:v < m+1) (qp:v ≠ q):akm (rL m L q c v)≤80:=by
 have hq:=hD.1
 have hW:=NU (NW h hD)
 obtain ⟨r,hr,rfl⟩:∃ r,r < m∧v=aW q r:=⟨nL q v,FM hq hv qp,(Km qp).symm⟩
 have h1:=Xy (fH L q) (fun b=>c (aW q b)) r hr
 have h2:akh m (fH L q) * rL m L q c (aW q r)=ax m (fun k=>fH L q r k * (akh m (ck (fH L q) k (fun b=>c (aW q b))) - akh m (fH L q) * vq m L q c k)):=by
  unfold rL
  rw [YH hq,Int.mul_sub,← h1,← ju,← FL]
  exact eM fun k _=>by rw [Int.mul_sub,Int.mul_left_comm (akh m (fH L q))]
 have h3:akm (akh m (fH L q) * rL m L q c (aW q r))≤(2 * akm (akh m (fH L q))) * 40:=by
  rw [h2]
  refine Int.le_trans (FF _ _) ?_
  have h4:ax m (fun k=>akm (fH L q r k))≤40:=by
   have h5:=(Rv h (aW q r) hv).2
   rw [ze m q hq] at h5
   have h6:=eE.top h (aW q r)
   have h7:=iO (L (aW q r) q)
   show ax m (fun k=>akm (L (aW q r) (aW q k)))≤40
   omega
  refine Int.le_trans (uw (g:=fun k=>(2 * akm (akh m (fH L q))) * akm (fH L q r k)) fun k _=>?_) ?_
  ·rw [als, Int.mul_comm]
   exact Int.mul_le_mul_of_nonneg_right (Of _ _ hW) (iO _)
  ·rw [ju]
   exact Int.mul_le_mul_of_nonneg_left h4 (by have:=iO (akh m (fH L q));omega)
 rw [als] at h3
 have h8:0 < akm (akh m (fH L q)):=by unfold akm;omega
 have h9:akm (akh m (fH L q)) * akm (rL m L q c (aW q r))≤akm (akh m (fH L q)) * 80:=by
  generalize akm (akh m (fH L q))=x at h3
  omega
 exact Int.le_of_mul_le_mul_left h9 h8
theorem YC (m:Nat) (L:Nat→Nat→Int) (q:Nat) (c:Nat→Int):m_ (m+1) L c (rL m L q c):=⟨sC m L q c,fun _ _=>rfl⟩
theorem Ns {n:Nat} {f:Nat→Int} (h:∀ i,i < n→-20000000000000≤f i∧f i≤20000000000000):-(20000000000000 * (n:Int))≤aku n f∧aku n f≤20000000000000 * n:=by
 induction n with
 | zero=>exact ⟨by simp [aku],by simp [aku]⟩
 | succ n ih =>
  have h1:=ih (fun i hi=>h i (by omega))
  have h2:=h n (by omega)
  rw [o_]
  omega
/-- What row r does to w, where the vertices are fired t times. -/
def tG (L:Nat→Nat→Int) (t:Nat→Int) (w r:Nat):Int:=L r w * t r
theorem Gf {L:Nat→Nat→Int} (hL:∀ u w,-20≤L u w∧L u w≤20) {t:Nat→Int} {r:Nat} (ht:akm (t r)≤1000000000000) (w:Nat):-20000000000000≤tG L t w r∧tG L t w r≤20000000000000:=by
 have h1:=hL r w
 have h2:akm (L r w)≤20:=by unfold akm;omega
 have h3:akm (tG L t w r)≤20 * 1000000000000:=by
  unfold tG
  rw [als]
  exact Int.mul_le_mul h2 ht (iO _) (by decide)
 unfold akm at h3
 omega
def gD (S:Nat→Bool) (r:Nat):Int:=if S r=true then 1 else 0
theorem FT (S:Nat→Bool) (r:Nat):akm (gD S r)≤1000000000000:=by
 unfold gD
 split
 ·show (1:Int)≤1000000000000;decide
 ·show (0:Int)≤1000000000000;decide
theorem RT {n:Nat} {L:Nat→Nat→Int} (hs:∀ i j,L i j=L j i) (S:Nat→Bool) (w:Nat):aku n (tG L (gD S) w)=gp L n S w:=by
 unfold gp
 refine mq fun r _=>?_
 show L r w * gD S r=_
 unfold gD
 rw [hs r w]
 split<;>omega
def mL (n:Nat) (L:Nat→Nat→Int) (c t:Nat→Int) (i j:Nat):List Int:=aG n (fun w=>c w - (aku i (tG L t w)+if w < j then tG L t w i else 0))
theorem RE (n:Nat) (L:Nat→Nat→Int) (c t:Nat→Int) (i:Nat):mL n L c t i n=mL n L c t (i+1) 0:=by
 unfold mL
 refine kH fun w hw=>?_
 rw [if_pos hw,if_neg (Nat.not_lt_zero _),o_]
 omega
theorem RD (n:Nat) (L:Nat→Nat→Int) (c t:Nat→Int):mL n L c t n 0=aG n (fun w=>c w - aku n (tG L t w)):=kH fun w _=>by rw [if_neg (Nat.not_lt_zero _)];omega
theorem RH (n:Nat) (L:Nat→Nat→Int) (c t:Nat→Int):mL n L c t 0 0=aG n c:=kH fun w _=>by rw [if_neg (Nat.not_lt_zero _)];simp [aku]
theorem RG {n:Nat} (L:Nat→Nat→Int) (c t:Nat→Int) (i j:Nat):(mL n L c t i j).set j (c j - aku i (tG L t j) - tG L t j i)=mL n L c t i (j+1):=by
 unfold mL
 rw [qt]
 refine kH fun w hw=>?_
 by_cases e2:w=j
 ·subst e2;rw [if_pos rfl,if_pos (by omega)];omega
 ·rw [if_neg e2]
  by_cases e3:w < j
  ·rw [if_pos e3,if_pos (show w < j+1 by omega)]
  ·rw [if_neg e3,if_neg (show ¬ w < j+1 by omega)]
theorem RF {n:Nat} (L:Nat→Nat→Int) (c t:Nat→Int) (i:Nat) {j:Nat} (hj:j < n):rd (mL n L c t i j) (j:Int)=c j - aku i (tG L t j):=by
 unfold mL
 rw [gu hj,if_neg (Nat.lt_irrefl _)]
 omega
theorem Yv (n : Nat) (hn : n ≤ 8) (L : Nat → Nat → Int) (hL : ∀ u w, -20 ≤ L u w ∧ L u w ≤ 20) (c t : Nat → Int) (hc : ∀ v, v < n → akm (c v) ≤ 100000000000000000) (ht : ∀ r, r < n → akm (t r) ≤ 1000000000000) (i : Nat) (hi : i < n) (R : List Int)
  (next:Ev (fun k=>cF.l0 k (aG n t) (mL n L c t (i+1) 0) (bZ n L) n ((i+1:Nat):Int)) R) :
  ∀ (q j:Nat),n - j=q→j≤n→Ev (fun k=>cF.l1 k (aG n t) (mL n L c t i j) i (bZ n L) n i n j) R:=by
 intro q
 induction q with
 | zero =>
  intro j hq hj
  obtain rfl:j=n:=by omega
  refine Ev.step (fun k=>by simp only [cF.l1];rfl) ?_
  simp only [Int.lt_irrefl,if_false,wI ((i:Int)+1) (by omega)]
  rw [RE]
  exact next
 | succ q ih =>
  intro j hq hj
  have hjn:j < n:=by omega
  have h2:akm (c j)≤100000000000000000:=hc j hjn
  have h3:=Ns (n:=i) (f:=tG L t j) (fun r hr=>Gf hL (ht r (by omega)) j)
  refine Ev.step (fun k=>by simp only [cF.l1];rfl) ?_
  have hrd:=RF L c t i hjn
  have hlen:(mL n L c t i j).length=n:=fq _ _
  have hg:L i j * t i=tG L t j i:=rfl
  have hgb:=Gf hL (ht i hi) j
  unfold akm at h2
  simp only [lI j n (by omega),if_true,cD j,nQ hi,fq,hlen,cD i,lI i n (by omega),gu hjn,gu hi,hrd,hg,Int.toNat_natCast,wI ((j:Int)+1) (by omega),wI (tG L t j i) (by omega)]
  rw [wI (c j - aku i (tG L t j) - tG L t j i) (by omega),RG]
  exact ih (j+1) (by omega) (by omega)
theorem Yu (n : Nat) (hn : n ≤ 8) (L : Nat → Nat → Int) (hL : ∀ u w, -20 ≤ L u w ∧ L u w ≤ 20) (c t : Nat → Int) (hc : ∀ v, v < n → akm (c v) ≤ 100000000000000000) (ht : ∀ r, r < n → akm (t r) ≤ 1000000000000) : ∀ (q i : Nat), n - i = q → i ≤ n →
  Ev (fun k=>cF.l0 k (aG n t) (mL n L c t i 0) (bZ n L) n i) (aG n (fun w=>c w - aku n (tG L t w))):=by
 intro q
 induction q with
 | zero =>
  intro i hq hi
  obtain rfl:i=n:=by omega
  refine Ev.step (fun k=>by simp only [cF.l0];rfl) ?_
  simp only [Int.lt_irrefl,if_false,RD]
  exact Ev.now _
 | succ q ih =>
  intro i hq hi
  have hin:i < n:=by omega
  refine Ev.step (fun k=>by simp only [cF.l0];rfl) ?_
  simp only [fo,lI i n (by omega),if_true,cD i,nQ hin,fq]
  exact Yv n hn L hL c t hc ht i hin _ (ih (i+1) (by omega) (by omega)) n 0 (by omega) (by omega)
theorem Iz (n:Nat) (hn:n≤8) (l:List (List Int)) (hl:l.length≤10) (hE:endsIn n l) (c t:Nat→Int) (hc:∀ v,v < n→akm (c v)≤100000000000000000) (ht:∀ r,r < n→akm (t r)≤1000000000000):Ev (fun k=>cF.f k n l (aG n c) (aG n t)) (aG n (fun w=>c w - aku n (tG (bO l l.length) t w))):=by
 unfold cF.f nW.f
 simp only [fq,show n < 17592186044416 by omega,if_true,Option.bind_some]
 refine Ev.bind (Ry n hn l hl hE) ?_
 have h:=Yu n hn (bO l l.length) (Ko hl) c t hc ht n 0 (by omega) (by omega)
 rw [RH] at h
 simp only [fo]
 exact h
/-- The implementation fires a set. -/
theorem Od (n:Nat) (hn:n≤8) (l:List (List Int)) (hl:l.length≤10) (hE:endsIn n l) (c:Nat→Int) (hc:∀ v,v < n→akm (c v)≤100000000000000000) (S:Nat→Bool):Ev (fun k=>cF.f k n l (aG n c) (aG n (gD S))) (aG n (fun w=>c w - gp (bO l l.length) n S w)):=by
 have h:=Iz n hn l hl hE c (gD S) hc (fun r _=>FT S r)
 rw [kH (g:=fun w=>c w - aku n (tG (bO l l.length) (gD S) w)) (h:=fun w=>c w - gp (bO l l.length) n S w) (fun w _=>by rw [RT (zg hE hl).sym])] at h
 exact h
theorem Yr (n : Nat) (hn : n ≤ 8) (L : Nat → Nat → Int) (hL : ∀ u w, -20 ≤ L u w ∧ L u w ≤ 20) (c : Nat → Int) (hc : ∀ v, v < n → akm (c v) ≤ 100000000000000000) (S : Nat → Bool) (i : Nat) (hi : i < n) (R : List Int)
  (next:Ev (fun k=>cV.l0 k (bZ n L) (lb S) 1 (mL n L c (gD S) (i+1) 0) ((i+1:Nat):Int)) R) :
  ∀ (q j:Nat),n - j=q→j≤n→(S i=true∨j=0)→Ev (fun k=>cV.l1 k (bZ n L) (lb S) 1 (mL n L c (gD S) i j) i j) R:=by
 intro q
 induction q with
 | zero =>
  intro j hq hj _
  obtain rfl:j=n:=by omega
  refine Ev.step (fun k=>by simp only [cV.l1];rfl) ?_
  simp only [fo,Int.lt_irrefl,if_false,wI ((i:Int)+1) (by omega)]
  rw [RE]
  exact next
 | succ q ih =>
  intro j hq hj hS
  have hjn:j < n:=by omega
  have hi8:i < 8:=by omega
  refine Ev.step (fun k=>by simp only [cV.l1];rfl) ?_
  simp only [fo,lI j n (by omega),if_true,cD j,cD i,show ((i:Int) < (8:Int)) by omega,FP S hi8]
  cases e:S i with
  | false =>
   obtain rfl:j=0:=by
    rcases hS with h|h
    ·rw [e] at h;exact absurd h (by decide)
    ·exact h
   simp only [Bool.false_eq_true,if_false,wI ((i:Int)+1) (by omega)]
   rw [show mL n L c (gD S) i 0=mL n L c (gD S) (i+1) 0 from kH fun w _=>by
    rw [if_neg (Nat.not_lt_zero _),if_neg (Nat.not_lt_zero _),o_,show tG L (gD S) w i=0 from by unfold tG gD;rw [if_neg (by rw [e];decide)];omega]
    omega]
   exact next
  | true =>
   have h2:akm (c j)≤100000000000000000:=hc j hjn
   have h3:=Ns (n:=i) (f:=tG L (gD S) j) (fun r hr=>Gf hL (FT S r) j)
   have hrd:=RF L c (gD S) i hjn
   have hlen:(mL n L c (gD S) i j).length=n:=fq _ _
   have hg:L i j=tG L (gD S) j i:=by unfold tG gD;rw [if_pos e];omega
   have hgb:=Gf hL (FT S i) j
   unfold akm at h2
   simp only [if_true,hlen,lI j n (by omega),lI i n (by omega),nQ hi,fq,gu hjn,hrd,Int.one_mul,Int.toNat_natCast,wI ((j:Int)+1) (by omega),hg,wI (tG L (gD S) j i) (by omega)]
   rw [jH (show -9223372036854775808≤c j - aku i (tG L (gD S) j) - tG L (gD S) j i by omega) (by omega),RG]
   exact ih (j+1) (by omega) (by omega) (Or.inl e)
theorem Yq (n : Nat) (hn : n ≤ 8) (L : Nat → Nat → Int) (hL : ∀ u w, -20 ≤ L u w ∧ L u w ≤ 20) (c : Nat → Int) (hc : ∀ v, v < n → akm (c v) ≤ 100000000000000000) (S : Nat → Bool) : ∀ (q i : Nat), n - i = q → i ≤ n →
  Ev (fun k=>cV.l0 k (bZ n L) (lb S) 1 (mL n L c (gD S) i 0) i) (aG n (fun w=>c w - aku n (tG L (gD S) w))):=by
 intro q
 induction q with
 | zero =>
  intro i hq hi
  obtain rfl:i=n:=by omega
  refine Ev.step (fun k=>by simp only [cV.l0];rfl) ?_
  simp only [fo,Int.lt_irrefl,if_false,RD]
  exact Ev.now _
 | succ q ih =>
  intro i hq hi
  have hin:i < n:=by omega
  refine Ev.step (fun k=>by simp only [cV.l0];rfl) ?_
  simp only [fo,lI i n (by omega),if_true]
  exact Yr n hn L hL c hc S i hin _ (ih (i+1) (by omega) (by omega)) n 0 (by omega) (by omega) (Or.inr rfl)
/-- The reference fires a set. -/
theorem Oc (n:Nat) (hn:n≤8) (L:Nat→Nat→Int) (hL:∀ u w,-20≤L u w∧L u w≤20) (hs:∀ i j,L i j=L j i) (c:Nat→Int) (hc:∀ v,v < n→akm (c v)≤100000000000000000) (S:Nat→Bool):Ev (fun k=>cV.fA k (bZ n L) (aG n c) (lb S) 1) (aG n (fun w=>c w - gp L n S w)):=by
 have h:=Yq n hn L hL c hc S n 0 (by omega) (by omega)
 rw [RH,kH (g:=fun w=>c w - aku n (tG L (gD S) w)) (h:=fun w=>c w - gp L n S w) (fun w _=>by rw [RT hs])] at h
 unfold cV.fA
 rw [Ra _ (by rw [fq];omega)]
 exact h
/-- The vertices nearer than d. -/
def jv (n:Nat) (D:Nat→Nat) (d:Nat):Nat→Bool:=fun v=>decide (v < n) && decide (D v < d)
theorem RB {n:Nat} {D:Nat→Nat} {d v:Nat}:jv n D d v=true↔v < n∧D v < d:=by simp [jv]
theorem Kp {n:Nat} {D:Nat→Nat} {d v:Nat} (h:d≤D v):jv n D d v=false:=by
 unfold jv
 rw [decide_eq_false (show ¬ D v < d by omega),Bool.and_false]
theorem ac3 {n:Nat} {L:Nat→Nat→Int} (h:eE n L) {D:Nat→Nat} {d v:Nat} (hv:v < n) (hd:d≤D v):gp L n (jv n D d) v≤0:=(ET h _ v hv (Kp hd)).2
theorem ac2 {n:Nat} {L:Nat→Nat→Int} (h:eE n L) {q:Nat} {D:Nat→Nat} (hD:nM n L q D) {d v:Nat} (h1:1≤d) (hv:v < n) (hd:D v=d):gp L n (jv n D d) v≤-1:=by
 obtain ⟨hq,QJ,_,abg⟩:=hD
 obtain ⟨w,hw,hwd,hL⟩:=abg v hv (fun e=>by rw [e,QJ] at hd;omega)
 exact YB h _ v (Kp (by omega)) w hw (RB.2 ⟨hw,by omega⟩) hL
def BQ (n:Nat) (D:Nat→Nat) (c:Nat→Int) (d:Nat):Prop:=∀ v,v < n→d≤D v→0≤c v
def mo (n:Nat) (c:Nat→Int) (B:Nat):Prop:=∀ v,v < n→akm (c v)≤(B:Int)
def sA (n:Nat) (D:Nat→Nat) (c:Nat→Int) (d:Nat):Prop:=∃ v,v < n∧D v=d∧c v < 0
theorem XD {n : Nat} {L : Nat → Nat → Int} (h : eE n L) {q : Nat} {D : Nat → Nat} (hD : nM n L q D) (d : Nat) (h1 : 1 ≤ d) (F G : List Int → (Nat → Int) → Prop)
  (Cn:∀ R c,mo n c 100000000000000000→sA n D c d→F R (fun v=>c v - gp L n (jv n D d) v)→F R c)
  (Av:∀ R c,mo n c 100000000000000000→¬ sA n D c d→G R c→F R c) :
  ∀ (r B : Nat) (c : Nat → Int), (∀ v, v < n → D v = d → -(r : Int) ≤ c v) → mo n c B → B + 20 * r ≤ 100000000000000000 → BQ n D c (d + 1) →
   ∃ c',m_ n L c c'∧BQ n D c' d∧mo n c' (B+20 * r)∧∀ R,G R c'→F R c:=by
 intro r
 induction r with
 | zero =>
  intro B c hr hb hB hf
  have PL:BQ n D c d:=fun v hv hd=>by
   by_cases e:D v=d
   ·have:=hr v hv e;omega
   ·exact hf v hv (by omega)
  refine ⟨c,BP n L c,PL,hb,fun R hG=>Av R c (fun v hv=>?_) ?_ hG⟩
  ·have:=hb v hv;omega
  ·rintro ⟨v, hv, e, hn⟩
   have:=PL v hv (by omega)
   omega
 | succ r ih =>
  intro B c hr hb hB hf
  have qU:mo n c 100000000000000000:=fun v hv=>by have:=hb v hv;omega
  by_cases hq:sA n D c d
  ·obtain ⟨c',he,hf',hb',hG⟩:=ih (B+20) (fun v=>c v - gp L n (jv n D d) v) (fun v hv e=>by
    have h2:=hr v hv e
    have h3:=ac2 h hD h1 hv e
    show -(r:Int)≤c v - gp L n (jv n D d) v
    omega) (fun v hv=>by
    have h2:=hb v hv
    have h3:=Yz h (jv n D d) v hv
    show akm (c v - gp L n (jv n D d) v)≤_
    unfold akm at h2 ⊢
    omega) (by omega) (fun v hv hd=>by
    have h2:=hf v hv hd
    have h3:=ac3 h hv (show d≤D v by omega)
    show 0≤c v - gp L n (jv n D d) v
    omega)
   refine ⟨c',Am (N9 (jv n D d) (fun v _=>rfl)) he,hf',fun v hv=>?_,fun R hR=>Cn R c qU hq (hG R hR)⟩
   have:=hb' v hv
   omega
  ·refine ⟨c, BP n L c, fun v hv hd => ?_, fun v hv => ?_, fun R hG => Av R c qU hq hG⟩
   ·by_cases e : D v = d
    ·by_cases hn : c v < 0
     ·exact absurd ⟨v,hv,e,hn⟩ hq
     ·omega
    ·exact hf v hv (by omega)
   ·have:=hb v hv;omega
theorem XB {n : Nat} {L : Nat → Nat → Int} (h : eE n L) {q : Nat} {D : Nat → Nat} (hD : nM n L q D) (ak3 Loop : Nat → List Int → (Nat → Int) → Prop)
  (hin:∀ d R c,1≤d→d≤n→Loop d R c→ak3 d R c)
  (Cn:∀ d R c,1≤d→d≤n→mo n c 100000000000000000→sA n D c d→Loop d R (fun v=>c v - gp L n (jv n D d) v)→Loop d R c)
  (Av:∀ d R c,1≤d→d≤n→mo n c 100000000000000000→¬ sA n D c d→ak3 (d - 1) R c→Loop d R c) :
  ∀ (d B : Nat) (c : Nat → Int), d ≤ n → mo n c B → B * 21 ^ d ≤ 100000000000000000 → BQ n D c (d + 1) →
   ∃ c',m_ n L c c'∧BQ n D c' 1∧mo n c' (B * 21 ^ d)∧∀ R,ak3 0 R c'→ak3 d R c:=by
 intro d
 induction d with
 | zero =>
  intro B c _ hb hB hf
  exact ⟨c,BP n L c,hf,fun v hv=>by have:=hb v hv;simpa using this,fun R hR=>hR⟩
 | succ d ih =>
  intro B c hd hb hB hf
  have hp:0 < 21 ^ d:=Nat.pow_pos (by decide)
  have e1:B * 21 ^ (d+1)=(B+20 * B) * 21 ^ d:=by rw [Nat.pow_succ,show B+20 * B=B * 21 by omega,Nat.mul_assoc,Nat.mul_comm 21]
  have hle:B+20 * B≤(B+20 * B) * 21 ^ d:=Nat.le_mul_of_pos_right _ hp
  obtain ⟨c1,Au,alG,hb1,B7⟩:=XD h hD (d+1) (by omega) (Loop (d+1)) (fun R c=>ak3 d R c) (fun R c hb hq=>Cn (d+1) R c (by omega) hd hb hq) (fun R c hb hq=>Av (d+1) R c (by omega) hd hb hq) B B c (fun v hv _=>by
   have:=hb v hv
   unfold akm at this
   omega) hb (by omega) hf
  obtain ⟨c',he,hf',hb',hG⟩:=ih (B+20 * B) c1 (by omega) hb1 (by omega) alG
  exact ⟨c',Am Au he,hf',by rw [e1];exact hb',fun R hR=>hin (d+1) R c (by omega) hd (B7 R (hG R hR))⟩
theorem V4 {n:Nat} {c:Nat→Int} {q v:Nat} (hq:q < n) (hv:v < n) (qp:v ≠ q) (ho:∀ w,w < n→w ≠ q→0≤c w):c v+c q≤aku n c:=by
 have h1:aku n (fun j=>(if j=v then c v else 0)+(if j=q then c q else 0))≤aku n c:=rF fun j hj=>by
  by_cases e:j=v
  ·subst e;rw [if_pos rfl,if_neg qp];omega
  ·rw [if_neg e]
   by_cases e2:j=q
   ·subst e2;rw [if_pos rfl];omega
   ·rw [if_neg e2]
    have:=ho j hj e2
    omega
 rw [rE,ak5 hv,ak5 hq] at h1
 exact h1
theorem V3 {n:Nat} {c:Nat→Int} {q:Nat} (hq:q < n) (ho:∀ w,w < n→w ≠ q→0≤c w):c q≤aku n c:=by
 have h1:aku n (fun j=>if j=q then c q else 0)≤aku n c:=rF fun j hj=>by
  by_cases e2:j=q
  ·subst e2;rw [if_pos rfl];omega
  ·rw [if_neg e2]
   exact ho j hj e2
 rw [ak5 hq] at h1
 exact h1
theorem RO {n:Nat} {c:Nat→Int} {q:Nat} (hq:q < n) (ho:∀ w,w < n→w ≠ q→0≤c w) {s m:Int} (hs:aku n c=s) (hm:m≤c q) (h1:s≤10000000000000000) (h2:-10000000000000000≤m):mo n c 100000000000000000:=by
 intro v hv
 have h3:=V3 hq ho
 unfold akm
 by_cases e:v=q
 ·subst e;omega
 ·have h4 := V4 hq hv e ho
  have h5:=ho v hv e
  omega
theorem Oi {n:Nat} {L:Nat→Nat→Int} (h:eE n L) {S:Nat→Bool} {c:Nat→Int} (hl:lawful L c n S) {v:Nat} (hv:v < n) (hc:0≤c v):0≤c v - gp L n S v:=by
 cases e:S v with
 | false=>have:=(ET h S v hv e).2;omega
 | true =>
  have h1:=hl v hv e
  have h2:=Ks h.sym v (h.sum v) S
  have h3:gp L n S v=akY L n S v:=by
   rw [← h2]
   unfold gp
   exact mq fun w _=>by rw [h.sym v w]
  omega
theorem V_ {n : Nat} {L : Nat → Nat → Int} (h : eE n L) {q : Nat} {D : Nat → Nat} (hD : nM n L q D) (F : List Int → (Nat → Int) → Prop)
  (hstep:∀ c,mo n c 100000000000000000→(∃ S:Nat→Bool,lawful L c n S∧S q=false∧(∃ j,j < n∧S j=true)∧∀ R,F R (fun v=>c v - gp L n S v)→F R c)∨((∀ S:Nat→Bool,lawful L c n S→S q=false→∀ j,j < n→S j=false)∧F (aG n c) c))
  (s m:Int) (h1:s≤10000000000000000) (h2:-10000000000000000≤m) :
  ∀ (P:Nat) (c:Nat→Int),vQ n (jc n D) q c≤(P:Int)→(∀ w,w < n→w ≠ q→0≤c w)→aku n c=s→m≤c q→∃ c',vU n L q c'∧m_ n L c c'∧F (aG n c') c:=by
 have hq:q < n:=hD.1
 intro P
 induction P with
 | zero =>
  intro c hP ho hs hm
  rcases hstep c (RO hq ho hs hm h1 h2) with ⟨S,hl,Aq,hne,hF⟩|⟨hno,hF⟩
  ·have h3 := RW h hD S Aq hne (c := c) (d := fun v => c v - gp L n S v) (fun v _ => rfl)
   have h4:=ado hD (c:=fun v=>c v - gp L n S v) (fun v hv qp=>Oi h hl hv (ho v hv qp))
   omega
  ·exact ⟨c,⟨ho,hno⟩,BP n L c,hF⟩
 | succ P ih =>
  intro c hP ho hs hm
  rcases hstep c (RO hq ho hs hm h1 h2) with ⟨S,hl,Aq,hne,hF⟩|⟨hno,hF⟩
  ·have h3 := RW h hD S Aq hne (c := c) (d := fun v => c v - gp L n S v) (fun v _ => rfl)
   have h5:m_ n L c (fun v=>c v - gp L n S v):=N9 S (fun v _=>rfl)
   have h6:=(ET h S q hq Aq).2
   obtain ⟨c',hr,he,Y4⟩:=ih (fun v=>c v - gp L n S v) (by omega) (fun v hv qp=>Oi h hl hv (ho v hv qp)) (by rw [N_ h h5];exact hs) (by show m≤c q - gp L n S q;omega)
   exact ⟨c',hr,Am h5 he,hF _ Y4⟩
  ·exact ⟨c,⟨ho,hno⟩,BP n L c,hF⟩
/-- The two phases, one behind the other. -/
theorem R6 {n : Nat} (hn : n ≤ 8) {L : Nat → Nat → Int} (h : eE n L) {q : Nat} {D : Nat → Nat} (hD : nM n L q D) (ak3 Loop : Nat → List Int → (Nat → Int) → Prop)
  (hin:∀ d R c,1≤d→d≤n→Loop d R c→ak3 d R c)
  (Cn:∀ d R c,1≤d→d≤n→mo n c 100000000000000000→sA n D c d→Loop d R (fun v=>c v - gp L n (jv n D d) v)→Loop d R c)
  (Av:∀ d R c,1≤d→d≤n→mo n c 100000000000000000→¬ sA n D c d→ak3 (d - 1) R c→Loop d R c)
  (hstep:∀ c,mo n c 100000000000000000→(∃ S:Nat→Bool,lawful L c n S∧S q=false∧(∃ j,j < n∧S j=true)∧∀ R,ak3 0 R (fun v=>c v - gp L n S v)→ak3 0 R c)∨((∀ S:Nat→Bool,lawful L c n S→S q=false→∀ j,j < n→S j=false)∧ak3 0 (aG n c) c))
  (c:Nat→Int) (hb:mo n c 4000):∃ c',vU n L q c'∧m_ n L c c'∧ak3 n (aG n c') c:=by
 have hp:4000 * 21 ^ n≤4000 * 21 ^ 8:=Nat.mul_le_mul_left _ (Nat.pow_le_pow_right (by decide) hn)
 obtain ⟨c1,Au,alG,hb1,hG⟩:=XB h hD ak3 Loop hin Cn Av n 4000 c (Nat.le_refl _) hb (Nat.le_trans hp (by decide)) (fun v hv hd=>by
  have:=hD.2.2.1 v hv
  omega)
 have hb2:∀ v,v < n→akm (c1 v)≤151291437444000:=fun v hv=>by
  have h3:=hb1 v hv
  have h4:((4000 * 21 ^ n:Nat):Int)≤((4000 * 21 ^ 8:Nat):Int):=Int.ofNat_le.2 hp
  have h5:((4000 * 21 ^ 8:Nat):Int)=151291437444000:=by decide
  omega
 have ho:∀ w,w < n→w ≠ q→0≤c1 w:=fun w hw C0=>alG w hw (by
  obtain ⟨u,_,hu,_⟩:=hD.2.2.2 w hw C0
  omega)
 have hs:aku n c1≤10000000000000000:=by
  have h3:aku n c1≤(n:Int) * 151291437444000:=by
   rw [lT]
   exact Ge n (fun i hi=>by have:=hb2 i hi;unfold akm at this;omega)
  have h4:(n:Int) * 151291437444000≤8 * 151291437444000:=Int.mul_le_mul_of_nonneg_right (by omega) (by decide)
  omega
 have hm:-10000000000000000≤c1 q:=by
  have:=hb2 q hD.1
  unfold akm at this
  omega
 obtain ⟨c',hr,he,hF⟩:=V_ h hD (ak3 0) hstep (aku n c1) (c1 q) hs hm (vQ n (jc n D) q c1).toNat c1 (by omega) ho rfl (Int.le_refl _)
 exact ⟨c',hr,Am Au he,hG _ hF⟩
theorem V5 (n:Nat) (hn:n≤8) (L:Nat→Nat→Int) (hL:∀ u w,-20≤L u w∧L u w≤20) (ho:∀ u w,u ≠ w→L u w≤0) (c:List Int) (hc:c.length=n) (q:Int):Ev (fun k=>bB.fA k (bZ n L) c q) (lb (mY L (fun j=>rd c (j:Int)) n (iM n (iL n q)) (iL n q)),zh n L c q):=by
 have h4:=V9 n hn L (mY L (fun j=>rd c (j:Int)) n (iM n (iL n q)) (iL n q)) n 0 false (by omega) (by omega)
 have h1:=V7 n hn L hL ho c hc false _ (iM n (iL n q)) (iL n q) (Nat.le_refl _) h4
 have h0:=V6 n hn L c q _ h1 n 0 (by omega) (by omega)
 rw [show lb (iL 0 q)=List.replicate 8 false from by simp [lb,iL,List.range,List.range.loop,List.replicate],Bool.false_or] at h0
 refine Ev.congr (fun k=>?_) h0
 unfold bB.fA
 rw [if_pos (by omega)]
 rfl
theorem adV {n:Nat} (hn:n≤8) (D:Nat→Nat) (d:Nat):bL.oB (aG n fun v=>(D v:Int)) (d:Int) n=lb (jv n D d):=by
 unfold bL.oB lb
 refine List.map_congr_left fun v _=>?_
 unfold jv
 by_cases e:v < n
 ·rw [gu e]
  simp
 ·rw [decide_eq_false e]
  rfl
theorem NT {n:Nat} (D:Nat→Nat) (c:Nat→Int) (d:Nat):bL.sy (aG n fun v=>(D v:Int)) (aG n c) (d:Int) n=true↔sA n D c d:=by
 unfold bL.sy sA
 rw [List.any_eq_true]
 constructor
 ·rintro ⟨v, hv, h⟩
  rw [List.mem_range] at hv
  rw [gu hv,gu hv,Bool.and_eq_true,beq_iff_eq,decide_eq_true_eq] at h
  exact ⟨v,hv,by omega,h.2⟩
 ·rintro ⟨v, hv, h1, h2⟩
  refine ⟨v,List.mem_range.2 hv,?_⟩
  rw [gu hv,gu hv,Bool.and_eq_true,beq_iff_eq,decide_eq_true_eq]
  exact ⟨by omega,h2⟩
theorem acV {n:Nat} {L:Nat→Nat→Int} (ho:∀ u w,u ≠ w→L u w≤0) {c:Nat→Int} {q:Nat} (h:zh n L (aG n c) q=false):∀ S:Nat→Bool,lawful L c n S→S q=false→∀ j,j < n→S j=false:=by
 intro S hS hq j hj
 cases e:S j with
 | false=>rfl
 | true =>
  have h1:=(acU n L ho (aG n c) q).2 ⟨S,fun v hv I_=>by show _≤rd (aG n c) (v:Int);rw [gu hv];exact hS v hv I_,hq,j,hj,e⟩
  rw [h] at h1
  exact absurd h1 (by decide)
theorem acW {n:Nat} {L:Nat→Nat→Int} (ho:∀ u w,u ≠ w→L u w≤0) {c:Nat→Int} {q:Nat} (h:zh n L (aG n c) q=true):lawful L c n (mY L (fun j=>rd (aG n c) (j:Int)) n (iM n (iL n q)) (iL n q))∧mY L (fun j=>rd (aG n c) (j:Int)) n (iM n (iL n q)) (iL n q) q=false∧∃ j,j < n∧mY L (fun j=>rd (aG n c) (j:Int)) n (iM n (iL n q)) (iL n q) j=true:=by
 obtain ⟨h1,h2,h3⟩:=amU (L:=L) (c:=fun j=>rd (aG n c) (j:Int)) (n:=n) ho (iM n (iL n q)) (iL n q) (Nat.le_refl _)
 unfold zh at h
 rw [Nd] at h
 obtain ⟨j,_,hj,hT⟩:=h
 refine ⟨fun v hv I_=>?_,?_,j,by omega,hT⟩
 ·exact Int.le_trans (h1 v hv I_) (Int.le_of_eq (gu hv))
 ·cases e:mY L (fun j=>rd (aG n c) (j:Int)) n (iM n (iL n q)) (iL n q) q with
  | false=>rfl
  | true =>
   have:=h2 q e
   simp [iL] at this
theorem Bu {n:Nat} {c:Nat→Int} (h:mo n c 100000000000000000):∀ v,v < n→akm (c v)≤100000000000000000:=fun v hv=>h v hv
theorem acg (n : Nat) (hn : n ≤ 8) {L : Nat → Nat → Int} (h : eE n L) (hL : ∀ u w, -20 ≤ L u w ∧ L u w ≤ 20) {q : Nat} {D : Nat → Nat} (hD : nM n L q D) (c : Nat → Int) (hb : mo n c 4000) :
  ∃ c',vU n L q c'∧m_ n L c c'∧Ev (fun k=>bL.l0 k (bZ n L) (q:Int) (aG n c) (aG n fun v=>(D v:Int)) (n:Int)) (aG n c'):=by
 refine R6 hn h hD (fun d R c=>Ev (fun k=>bL.l0 k (bZ n L) (q:Int) (aG n c) (aG n fun v=>(D v:Int)) (d:Int)) R) (fun d R c=>Ev (fun k=>bL.l1 k (bZ n L) (q:Int) (aG n c) (aG n fun v=>(D v:Int)) (d:Int)) R) ?_ ?_ ?_ ?_ c hb
 ·intro d R c h1 hd hR
  refine Ev.step (fun k=>by simp only [bL.l0];rfl) ?_
  simp only [show ((d:Int) > 0) by omega,if_true]
  exact hR
 ·intro d R c h1 hd qU hq hR
  refine Ev.step (fun k=>by simp only [bL.l1];rfl) ?_
  simp only [fo,fq,hn,and_self,if_true,(NT D c d).2 hq,adV hn]
  exact Ev.bind (Oc n hn L hL h.sym c (Bu qU) (jv n D d)) hR
 ·intro d R c h1 hd qU hq hR
  refine Ev.step (fun k=>by simp only [bL.l1];rfl) ?_
  have e:bL.sy (aG n fun v=>(D v:Int)) (aG n c) (d:Int) n=false:=by
   cases e:bL.sy (aG n fun v=>(D v:Int)) (aG n c) (d:Int) n with
   | false=>rfl
   | true=>exact absurd ((NT D c d).1 e) hq
  simp only [fo,fq,hn,and_self,if_true,e,Bool.false_eq_true,if_false,wI ((d:Int) - 1) (by omega)]
  refine Ev.congr (fun k=>?_) hR
  rw [show ((d - 1:Nat):Int)=(d:Int) - 1 by omega]
 ·intro c qU
  have hB:=V5 n hn L hL h.off (aG n c) (fq _ _) (q:Int)
  cases e:zh n L (aG n c) q with
  | true =>
   obtain ⟨h1,h2,h3⟩:=acW h.off e
   refine Or.inl ⟨_,h1,h2,h3,fun R hR=>?_⟩
   refine Ev.step (fun k=>by simp only [bL.l0];rfl) ?_
   simp only [show ¬ ((((0:Nat):Int)) > 0) by omega,if_false]
   refine Ev.step (fun k=>by simp only [bL.l2];rfl) ?_
   refine Ev.bind hB ?_
   simp only [e,if_true]
   refine Ev.bind (Oc n hn L hL h.sym c (Bu qU) _) ?_
   obtain ⟨K,hK⟩:=hR
   refine ⟨K,fun k hk=>?_⟩
   have:=hK (k+1) (by omega)
   simp only [bL.l0,show ¬ ((((0:Nat):Int)) > 0) by omega,if_false] at this
   exact this
  | false =>
   refine Or.inr ⟨acV h.off e,?_⟩
   refine Ev.step (fun k=>by simp only [bL.l0];rfl) ?_
   simp only [show ¬ ((((0:Nat):Int)) > 0) by omega,if_false]
   refine Ev.step (fun k=>by simp only [bL.l2];rfl) ?_
   refine Ev.bind hB ?_
   simp only [e,Bool.false_eq_true,if_false]
   exact Ev.now _
theorem acf (n : Nat) (hn : n ≤ 8) {L : Nat → Nat → Int} (h : eE n L) (hL : ∀ u w, -20 ≤ L u w ∧ L u w ≤ 20) {q : Nat} {D : Nat → Nat} (hD : nM n L q D) (hds : Ev (fun k => bX.f k (bZ n L) (q : Int)) (aG n fun v => (D v : Int))) (c : Nat → Int) (hb : mo n c 4000) :
  ∃ c',vU n L q c'∧m_ n L c c'∧Ev (fun k=>bL.f k (bZ n L) (aG n c) (q:Int)) (aG n c'):=by
 obtain ⟨c',hr,he,hE⟩:=acg n hn h hL hD c hb
 refine ⟨c',hr,he,?_⟩
 unfold bL.f
 rw [Ra _ (by rw [fq];omega)]
 simp only [Option.bind_some,fo]
 exact Ev.bind hds hE
theorem NL {n:Nat} {S T:Nat→Bool} (h:∀ y,y < n→S y=true→T y=true):iM n S≤iM n T:=by
 induction n with
 | zero=>exact Nat.le_refl _
 | succ n ih =>
  have h1:=ih (fun y hy=>h y (by omega))
  rw [alT,alT]
  by_cases e:S n=true
  ·rw [if_pos e,if_pos (h n (by omega) e)];omega
  ·rw [if_neg e];split<;>omega
theorem NK (n:Nat) (T:Nat→Bool):iM n T≤n:=by
 induction n with
 | zero=>exact Nat.le_refl _
 | succ n ih=>rw [alT];split<;>omega
structure DI (n:Nat) (L:Nat→Nat→Int) (q:Nat) (f:Nat→Int) (d v w:Nat):Prop where
 z:f q=0
 r:∀ x,x < n→f x=-1∨(0≤f x∧f x≤(d:Int)+1)
 u:∀ x,x < n→x ≠ q→0≤f x→∃ y,y < n∧0≤f y∧f y=f x - 1∧L x y≤-1
 c:∀ x,x < n→0≤f x→f x < (d:Int)→∀ y,y < n→L x y≤-1→0≤f y
 p:∀ x y,x < n→y < n→f x=(d:Int)→(x < v∨(x=v∧y < w))→L x y≤-1→0≤f y
theorem Tu {n:Nat} {L:Nat→Nat→Int} (hs:∀ i j,L i j=L j i) {q:Nat} {f:Nat→Int} {d v w:Nat} (h:DI n L q f d v w) (hv:v < n) (hw:w < n) (uh:f v=(d:Int)) (hL:L v w≤-1) (hfw:f w < 0):DI n L q (fun j=>if j=w then (d:Int)+1 else f j) d v (w+1):=by
 have hw1:f w=-1:=by have:=h.r w hw;omega
 have al7:∀ y,0≤f y→0≤(if y=w then (d:Int)+1 else f y):=fun y hy=>by split<;>omega
 refine ⟨?_,fun x hx=>?_,fun x hx hq h0=>?_,fun x hx h0 h1 y hy hxy=>?_,fun x y hx hy qZ hxy Zb=>?_⟩
 ·show (if q = w then (d : Int) + 1 else f q) = 0
  rw [if_neg (fun e=>by rw [← e,h.z] at hfw;omega)]
  exact h.z
 ·show (if x = w then (d : Int) + 1 else f x) = -1 ∨ _
  by_cases e:x=w
  ·simp only [if_pos e];omega
  ·simp only [if_neg e];exact h.r x hx
 ·by_cases e : x = w
  ·subst e
   refine ⟨v,hv,?_,?_,?_⟩
   ·exact al7 v (by omega)
   ·simp only [if_pos, if_neg (show ¬ v = x from fun e2 => by rw [e2, hw1] at uh; omega)]
    omega
   ·rw [hs];exact hL
  ·simp only [if_neg e] at h0 ⊢
   obtain ⟨y,hy,hy0,vL,vK⟩:=h.u x hx hq h0
   have e2:¬ y=w:=fun e2=>by rw [e2,hw1] at hy0;omega
   exact ⟨y,hy,by rw [if_neg e2];exact hy0,by rw [if_neg e2];exact vL,vK⟩
 ·by_cases e : x = w
  ·simp only [if_pos e] at h1;omega
  ·simp only [if_neg e] at h0 h1
   exact al7 y (h.c x hx h0 h1 y hy hxy)
 ·by_cases e : x = w
  ·simp only [if_pos e] at qZ;omega
  ·simp only [if_neg e] at qZ
   by_cases e2:y=w
   ·simp only [if_pos e2];omega
   ·exact al7 y (h.p x y hx hy qZ (by omega) Zb)
theorem L6 {n:Nat} {L:Nat→Nat→Int} {q:Nat} {f:Nat→Int} {d v w:Nat} (h:DI n L q f d v w) (hs:L v w≤-1→0≤f w):DI n L q f d v (w+1) :=
 ⟨h.z,h.r,h.u,h.c,fun x y hx hy qZ hxy hL=>by
  by_cases e:x=v∧y=w
  ·rw [e.2];rw [e.1,e.2] at hL;exact hs hL
  ·exact h.p x y hx hy qZ (by omega) hL⟩
theorem Tt {n:Nat} {L:Nat→Nat→Int} {q:Nat} {f:Nat→Int} {d v:Nat} (h:DI n L q f d v n):DI n L q f d (v+1) 0 :=
 ⟨h.z,h.r,h.u,h.c,fun x y hx hy qZ hxy hL=>h.p x y hx hy qZ (by omega) hL⟩
theorem Tq {n:Nat} {L:Nat→Nat→Int} {q:Nat} {f:Nat→Int} {d v:Nat} (h:DI n L q f d v 0) (hv:f v ≠ (d:Int)):DI n L q f d (v+1) 0 :=
 ⟨h.z,h.r,h.u,h.c,fun x y hx hy qZ hxy hL=>by
  by_cases e:x=v
  ·rw [e] at qZ;exact absurd qZ hv
  ·exact h.p x y hx hy qZ (by omega) hL⟩
theorem Tr {n:Nat} {L:Nat→Nat→Int} {q:Nat} {f:Nat→Int} {d:Nat} (h:DI n L q f d n 0):DI n L q f (d+1) 0 0 :=
 ⟨h.z,fun x hx=>by have:=h.r x hx;omega,h.u,fun x hx h0 h1 y hy hL=>by
  by_cases e:f x=(d:Int)
  ·exact h.p x y hx hy e (by omega) hL
  ·exact h.c x hx h0 (by omega) y hy hL,fun x y hx hy qZ hxy hL=>by omega⟩
theorem adU (n : Nat) (hn : n ≤ 8) {L : Nat → Nat → Int} (hs : ∀ i j, L i j = L j i) (q d v : Nat) (hd : d < n) (hv : v < n)
  (next:∀ f',DI n L q f' d (v+1) 0→∃ g,DI n L q g n 0 0∧Ev (fun k=>bX.l2 k (bZ n L) (aG n f') d ((v+1:Nat):Int)) (aG n g)) :
  ∀ (t w:Nat) (f:Nat→Int),n - w=t→w≤n→DI n L q f d v w→f v=(d:Int)→∃ g,DI n L q g n 0 0∧Ev (fun k=>bX.l3 k (bZ n L) (aG n f) d v w) (aG n g):=by
 intro t
 induction t with
 | zero =>
  intro w f ht hw h uh
  obtain rfl:w=n:=by omega
  obtain ⟨g,hg,hE⟩:=next f (Tt h)
  refine ⟨g,hg,?_⟩
  refine Ev.step (fun k=>by simp only [bX.l3];rfl) ?_
  simp only [fo,Int.lt_irrefl,if_false]
  refine Ev.step (fun k=>by simp only [bX.j4];rfl) ?_
  simp only [Bool.false_eq_true,if_false,wI ((v:Int)+1) (by omega)]
  exact hE
 | succ t ih =>
  intro w f ht hw h uh
  have hwn:w < n:=by omega
  have start:∀ R,Ev (fun k=>if L v w < 0 then (if f w < 0 then bX.l3 k (bZ n L) ((aG n f).set w ((d:Int)+1)) d v ((w:Int)+1) else bX.l3 k (bZ n L) (aG n f) d v ((w:Int)+1)) else bX.l3 k (bZ n L) (aG n f) d v ((w:Int)+1)) R→Ev (fun k=>bX.l3 k (bZ n L) (aG n f) d v w) R:=by
   intro R hR
   refine Ev.step (fun k=>by simp only [bX.l3];rfl) ?_
   simp only [fo,fq,lI w n (by omega),if_true,cD v,lI v n (by omega),gu hv,uh,beq_self_eq_true]
   refine Ev.step (fun k=>by simp only [bX.j4];rfl) ?_
   simp only [fo,fq,if_true,cD v,lI v n (by omega),cD w,lI w n (by omega),nQ hv,gu hwn,Int.toNat_natCast,wI ((w:Int)+1) (by omega),wI ((d:Int)+1) (by omega)]
   exact hR
  by_cases e1:L v w < 0
  ·by_cases e2 : f w < 0
   ·obtain ⟨g,hg,hE⟩:=ih (w+1) (fun j=>if j=w then (d:Int)+1 else f j) (by omega) (by omega) (Tu hs h hv hwn uh (by omega) e2) (by
     show (if v=w then (d:Int)+1 else f v)=(d:Int)
     rw [if_neg (fun e=>by rw [← e,uh] at e2;omega)]
     exact uh)
    refine ⟨g,hg,start _ ?_⟩
    simp only [if_pos e1,if_pos e2,qt]
    exact hE
   ·obtain ⟨g, hg, hE⟩ := ih (w + 1) f (by omega) (by omega) (L6 h (fun _ => by omega)) uh
    refine ⟨g,hg,start _ ?_⟩
    simp only [if_pos e1,if_neg e2]
    exact hE
  ·obtain ⟨g, hg, hE⟩ := ih (w + 1) f (by omega) (by omega) (L6 h (fun hL => by omega)) uh
   refine ⟨g,hg,start _ ?_⟩
   simp only [if_neg e1]
   exact hE
theorem adT (n : Nat) (hn : n ≤ 8) {L : Nat → Nat → Int} (hs : ∀ i j, L i j = L j i) (q d : Nat) (hd : d < n)
  (next:∀ f',DI n L q f' (d+1) 0 0→∃ g,DI n L q g n 0 0∧Ev (fun k=>bX.l1 k (bZ n L) (aG n f') ((d+1:Nat):Int)) (aG n g)) :
  ∀ (t v:Nat) (f:Nat→Int),n - v=t→v≤n→DI n L q f d v 0→∃ g,DI n L q g n 0 0∧Ev (fun k=>bX.l2 k (bZ n L) (aG n f) d v) (aG n g):=by
 intro t
 induction t with
 | zero =>
  intro v f ht hv h
  obtain rfl:v=n:=by omega
  obtain ⟨g,hg,hE⟩:=next f (Tr h)
  refine ⟨g,hg,?_⟩
  refine Ev.step (fun k=>by simp only [bX.l2];rfl) ?_
  simp only [fo,Int.lt_irrefl,if_false,wI ((d:Int)+1) (by omega)]
  exact hE
 | succ t ih =>
  intro v f ht hv h
  have gq:v < n:=by omega
  by_cases e:f v=(d:Int)
  ·obtain ⟨g, hg, hE⟩ := adU n hn hs q d v hd gq (fun f' h' => ih (v + 1) f' (by omega) (by omega) h') n 0 f (by omega) (by omega) h e
   refine ⟨g,hg,?_⟩
   refine Ev.step (fun k=>by simp only [bX.l2];rfl) ?_
   simp only [fo,lI v n (by omega),if_true]
   exact hE
  ·obtain ⟨g, hg, hE⟩ := ih (v + 1) f (by omega) (by omega) (Tq h e)
   refine ⟨g,hg,?_⟩
   refine Ev.step (fun k=>by simp only [bX.l2];rfl) ?_
   simp only [fo,lI v n (by omega),if_true]
   refine Ev.step (fun k=>by simp only [bX.l3];rfl) ?_
   simp only [fo,fq,show ((0:Int) < (n:Int)) by omega,if_true,cD v,lI v n (by omega),gu gq,beq_eq_false_iff_ne.mpr e]
   refine Ev.step (fun k=>by simp only [bX.j4];rfl) ?_
   simp only [Bool.false_eq_true,if_false,wI ((v:Int)+1) (by omega)]
   exact hE
theorem adS (n:Nat) (hn:n≤8) {L:Nat→Nat→Int} (hs:∀ i j,L i j=L j i) (q:Nat):∀ (t d:Nat) (f:Nat→Int),n - d=t→d≤n→DI n L q f d 0 0→∃ g,DI n L q g n 0 0∧Ev (fun k=>bX.l1 k (bZ n L) (aG n f) d) (aG n g):=by
 intro t
 induction t with
 | zero =>
  intro d f ht hd h
  obtain rfl:d=n:=by omega
  refine ⟨f,h,?_⟩
  refine Ev.step (fun k=>by simp only [bX.l1];rfl) ?_
  simp only [fo,Int.lt_irrefl,if_false]
  exact Ev.now _
 | succ t ih =>
  intro d f ht hd h
  obtain ⟨g,hg,hE⟩:=adT n hn hs q d (by omega) (fun f' h'=>ih (d+1) f' (by omega) (by omega) h') n 0 f (by omega) (by omega) h
  refine ⟨g,hg,?_⟩
  refine Ev.step (fun k=>by simp only [bX.l1];rfl) ?_
  simp only [fo,lI d n (by omega),if_true]
  exact hE
theorem adR (n : Nat) (hn : n ≤ 8) (L : Nat → Nat → Int) (q : Nat) (hq : q < n) (R : List Int) (next : Ev (fun k => bX.l1 k (bZ n L) (aG n fun j => if j = q then 0 else -1) 0) R) :
  ∀ (t v:Nat),n - v=t→v≤n→Ev (fun k=>bX.l0 k (bZ n L) q (aG n fun j=>if j < v then -1 else 0) v) R:=by
 intro t
 induction t with
 | zero =>
  intro v ht hv
  obtain rfl:v=n:=by omega
  refine Ev.step (fun k=>by simp only [bX.l0];rfl) ?_
  simp only [fq,Int.lt_irrefl,if_false,cD q,if_true,lI q v (by omega),Int.toNat_natCast,qt]
  rw [show (aG v fun j=>if j=q then (0:Int) else if j < v then -1 else 0)=aG v fun j=>if j=q then 0 else -1 from kH fun j hj=>by rw [if_pos hj]]
  exact next
 | succ t ih =>
  intro v ht hv
  have h1:=ih (v+1) (by omega) (by omega)
  refine Ev.step (fun k=>by simp only [bX.l0];rfl) ?_
  simp only [fq,lI v n (by omega),if_true,cD v,Int.toNat_natCast,qt,wI ((v:Int)+1) (by omega)]
  rw [show (aG n fun j=>if j=v then (-1:Int) else if j < v then -1 else 0)=aG n fun j=>if j < v+1 then -1 else 0 from kH fun j hj=>by
   by_cases e:j=v
   ·rw [if_pos e,if_pos (by omega)]
   ·rw [if_neg e]
    by_cases e2:j < v
    ·rw [if_pos e2,if_pos (by omega)]
    ·rw [if_neg e2,if_neg (by omega)]]
  exact h1
theorem Tv {n:Nat} {L:Nat→Nat→Int} {q:Nat} (hq:q < n):DI n L q (fun j=>if j=q then 0 else -1) 0 0 0:=by
 refine ⟨if_pos rfl,fun x hx=>?_,fun x hx xk h0=>?_,fun x hx h0 h1=>?_,fun x y hx hy qZ hxy=>by omega⟩
 ·show (if x = q then (0 : Int) else -1) = -1 ∨ _
  by_cases e:x=q
  ·simp only [if_pos e];omega
  ·exact Or.inl (if_neg e)
 ·simp only [if_neg xk] at h0;omega
 ·omega
theorem To {n:Nat} {L:Nat→Nat→Int} {q:Nat} {f:Nat→Int} {d v w:Nat} (h:DI n L q f d v w):∀ (j x:Nat),x < n→f x=(j:Int)→j+1≤iM n (fun y=>decide (0≤f y) && decide (f y≤(j:Int))):=by
 intro j
 induction j with
 | zero =>
  intro x hx hf
  have:=amj (n:=n) (v:=x) (T:=fun y=>decide (0≤f y) && decide (f y≤((0:Nat):Int))) hx (by simp;omega)
  omega
 | succ j ih =>
  intro x hx hf
  have xk:x ≠ q:=fun e=>by rw [e,h.z] at hf;omega
  obtain ⟨y,hy,hy0,vL,_⟩:=h.u x hx xk (by omega)
  have h1:=ih y hy (by omega)
  have h2:=amj (n:=n) (v:=x) (T:=fun y=>decide (0≤f y) && decide (f y≤((j+1:Nat):Int))) hx (by simp;omega)
  have h3:=NL (n:=n) (S:=fun y=>decide (0≤f y) && decide (f y≤(j:Int))) (T:=oW (fun y=>decide (0≤f y) && decide (f y≤((j+1:Nat):Int))) x) (fun z hz hS=>by
   simp only [Bool.and_eq_true,decide_eq_true_eq] at hS
   unfold oW
   rw [if_neg (fun e=>by rw [e] at hS;omega)]
   simp only [Bool.and_eq_true,decide_eq_true_eq]
   omega)
  omega
theorem Gz {n:Nat} {L:Nat→Nat→Int} {q:Nat} {f:Nat→Int} {d v w:Nat} (h:DI n L q f d v w) {x:Nat} (hx:x < n):f x < n:=by
 by_cases e:0≤f x
 ·have h1 := To h (f x).toNat x hx (by omega)
  have h2:=NK n (fun y=>decide (0≤f y) && decide (f y≤((f x).toNat:Int)))
  omega
 ·omega
theorem Tp {n:Nat} {l:List (List Int)} (hE:endsIn n l) (h1:ak6 (jE n l)=true) {q:Nat} (hq:q < n) {f:Nat→Int} (h:DI n (bO l l.length) q f n 0 0):(∀ v,v < n→f v=(((f v).toNat:Nat):Int))∧nM n (bO l l.length) q (fun v=>(f v).toNat):=by
 have hall:∀ v,v < n→0≤f v:=fun v hv=>by
  have hP:=Q9 hE h1 (fun x=>0≤f x) (fun i hi u w hu hw=>by
   obtain ⟨_,u',w',CL,hw',hun,hwn⟩:=hE i hi
   obtain rfl:u=u':=by omega
   obtain rfl:w=w':=by omega
   by_cases e:u=w
   ·rw [e]
   ·obtain ⟨ha, hb⟩ := Rw hE i hi u w hu hw e
    exact ⟨fun h0=>h.c u hun h0 (Gz h hun) w hwn ha,fun h0=>h.c w hwn h0 (Gz h hwn) u hun hb⟩) q v hq hv
  exact hP.1 (by show 0≤f q;rw [h.z];exact Int.le_refl _)
 refine ⟨fun v hv=>by have:=hall v hv;omega,hq,by show (f q).toNat=0;rw [h.z];rfl,fun v hv=>?_,fun v hv qp=>?_⟩
 ·have := Gz h hv
  show (f v).toNat≤n
  omega
 ·obtain ⟨y, hy, hy0, vL, vK⟩ := h.u v hv qp (hall v hv)
  exact ⟨y,hy,by show (f y).toNat < (f v).toNat;omega,vK⟩
theorem ab' (n : Nat) (hn : n ≤ 8) (l : List (List Int)) (hE : endsIn n l) (hl : l.length ≤ 10) (h1 : ak6 (jE n l) = true) (q : Nat) (hq : q < n) :
  ∃ D:Nat→Nat,nM n (bO l l.length) q D∧Ev (fun k=>bX.f k (bZ n (bO l l.length)) (q:Int)) (aG n fun v=>(D v:Int)):=by
 obtain ⟨g,hg,vt⟩:=adS n hn (zg hE hl).sym q n 0 _ (by omega) (by omega) (Tv hq)
 obtain ⟨he,hD⟩:=Tp hE h1 hq hg
 refine ⟨fun v=>(g v).toNat,hD,?_⟩
 have h0:=adR n hn (bO l l.length) q hq _ vt n 0 (by omega) (by omega)
 rw [kH he] at h0
 unfold bX.f
 simp only [fo,cD n,if_true,Int.toNat_natCast,show n≤35184372088832 by omega]
 rw [show List.replicate n (0:Int)=aG n (fun j=>if j < 0 then -1 else 0) from by
  refine List.ext_getElem (by simp [aG]) fun i h1 h2=>?_
  simp [aG]]
 exact h0
structure EI (n:Nat) (L:Nat→Nat→Int) (q:Nat) (f:Nat→Int):Prop where
 z:f q=0
 r:∀ x,x < n→0≤f x∧f x≤(n:Int)
 u:∀ x,x < n→x ≠ q→f x=(n:Int)∨∃ y,y < n∧f y < f x∧L x y≤-1
def kG (f:Nat→Int) (u v:Nat):Nat→Int:=fun j=>if j=u then mn (f u) (f v+1) else f j
theorem RI (a b:Int):mn a b≤a∧mn a b≤b:=by unfold mn;split<;>omega
theorem tH (f:Nat→Int) (u v x:Nat):kG f u v x≤f x:=by
 unfold kG
 by_cases e:x=u
 ·rw [if_pos e,e];exact (RI _ _).1
 ·rw [if_neg e];exact Int.le_refl _
theorem Sa (f:Nat→Int) (u v:Nat):kG f u v u≤f v+1:=by
 unfold kG
 rw [if_pos rfl]
 exact (RI _ _).2
theorem L7 {n:Nat} {L:Nat→Nat→Int} {q:Nat} {f:Nat→Int} (h:EI n L q f) {u v:Nat} (hu:u < n) (hv:v < n) (hL:u ≠ v→L u v≤-1):EI n L q (kG f u v):=by
 have uh:=h.r v hv
 have E7:=h.r u hu
 have hval:kG f u v u=f u∨(kG f u v u=f v+1∧f v+1 < f u):=by
  unfold kG mn
  rw [if_pos rfl]
  split<;>omega
 have JT:∀ x,x ≠ u→kG f u v x=f x:=fun x hx=>if_neg hx
 refine ⟨?_,fun x hx=>?_,fun x hx xk=>?_⟩
 ·by_cases e : q = u
  ·have hz := h.z
   rw [e] at hz ⊢
   omega
  ·rw [JT q e];exact h.z
 ·by_cases e : x = u
  ·rw [e];omega
  ·rw [JT x e];exact h.r x hx
 ·by_cases e : x = u
  ·rcases hval with h1 | ⟨h1, h2⟩
   ·rw [show kG f u v x = f x from by rw [e]; exact h1]
    rcases h.u x hx xk with h3|⟨y,hy,vL,vK⟩
    ·exact Or.inl h3
    ·exact Or.inr ⟨y,hy,Int.lt_of_le_of_lt (tH f u v y) vL,vK⟩
   ·refine Or.inr ⟨v, hv, ?_, ?_⟩
    ·have := tH f u v v
     rw [e,h1]
     omega
    ·rw [e]
     exact hL (fun e2=>by rw [e2] at h2;omega)
  ·rw [JT x e]
   rcases h.u x hx xk with h3|⟨y,hy,vL,vK⟩
   ·exact Or.inl h3
   ·exact Or.inr ⟨y,hy,Int.lt_of_le_of_lt (tH f u v y) vL,vK⟩
/-- What a round knows at edge i: nearer than before, and the edges told their ends. -/
def FR (l:List (List Int)) (f g:Nat→Int) (i:Nat):Prop:=(∀ x,g x≤f x)∧∀ j,j < i→∀ u v:Nat,rd (ah l (j:Int)) 0=u→rd (ah l (j:Int)) 1=v→g u≤f v+1∧g v≤f u+1
theorem abN (n : Nat) (mH : 1 ≤ n) (hn : n ≤ 8) (l : List (List Int)) (hl : l.length ≤ 10) (hE : endsIn n l) (q r : Nat) (hr : r < n) (f : Nat → Int)
  (next:∀ g,EI n (bO l l.length) q g→FR l f g l.length→∃ g',EI n (bO l l.length) q g'∧(∀ x,x < n→g' x < n)∧Ev (fun k=>cI.l0 k (aG n g) n ((r+1:Nat):Int) n l) (aG n g')) :
  ∀ (t i:Nat) (g:Nat→Int),l.length - i=t→i≤l.length→EI n (bO l l.length) q g→FR l f g i→∃ g',EI n (bO l l.length) q g'∧(∀ x,x < n→g' x < n)∧Ev (fun k=>cI.l1 k (aG n g) n r l l.length i n l) (aG n g'):=by
 intro t
 induction t with
 | zero =>
  intro i g ht hi h hm
  obtain rfl:i=l.length:=by omega
  obtain ⟨g',hg',hlt,oR⟩:=next g h hm
  refine ⟨g',hg',hlt,?_⟩
  refine Ev.step (fun k=>by simp only [cI.l1];rfl) ?_
  simp only [Int.lt_irrefl,if_false,wI ((r:Int)+1) (by omega)]
  exact oR
 | succ t ih =>
  intro i g ht hi h hm
  have hin:i < l.length:=by omega
  obtain ⟨hlen,u,v,hu,hv,hun,gq⟩:=hE i hin
  have hgu:=h.r u hun
  have hgv:=h.r v gq
  have hd:u ≠ v→bO l l.length u v≤-1∧bO l l.length v u≤-1:=Rw hE i hin u v hu hv
  have E0:=L7 h hun gq (fun e=>(hd e).1)
  have I2:=L7 E0 gq hun (fun e=>(hd (fun e2=>e e2.symm)).2)
  have ahA:=E0.r u hun
  have hm2:FR l f (kG (kG g u v) v u) (i+1):=by
   refine ⟨fun x=>Int.le_trans (tH _ _ _ _) (Int.le_trans (tH _ _ _ _) (hm.1 x)),fun j hj u' v' CL hv'=>?_⟩
   by_cases e:j=i
   ·subst e
    obtain rfl:u=u':=by omega
    obtain rfl:v=v':=by omega
    have h1:=tH (kG g u v) v u u
    have h2:=Sa g u v
    have h3:=Sa (kG g u v) v u
    have h4:=tH g u v u
    have h5:=hm.1 u
    have h6:=hm.1 v
    omega
   ·obtain ⟨h1, h2⟩ := hm.2 j (by omega) u' v' CL hv'
    have h3:=tH (kG g u v) v u u'
    have h4:=tH g u v u'
    have h5:=tH (kG g u v) v u v'
    have h6:=tH g u v v'
    omega
  obtain ⟨g',hg',hlt,oR⟩:=ih (i+1) (kG (kG g u v) v u) (by omega) (by omega) I2 hm2
  refine ⟨g',hg',hlt,?_⟩
  refine Ev.step (fun k=>by simp only [cI.l1];rfl) ?_
  simp only [show ((i:Int) < (l.length:Int)) by omega,if_true,cD i,hlen,hu,hv,show (0:Int) < ((2:Nat):Int) by decide,show (1:Int) < ((2:Nat):Int) by decide,cD u,cD v,fq,lI u n (by omega),lI v n (by omega),gu hun,gu gq,Int.toNat_natCast,wI (g v+1) (by omega),qt,Option.bind_some,wI ((i:Int)+1) (by omega)]
  have e1:mn (g u) (g v+1)=kG g u v u:=(if_pos rfl).symm
  have e2:(if v=u then kG g u v u else g v)=kG g u v v:=by
   show _=(if v=u then mn (g u) (g v+1) else g v)
   rw [e1]
  rw [e1,e2,wI (kG g u v u+1) (by omega)]
  refine Ev.congr (fun k=>?_) oR
  rw [show ((i+1:Nat):Int)=(i:Int)+1 by omega]
  congr 1
  refine kH fun j hj=>?_
  show _=(if j=v then mn (kG g u v v) (kG g u v u+1) else kG g u v j)
  by_cases e3:j=v
  ·rw [if_pos e3,if_pos e3]
  ·rw [if_neg e3, if_neg e3]
   by_cases e4:j=u
   ·rw [if_pos e4,e4]
   ·rw [if_neg e4]
    exact (if_neg e4).symm
theorem abL {n : Nat} {l : List (List Int)} (hE : endsIn n l) (h1 : ak6 (jE n l) = true) {q : Nat} (hq : q < n) {f g : Nat → Int} (hf : EI n (bO l l.length) q f) {r : Nat} (hr : r < n) (hm : FR l f g l.length)
  (h:r+1≤iM n (fun x=>decide (f x≤(r:Int)))∨∀ x,x < n→f x < (n:Int)):r+1+1≤iM n (fun x=>decide (g x≤((r+1:Nat):Int)))∨∀ x,x < n→g x < (n:Int):=by
 rcases h with h|h
 ·by_cases hall : ∀ x, x < n → g x < (n : Int)
  ·exact Or.inr hall
  ·left
   obtain ⟨y,hy,vL,hyg⟩:∃ y,y < n∧(r:Int) < f y∧g y≤((r+1:Nat):Int):=by
    by_cases hno:∃ y,y < n∧(r:Int) < f y∧g y≤((r+1:Nat):Int)
    ·exact hno
    ·refine absurd (fun x hx => ?_) hall
     have hP:=Q9 hE h1 (fun x=>f x≤(r:Int)) (fun i hi u w hu hw=>by
      obtain ⟨_,u',w',CL,hw',hun,hwn⟩:=hE i hi
      obtain rfl:u=u':=by omega
      obtain rfl:w=w':=by omega
      obtain ⟨ha,hb⟩:=hm.2 i hi u w hu hw
      constructor
      ·intro h0
       by_cases e:f w≤(r:Int)
       ·exact e
       ·exact absurd ⟨w,hwn,by omega,by omega⟩ hno
      ·intro h0
       by_cases e:f u≤(r:Int)
       ·exact e
       ·exact absurd ⟨u,hun,by omega,by omega⟩ hno) q x hq hx
     have h2:f x≤(r:Int):=hP.1 (by show f q≤(r:Int);rw [hf.z];omega)
     have h3:=hm.1 x
     omega
   have h2:=amj (n:=n) (v:=y) (T:=fun x=>decide (g x≤((r+1:Nat):Int))) hy (by simp only [decide_eq_true_eq];exact hyg)
   have h3:=NL (n:=n) (S:=fun x=>decide (f x≤(r:Int))) (T:=oW (fun x=>decide (g x≤((r+1:Nat):Int))) y) (fun z hz hS=>by
    simp only [decide_eq_true_eq] at hS
    unfold oW
    rw [if_neg (fun e=>by rw [e] at hS;omega)]
    simp only [decide_eq_true_eq]
    have:=hm.1 z
    omega)
   omega
 ·right
  intro x hx
  have h2:=h x hx
  have h3:=hm.1 x
  omega
theorem abM (n : Nat) (mH : 1 ≤ n) (hn : n ≤ 8) (l : List (List Int)) (hl : l.length ≤ 10) (hE : endsIn n l) (h1 : ak6 (jE n l) = true) (q : Nat) (hq : q < n) : ∀ (t r : Nat) (f : Nat → Int), n - r = t → r ≤ n → EI n (bO l l.length) q f →
  (r+1≤iM n (fun x=>decide (f x≤(r:Int)))∨∀ x,x < n→f x < (n:Int))→∃ g',EI n (bO l l.length) q g'∧(∀ x,x < n→g' x < n)∧Ev (fun k=>cI.l0 k (aG n f) n r n l) (aG n g'):=by
 intro t
 induction t with
 | zero =>
  intro r f ht hr h hc
  obtain rfl:r=n:=by omega
  refine ⟨f,h,?_,?_⟩
  ·rcases hc with hc | hc
   ·have := NK r (fun x => decide (f x ≤ (r : Int)))
    omega
   ·exact hc
  ·refine Ev.step (fun k => by simp only [cI.l0]; rfl) ?_
   simp only [Int.lt_irrefl,if_false]
   exact Ev.now _
 | succ t ih =>
  intro r f ht hr h hc
  obtain ⟨g',hg',hlt,oR⟩:=abN n mH hn l hl hE q r (by omega) f (fun g hg hm=>ih (r+1) g (by omega) (by omega) hg (abL hE h1 hq h (by omega) hm hc)) l.length 0 f (by omega) (by omega) h ⟨fun x=>Int.le_refl _,fun j hj=>absurd hj (Nat.not_lt_zero _)⟩
  refine ⟨g',hg',hlt,?_⟩
  refine Ev.step (fun k=>by simp only [cI.l0];rfl) ?_
  simp only [lI r n (by omega),if_true]
  exact oR
theorem Tw {n:Nat} {L:Nat→Nat→Int} {q:Nat} (hq:q < n):EI n L q (fun j=>if j=q then 0 else (n:Int)):=by
 refine ⟨if_pos rfl,fun x hx=>?_,fun x hx xk=>Or.inl (if_neg xk)⟩
 show 0≤(if x=q then (0:Int) else (n:Int))∧(if x=q then (0:Int) else (n:Int))≤(n:Int)
 split<;>omega
theorem XF (n : Nat) (mH : 1 ≤ n) (hn : n ≤ 8) (l : List (List Int)) (hl : l.length ≤ 10) (hE : endsIn n l) (h1 : ak6 (jE n l) = true) (q : Nat) (hq : q < n) :
  ∃ D:Nat→Nat,nM n (bO l l.length) q D∧Ev (fun k=>cI.f k n l (q:Int)) (aG n fun v=>(D v:Int)):=by
 obtain ⟨g,hg,hlt,oR⟩:=abM n mH hn l hl hE h1 q hq n 0 _ (by omega) (by omega) (Tw hq) (Or.inl (by
  have:=amj (n:=n) (v:=q) (T:=fun x=>decide ((if x=q then (0:Int) else (n:Int))≤((0:Nat):Int))) hq (by simp)
  omega))
 refine ⟨fun v=>(g v).toNat,⟨hq,by show (g q).toNat=0;rw [hg.z];rfl,fun v hv=>by have:=hg.r v hv;show (g v).toNat≤n;omega,fun v hv qp=>?_⟩,?_⟩
 ·rcases hg.u v hv qp with h2 | ⟨y, hy, vL, vK⟩
  ·have := hlt v hv
   omega
  ·have := hg.r y hy
   exact ⟨y,hy,by show (g y).toNat < (g v).toNat;omega,vK⟩
 ·unfold cI.f wh.f
  simp only [List.length_singleton,true_and,show (1:Int)≤(n:Int) by omega,show (n:Int)≤1048576 by omega,and_self,if_true,Option.bind_some,Int.toNat_natCast,List.length_replicate,cD q,lI q n (by omega)]
  rw [show (List.replicate n (rd [(n:Int)] 0)).set q 0=aG n (fun j=>if j=q then 0 else (n:Int)) from by
   refine List.ext_getElem (by simp [aG]) fun i h1 h2=>?_
   rw [List.getElem_set]
   simp only [aG,List.getElem_map,List.getElem_range,List.getElem_replicate]
   by_cases e:q=i
   ·rw [if_pos e,if_pos e.symm]
   ·rw [if_neg e, if_neg (fun h => e h.symm)]
    rfl]
  rw [← kH (g:=fun v=>g v) (h:=fun v=>(((g v).toNat:Nat):Int)) (fun v hv=>by have:=(hg.r v hv).1;omega)]
  exact oR
theorem Yt (n:Nat) (hn:n≤8) (l:List (List Int)) (hl:l.length≤10) (hE:endsIn n l) (c:Nat→Int) (hc:∀ v,v < n→akm (c v)≤100000000000000000) (m:Nat):Ev (fun k=>cF.f k n l (aG n c) (sL n m)) (Aj n (bO l l.length) (aG n c) m):=by
 have h:=Iz n hn l hl hE c (sW m) hc (fun r _=>FT (fun i=>m.testBit i) r)
 rw [show (aG n fun w=>c w - aku n (tG (bO l l.length) (sW m) w))=Aj n (bO l l.length) (aG n c) m from kH fun w hw=>by
  rw [gu hw,mq (g:=gW (bO l l.length) m w) (fun r _=>by
   unfold tG sW gW
   split<;>omega)]] at h
 exact h
theorem acY (n : Nat) (mH : 1 ≤ n) (hn : n ≤ 8) (l : List (List Int)) (hl : l.length ≤ 10) (hE : endsIn n l) (c : Nat → Int) (hb : ∀ v, v < n → akm (c v) ≤ 100000000000000000) (q : Nat) (hq : q < n) : ∀ (d m : Nat), 2 ^ n - m = d → m ≤ 2 ^ n →
  ∃ R:List Int,Ev (fun k=>akt.l0 k (aG n c) (q:Int) ((2 ^ n:Nat):Int) m n l) R∧((R=[]∧∀ m',m≤m'→m' < 2 ^ n→¬ yj n (bO l l.length) (aG n c) q m')∨∃ m',m' < 2 ^ n∧yj n (bO l l.length) (aG n c) q m'∧R=sL n m'):=by
 have hP:=adp hn
 generalize 2 ^ n=P at hP ⊢
 intro d
 induction d with
 | zero =>
  intro m hd hm
  obtain rfl:m=P:=by omega
  refine ⟨[],?_,Or.inl ⟨rfl,fun m' h1 h2=>by omega⟩⟩
  refine Ev.step (fun k=>by simp only [akt.l0];rfl) ?_
  simp only [Int.lt_irrefl,if_false]
  exact Ev.now _
 | succ d ih =>
  intro m hd hm
  have hmP:m < P:=by omega
  obtain ⟨R,hR,hiff⟩:=ih (m+1) (by omega) (by omega)
  have e1:wrap64 ((m:Int)+1)=((m+1:Nat):Int):=jH (by omega) (by omega)
  have more:¬ yj n (bO l l.length) (aG n c) q m→((R=[]∧∀ m',m≤m'→m' < P→¬ yj n (bO l l.length) (aG n c) q m')∨∃ m',m' < P∧yj n (bO l l.length) (aG n c) q m'∧R=sL n m'):=by
   intro hg
   rcases hiff with ⟨h0,h⟩|h
   ·refine Or.inl ⟨h0, fun m' h1 h2 => ?_⟩
    by_cases e:m'=m
    ·rw [e];exact hg
    ·exact h m' (by omega) h2
   ·exact Or.inr h
  have skip:Ev (fun k=>akt.j1 k (aG n c) (q:Int) m P m true n l) R:=by
   refine Ev.step (fun k=>by simp only [akt.j1];rfl) ?_
   simp only [if_true,e1]
   exact hR
  by_cases h0:m=0
  ·refine ⟨R, ?_, more (fun h => h.1 h0)⟩
   refine Ev.step (fun k=>by simp only [akt.l0];rfl) ?_
   simp only [show ((m:Int) < (P:Int)) by omega,if_true]
   simp only [show ((m:Int)=0) by omega,if_true]
   have:=skip
   simp only [show ((m:Int)=0) by omega] at this
   exact this
  ·have first:∀ R',Ev (fun k=>akt.j1 k (aG n c) (q:Int) m P m (m.testBit q) n l) R'→Ev (fun k=>akt.l0 k (aG n c) (q:Int) (P:Int) m n l) R':=by
    intro R' h
    refine Ev.step (fun k=>by simp only [akt.l0];rfl) ?_
    simp only [show ((m:Int) < (P:Int)) by omega,if_true,show ¬ ((m:Int)=0) by omega,if_false,cD q,Nl m q (by omega) (by omega)]
    cases e:m.testBit q with
    | true=>rw [e] at h;simp only [if_true];exact h
    | false=>rw [e] at h;simp only [Bool.false_eq_true,if_false];exact h
   cases Cc:m.testBit q with
   | true =>
    rw [Cc] at first
    exact ⟨R,first R skip,more (fun h=>by rw [h.2.1] at Cc;exact absurd Cc (by decide))⟩
   | false =>
    rw [Cc] at first
    have go:∀ R',Ev (fun k=>if (true && okF n (bO l l.length) (aG n c) m n 0)=true then (if sL n m=[] then none else some (sL n m)) else akt.l0 k (aG n c) (q:Int) P (wrap64 ((m:Int)+1)) n l) R'→Ev (fun k=>akt.j1 k (aG n c) (q:Int) m P m false n l) R':=by
     intro R' h
     have h2:=ac0 n hn (bO l l.length) (aG n c) (q:Int) P m l R' n 0 true (by omega) (by omega) h
     have h1:=acZ n hn (aG n c) (q:Int) P m (by omega) l _ R' (Yt n hn l hl hE c hb m) (by rw [show (Aj n (bO l l.length) (aG n c) m).length=n from fq _ _];exact h2) n 0 (by omega) (by omega)
     refine Ev.step (fun k=>by simp only [akt.j1];rfl) ?_
     simp only [Bool.false_eq_true,if_false,cD n,if_true,Int.toNat_natCast,show n≤35184372088832 by omega,Option.bind_some,List.length_replicate]
     rw [show List.replicate n (0:Int)=aG n (fun w=>if w < 0 then sW m w else 0) from by
      refine List.ext_getElem (by simp [aG]) fun i h1 h2=>?_
      simp [aG]]
     exact h1
    have hne:sL n m ≠ []:=fun e=>by
     have h1:(sL n m).length=n:=fq _ _
     rw [e] at h1
     simp at h1
     omega
    cases hok:okF n (bO l l.length) (aG n c) m n 0 with
    | true =>
     refine ⟨sL n m,first _ (go _ ?_),Or.inr ⟨m,hmP,⟨h0,Cc,hok⟩,rfl⟩⟩
     simp only [hok,Bool.and_self,if_true,if_neg hne]
     exact Ev.now _
    | false =>
     refine ⟨R,first _ (go _ ?_),more (fun h=>by rw [h.2.2] at hok;exact absurd hok (by decide))⟩
     simp only [hok,Bool.and_false,Bool.false_eq_true,if_false,e1]
     exact hR
theorem YY {n:Nat} {L:Nat→Nat→Int} (h:eE n L) {c:Nat→Int} {q m:Nat} (hm:m < 2 ^ n) (hg:yj n L (aG n c) q m):lawful L c n (fun i=>m.testBit i)∧m.testBit q=false∧∃ j,j < n∧m.testBit j=true:=by
 obtain ⟨h0,hq,hok⟩:=hg
 rw [RQ] at hok
 refine ⟨fun v hv hS=>?_,hq,?_⟩
 ·have h1 := hok v (by omega) (by omega) hS
  rw [gu hv] at h1
  have h2:=Ks h.sym v (h.sum v) (fun i=>m.testBit i)
  have h3:aku n (gW L m v)=akY L n (fun i=>m.testBit i) v:=by
   rw [← h2]
   rfl
  omega
 ·obtain ⟨j, hj⟩ := Nat.exists_testBit_of_ne_zero h0
  refine ⟨j,?_,hj⟩
  by_cases e:j < n
  ·exact e
  ·rw [Nat.testBit_lt_two_pow (Nat.lt_of_lt_of_le hm (Nat.pow_le_pow_right (by decide) (by omega)))] at hj
   exact absurd hj (by decide)
theorem acS {n:Nat} {L:Nat→Nat→Int} (h:eE n L) {c:Nat→Int} {q:Nat} {S:Nat→Bool} (hl:lawful L c n S) (hq:S q=false) {j:Nat} (hj:j < n) (hS:S j=true):∃ m,m < 2 ^ n∧yj n L (aG n c) q m:=by
 refine ⟨ak7 n S,ac4 n S,fun e=>?_,by rw [FQ,hq,Bool.and_false],?_⟩
 ·have := FQ n S j
  rw [e,hS,decide_eq_true hj] at this
  simp at this
 ·rw [RQ]
  intro v _ hv hb
  have gq:v < n:=by omega
  rw [FQ,Bool.and_eq_true] at hb
  have h1:=hl v gq hb.2
  have h2:=Ks h.sym v (h.sum v) S
  rw [gu gq]
  have h3:aku n (gW L (ak7 n S) v)=akY L n S v:=by
   rw [← h2]
   refine mq fun r hr=>?_
   unfold gW
   rw [FQ,decide_eq_true hr,Bool.true_and]
  omega
theorem acX (n : Nat) (mH : 1 ≤ n) (hn : n ≤ 8) (l : List (List Int)) (hl : l.length ≤ 10) (hE : endsIn n l) (c : Nat → Int) (hb : ∀ v, v < n → akm (c v) ≤ 100000000000000000) (q : Nat) (hq : q < n) :
  (Ev (fun k=>akt.f k n l (aG n c) (q:Int)) []∧∀ S:Nat→Bool,lawful (bO l l.length) c n S→S q=false→∀ j,j < n→S j=false) ∨
  ∃ S:Nat→Bool,lawful (bO l l.length) c n S∧S q=false∧(∃ j,j < n∧S j=true)∧Ev (fun k=>akt.f k n l (aG n c) (q:Int)) (aG n (gD S)):=by
 have hM:=zg hE hl
 obtain ⟨R,hR,h⟩:=acY n mH hn l hl hE c hb q hq (2 ^ n) 0 (Nat.sub_zero _) (Nat.zero_le _)
 have oR:Ev (fun k=>akt.f k n l (aG n c) (q:Int)) R:=by
  unfold akt.f
  simp only [cD n,if_true,adZ n hn]
  exact hR
 rcases h with ⟨h0,h⟩|⟨m,hm,hg,Zz⟩
 ·rw [h0] at oR
  refine Or.inl ⟨oR,fun S hS Aq j hj=>?_⟩
  cases e:S j with
  | false=>rfl
  | true =>
   obtain ⟨m,hm,hg⟩:=acS hM hS Aq hj e
   exact absurd hg (h m (by omega) hm)
 ·obtain ⟨h1, h2, h3⟩ := YY hM hm hg
  rw [Zz] at oR
  exact Or.inr ⟨fun i=>m.testBit i,h1,h2,h3,oR⟩
theorem Yw (n:Nat) (hn:n≤8):∀ (t i:Nat),n - i=t→i≤n→Ev (fun k=>ig.l0 k (aG i fun v=>(v:Int)) n i) (aG n fun v=>(v:Int)):=by
 intro t
 induction t with
 | zero =>
  intro i ht hi
  obtain rfl:i=n:=by omega
  refine Ev.step (fun k=>by simp only [ig.l0];rfl) ?_
  simp only [Int.lt_irrefl,if_false]
  exact Ev.now _
 | succ t ih =>
  intro i ht hi
  have h1:=ih (i+1) (by omega) (by omega)
  refine Ev.step (fun k=>by simp only [ig.l0];rfl) ?_
  simp only [lI i n (by omega),if_true,fq,show i < 17592186044416 by omega,wI ((i:Int)+1) (by omega)]
  have e:=Lg i (fun v=>(v:Int))
  rw [e]
  exact h1
theorem Oe (n:Nat) (hn:n≤8) (l:List (List Int)):Ev (fun k=>ig.f k n l) (aG n fun v=>(v:Int)):=by
 unfold ig.f
 exact Yw n hn n 0 (by omega) (by omega)
theorem R7 (n:Nat) (D:Nat→Nat) (c:Nat→Int) (d:Nat) (b:Bool) (hb:b=true↔sA n D c d):Ev (fun k=>nX.f k (aG n fun v=>(v:Int)) (aG n fun v=>(D v:Int)) (d:Int) (aG n c)) b:=by
 refine ⟨0,fun k _=>?_⟩
 show nX.f k (aG n fun v=>(v:Int)) (aG n fun v=>(D v:Int)) (d:Int) (aG n c)=some b
 unfold nX.f
 rw [if_pos (by
  rw [List.all_eq_true]
  intro x hx
  unfold aG at hx
  rw [List.mem_map] at hx
  obtain ⟨v,hv,rfl⟩:=hx
  rw [List.mem_range] at hv
  simp only [fq,Bool.and_eq_true,decide_eq_true_eq]
  omega)]
 congr 1
 have key:(aG n fun v=>(v:Int)).any (vo (aG n fun v=>(D v:Int)) (d:Int) (aG n c))=true↔sA n D c d:=by
  rw [List.any_eq_true]
  constructor
  ·rintro ⟨x, hx, h⟩
   unfold aG at hx
   rw [List.mem_map] at hx
   obtain ⟨v,hv,rfl⟩:=hx
   rw [List.mem_range] at hv
   unfold vo at h
   rw [gu hv,gu hv,Bool.and_eq_true,beq_iff_eq,decide_eq_true_eq] at h
   exact ⟨v,hv,by omega,h.2⟩
  ·rintro ⟨v, hv, h1, h2⟩
   refine ⟨(v:Int),?_,?_⟩
   ·unfold aG
    exact List.mem_map.2 ⟨v,List.mem_range.2 hv,rfl⟩
   ·unfold vo
    rw [gu hv,gu hv,Bool.and_eq_true,beq_iff_eq,decide_eq_true_eq]
    exact ⟨by omega,h2⟩
 rw [Bool.eq_iff_iff,key,hb]
theorem adG (n : Nat) (hn : n ≤ 8) (l : List (List Int)) (q : Nat) (D : Nat → Nat) (c : Nat → Int) (d : Nat) (R : List Int)
  (next:Ev (fun k=>akr.l2 k (q:Int) (aG n (gD (jv n D d))) (aG n fun v=>(D v:Int)) n l (aG n c) (aG n fun v=>(D v:Int)) (d:Int)) R) :
  ∀ (t i:Nat),n - i=t→i≤n→Ev (fun k=>akr.l1 k (q:Int) (aG n fun v=>if v < i then gD (jv n D d) v else 0) (aG n fun v=>(D v:Int)) n i n l (aG n c) (aG n fun v=>(D v:Int)) (d:Int)) R:=by
 intro t
 induction t with
 | zero =>
  intro i ht hi
  obtain rfl:i=n:=by omega
  refine Ev.step (fun k=>by simp only [akr.l1];rfl) ?_
  simp only [Int.lt_irrefl,if_false]
  rw [show (aG i fun v=>if v < i then gD (jv i D d) v else 0)=aG i (gD (jv i D d)) from kH fun v hv=>if_pos hv]
  exact next
 | succ t ih =>
  intro i ht hi
  have hin:i < n:=by omega
  have h1:=ih (i+1) (by omega) (by omega)
  refine Ev.step (fun k=>by simp only [akr.l1];rfl) ?_
  simp only [lI i n (by omega),if_true,cD i,fq,gu hin,Int.toNat_natCast,qt,wI ((i:Int)+1) (by omega)]
  by_cases e:D i < d
  ·simp only [show ((D i : Int) < (d : Int)) by omega, if_true]
   rw [show (aG n fun j=>if j=i then (1:Int) else if j < i then gD (jv n D d) j else 0)=aG n fun v=>if v < i+1 then gD (jv n D d) v else 0 from kH fun j hj=>by
    by_cases e2:j=i
    ·rw [if_pos e2, if_pos (show j < i + 1 by omega), e2]
     unfold gD
     rw [if_pos (RB.2 ⟨hin,e⟩)]
    ·rw [if_neg e2]
     by_cases e3:j < i
     ·rw [if_pos e3,if_pos (show j < i+1 by omega)]
     ·rw [if_neg e3,if_neg (show ¬ j < i+1 by omega)]]
   exact h1
  ·simp only [show ¬ ((D i : Int) < (d : Int)) by omega, if_false]
   rw [show (aG n fun v=>if v < i then gD (jv n D d) v else 0)=aG n fun v=>if v < i+1 then gD (jv n D d) v else 0 from kH fun j hj=>by
    by_cases e2:j=i
    ·rw [if_neg (show ¬ j < i by omega), if_pos (show j < i + 1 by omega), e2]
     unfold gD
     rw [if_neg (by rw [Kp (show d≤D i by omega)];decide)]
    ·by_cases e3 : j < i
     ·rw [if_pos e3,if_pos (show j < i+1 by omega)]
     ·rw [if_neg e3,if_neg (show ¬ j < i+1 by omega)]]
   exact h1
theorem adF (n : Nat) (mH : 1 ≤ n) (hn : n ≤ 8) (l : List (List Int)) (hl : l.length ≤ 10) (hE : endsIn n l) {q : Nat} {D : Nat → Nat} (hD : nM n (bO l l.length) q D) (c : Nat → Int) (hb : mo n c 4000) :
  ∃ c',vU n (bO l l.length) q c'∧m_ n (bO l l.length) c c'∧Ev (fun k=>akr.l0 k (q:Int) (aG n fun v=>(D v:Int)) n l (aG n c) (n:Int)) (aG n c'):=by
 have hM:=zg hE hl
 refine R6 hn hM hD (fun d R c=>Ev (fun k=>akr.l0 k (q:Int) (aG n fun v=>(D v:Int)) n l (aG n c) (d:Int)) R) (fun d R c=>Ev (fun k=>akr.l2 k (q:Int) (aG n (gD (jv n D d))) (aG n fun v=>(D v:Int)) n l (aG n c) (aG n fun v=>(D v:Int)) (d:Int)) R) ?_ ?_ ?_ ?_ c hb
 ·intro d R c h1 hd hR
  refine Ev.step (fun k=>by simp only [akr.l0];rfl) ?_
  simp only [show ((d:Int) > 0) by omega,if_true,cD n,Int.toNat_natCast,show n≤35184372088832 by omega,Option.bind_some,List.length_replicate]
  have h2:=adG n hn l q D c d R hR n 0 (by omega) (by omega)
  rw [show (aG n fun v=>if v < 0 then gD (jv n D d) v else 0)=List.replicate n (0:Int) from by
   refine List.ext_getElem (by simp [aG]) fun i h1 h2=>?_
   simp [aG]] at h2
  exact h2
 ·intro d R c h1 hd qU hq hR
  refine Ev.step (fun k=>by simp only [akr.l2];rfl) ?_
  refine Ev.bind (Oe n hn l) (Ev.bind (R7 n D c d true ⟨fun _=>hq,fun _=>rfl⟩) ?_)
  simp only [if_true]
  exact Ev.bind (Od n hn l hl hE c (Bu qU) (jv n D d)) hR
 ·intro d R c h1 hd qU hq hR
  refine Ev.step (fun k=>by simp only [akr.l2];rfl) ?_
  refine Ev.bind (Oe n hn l) (Ev.bind (R7 n D c d false ⟨fun h=>absurd h (by decide),fun h=>absurd h hq⟩) ?_)
  simp only [Bool.false_eq_true,if_false,wI ((d:Int) - 1) (by omega)]
  refine Ev.congr (fun k=>?_) hR
  rw [show ((d - 1:Nat):Int)=(d:Int) - 1 by omega]
 ·intro c qU
  have start:∀ (t R:List Int),Ev (fun k=>akt.f k n l (aG n c) (q:Int)) t→Ev (fun k=>akr.l3 k (q:Int) t n l (aG n c)) R→Ev (fun k=>akr.l0 k (q:Int) (aG n fun v=>(D v:Int)) n l (aG n c) (((0:Nat):Int))) R:=by
   intro t R ht hR
   refine Ev.step (fun k=>by simp only [akr.l0];rfl) ?_
   simp only [show ¬ ((((0:Nat):Int)) > 0) by omega,if_false]
   exact Ev.bind ht hR
  rcases acX n mH hn l hl hE c (Bu qU) q hD.1 with ⟨oR,hno⟩|⟨S,h1,h2,h3,oR⟩
  ·refine Or.inr ⟨hno, start _ _ oR ?_⟩
   refine Ev.step (fun k=>by simp only [akr.l3];rfl) ?_
   simp only [List.length_nil,if_true,show (((0:Nat):Int)=0) by omega]
   exact Ev.now _
  ·refine Or.inl ⟨S, h1, h2, h3, fun R hR => start _ _ oR ?_⟩
   refine Ev.step (fun k=>by simp only [akr.l3];rfl) ?_
   simp only [fq,show ¬ ((n:Int)=0) by omega,if_false]
   refine Ev.bind (Od n hn l hl hE c (Bu qU) S) ?_
   obtain ⟨K,hK⟩:=hR
   refine ⟨K,fun k hk=>?_⟩
   have:=hK (k+1) (by omega)
   simp only [akr.l0,show ¬ ((((0:Nat):Int)) > 0) by omega,if_false] at this
   exact this
def zm (a m:Nat) (f:Nat→Nat→Int):List (List Int):=(List.range a).map fun i=>aG m (f i)
theorem K2 (a m:Nat) (f:Nat→Nat→Int):(zm a m f).length=a:=by simp [zm]
theorem Sb (a m:Nat) (f:Nat→Nat→Int):zm a m f ++ [aG m (f a)]=zm (a+1) m f:=by
 unfold zm
 rw [List.range_succ,List.map_append]
 rfl
theorem aeJ {m q:Nat} (hq:q < m+1) (g:Nat→Int):(aG (m+1) g).eraseIdx q=aG m (fun b=>g (aW q b)):=by
 refine List.ext_getElem ?_ fun i h1 h2=>?_
 ·rw [List.length_eraseIdx, fq, fq, if_pos hq]
  omega
 ·rw [List.getElem_eraseIdx]
  unfold aW
  simp only [aG,List.getElem_map,List.getElem_range]
  split<;>rfl
def nH (q i:Nat):Nat:=if i≤q then i else i - 1
theorem NM {q i:Nat} (h:i ≠ q):aW q (nH q i)=i:=by
 unfold aW nH
 by_cases e:i≤q
 ·rw [if_pos e,if_pos (by omega)]
 ·rw [if_neg e,if_neg (by omega)];omega
theorem Xf {q i:Nat} (h:i ≠ q):nH q (i+1)=nH q i+1:=by
 unfold nH
 by_cases e:i≤q
 ·rw [if_pos e,if_pos (by omega)]
 ·rw [if_neg e,if_neg (by omega)];omega
theorem Xe (q:Nat):nH q (q+1)=nH q q:=by
 unfold nH
 rw [if_neg (by omega),if_pos (Nat.le_refl _)]
 omega
theorem Xd (q i:Nat):nH q i≤i:=by unfold nH;split<;>omega
theorem abW {m q:Nat} (hq:q < m+1) (t:Nat→Int):qq (aG m t) (q:Int) 0=aG (m+1) (fun w=>if w=q then 0 else t (nL q w)):=by
 unfold qq
 rw [Int.toNat_natCast]
 refine List.ext_getElem ?_ fun i h1 h2=>?_
 ·simp [aG];omega
 ·have hi : i < m + 1 := by simpa [aG] using h2
  rw [List.getElem_append]
  unfold nL
  by_cases e:i < q
  ·rw [dif_pos (by simp [aG]; omega)]
   simp only [aG,List.getElem_map,List.getElem_range,List.getElem_take]
   rw [if_neg (by omega),if_pos e]
  ·rw [dif_neg (by simp [aG]; omega), List.getElem_cons]
   by_cases e2:i=q
   ·rw [dif_pos (by simp [aG]; omega)]
    simp only [aG,List.getElem_map,List.getElem_range]
    rw [if_pos e2]
   ·rw [dif_neg (by simp [aG]; omega)]
    simp only [aG,List.getElem_map,List.getElem_range,List.getElem_drop,List.length_take,List.length_map,List.length_range]
    rw [if_neg e2,if_neg e]
    congr 1
    omega
theorem Yy {a b:Int} (ha:-2000000000≤a∧a≤2000000000) (hb:-2000000000≤b∧b≤2000000000) (h0:b ≠ 0):wg.f a b=some (ua a b):=by
 unfold wg.f ua
 by_cases e:a < 0
 ·have h1:akm (Int.tdiv (-a+b - 1) b)≤akm (-a+b - 1):=by
   unfold akm
   have:=Int.natAbs_tdiv_le_natAbs (-a+b - 1) b
   omega
  unfold akm at h1
  rw [if_pos e,if_pos e,if_neg h0,wI (-a) (by omega),wI (-a+b) (by omega),wI (-a+b - 1) (by omega),wI (Int.tdiv (-a+b - 1) b) (by omega),jH (by omega) (by omega)]
 ·have h1:akm (Int.tdiv a b)≤akm a:=by
   unfold akm
   have:=Int.natAbs_tdiv_le_natAbs a b
   omega
  unfold akm at h1
  rw [if_neg e,if_neg e,if_neg h0,jH (by omega) (by omega)]
theorem YF (m : Nat) (hm : m + 1 ≤ 8) (L : Nat → Nat → Int) (q : Nat) (c : Nat → Int) (l : List (List Int)) (X : List Int) (dt : Int) (j : Nat) (hj : j < m) (R : List Int)
  (next:Ev (fun k=>(bw.f k (bZ m (ck (fH L q) j (fun b=>c (aW q b))))).bind fun t147=>(wg.f t147 dt).bind fun t148=>if (aG j (vq m L q c)).length < 17592186044416 then cm.l1 k X (q:Int) (bZ m (fH L q)) (aG m fun b=>c (aW q b)) dt (aG j (vq m L q c) ++ [t148]) m (wrap64 ((j:Int)+1)) ((m+1:Nat):Int) l else none) R) :
  ∀ (t i:Nat),m - i=t→i≤m→Ev (fun k=>cm.l2 k X (q:Int) (bZ m (fH L q)) (aG m fun b=>c (aW q b)) dt (aG j (vq m L q c)) j (zm i m (ck (fH L q) j (fun b=>c (aW q b)))) m j m i ((m+1:Nat):Int) l) R:=by
 intro t
 induction t with
 | zero =>
  intro i ht hi
  obtain rfl:i=m:=by omega
  refine Ev.step (fun k=>by simp only [cm.l2];rfl) ?_
  simp only [Int.lt_irrefl,if_false]
  exact next
 | succ t ih =>
  intro i ht hi
  have Cv:i < m:=by omega
  have h1:=ih (i+1) (by omega) (by omega)
  refine Ev.step (fun k=>by simp only [cm.l2];rfl) ?_
  simp only [lI i m (by omega),if_true,cD i,fo,nQ Cv,nW.f,fq,show m < 17592186044416 by omega,Option.bind_some,cD j,lI j m (by omega),K2,show i < 5864062014805 by omega,Int.toNat_natCast,gu Cv,qt,wI ((i:Int)+1) (by omega)]
  rw [show (aG m fun b=>if b=j then c (aW q i) else fH L q i b)=aG m (ck (fH L q) j (fun b=>c (aW q b)) i) from rfl,Sb]
  exact h1
theorem YE (m : Nat) (hm : m + 1 ≤ 8) (l : List (List Int)) (hl : l.length ≤ 10) (hE : endsIn (m + 1) l) {q : Nat} {D : Nat → Nat} (hD : nM (m + 1) (bO l l.length) q D) (c : Nat → Int) (hc : ∀ v, v < m + 1 → akm (c v) ≤ 100000000000000000) (yu : ∀ v, v < m + 1 → v ≠ q → akm (c v) ≤ 200) :
  ∀ (t j:Nat),m - j=t→j≤m→Ev (fun k=>cm.l1 k (aG (m+1) c) (q:Int) (bZ m (fH (bO l l.length) q)) (aG m fun b=>c (aW q b)) (akh m (fH (bO l l.length) q)) (aG j (vq m (bO l l.length) q c)) m j ((m+1:Nat):Int) l) (aG (m+1) (rL m (bO l l.length) q c)):=by
 have hM:=zg hE hl
 have hq:q < m+1:=hD.1
 have h0:=NU (NW hM hD)
 have hA:okB m (fH (bO l l.length) q):=.inl (IA hM hq)
 intro t
 induction t with
 | zero =>
  intro j ht hj
  obtain rfl:j=m:=by omega
  refine Ev.step (fun k=>by simp only [cm.l1];rfl) ?_
  simp only [Int.lt_irrefl,if_false,fq,show j < 17592186044416 by omega,true_and,cD q,show (q:Int)≤(j:Int) by omega,and_self,if_true]
  rw [abW hq]
  have hf:=Iz (j+1) hm l hl hE c (sC j (bO l l.length) q c) hc (fun r hr=>by
   unfold sC
   by_cases e:r=q
   ·rw [if_pos e];show (0:Int)≤1000000000000;decide
   ·rw [if_neg e]
    have hu:=FM hq hr e
    have h1:=EK (n:=j) (by omega) _ hA
    have h2:=EK (n:=j) (by omega) _ (Oj hm hM hq c yu (nL q r) hu)
    have h3:=Yx (akh j (ck (fH (bO l l.length) q) (nL q r) (fun b=>c (aW q b)))) (akh j (fH (bO l l.length) q)) h0
    unfold vq
    unfold akm at h3 ⊢
    omega)
  rw [show (aG (j+1) fun w=>c w - aku (j+1) (tG (bO l l.length) (sC j (bO l l.length) q c) w))=aG (j+1) (rL j (bO l l.length) q c) from kH fun w hw=>by
   unfold rL
   rw [mq (f:=tG (bO l l.length) (sC j (bO l l.length) q c) w) (g:=fun r=>bO l l.length w r * sC j (bO l l.length) q c r) (fun r _=>by
    unfold tG
    rw [hM.sym r w])]] at hf
  exact Ev.bind hf (Ev.now _)
 | succ t ih =>
  intro j ht hj
  have Ax:j < m:=by omega
  have h1:=ih (j+1) (by omega) (by omega)
  have hB:=Oj hm hM hq c yu j Ax
  refine Ev.step (fun k=>by simp only [cm.l1];rfl) ?_
  simp only [lI j m (by omega),if_true,fo]
  refine YF m hm (bO l l.length) q c l _ _ j Ax _ ?_ m 0 (by omega) (by omega)
  refine Ev.bind (SC m (by omega) _ hB) ?_
  rw [Yy (EK (by omega) _ hB) (EK (by omega) _ hA) h0]
  simp only [Option.bind_some,fq,show j < 17592186044416 by omega,if_true,wI ((j:Int)+1) (by omega)]
  rw [show ua (akh m (ck (fH (bO l l.length) q) j (fun b=>c (aW q b)))) (akh m (fH (bO l l.length) q))=vq m (bO l l.length) q c j from rfl,Lg]
  exact h1
theorem YD (m : Nat) (hm : m + 1 ≤ 8) (L : Nat → Nat → Int) {q : Nat} (hq : q < m + 1) (c : Nat → Int) (l : List (List Int)) (R : List Int)
  (next:Ev (fun k=>(bw.f k (bZ m (fH L q))).bind fun t125=>cm.l1 k (aG (m+1) c) (q:Int) (bZ m (fH L q)) (aG m fun b=>c (aW q b)) t125 [] m 0 ((m+1:Nat):Int) l) R) :
  ∀ (t i:Nat),m+1 - i=t→i≤m+1→Ev (fun k=>cm.l0 k (aG (m+1) c) (q:Int) (zm (nH q i) m (fH L q)) (aG (nH q i) fun b=>c (aW q b)) (bZ (m+1) L) ((m+1:Nat):Int) i ((m+1:Nat):Int) l) R:=by
 intro t
 induction t with
 | zero =>
  intro i ht hi
  obtain rfl:i=m+1:=by omega
  have e:nH q (m+1)=m:=by unfold nH;rw [if_neg (by omega)];omega
  refine Ev.step (fun k=>by simp only [cm.l0];rfl) ?_
  simp only [Int.lt_irrefl,if_false,e,K2]
  exact next
 | succ t ih =>
  intro i ht hi
  have Cv:i < m+1:=by omega
  have h1:=ih (i+1) (by omega) (by omega)
  refine Ev.step (fun k=>by simp only [cm.l0];rfl) ?_
  simp only [show ((i:Int) < ((m+1:Nat):Int)) by omega,if_true,cD i,fo,nQ Cv,nW.f,fq,show m+1 < 17592186044416 by omega,Option.bind_some,cD q,show ((q:Int) < ((m+1:Nat):Int)) by omega,K2,Int.toNat_natCast,gu Cv,wI ((i:Int)+1) (by omega)]
  by_cases e:i=q
  ·simp only [show ((i : Int) = (q : Int)) by omega, if_true]
   rw [e,Xe] at h1
   rw [e]
   exact h1
  ·have hle := Xd q i
   simp only [show ¬ ((i:Int)=(q:Int)) by omega,if_false,show nH q i < 5864062014805 by omega,show nH q i < 17592186044416 by omega,if_true]
   rw [Xf e] at h1
   rw [aeJ hq]
   rw [show (aG m fun b=>L i (aW q b))=aG m (fH L q (nH q i)) from kH fun b _=>by unfold fH;rw [NM e],Sb]
   have e3:=Lg (nH q i) (fun b=>c (aW q b))
   simp only [NM e] at e3
   rw [e3]
   exact h1
theorem YI (m : Nat) (hm : m + 1 ≤ 8) (l : List (List Int)) (hl : l.length ≤ 10) (hE : endsIn (m + 1) l) {q : Nat} {D : Nat → Nat} (hD : nM (m + 1) (bO l l.length) q D) (c : Nat → Int) (hc : ∀ v, v < m + 1 → akm (c v) ≤ 100000000000000000) (yu : ∀ v, v < m + 1 → v ≠ q → akm (c v) ≤ 200) :
  Ev (fun k=>cm.f k ((m+1:Nat):Int) l (aG (m+1) c) (q:Int)) (aG (m+1) (rL m (bO l l.length) q c)):=by
 have hM:=zg hE hl
 have hA:okB m (fH (bO l l.length) q):=.inl (IA hM hD.1)
 unfold cm.f
 refine Ev.bind (Ry (m+1) hm l hl hE) ?_
 simp only [fo]
 have h0:=YD m hm (bO l l.length) hD.1 c l _ (Ev.bind (SC m (by omega) _ hA) (YE m hm l hl hE hD c hc yu m 0 (by omega) (by omega))) (m+1) 0 (by omega) (by omega)
 exact h0
theorem RP {m q:Nat} (hm:m+1≤8) (hq:q < m+1) {c:Nat→Int} {X:Int} (hX:0≤X) (h:∀ v,v < m+1→v ≠ q→akm (c v)≤X):aku (m+1) c - c q≤7 * X∧-(7 * X)≤aku (m+1) c - c q:=by
 have h7:(m:Int) * X≤7 * X:=Int.mul_le_mul_of_nonneg_right (by omega) hX
 have h1:ax m (fun t=>c (aW q t))≤m * X:=Ge m fun i hi=>by
  have:=h _ (xp hq hi) (zc q i)
  unfold akm at this
  omega
 have h2:ax m (fun t=>-c (aW q t))≤m * X:=Ge m fun i hi=>by
  have:=h _ (xp hq hi) (zc q i)
  unfold akm at this
  omega
 have h3:ax m (fun t=>-c (aW q t))=-ax m (fun t=>c (aW q t)):=by rw [← lT,← lT,Bw]
 have h4:=ze m q hq c
 rw [lT,h4]
 omega
/-- Both reductions, at chips that are small enough. -/
theorem adE (n : Nat) (mH : 1 ≤ n) (hn : n ≤ 8) (l : List (List Int)) (hl : l.length ≤ 10) (hE : endsIn n l) (h1 : ak6 (jE n l) = true) (q : Nat) (hq : q < n) (c : Nat → Int) (hc : ∀ v, v < n → v ≠ q → akm (c v) ≤ 200) (yu : akm (c q) ≤ 2000) :
  ∃ c',vU n (bO l l.length) q c'∧m_ n (bO l l.length) c c'∧Ev (fun k=>bL.f k (bZ n (bO l l.length)) (aG n c) (q:Int)) (aG n c')∧Ev (fun k=>akr.f k n l (aG n c) (q:Int)) (aG n c'):=by
 have hM:=zg hE hl
 obtain ⟨D1,Y1,hds⟩:=ab' n hn l hE hl h1 q hq
 obtain ⟨D2,I1,Cm⟩:=XF n mH hn l hl hE h1 q hq
 have hb:∀ v,v < n→akm (c v)≤2000:=fun v hv=>by
  by_cases e:v=q
  ·rw [e];exact yu
  ·have:=hc v hv e;omega
 obtain ⟨c1,cQ,Au,vt⟩:=acf n hn hM (Ko hl) Y1 hds c (fun v hv=>by have:=hb v hv;omega)
 obtain ⟨m,rfl⟩:∃ m,n=m+1:=⟨n - 1,by omega⟩
 have hg:=YI m hn l hl hE I1 c (fun v hv=>by have:=hb v hv;omega) hc
 have P3:∀ v,v < m+1→v ≠ q→akm (rL m (bO l l.length) q c v)≤80:=fun v hv qp=>YG hM I1 c v hv qp
 have PG:=YC m (bO l l.length) q c
 have Jb:mo (m+1) (rL m (bO l l.length) q c) 4000:=fun v hv=>by
  by_cases e:v=q
  ·have h2 := RP hn hq (by decide) P3
   have h3:=RP hn hq (by decide) hc
   have h4:=N_ hM PG
   rw [e]
   unfold akm at yu ⊢
   omega
  ·have := P3 v hv e
   omega
 obtain ⟨c2,nj,he2,yl⟩:=adF (m+1) mH hn l hl hE I1 _ Jb
 have hsame:∀ v,v < m+1→c1 v=c2 v:=fun v hv=>adD hM (Am (Ym Au) (Am PG he2)) cQ nj v hv
 refine ⟨c1,cQ,Au,vt,?_⟩
 rw [kH hsame]
 unfold akr.f
 exact Ev.bind hg (Ev.bind Cm yl)
theorem aeI {n:Nat} {c:List Int} (h:c.length=n):aG n (fun w=>rd c (w:Int))=c:=(aeK h).symm
theorem WZ (a : Int) (l cs : List (List Int)) (i : Nat) (hi : i < cs.length) (hcs : cs.length ≤ maxLen) (hx : cs[i].length ≤ maxLen) (R : Int) (next : Ev (fun k => eO.l0 k cs ((i + 1 : Nat) : Int) a l) R) (hno : cs[i].any k6 = true → R = 2) :
  ∀ (d j:Nat),cs[i].length - j=d→j≤cs[i].length→((cs[i].drop j).any k6=true∨((cs[i].drop j).any k6=cs[i].any k6))→Ev (fun k=>eO.l1 k cs i j a l) R:=by
 unfold maxLen at hcs hx
 intro d
 induction d with
 | zero =>
  intro j hd hj _
  refine Ev.step (fun k=>by simp only [eO.l1];rfl) ?_
  simp only [cD i,show ((i:Int) < (cs.length:Int)) by omega,if_true,pO cs i hi,show ¬ ((j:Int) < (cs[i].length:Int)) by omega,if_false,wI ((i:Int)+1) (by omega)]
  exact next
 | succ d ih =>
  intro j hd hj hP
  have hjl:j < cs[i].length:=by omega
  refine Ev.step (fun k=>by simp only [eO.l1];rfl) ?_
  simp only [cD i,show ((i:Int) < (cs.length:Int)) by omega,if_true,pO cs i hi,show ((j:Int) < (cs[i].length:Int)) by omega,cD j,Dl,oX cs[i] j hjl,amW,Option.bind_some,wI ((j:Int)+1) (by omega)]
  cases hb:k6 cs[i][j] with
  | true =>
   simp only [Bool.not_true,Bool.false_eq_true,if_false]
   rw [hno (List.any_eq_true.2 ⟨_,List.getElem_mem hjl,hb⟩)]
   exact Ev.now _
  | false =>
   simp only [Bool.not_false,if_true]
   refine ih (j+1) (by omega) (by omega) ?_
   rw [List.drop_eq_getElem_cons hjl,List.any_cons,hb,Bool.false_or] at hP
   exact hP
theorem WY (a:Int) (l cs:List (List Int)) (hcs:cs.length≤maxLen) (hx:∀ x ∈ cs,x.length≤maxLen):∀ (d i:Nat),cs.length - i=d→i≤cs.length→Ev (fun k=>eO.l0 k cs i a l) (if (cs.drop i).all (mZ a) then 0 else 2):=by
 have pF:=hcs
 unfold maxLen at pF
 intro d
 induction d with
 | zero =>
  intro i hd hi
  refine Ev.step (fun k=>by simp only [eO.l0];rfl) ?_
  simp only [show ¬ ((i:Int) < (cs.length:Int)) by omega,if_false,List.drop_of_length_le (show cs.length≤i by omega),List.all_nil,if_true]
  exact Ev.now _
 | succ d ih =>
  intro i hd hi
  have hil:i < cs.length:=by omega
  have h1:=ih (i+1) (by omega) (by omega)
  refine Ev.step (fun k=>by simp only [eO.l0];rfl) ?_
  simp only [show ((i:Int) < (cs.length:Int)) by omega,cD i,if_true,pO cs i hil]
  rw [List.drop_eq_getElem_cons hil,List.all_cons]
  by_cases e:(cs[i].length:Int)=a
  ·simp only [e, if_true]
   cases hb:cs[i].any k6 with
   | true =>
    have hk:mZ a cs[i]=false:=by unfold mZ;rw [hb];simp
    simp only [hk,Bool.false_and,Bool.false_eq_true,if_false]
    have hb':=hb
    rw [List.any_eq_true] at hb'
    -- the walk meets the bad one
    have go:∀ (d j:Nat),cs[i].length - j=d→j≤cs[i].length→(cs[i].drop j).any k6=true→Ev (fun k=>eO.l1 k cs i j a l) 2:=by
     have hx':=hx cs[i] (List.getElem_mem hil)
     unfold maxLen at hx'
     intro d
     induction d with
     | zero =>
      intro j hd hj h
      rw [List.drop_of_length_le (by omega)] at h
      simp at h
     | succ d ih2 =>
      intro j hd hj h
      have hjl:j < cs[i].length:=by omega
      refine Ev.step (fun k=>by simp only [eO.l1];rfl) ?_
      simp only [cD i,show ((i:Int) < (cs.length:Int)) by omega,if_true,pO cs i hil,show ((j:Int) < (cs[i].length:Int)) by omega,cD j,Dl,oX cs[i] j hjl,amW,Option.bind_some,wI ((j:Int)+1) (by omega)]
      cases ZI:k6 cs[i][j] with
      | true=>simp only [Bool.not_true,Bool.false_eq_true,if_false];exact Ev.now _
      | false =>
       simp only [Bool.not_false,if_true]
       rw [List.drop_eq_getElem_cons hjl,List.any_cons,ZI,Bool.false_or] at h
       exact ih2 (j+1) (by omega) (by omega) h
    exact go cs[i].length 0 (by omega) (by omega) (by rw [List.drop_zero];exact hb)
   | false =>
    have hk:mZ a cs[i]=true:=by unfold mZ;rw [hb];simp [e]
    simp only [hk,Bool.true_and]
    exact WZ a l cs i hil hcs (hx _ (List.getElem_mem hil)) _ h1 (fun h=>by rw [hb] at h;exact absurd h (by decide)) cs[i].length 0 (by omega) (by omega) (Or.inr (by rw [List.drop_zero]))
  ·have hk : mZ a cs[i] = false := by unfold mZ; simp [e]
   simp only [e,if_false,hk,Bool.false_and,Bool.false_eq_true]
   exact Ev.now _
theorem WX (a:Int) (l cs:List (List Int)) (hl:l.length≤maxLen) (hcs:cs.length≤maxLen) (hx:∀ x ∈ cs,x.length≤maxLen):Ev (fun k=>eO.f k a l cs) (if mK a l then if cs.all (mZ a) then 0 else 2 else 1):=by
 unfold eO.f
 refine Ev.bind (ad4 a l hl) ?_
 cases mK a l with
 | false=>simp only [Bool.false_eq_true,if_false];exact Ev.now _
 | true =>
  simp only [if_true]
  have h:=WY a l cs hcs hx cs.length 0 (by omega) (by omega)
  rw [List.drop_zero] at h
  exact h
/-- The code of several configurations and a vertex upon a graph in one part. -/
def alR (a:Int) (l cs:List (List Int)) (q:Int):Int :=
 if mK a l then (if cs.all (mZ a) && sB a q then (if ak6 (jE a.toNat l) then 0 else 5) else 2) else 1
theorem ab9 (a:Int) (l cs:List (List Int)) (q:Int) (hl:l.length≤maxLen) (hcs:cs.length≤maxLen) (hx:∀ x ∈ cs,x.length≤maxLen):Ev (fun k=>gP.f k a l q cs) (alR a l cs q):=by
 unfold gP.f alR
 refine Ev.bind (WX a l cs hl hcs hx) ?_
 cases hg:mK a l with
 | false =>
  simp only [Bool.false_eq_true,if_false,show ¬ ((1:Int)=0) by omega]
  refine Ev.step (fun k=>by simp only [gP.j0];rfl) ?_
  simp only [Bool.false_eq_true,if_false,show ¬ ((1:Int)=0) by omega]
  exact Ev.now _
 | true =>
  cases hk:cs.all (mZ a) with
  | false =>
   simp only [Bool.false_eq_true,if_false,if_true,Bool.false_and,show ¬ ((2:Int)=0) by omega]
   refine Ev.step (fun k=>by simp only [gP.j0];rfl) ?_
   simp only [Bool.false_eq_true,if_false,show ¬ ((2:Int)=0) by omega]
   exact Ev.now _
  | true =>
   simp only [if_true,Dl,Option.bind_some,Bool.true_and]
   rw [show (decide (0≤q) && decide (q≤wrap64 (a - 1)))=sB a q from rfl]
   refine Ev.step (fun k=>by simp only [gP.j0];rfl) ?_
   cases sB a q with
   | false=>simp only [Bool.not_false,if_true,Bool.false_eq_true,if_false,show ¬ ((2:Int)=0) by omega];exact Ev.now _
   | true =>
    obtain ⟨n,rfl,mH,vG,hE⟩:=J6 hg
    have Ay:=J7 hg
    simp only [Bool.not_true,Bool.false_eq_true,if_false,if_true,Int.toNat_natCast]
    refine Ev.bind (ab4 n mH vG l Ay hE) ?_
    by_cases h3:ak6 (jE n l)=true
    ·simp only [if_pos h3];exact Ev.now _
    ·simp only [if_neg h3];exact Ev.now _
theorem Q6 (a : Int) (l : List (List Int)) : ∀ (cs : List (List Int)) (k : Nat), ∃ i : Int, mJ (fun x => (r6.f a l x).map not) cs k = some i ∧ (0 ≤ i ↔ cs.all (mZ a) = false)
 | [],k=>⟨-1,rfl,by simp⟩
 | x :: xs,k=>by
  obtain ⟨i,h1,h2⟩:=Q6 a l xs (k+1)
  cases h:mZ a x with
  | true =>
   refine ⟨i,?_,by rw [List.all_cons,h,Bool.true_and];exact h2⟩
   rw [mJ,r6.f,Option.map_some,show (decide ((x.length:Int)=a) && !x.any k6)=mZ a x from rfl,h]
   simpa using h1
  | false =>
   refine ⟨(k:Int),?_,by rw [List.all_cons,h];simp⟩
   rw [mJ,r6.f,Option.map_some,show (decide ((x.length:Int)=a) && !x.any k6)=mZ a x from rfl,h]
   rfl
theorem WW (a:Int) (l cs:List (List Int)) (q:Int) (hl:l.length≤maxLen):Ev (fun k=>o4.f k a l q cs) (alR a l cs q):=by
 obtain ⟨i,hi1,hi2⟩:=Q6 a l cs 0
 unfold o4.f
 refine Ev.bind ?_ (Ev.now _)
 unfold qC.f alR
 refine Ev.bind (abP a l hl) ?_
 cases hg:mK a l with
 | false=>simp only [Bool.false_eq_true,if_false];exact Ev.now _
 | true =>
  simp only [if_true,zD.f,Lm,Option.bind_some,hi1]
  rw [show (decide (0≤q) && decide (q≤wrap64 (a - 1)))=sB a q from rfl]
  cases sB a q with
  | false=>simp only [Bool.false_eq_true,if_false,Bool.and_false];exact Ev.now _
  | true =>
   cases hk:cs.all (mZ a) with
   | false =>
    simp only [if_true,if_pos (hi2.2 hk),Bool.false_and,Bool.false_eq_true,if_false]
    exact Ev.now _
   | true =>
    obtain ⟨n,rfl,mH,vG,hE⟩:=J6 hg
    have Ay:=J7 hg
    have h1:=NN mH (EG n l hE)
    have h2:=adn n vG l Ay hE
    simp only [if_true,if_neg (show ¬ (0≤i) from fun h=>by rw [hi2.1 h] at hk;exact absurd hk (by decide)),Bool.and_self,Int.toNat_natCast]
    refine Ev.bind h2 ?_
    by_cases h3:ak6 (jE n l)=true
    ·rw [h3] at h1
     simp only [if_pos h3,if_pos (beq_iff_eq.1 h1)]
     exact Ev.now _
    ·rw [Bool.eq_false_iff.2 h3] at h1
     simp only [if_neg h3,if_neg (beq_eq_false_iff_ne.1 h1)]
     exact Ev.now _
theorem drop_eq {x y:List Int} {i:Nat} (hx:i < x.length) (hy:i < y.length):decide (x.drop i=y.drop i)=(decide (x[i]=y[i]) && decide (x.drop (i+1)=y.drop (i+1))):=by
 rw [List.drop_eq_getElem_cons hx,List.drop_eq_getElem_cons hy,← Bool.decide_and]
 exact decide_eq_decide.2 (Iff.of_eq (List.cons.injEq _ _ _ _))
theorem adQ (x y:List Int) (hx:x.length≤1048576) (h:x.length=y.length):∀ (d i:Nat),x.length - i=d→i≤x.length→Ev (fun k=>gY.l0 k x y i) (decide (x.drop i=y.drop i)):=by
 intro d
 induction d with
 | zero =>
  intro i hd hi
  refine Ev.step (fun k=>by simp only [gY.l0];rfl) ?_
  simp only [show ¬ ((i:Int) < (x.length:Int)) by omega,if_false,List.drop_of_length_le (show x.length≤i by omega),List.drop_of_length_le (show y.length≤i by omega),decide_true]
  exact Ev.now _
 | succ d ih =>
  intro i hd hi
  have uq:i < x.length:=by omega
  have Cw:i < y.length:=by omega
  have h1:=ih (i+1) (by omega) (by omega)
  refine Ev.step (fun k=>by simp only [gY.l0];rfl) ?_
  simp only [show ((i:Int) < (x.length:Int)) by omega,show ((i:Int) < (y.length:Int)) by omega,if_true,cD i,oX x i uq,oX y i Cw,wI ((i:Int)+1) (by omega),drop_eq uq Cw]
  by_cases e:x[i]=y[i]
  ·simp only [e, if_true, decide_true, Bool.true_and]
   exact h1
  ·simp only [e, if_false, decide_false, Bool.false_and]
   exact Ev.now _
theorem adP (x y:List Int) (hx:x.length≤1048576):Ev (fun k=>gY.f k x y) (decide (x=y)):=by
 unfold gY.f
 by_cases h:(x.length:Int)=(y.length:Int)
 ·simp only [h, if_true]
  have:=adQ x y hx (by omega) x.length 0 (by omega) (by omega)
  rw [List.drop_zero,List.drop_zero] at this
  exact this
 ·simp only [h, if_false]
  rw [decide_eq_false (fun e=>h (by rw [e]))]
  exact Ev.now _
theorem Yl (x y:List Int) (hx:x.length≤1048576) (h:x.length=y.length):∀ (d i:Nat),x.length - i=d→i≤x.length→Ev (fun k=>iq.l0 k x y (x.length:Int) i) (decide (x.drop i=y.drop i)):=by
 intro d
 induction d with
 | zero =>
  intro i hd hi
  refine Ev.step (fun k=>by simp only [iq.l0];rfl) ?_
  simp only [show ¬ ((i:Int) < (x.length:Int)) by omega,if_false,List.drop_of_length_le (show x.length≤i by omega),List.drop_of_length_le (show y.length≤i by omega),decide_true]
  exact Ev.now _
 | succ d ih =>
  intro i hd hi
  have uq:i < x.length:=by omega
  have Cw:i < y.length:=by omega
  have h1:=ih (i+1) (by omega) (by omega)
  refine Ev.step (fun k=>by simp only [iq.l0];rfl) ?_
  simp only [show ((i:Int) < (x.length:Int)) by omega,show ((i:Int) < (y.length:Int)) by omega,if_true,cD i,oX x i uq,oX y i Cw,wI ((i:Int)+1) (by omega),drop_eq uq Cw]
  by_cases e:x[i]=y[i]
  ·simp only [e, if_true, decide_true, Bool.true_and]
   exact h1
  ·simp only [e, if_false, decide_false, Bool.false_and]
   exact Ev.now _
theorem Yk (x y:List Int) (hx:x.length≤1048576):Ev (fun k=>iq.f k x y) (decide (x=y)):=by
 unfold iq.f
 by_cases h:(x.length:Int)=(y.length:Int)
 ·simp only [h, if_true]
  have:=Yl x y hx (by omega) x.length 0 (by omega) (by omega)
  rw [List.drop_zero,List.drop_zero,h] at this
  exact this
 ·simp only [h, if_false]
  rw [decide_eq_false (fun e=>h (by rw [e]))]
  exact Ev.now _
/-- Both sides of AreEquivalentChips. -/
theorem Ti (a : Int) (l : List (List Int)) (c1 c2 : List Int) (hl : l.length ≤ maxLen) (ef : c1.length ≤ maxLen) (nc : c2.length ≤ maxLen) :
  ∃ (r:Bool) (e:Int),Ev (fun k=>l9.f k a l c1 c2) (r,e)∧Ev (fun k=>iy.f k a l c1 c2) (r,e):=by
 have hs:=ab9 a l [c1,c2] 0 hl (by unfold maxLen;simp) (fun x hx=>by
  simp only [List.mem_cons,List.not_mem_nil,or_false] at hx
  rcases hx with rfl|rfl<;>assumption)
 have hi:=WW a l [c1,c2] 0 hl
 by_cases h:alR a l [c1,c2] 0=0
 ·have h' := h
  unfold alR at h'
  cases hg:mK a l with
  | false=>rw [hg] at h';simp at h'
  | true =>
   cases hk:[c1,c2].all (mZ a) && sB a 0 with
   | false=>rw [hg,hk] at h';simp at h'
   | true =>
    cases hp:ak6 (jE a.toNat l) with
    | false=>rw [hg,hk,hp] at h';simp at h'
    | true =>
     rw [Bool.and_eq_true] at hk
     obtain ⟨n,rfl,mH,vG,hE⟩:=J6 hg
     have Ay:=J7 hg
     have hk2:=hk.1
     simp only [List.all_cons,List.all_nil,Bool.and_true,Bool.and_eq_true] at hk2
     rw [Int.toNat_natCast] at hp
     have one:∀ c:List Int,mZ (n:Int) c=true→∃ c':Nat→Int,Ev (fun k=>bL.f k (bZ n (bO l l.length)) c ((0:Nat):Int)) (aG n c')∧Ev (fun k=>akr.f k n l c ((0:Nat):Int)) (aG n c'):=by
      intro c hc
      obtain ⟨hcl,hcb⟩:=am3 hc
      have vu:c.length=n:=by omega
      have hb:∀ v,v < n→akm (rd c (v:Int))≤200:=fun v hv=>by
       have:=WV hcb v (by omega)
       unfold akm
       omega
      obtain ⟨c',_,_,vt,yl⟩:=adE n mH vG l Ay hE hp 0 (by omega) (fun v=>rd c (v:Int)) (fun v hv _=>hb v hv) (by have:=hb 0 (by omega);omega)
      rw [aeI vu] at vt yl
      exact ⟨c',vt,yl⟩
     obtain ⟨d1,ZB,E0⟩:=one c1 hk2.1
     obtain ⟨d2,ZC,I2⟩:=one c2 hk2.2
     refine ⟨decide (aG n d1=aG n d2),0,?_,?_⟩
     ·unfold l9.f
      refine Ev.bind hs ?_
      simp only [h,if_true]
      exact Ev.bind (ab_ n vG l Ay hE) (Ev.bind ZB (Ev.bind ZC (Ev.bind (adP _ _ (by rw [fq];omega)) (Ev.now _))))
     ·unfold iy.f
      refine Ev.bind hi ?_
      simp only [h,if_true]
      exact Ev.bind E0 (Ev.bind I2 (Ev.bind (Yk _ _ (by rw [fq];omega)) (Ev.now _)))
 ·refine ⟨false, alR a l [c1, c2] 0, ?_, ?_⟩
  ·unfold l9.f
   refine Ev.bind hs ?_
   simp only [h,if_false]
   exact Ev.now _
  ·unfold iy.f
   refine Ev.bind hi ?_
   simp only [h,if_false]
   exact Ev.now _
def F5.Pure:Prop:=∀ (af:Int) (aa:List (List Int)) (l1:List Int) (l2:List Int),(Lit.int .i64 af).wf=true→aa.length≤maxLen→(∀ x ∈ aa,x.length≤maxLen∧∀ n ∈ x,(Lit.int .i64 n).wf=true)→l1.length≤maxLen→(∀ n ∈ l1,(Lit.int .i64 n).wf=true)→l2.length≤maxLen→(∀ n ∈ l2,(Lit.int .i64 n).wf=true)→∃ k,F5.f k af aa l1 l2=some true
end Go.Proofs.Ytoebojnhchocaaa.C
namespace Go.Proofs.Ytoebojnhchocaaa.Pure
open Go.RowKit Go.Proofs.bI.en Go.Proofs.bI.je Go.Proofs.bI.jC Go.Proofs.Ytoebojnhchocaaa.C
theorem TI:F5.Pure:=by
 intro a l c1 c2 _ hl hx ef _ nc _
 have hx':∀ x ∈ l,x.length≤maxLen:=fun x h=>(hx x h).1
 obtain ⟨B,E,hS,hI⟩:=Ti a l c1 c2 hl ef nc
 refine Ev.rounds (r:=true) ?_
 unfold F5.f
 by_cases h1:(c1.length:Int) > 1048576
 ·simp only [h1,if_true];exact Ev.now _
 ·by_cases h2 : (c2.length : Int) > 1048576
  ·simp only [h1,h2,if_true,if_false];exact Ev.now _
  ·simp only [h1, h2, if_false]
   obtain ⟨r,hr,_,_,h4⟩:=aec a l 1048576 (by omega) (by omega) hl hx'
   refine Ev.bind hr ?_
   by_cases hn:r < 0
   ·simp only [hn,if_true];exact Ev.now _
   ·simp only [hn, if_false]
    obtain ⟨s1,s2⟩:=h4 (by omega)
    have g:=aeq a l (by omega) (fun x h=>by have:=s2 x h;omega)
    have v1:=Lc c1 (by omega)
    have v2:=Lc c2 (by omega)
    refine Ev.bind g (Ev.bind v1 (Ev.bind v2 (Ev.bind hS (Ev.bind g (Ev.bind v1 (Ev.bind v2 (Ev.bind hI ?_)))))))
    simp only [bne_self_eq_false,Bool.false_eq_true,if_false]
    refine Ev.step (fun k=>by simp only [F5.j0];rfl) ?_
    simp only [Bool.false_eq_true,if_false]
    refine Ev.bind g (Ev.bind (Yg a l hl hx') ?_)
    simp only [if_true]
    refine Ev.bind v1 (Ev.bind (Ix c1 ef) ?_)
    simp only [if_true]
    refine Ev.bind v2 (Ev.bind (Ix c2 nc) ?_)
    simp only [if_true]
    exact Ev.now _
end Go.Proofs.Ytoebojnhchocaaa.Pure
/- Set with little white space, by a program. -/
