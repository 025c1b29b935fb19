/- Plain lemmas on the Lean functions that FnExactOrderOfChips reaches, and its pure statement. No condition. -/
import Derived.Test.YtoebojnhchocaaaDLib
namespace Go.Proofs.Ytoebojnhchocaaa.D
open Go.RowKit Go.Proofs.bR.eC Go.Proofs.bR.je Go.Proofs.bR.jO
set_option linter.unusedVariables false
set_option linter.unusedSimpArgs false
theorem OA (n : Nat) (hn : n ≤ 8) (L : Nat → Nat → Int) (hL : ∀ u w, -20 ≤ L u w ∧ L u w ≤ 20) (c : List Int) (hc : c.length = n) (any : Bool) (R : List Bool × Bool) :
  ∀ (d v:Nat) (T:Nat→Bool) (m:Bool),n - v=d→v≤n→Ev (fun k=>bG.l1 k (bY n L) c (lb (jf L (fun j=>rd c (j:Int)) n d v T m).1) any (jf L (fun j=>rd c (j:Int)) n d v T m).2) R →
  Ev (fun k=>bG.l2 k (bY n L) c (lb T) any m v) R:=by
 intro d
 induction d with
 | zero =>
  intro v T m hd hv h
  obtain rfl:v=n:=by omega
  refine Ev.step (fun k=>by simp only [bG.l2];rfl) ?_
  simp only [fo,Int.lt_irrefl,if_false]
  exact h
 | succ d ih =>
  intro v T m hd hv h
  have gq:v < n:=by omega
  refine Ev.step (fun k=>by simp only [bG.l2];rfl) ?_
  simp only [fo,lI v n (by omega),if_true]
  have h0:=Xc n hn L hL c hc T any m v gq R ?_ n 0 (by omega) (by omega)
  ·exact h0
  ·by_cases e : T v = true ∧ rd c (v : Int) < ki L n T v
   ·simp only [if_pos e]
    refine ih (v+1) (pg T v) true (by omega) (by omega) ?_
    have e2:jf L (fun j=>rd c (j:Int)) n (d+1) v T m=jf L (fun j=>rd c (j:Int)) n d (v+1) (pg T v) true:=if_pos e
    rw [e2] at h
    exact h
   ·simp only [if_neg e]
    refine ih (v+1) T m (by omega) (by omega) ?_
    have e2:jf L (fun j=>rd c (j:Int)) n (d+1) v T m=jf L (fun j=>rd c (j:Int)) n d (v+1) T m:=if_neg e
    rw [e2] at h
    exact h
theorem Xb (n : Nat) (hn : n ≤ 8) (L : Nat → Nat → Int) (hL : ∀ u w, -20 ≤ L u w ∧ L u w ≤ 20) (ho : ∀ u w, u ≠ w → L u w ≤ 0) (c : List Int) (hc : c.length = n) (any : Bool) (R : List Bool × Bool) :
  ∀ (N:Nat) (T:Nat→Bool),iH n T≤N→Ev (fun k=>bG.l4 k (bY n L) (lb (mX L (fun j=>rd c (j:Int)) n N T)) any 0) R→Ev (fun k=>bG.l1 k (bY n L) c (lb T) any true) R:=by
 have stop:∀ T:Nat→Bool,(jf L (fun j=>rd c (j:Int)) n n 0 T false).2=false→Ev (fun k=>bG.l4 k (bY n L) (lb T) any 0) R→Ev (fun k=>bG.l1 k (bY n L) c (lb T) any true) R:=by
  intro T h0 h
  refine Ev.step (fun k=>by simp only [bG.l1];rfl) ?_
  simp only [if_true]
  refine OA n hn L hL c hc any R n 0 T false (by omega) (by omega) ?_
  obtain ⟨_,e,_⟩:=(Cf (L:=L) (c:=fun j=>rd c (j:Int)) (n:=n) ho n 0 T false (by omega)).2.2.1 h0
  rw [h0,e]
  refine Ev.step (fun k=>by simp only [bG.l1];rfl) ?_
  simp only [Bool.false_eq_true,if_false]
  exact h
 intro N
 induction N with
 | zero=>intro T hT h;exact stop T (Oo ho (by omega)) h
 | succ N ih =>
  intro T hT h
  cases e:(jf L (fun j=>rd c (j:Int)) n n 0 T false).2 with
  | false =>
   rw [show mX L (fun j=>rd c (j:Int)) n (N+1) T=T from if_neg (by rw [e];decide)] at h
   exact stop T e h
  | true =>
   rw [show mX L (fun j=>rd c (j:Int)) n (N+1) T=mX L (fun j=>rd c (j:Int)) n N (jf L (fun j=>rd c (j:Int)) n n 0 T false).1 from if_pos e] at h
   have h5:=(Cf (L:=L) (c:=fun j=>rd c (j:Int)) (n:=n) ho n 0 T false (by omega)).2.2.2.2 e rfl
   refine Ev.step (fun k=>by simp only [bG.l1];rfl) ?_
   simp only [if_true]
   refine OA n hn L hL c hc any R n 0 T false (by omega) (by omega) ?_
   rw [e]
   exact ih _ (by omega) h
def wR : Nat → Nat → (Nat → Bool) → Bool
 | 0,_,_=>false
 | d+1,v,T=>T v || wR d (v+1) T
theorem Ol (T:Nat→Bool):∀ d v,wR d v T=true↔∃ j,v≤j∧j < v+d∧T j=true:=by
 intro d
 induction d with
 | zero=>intro v;simp only [wR,Bool.false_eq_true,false_iff];rintro ⟨j,h1,h2,_⟩;omega
 | succ d ih =>
  intro v
  rw [wR,Bool.or_eq_true,ih]
  constructor
  ·rintro (h | ⟨j, h1, h2, h3⟩)
   ·exact ⟨v,by omega,by omega,h⟩
   ·exact ⟨j,by omega,by omega,h3⟩
  ·rintro ⟨j, h1, h2, h3⟩
   by_cases e:j=v
   ·subst e;exact .inl h3
   ·exact .inr ⟨j,by omega,by omega,h3⟩
theorem Xd (n:Nat) (hn:n≤8) (L:Nat→Nat→Int) (T:Nat→Bool):∀ (d v:Nat) (b:Bool),n - v=d→v≤n→Ev (fun k=>bG.l4 k (bY n L) (lb T) b v) (lb T,b || wR d v T):=by
 intro d
 induction d with
 | zero =>
  intro v b hd hv
  obtain rfl:v=n:=by omega
  refine Ev.step (fun k=>by simp only [bG.l4];rfl) ?_
  simp only [fo,Int.lt_irrefl,if_false,wR,Bool.or_false]
  exact Ev.now _
 | succ d ih =>
  intro v b hd hv
  have h1:=ih (v+1) true (by omega) (by omega)
  have h2:=ih (v+1) (T v) (by omega) (by omega)
  refine Ev.step (fun k=>by simp only [bG.l4];rfl) ?_
  simp only [fo,lI v n (by omega),if_true,cB v,show ((v:Int) < 8) by omega,GC T (show v < 8 by omega),wI ((v:Int)+1) (by omega),wR]
  cases b with
  | true=>simp only [if_true,Bool.true_or] at h1 ⊢;exact h1
  | false=>simp only [Bool.false_eq_true,if_false,Bool.false_or];exact h2
def iG (n:Nat) (q:Int):Nat→Bool:=fun j=>decide (j < n) && ((j:Int) != q)
theorem Xa (n : Nat) (hn : n ≤ 8) (L : Nat → Nat → Int) (c : List Int) (q : Int) (R : List Bool × Bool) (next : Ev (fun k => bG.l1 k (bY n L) c (lb (iG n q)) false true) R) :
  ∀ (d v:Nat),n - v=d→v≤n→Ev (fun k=>bG.l0 k (bY n L) c q (lb (iG v q)) false v) R:=by
 intro d
 induction d with
 | zero =>
  intro v hd hv
  obtain rfl:v=n:=by omega
  refine Ev.step (fun k=>by simp only [bG.l0];rfl) ?_
  simp only [fo,Int.lt_irrefl,if_false]
  exact next
 | succ d ih =>
  intro v hd hv
  have h1:=ih (v+1) (by omega) (by omega)
  refine Ev.step (fun k=>by simp only [bG.l0];rfl) ?_
  simp only [fo,lI v n (by omega),if_true,cB v,show ((v:Int) < 8) by omega,wI ((v:Int)+1) (by omega),Int.toNat_natCast,Sv]
  rw [show lb (fun j=>if j=v then ((v:Int) != q) else iG v q j)=lb (iG (v+1) q) from adu fun j _=>by
   unfold iG
   by_cases e:j=v
   ·subst e;simp
   ·rw [if_neg e,decide_eq_decide.2 (show j < v↔j < v+1 by omega)]]
  exact h1
/-- Something is left unburnt: the burning's answer. -/
def zu (n:Nat) (L:Nat→Nat→Int) (c:List Int) (q:Int):Bool:=wR n 0 (mX L (fun j=>rd c (j:Int)) n (iH n (iG n q)) (iG n q))
/-- The answer is yes if a lawful set without q is there. -/
theorem adv (n:Nat) (L:Nat→Nat→Int) (ho:∀ u w,u ≠ w→L u w≤0) (c:List Int) (q:Nat):zu n L c q=true↔∃ S:Nat→Bool,lawful L (fun j=>rd c (j:Int)) n S∧S q=false∧∃ j,j < n∧S j=true:=by
 obtain ⟨h1,h2,h3⟩:=Oq (L:=L) (c:=fun j=>rd c (j:Int)) (n:=n) ho (iH n (iG n q)) (iG n q) (Nat.le_refl _)
 unfold zu
 rw [Ol]
 constructor
 ·rintro ⟨j, _, hj, hT⟩
  refine ⟨_,h1,?_,j,by omega,hT⟩
  cases e:mX L (fun j=>rd c (j:Int)) n (iH n (iG n q)) (iG n q) q with
  | false=>rfl
  | true =>
   have:=h2 q e
   simp [iG] at this
 ·rintro ⟨S, hS, hq, j, hj, hT⟩
  refine ⟨j,by omega,by omega,h3 S hS (fun i hi Qa=>?_) j hj hT⟩
  unfold iG
  have:i ≠ q:=fun e=>by rw [e,hq] at Qa;exact absurd Qa (by decide)
  simp only [hi,decide_true,Bool.true_and,bne_iff_ne,ne_eq]
  omega
theorem Ou (m i:Nat) (hm:m≤256) (hi:i≤8):Go.bits .and .i64 (shr .i64 (m:Int) (i:Int)) 1=if m.testBit i=true then 1 else 0:=by
 have e1:shr .i64 (m:Int) (i:Int)=((m / 2 ^ i:Nat):Int):=by
  unfold shr
  rw [Int.toNat_natCast,Nat.min_eq_left (show i≤IntKind.i64.bits by show i≤64;omega)]
  simp
 have hy:m / 2 ^ i≤256:=Nat.le_trans (Nat.div_le_self _ _) hm
 rw [e1,Nat.testBit_eq_decide_div_mod_eq]
 generalize m / 2 ^ i=y at hy ⊢
 have e:Go.bits .and .i64 (y:Int) 1=IntKind.i64.wrap ((BitVec.ofInt 64 (y:Int) &&& BitVec.ofInt 64 1).toNat:Int):=rfl
 have e2:(BitVec.ofInt 64 (y:Int)).toNat=y:=by
  rw [BitVec.ofInt_natCast,BitVec.toNat_ofNat]
  omega
 rw [e,BitVec.toNat_and,e2,show (BitVec.ofInt 64 1).toNat=1 from rfl,Nat.and_one_is_mod,IntWalk.i64_left,jv (by omega) (by omega)]
 by_cases h:y % 2=1
 ·rw [h];rfl
 ·rw [show y % 2=0 by omega];rfl
theorem aeE (n:Nat) (hn:n≤8):shl .i64 1 (n:Int)=((2 ^ n:Nat):Int):=by
 have h:n=0∨n=1∨n=2∨n=3∨n=4∨n=5∨n=6∨n=7∨n=8:=by omega
 rcases h with rfl|rfl|rfl|rfl|rfl|rfl|rfl|rfl|rfl<;>decide
theorem ad8 {n:Nat} (hn:n≤8):2 ^ n≤256:=Nat.pow_le_pow_right (n:=2) (by decide) hn
def sW (m i:Nat):Int:=if m.testBit i=true then 1 else 0
def sL (n m:Nat):List Int:=aA n (sW m)
/-- What row r does to w. -/
def gW (L:Nat→Nat→Int) (m w r:Nat):Int:=if m.testBit r=true then L r w else 0
def AK (n:Nat) (L:Nat→Nat→Int) (c:List Int) (m:Nat):List Int:=aA n (fun w=>rd c (w:Int) - bO n (gW L m w))
theorem Lq {l:List (List Int)} (hl:l.length≤10) (u w:Nat):-20≤bu l l.length u w∧bu l l.length u w≤20:=by
 have:=Sp l l.length u w
 omega
/-- Is no vertex of the set in debt behind the firing, from v on? -/
def okF (n : Nat) (L : Nat → Nat → Int) (c : List Int) (m : Nat) : Nat → Nat → Bool
 | 0,_=>true
 | d+1,v=>(!m.testBit v || decide (0≤rd c (v:Int) - bO n (gW L m v))) && okF n L c m d (v+1)
theorem SM (n:Nat) (L:Nat→Nat→Int) (c:List Int) (m:Nat):∀ d v,okF n L c m d v=true↔∀ j,v≤j→j < v+d→m.testBit j=true→0≤rd c (j:Int) - bO n (gW L m j):=by
 intro d
 induction d with
 | zero=>intro v;simp only [okF,true_iff];intro j h1 h2;omega
 | succ d ih =>
  intro v
  rw [okF,Bool.and_eq_true,ih]
  constructor
  ·rintro ⟨h1, h2⟩ j yZ hj2 hb
   by_cases e:j=v
   ·subst e
    rw [hb] at h1
    simpa using h1
   ·exact h2 j (by omega) (by omega) hb
  ·intro h
   refine ⟨?_,fun j h1 h2 hb=>h j (by omega) (by omega) hb⟩
   cases e:m.testBit v with
   | false=>rfl
   | true=>simpa using h v (by omega) (by omega) e
theorem adB (n : Nat) (hn : n ≤ 8) (L : Nat → Nat → Int) (c : List Int) (q : Int) (P m : Nat) (l : List (List Int)) (R : List Int) : ∀ (d v : Nat) (b : Bool), n - v = d → v ≤ n →
  Ev (fun k=>if (b && okF n L c m d v)=true then (if sL n m=[] then none else some (sL n m)) else alv.l0 k c q P (wrap64 ((m:Int)+1)) n l) R →
  Ev (fun k=>alv.l2 k c q (sL n m) b P m (AK n L c m) n v n l) R:=by
 intro d
 induction d with
 | zero =>
  intro v b hd hv h
  obtain rfl:v=n:=by omega
  refine Ev.step (fun k=>by simp only [alv.l2];rfl) ?_
  simp only [Int.lt_irrefl,if_false]
  simp only [okF,Bool.and_true] at h
  exact h
 | succ d ih =>
  intro v b hd hv h
  have gq:v < n:=by omega
  have hle:(AK n L c m).length=n:=eI _ _
  have hls:(sL n m).length=n:=eI _ _
  have hsr:rd (sL n m) (v:Int)=sW m v:=fO gq
  have her:rd (AK n L c m) (v:Int)=rd c (v:Int) - bO n (gW L m v):=fO gq
  refine Ev.step (fun k=>by simp only [alv.l2];rfl) ?_
  simp only [lI v n (by omega),if_true,cB v,hle,hls,hsr,her,wI ((v:Int)+1) (by omega)]
  simp only [okF] at h
  cases b with
  | false =>
   simp only [Bool.false_and,Bool.false_eq_true,if_false] at h ⊢
   refine ih (v+1) false (by omega) (by omega) ?_
   simp only [Bool.false_and,Bool.false_eq_true,if_false]
   exact h
  | true =>
   simp only [if_true,Bool.true_and] at h ⊢
   unfold sW
   cases e:m.testBit v with
   | false =>
    simp only [e,Bool.not_false,Bool.true_or,Bool.true_and,Bool.false_eq_true,if_false,if_true] at h ⊢
    refine ih (v+1) true (by omega) (by omega) ?_
    simp only [Bool.true_and]
    exact h
   | true =>
    simp only [e,Bool.not_true,Bool.false_or,if_true,show ¬ ((1:Int)=0) by decide,if_false,ge_iff_le] at h ⊢
    exact ih (v+1) (decide (0≤rd c (v:Int) - bO n (gW L m v))) (by omega) (by omega) h
theorem adA (n : Nat) (hn : n ≤ 8) (c : List Int) (q : Int) (P m : Nat) (hm : m ≤ 256) (l : List (List Int)) (F R : List Int) (hF : Ev (fun k => cC.f k n l c (sL n m)) F)
  (next:Ev (fun k=>alv.l2 k c q (sL n m) true P m F (F.length:Int) 0 n l) R):∀ (d v:Nat),n - v=d→v≤n →
  Ev (fun k=>alv.l1 k c q m (aA n (fun w=>if w < v then sW m w else 0)) P m n v n l) R:=by
 intro d
 induction d with
 | zero =>
  intro v hd hv
  obtain rfl:v=n:=by omega
  refine Ev.step (fun k=>by simp only [alv.l1];rfl) ?_
  simp only [Int.lt_irrefl,if_false]
  rw [show aA v (fun w=>if w < v then sW m w else 0)=sL v m from kj fun w hw=>if_pos hw]
  exact Ev.bind hF next
 | succ d ih =>
  intro v hd hv
  have gq:v < n:=by omega
  have h1:=ih (v+1) (by omega) (by omega)
  refine Ev.step (fun k=>by simp only [alv.l1];rfl) ?_
  simp only [lI v n (by omega),if_true,cB v,eI,Int.toNat_natCast,Ou m v hm (by omega),qF,wI ((v:Int)+1) (by omega)]
  rw [show aA n (fun j=>if j=v then (if m.testBit v=true then 1 else 0) else if j < v then sW m j else 0)=aA n (fun w=>if w < v+1 then sW m w else 0) from kj fun w _=>by
   by_cases e:w=v
   ·subst e;rw [if_pos rfl,if_pos (show w < w+1 by omega)];rfl
   ·rw [if_neg e]
    by_cases e2:w < v
    ·rw [if_pos e2,if_pos (show w < v+1 by omega)]
    ·rw [if_neg e2,if_neg (show ¬ w < v+1 by omega)]]
  exact h1
/-- A number that stands for a lawful set. -/
def yG (n:Nat) (L:Nat→Nat→Int) (c:List Int) (q m:Nat):Prop:=m ≠ 0∧m.testBit q=false∧okF n L c m n 0=true
theorem acI (c:List Int) (hc:c.length≤1048576):∀ (d i z:Nat),c.length - i=d→i≤c.length→z≤i→Ev (fun k=>iB.l0 k c z i) ((z+jE c d i:Nat):Int):=by
 intro d
 induction d with
 | zero =>
  intro i z hd hi hz
  obtain rfl:i=c.length:=by omega
  refine Ev.step (fun k=>by simp only [iB.l0];rfl) ?_
  simp only [Int.lt_irrefl,if_false]
  exact Ev.now _
 | succ d ih =>
  intro i z hd hi hz
  refine Ev.step (fun k=>by simp only [iB.l0];rfl) ?_
  simp only [show ((i:Int) < (c.length:Int)) by omega,cB i,if_true,wI ((i:Int)+1) (by omega),wI ((z:Int)+1) (by omega)]
  by_cases h:rd c (i:Int)=(i:Int)
  ·have h1 := ih (i + 1) (z + 1) (by omega) (by omega) (by omega)
   rw [show jE c (d+1) i=1+jE c d (i+1) from by rw [Cr,if_pos h],show z+(1+jE c d (i+1))=z+1+jE c d (i+1) by omega]
   simp only [h,if_true]
   exact h1
  ·have h1 := ih (i + 1) z (by omega) (by omega) (by omega)
   rw [show jE c (d+1) i=jE c d (i+1) from by rw [Cr,if_neg h,Nat.zero_add]]
   simp only [h,if_false]
   exact h1
theorem acH (n:Nat) (j8:1≤n) (hn:n≤8) (l:List (List Int)) (hl:l.length≤10) (hE:endsIn n l):Ev (fun k=>nB.f k n l) (o_ (ja n l)):=by
 have FZ:=FA n l hE
 unfold nB.f
 have h:Ev (fun k=>iB.f k n l) ((jE (ja n l) (ja n l).length 0:Nat):Int):=by
  unfold iB.f
  refine Ev.bind (aeL n (by omega) l (by omega) hE) ?_
  have h:=acI (ja n l) (by have:=FZ.1;omega) (ja n l).length 0 0 (by omega) (by omega) (by omega)
  rw [Nat.zero_add] at h
  exact h
 refine Ev.bind h ?_
 rw [OW j8 FZ]
 exact Ev.now _
theorem ad6 (n:Nat) (hn:n≤8) (l:List (List Int)) (hl:l.length≤10) (hE:endsIn n l):Ev (fun k=>qN.f k n l) ((jE (ja n l) (ja n l).length 0:Nat):Int):=by
 have FZ:=FA n l hE
 unfold qN.f
 refine Ev.bind (acs n (by omega) l (by omega) hE) ?_
 exact Ev.bind (Yr _ (by have:=FZ.1;omega)) (Ev.now _)
/-- The code of chips and a vertex upon a graph in one part. -/
def yw (a:Int) (l:List (List Int)) (c:List Int) (q:Int):Int :=
 if mK a l then (if vD a c && sM a q then (if o_ (ja a.toNat l) then 0 else 5) else 2) else 1
theorem La (a:Int) (l:List (List Int)) (c:List Int) (q:Int) (hl:l.length≤maxLen) (hc:c.length≤maxLen):Ev (fun k=>gI.f k a l q [c]) (yw a l c q):=by
 unfold gI.f yw
 refine Ev.bind (acM a l c hl hc) ?_
 cases hg:mK a l with
 | false =>
  simp only [Bool.false_eq_true,if_false,show ¬ ((1:Int)=0) by omega]
  refine Ev.step (fun k=>by simp only [gI.j0];rfl) ?_
  simp only [Bool.false_eq_true,if_false,show ¬ ((1:Int)=0) by omega]
  exact Ev.now _
 | true =>
  cases hk:vD a c with
  | false =>
   simp only [Bool.false_eq_true,if_false,if_true,Bool.false_and,show ¬ ((2:Int)=0) by omega]
   refine Ev.step (fun k=>by simp only [gI.j0];rfl) ?_
   simp only [Bool.false_eq_true,if_false,show ¬ ((2:Int)=0) by omega]
   exact Ev.now _
  | true =>
   simp only [if_true,Gr,Option.bind_some,Bool.true_and]
   rw [show (decide (0≤q) && decide (q≤wrap64 (a - 1)))=sM a q from rfl]
   refine Ev.step (fun k=>by simp only [gI.j0];rfl) ?_
   cases sM a q with
   | false=>simp only [Bool.not_false,if_true,Bool.false_eq_true,if_false,show ¬ ((2:Int)=0) by omega];exact Ev.now _
   | true =>
    obtain ⟨n,rfl,j8,vP,hE⟩:=K5 hg
    have anj:=K6 hg
    simp only [Bool.not_true,Bool.false_eq_true,if_false,if_true,Int.toNat_natCast]
    refine Ev.bind (acH n j8 vP l anj hE) ?_
    by_cases h3:o_ (ja n l)=true
    ·simp only [if_pos h3];exact Ev.now _
    ·simp only [if_neg h3];exact Ev.now _
theorem Jn (a:Int) (l:List (List Int)) (c:List Int) (q:Int) (hl:l.length≤maxLen):Ev (fun k=>nD.f k a l q [c]) (yw a l c q):=by
 unfold nD.f
 refine Ev.bind ?_ (Ev.now _)
 unfold qM.f yw
 refine Ev.bind (acq a l hl) ?_
 cases hg:mK a l with
 | false=>simp only [Bool.false_eq_true,if_false];exact Ev.now _
 | true =>
  simp only [if_true,uY.f,zT.f,Mm,nL,Option.bind_some,Option.map_some]
  rw [show (decide ((c.length:Int)=a) && !c.any oa)=vD a c from rfl,show (decide (0≤q) && decide (q≤wrap64 (a - 1)))=sM a q from rfl]
  cases sM a q with
  | false=>simp only [Bool.false_eq_true,if_false,Bool.and_false];exact Ev.now _
  | true =>
   cases vD a c with
   | false=>simp;exact Ev.now _
   | true =>
    obtain ⟨n,rfl,j8,vP,hE⟩:=K5 hg
    have anj:=K6 hg
    have h1:=OW j8 (FA n l hE)
    have h2:=ad6 n vP l anj hE
    simp only [if_true,Bool.not_true,Bool.false_eq_true,if_false,Option.bind_some,Bool.and_self,Int.toNat_natCast,show ¬ ((0:Int)≤-1) by omega]
    refine Ev.bind h2 ?_
    by_cases h3:o_ (ja n l)=true
    ·rw [h3] at h1
     simp only [if_pos h3,if_pos (beq_iff_eq.1 h1)]
     exact Ev.now _
    ·rw [Bool.eq_false_iff.2 h3] at h1
     simp only [if_neg h3,if_neg (beq_eq_false_iff_ne.1 h1)]
     exact Ev.now _
/-- Off the diagonal nothing above 0, rows that add up to 0 or more, and each row that adds up to 0 leads on to another one. -/
def yz (m:Nat) (A:Nat→Nat→Int) (D:Nat→Nat):Prop:=∀ v,v < m→(∀ w,w < m→w ≠ v→A v w≤0)∧0≤az m (A v)∧(az m (A v)≤0→∃ w,w < m∧D w < D v∧A v w < 0)
theorem YC {m:Nat} {A:Nat→Nat→Int} {D:Nat→Nat} (h:yz (m+1) A D):yz m A D:=by
 intro v hv
 obtain ⟨h1,h2,h3⟩:=h v (by omega)
 have e:az (m+1) (A v)=az m (A v)+A v m:=rfl
 have h4:=h1 m (by omega) (by omega)
 refine ⟨fun w hw hn=>h1 w (by omega) hn,by omega,fun h5=>?_⟩
 obtain ⟨w,hw,hd,ha⟩:=h3 (by omega)
 by_cases hwm:w=m
 ·rw [hwm] at ha;omega
 ·exact ⟨w,by omega,hd,ha⟩
theorem YD {m:Nat} {A:Nat→Nat→Int} {D:Nat→Nat} (h:yz m A D) (x:Nat→Int) (hx:∀ v,v < m→az m (fun w=>A v w * x w)=0) (M:Int) (hM:0 < M) (hb:∀ v,v < m→x v≤M):∀ d v,v < m→D v < d→x v < M:=by
 intro d
 induction d with
 | zero=>intro v _ h;omega
 | succ d ih =>
  intro v hv hd
  obtain ⟨h1,h2,h3⟩:=h v hv
  by_cases e:x v < M
  ·exact e
  ·exfalso
   have e2:x v=M:=by have:=hb v hv;omega
   have s1:az m (fun w=>A v w * x w)=M * az m (A v)+az m (fun w=>A v w * (x w - M)):=by
    rw [← iX,← uJ]
    exact eE fun w _=>by rw [Int.mul_sub,Int.mul_comm M];omega
   have s2:∀ w,w < m→0≤A v w * (x w - M):=fun w hw=>by
    by_cases RV:w=v
    ·rw [RV,e2,Int.sub_self,Int.mul_zero];exact Int.le_refl _
    ·exact Int.mul_nonneg_of_nonpos_of_nonpos (h1 w hw RV) (by have:=hb w hw;omega)
   have s3:=o8 s2
   have s4:0≤M * az m (A v):=Int.mul_nonneg (by omega) h2
   have s5:=hx v hv
   have s6:M * az m (A v)=0:=by omega
   have s7:az m (A v)=0:=(Int.mul_eq_zero.1 s6).resolve_left (by omega)
   obtain ⟨w,hw,hdw,ha⟩:=h3 (by omega)
   have h8:=ih w hw (by omega)
   have s9:=Tg s2 w hw
   have s10:0 < A v w * (x w - M):=Int.mul_pos_of_neg_of_neg ha (by omega)
   omega
theorem O2 {m:Nat} {A:Nat→Nat→Int} {D:Nat→Nat} (h:yz m A D) (x:Nat→Int) (hx:∀ v,v < m→az m (fun w=>A v w * x w)=0):∀ M:Nat,(∀ v,v < m→x v≤M)→∀ v,v < m→x v≤0:=by
 intro M
 induction M with
 | zero=>intro hb v hv;exact hb v hv
 | succ M ih =>
  intro hb
  exact ih fun v hv=>by
   have:=YD h x hx ((M+1:Nat):Int) (by omega) hb (D v+1) v hv (by omega)
   omega
theorem YB {m:Nat} {A:Nat→Nat→Int} {D:Nat→Nat} (h:yz m A D) (x:Nat→Int) (hx:∀ v,v < m→az m (fun w=>A v w * x w)=0) (v:Nat) (hv:v < m):x v=0:=by
 have b:∀ v,v < m→alh (x v)≤az m (fun v=>alh (x v)):=fun v hv=>Lb x v hv
 obtain ⟨M,hM⟩:∃ M:Nat,(M:Int)=az m (fun v=>alh (x v)):=⟨_,Int.toNat_of_nonneg (o8 fun _ _=>iK _)⟩
 have h1:=O2 h x hx M (fun v hv=>by have:=b v hv;unfold alh at this hM;omega) v hv
 have h2:=O2 h (fun v=>-x v) (fun v hv=>by rw [eE (g:=fun w=>-(A v w * x w)) (fun w _=>Int.mul_neg _ _),Ed,hx v hv];rfl) M (fun v hv=>by have:=b v hv;unfold alh at this hM;omega) v hv
 have h3:-x v≤0:=h2
 omega
theorem Jv:∀ {m:Nat} {A:Nat→Nat→Int} {D:Nat→Nat},yz m A D→aG m A ≠ 0:=by
 intro m
 induction m with
 | zero=>intro A D _;show (1:Int) ≠ 0;decide
 | succ m ih =>
  intro A D h h0
  have h1:=ih (YC h)
  have h2:=YB h (fun j=>gU (m+1) A j m) (fun v hv=>by rw [Lc A v m (by omega) hv,h0];split<;>rfl) m (by omega)
  have h3:gU (m+1) A m m=aG m A:=by
   unfold gU
   rw [D_ _ (fun b hb=>by unfold bt;rw [if_pos rfl];exact zn (by omega))]
   rw [show bt A m (cK m) m m=1 from by unfold bt;rw [if_pos rfl];exact Gw m,Int.one_mul]
   exact iW fun a b ha hb=>by unfold bt;rw [if_neg (by omega)]
  exact h1 (by rw [← h3];exact h2)
/-- A column put in place of each column solves the equations. -/
theorem OY {m:Nat} (A:Nat→Nat→Int) (c:Nat→Int) (r:Nat) (hr:r < m):az m (fun k=>A r k * aG m (alu A k c))=aG m A * c r:=by
 have e:∀ k,k < m→aG m (alu A k c)=az m (fun i=>c i * gU m A k i):=fun k hk=>by
  rw [show aG m (alu A k c)=aG m (alu A k (fun b=>az m (fun j=>c j * cK j b))) from iW fun a b ha hb=>by
   unfold alu
   by_cases h:b=k
   ·rw [if_pos h, if_pos h]
    exact (Ec c a ha).symm
   ·rw [if_neg h,if_neg h],Gv A k hk m c cK]
  exact eE fun i hi=>by rw [R_ A i k hi hk]
 rw [eE (g:=fun k=>az m (fun i=>c i * (A r k * gU m A k i))) (fun k hk=>by
  rw [e k hk,← iX]
  exact eE fun i _=>Int.mul_left_comm _ _ _),zq,eE (g:=fun i=>c i * (if r=i then aG m A else 0)) (fun i hi=>by
  rw [iX,Lc A r i hi hr]),uL r hr (fun i _ hne=>by rw [if_neg (fun h=>hne h.symm),Int.mul_zero]),if_pos rfl,Int.mul_comm]
theorem kZ (n:Nat) (f:Nat→Int):bO n f=az n f:=by
 induction n with
 | zero=>rfl
 | succ n ih=>show bO n f+f n=az n f+f n;rw [ih]
/-- A Laplacian: what the steps upon chips ask of it. -/
structure d_ (n:Nat) (L:Nat→Nat→Int):Prop where
 sym:∀ i j,L i j=L j i
 sum:∀ r,bO n (fun j=>L r j)=0
 off:∀ u w,u ≠ w→L u w≤0
 top:∀ v,L v v≤20
 tr:bO n (fun v=>L v v)≤20
theorem adp {n:Nat} {l:List (List Int)} (hE:endsIn n l):∀ i,i≤l.length→bO n (fun v=>bu l i v v)≤2 * (i:Int):=by
 intro i
 induction i with
 | zero =>
  intro _
  rw [lA (g:=fun _=>0) (fun j _=>by unfold bu;rw [if_pos rfl];rfl),yp]
  decide
 | succ i ih =>
  intro hi
  obtain ⟨_,u,v,hu,hv,hun,gq⟩:=hE i (by omega)
  have h1:bO n (fun r=>bu l (i+1) r r)≤bO n (fun r=>bu l i r r+((if r=u then 1 else 0)+(if r=v then 1 else 0))):=qX fun r _=>by
   rw [xL n l i u v hu hv r r]
   by_cases e:u=v
   ·rw [if_pos e]
    split<;>split<;>omega
   ·rw [if_neg e, if_neg (show ¬ (r = u ∧ r = v) from fun h => e (by omega)), if_neg (show ¬ (r = v ∧ r = u) from fun h => e (by omega))]
    by_cases e1:r=u
    ·rw [if_pos ⟨e1, e1⟩, if_pos e1]
     split<;>split<;>omega
    ·rw [if_neg (fun h => e1 h.1), if_neg e1]
     split<;>split<;>omega
  have h2:=ih (by omega)
  rw [qW,qW,pI hun,pI gq] at h1
  omega
theorem vY {n:Nat} {l:List (List Int)} (hE:endsIn n l) (hl:l.length≤10):d_ n (bu l l.length) :=
 ⟨ado hE l.length (Nat.le_refl _),adn hE l.length (Nat.le_refl _),Ss l.length,fun v=>(Lq hl v v).2,by have:=adp hE l.length (Nat.le_refl _);omega⟩
/-- What a vertex loses when the vertices of a set are fired. -/
def fX (L:Nat→Nat→Int) (n:Nat) (S:Nat→Bool) (v:Nat):Int:=bO n (fun w=>if S w=true then L v w else 0)
theorem Pw {n:Nat} {L:Nat→Nat→Int} (h:d_ n L) (S:Nat→Bool) (v:Nat) (hv:v < n) (hS:S v=true):0≤fX L n S v∧fX L n S v≤20:=by
 constructor
 ·rw [← d_.sum h v]
  refine qX fun w _=>?_
  by_cases e:S w=true
  ·rw [if_pos e];exact Int.le_refl _
  ·rw [if_neg e]
   exact d_.off h v w (fun e2=>e (by rw [← e2];exact hS))
 ·refine Int.le_trans ?_ (d_.top h v)
  rw [← pI hv (L v v)]
  refine qX fun w _=>?_
  by_cases e:w=v
  ·rw [if_pos e,e,if_pos hS];exact Int.le_refl _
  ·rw [if_neg e]
   have:=d_.off h v w (fun e2=>e e2.symm)
   split<;>omega
theorem FH {n:Nat} {L:Nat→Nat→Int} (h:d_ n L) (S:Nat→Bool) (v:Nat) (hv:v < n) (hS:S v=false):-20≤fX L n S v∧fX L n S v≤0:=by
 constructor
 ·have h1:bO n (fun w=>L v w+(if w=v then -(L v v) else 0))≤fX L n S v:=qX fun w _=>by
   by_cases e:w=v
   ·rw [if_pos e,e,if_neg (by rw [hS];decide)];omega
   ·rw [if_neg e]
    have:=d_.off h v w (fun e2=>e e2.symm)
    split<;>omega
  rw [qW,pI hv,d_.sum h v] at h1
  have:=d_.top h v
  omega
 ·rw [← yp n]
  refine qX fun w _=>?_
  by_cases e:S w=true
  ·rw [if_pos e]
   exact d_.off h v w (fun e2=>by rw [e2,e] at hS;exact absurd hS (by decide))
  ·rw [if_neg e];exact Int.le_refl _
theorem Zk {n:Nat} {L:Nat→Nat→Int} (h:d_ n L) (S:Nat→Bool) (v:Nat) (hS:S v=false) (w:Nat) (hw:w < n) (hSw:S w=true) (K1:L v w≤-1):fX L n S v≤-1:=by
 rw [← pI hw (-1)]
 refine qX fun j _=>?_
 by_cases e:j=w
 ·rw [if_pos e,e,if_pos hSw];exact K1
 ·rw [if_neg e]
  by_cases e1:S j=true
  ·rw [if_pos e1]
   exact d_.off h v j (fun e2=>by rw [e2,e1] at hS;exact absurd hS (by decide))
  ·rw [if_neg e1];exact Int.le_refl _
theorem Zj {n:Nat} {L:Nat→Nat→Int} (h:d_ n L) (S:Nat→Bool) (v:Nat) (hv:v < n):-20≤fX L n S v∧fX L n S v≤20:=by
 cases e:S v with
 | true=>have:=Pw h S v hv e;omega
 | false=>have:=FH h S v hv e;omega
/-- The chips of one are those of the other with vertices fired. -/
def jF (n:Nat) (L:Nat→Nat→Int) (c d:Nat→Int):Prop:=∃ f:Nat→Int,∀ v,v < n→d v=c v - bO n (fun w=>L v w * f w)
theorem CB (n:Nat) (L:Nat→Nat→Int) (c:Nat→Int):jF n L c c :=
 ⟨fun _=>0,fun v _=>by rw [lA (g:=fun _=>0) (fun w _=>Int.mul_zero _),yp,Int.sub_zero]⟩
theorem vH {n:Nat} {L:Nat→Nat→Int} {c d e:Nat→Int} (h1:jF n L c d) (h2:jF n L d e):jF n L c e:=by
 obtain ⟨f,hf⟩:=h1
 obtain ⟨g,hg⟩:=h2
 refine ⟨fun w=>f w+g w,fun v hv=>?_⟩
 rw [hg v hv,hf v hv,lA (f:=fun w=>L v w * (f w+g w)) (g:=fun w=>L v w * f w+L v w * g w) (fun w _=>Int.mul_add _ _ _),qW]
 omega
theorem Pj {n:Nat} {L:Nat→Nat→Int} {c d:Nat→Int} (h:jF n L c d):jF n L d c:=by
 obtain ⟨f,hf⟩:=h
 refine ⟨fun w=>-f w,fun v hv=>?_⟩
 rw [hf v hv,lA (f:=fun w=>L v w * -f w) (g:=fun w=>-(L v w * f w)) (fun w _=>Int.mul_neg _ _),Au]
 omega
theorem Pg {n:Nat} {L:Nat→Nat→Int} (S:Nat→Bool) {c d:Nat→Int} (h:∀ v,v < n→d v=c v - fX L n S v):jF n L c d :=
 ⟨fun w=>if S w=true then 1 else 0,fun v hv=>by
  rw [h v hv]
  unfold fX
  congr 1
  refine lA fun w _=>?_
  by_cases e:S w=true
  ·show (if S w = true then L v w else 0) = L v w * (if S w = true then 1 else 0)
   rw [if_pos e,if_pos e,Int.mul_one]
  ·show (if S w = true then L v w else 0) = L v w * (if S w = true then 1 else 0)
   rw [if_neg e,if_neg e,Int.mul_zero]⟩
theorem CC {n:Nat} {L:Nat→Nat→Int} (h:d_ n L) {c d:Nat→Int} (e:jF n L c d):bO n d=bO n c:=by
 obtain ⟨f,hf⟩:=e
 rw [lA hf,lA (f:=fun v=>c v - bO n (fun w=>L v w * f w)) (g:=fun v=>c v+-(bO n (fun w=>L v w * f w))) (fun v _=>Int.sub_eq_add_neg),qW,Au]
 have:bO n (fun v=>bO n (fun w=>L v w * f w))=0:=by
  rw [kZ,eE (g:=fun v=>az n (fun w=>L v w * f w)) (fun v _=>kZ _ _),zq]
  refine o9 fun w _=>?_
  rw [eE (g:=fun v=>f w * L w v) (fun v _=>by rw [Int.mul_comm,d_.sym h v w]),iX,← kZ,d_.sum h w,Int.mul_zero]
 rw [this]
 omega
/-- Chips that are reduced at q. -/
def pU (n:Nat) (L:Nat→Nat→Int) (q:Nat) (c:Nat→Int):Prop:=(∀ v,v < n→v ≠ q→0≤c v)∧∀ S:Nat→Bool,lawful L c n S→S q=false→∀ j,j < n→S j=false
theorem S1 {n : Nat} {L : Nat → Nat → Int} (h : d_ n L) {q : Nat} {c d : Nat → Int} {f : Nat → Int} (hf : ∀ v, v < n → d v = c v - bO n (fun w => L v w * f w)) (r : pU n L q c) (hd : ∀ v, v < n → v ≠ q → 0 ≤ d v) :
  ∀ k:Nat,(∀ v,v < n→f v≤f q+k)→∀ v,v < n→f v≤f q:=by
 intro k
 induction k with
 | zero=>intro hb v hv;have:=hb v hv;omega
 | succ k ih =>
  intro hb
  refine ih fun v hv=>?_
  have h1:=r.2 (fun w=>decide (f w=f q+((k+1:Nat):Int))) (fun u hu hS=>by
   have FW:f u=f q+((k+1:Nat):Int):=of_decide_eq_true hS
   have huq:u ≠ q:=fun e=>by rw [e] at FW;omega
   have h2:ki L n (fun w=>decide (f w=f q+((k+1:Nat):Int))) u≤bO n (fun w=>L u w * f w+-(f u) * L u w):=by
    unfold ki
    refine qX fun w hw=>?_
    have h3:L u w * f w+-(f u) * L u w=-(L u w) * (f u - f w):=by
     rw [Int.mul_sub,Int.neg_mul,Int.neg_mul,Int.neg_mul,Int.mul_comm (f u)]
     omega
    rw [h3]
    by_cases e:f w=f q+((k+1:Nat):Int)
    ·rw [if_pos (decide_eq_true e),FW,e,Int.sub_self,Int.mul_zero];exact Int.le_refl _
    ·rw [if_neg (by simpa using e)]
     have h4:=d_.off h u w (fun e2=>e (by rw [← e2];exact FW))
     have h5:=hb w hw
     have h6:-(L u w) * 1≤-(L u w) * (f u - f w):=Int.mul_le_mul_of_nonneg_left (by omega) (by omega)
     rw [Int.mul_one] at h6
     exact h6
   rw [qW] at h2
   have h7:bO n (fun w=>-(f u) * L u w)=0:=by
    rw [kZ,iX,← kZ,d_.sum h u,Int.mul_zero]
   have h8:=hf u hu
   have h9:=hd u hu huq
   omega) (decide_eq_false (by omega)) v hv
  have h10:f v ≠ f q+((k+1:Nat):Int):=of_decide_eq_false h1
  have h11:=hb v hv
  omega
/-- Two reduced forms of the same chips are one. -/
theorem S3 {n:Nat} {L:Nat→Nat→Int} (h:d_ n L) {q:Nat} {c d:Nat→Int} (e:jF n L c d) (r:pU n L q c) (r2:pU n L q d) (v:Nat) (hv:v < n):c v=d v:=by
 have top:∀ f:Nat→Int,∃ k:Nat,∀ v,v < n→f v≤f q+k:=fun f=>by
  obtain ⟨k,hk⟩:∃ k:Nat,(k:Int)=az n (fun v=>alh (f v - f q)):=⟨_,Int.toNat_of_nonneg (o8 fun _ _=>iK _)⟩
  refine ⟨k,fun v hv=>?_⟩
  have:=Lb (fun v=>f v - f q) v hv
  unfold alh at this hk
  omega
 obtain ⟨f,hf⟩:=e
 have hg:∀ v,v < n→c v=d v - bO n (fun w=>L v w * (fun w=>-f w) w):=fun v hv=>by
  rw [hf v hv,lA (f:=fun w=>L v w * (fun w=>-f w) w) (g:=fun w=>-(L v w * f w)) (fun w _=>Int.mul_neg _ _),Au]
  omega
 obtain ⟨k1,amX⟩:=top f
 obtain ⟨k2,hk2⟩:=top (fun w=>-f w)
 have h1:=S1 h hf r r2.1 k1 amX
 have h2:=S1 h hg r2 r.1 k2 hk2
 have h3:∀ w,w < n→f w=f q:=fun w hw=>by
  have a1:=h1 w hw
  have a2:-f w≤-f q:=h2 w hw
  omega
 rw [hf v hv,lA (g:=fun w=>f q * L v w) (fun w hw=>by rw [h3 w hw,Int.mul_comm]),kZ,iX,← kZ,d_.sum h v,Int.mul_zero,Int.sub_zero]
/-- Each vertex but q has a neighbour that is nearer. -/
def ni (n:Nat) (L:Nat→Nat→Int) (q:Nat) (D:Nat→Nat):Prop:=q < n∧D q=0∧(∀ v,v < n→D v≤n)∧∀ v,v < n→v ≠ q→∃ w,w < n∧D w < D v∧L v w≤-1
def iY (n:Nat) (D:Nat→Nat) (v:Nat):Int:=((21 ^ (n - D v):Nat):Int)
theorem TH {n:Nat} {L:Nat→Nat→Int} (h:d_ n L) {q:Nat} {D:Nat→Nat} (hD:ni n L q D) (v:Nat) (hv:v < n) (hq:v ≠ q):bO n (fun w=>L v w * iY n D w)≤-1:=by
 obtain ⟨w0,hw0,Kw,hl0⟩:=hD.2.2.2 v hv hq
 have hp:∀ w,(0:Int) < iY n D w:=fun w=>by
  have:0 < 21 ^ (n - D w):=Nat.pow_pos (by decide)
  unfold iY
  omega
 have h1:21 * iY n D v≤iY n D w0:=by
  have h2:=hD.2.2.1 v hv
  have h3:21 ^ (n - D v+1)≤21 ^ (n - D w0):=Nat.pow_le_pow_right (by decide) (by omega)
  rw [Nat.pow_succ] at h3
  unfold iY
  omega
 have h4:bO n (fun w=>L v w * iY n D w)≤bO n (fun w=>(if w=v then 20 * iY n D v else 0)+(if w=w0 then -(21 * iY n D v) else 0)):=qX fun w hw=>by
  by_cases e1:w=v
  ·have h5 := Int.mul_le_mul_of_nonneg_right (d_.top h v) (Int.le_of_lt (hp v))
   rw [if_pos e1,if_neg (fun e2=>by rw [← e2,e1] at Kw;omega),e1]
   omega
  ·have h6 := d_.off h v w (fun e => e1 e.symm)
   rw [if_neg e1]
   by_cases e2:w=w0
   ·rw [if_pos e2, e2]
    have h7:=Int.mul_le_mul_of_nonneg_right hl0 (Int.le_of_lt (hp w0))
    omega
   ·rw [if_neg e2]
    have h8:=Int.mul_le_mul_of_nonneg_right h6 (Int.le_of_lt (hp w))
    omega
 rw [qW,pI hv,pI hw0] at h4
 have:=hp v
 omega
/-- What each lawful firing makes less. -/
def amA (n:Nat) (b:Nat→Int) (q:Nat) (c:Nat→Int):Int:=bO n (fun v=>(b q - b v) * c v)
theorem SS {n:Nat} {L:Nat→Nat→Int} (h:d_ n L) {q:Nat} {D:Nat→Nat} (hD:ni n L q D) (S:Nat→Bool) (hq:S q=false) (hne:∃ j,j < n∧S j=true) {c d:Nat→Int} (hd:∀ v,v < n→d v=c v - fX L n S v):amA n (iY n D) q d≤amA n (iY n D) q c - 1:=by
 have h1:amA n (iY n D) q d=amA n (iY n D) q c - az n (fun v=>(iY n D q - iY n D v) * fX L n S v):=by
  unfold amA
  rw [kZ,kZ,← Gz]
  exact eE fun v hv=>by rw [hd v hv,Int.mul_sub]
 have h2:az n (fun v=>(iY n D q - iY n D v) * fX L n S v)=az n (fun w=>if S w=true then -(bO n (fun v=>L w v * iY n D v)) else 0):=by
  rw [eE (g:=fun v=>az n (fun w=>(iY n D q - iY n D v) * (if S w=true then L v w else 0))) (fun v _=>by rw [iX];unfold fX;rw [kZ]),zq]
  refine eE fun w _=>?_
  by_cases e:S w=true
  ·rw [if_pos e,eE (g:=fun v=>iY n D q * L w v - L w v * iY n D v) (fun v _=>by
    rw [if_pos e,Int.sub_mul,d_.sym h v w,Int.mul_comm (iY n D v)]),Gz,iX,← kZ,← kZ,d_.sum h w]
   omega
  ·rw [if_neg e]
   exact o9 fun v _=>by rw [if_neg e,Int.mul_zero]
 obtain ⟨j,hj,yJ⟩:=hne
 have h3:∀ w,w < n→0≤(fun w=>if S w=true then -(bO n (fun v=>L w v * iY n D v)) else 0) w:=fun w hw=>by
  show 0≤if S w=true then _ else _
  by_cases e:S w=true
  ·rw [if_pos e]
   have:=TH h hD w hw (fun e2=>by rw [e2,hq] at e;exact absurd e (by decide))
   omega
  ·rw [if_neg e];exact Int.le_refl _
 have h4:=Tg h3 j hj
 rw [h2] at h1
 have h5:(1:Int)≤(fun w=>if S w=true then -(bO n (fun v=>L w v * iY n D v)) else 0) j:=by
  show 1≤if S j=true then _ else _
  rw [if_pos yJ]
  have:=TH h hD j hj (fun e2=>by rw [e2,hq] at yJ;exact absurd yJ (by decide))
  omega
 have h6:=Int.le_trans h5 h4
 have h7:(1:Int)≤az n (fun w=>if S w=true then -(bO n (fun v=>L w v * iY n D v)) else 0):=h6
 generalize az n (fun w=>if S w=true then -(bO n (fun v=>L w v * iY n D v)) else 0)=X at h1 h7
 omega
theorem ad7 {n:Nat} {L:Nat→Nat→Int} {q:Nat} {D:Nat→Nat} (hD:ni n L q D) {c:Nat→Int} (hc:∀ v,v < n→v ≠ q→0≤c v):0≤amA n (iY n D) q c:=by
 unfold amA
 rw [kZ]
 refine o8 fun v hv=>?_
 by_cases e:v=q
 ·rw [e,Int.sub_self,Int.zero_mul];exact Int.le_refl _
 ·refine Int.mul_nonneg ?_ (hc v hv e)
  have h1:21 ^ (n - D v)≤21 ^ (n - D q):=Nat.pow_le_pow_right (by decide) (by rw [hD.2.1];omega)
  unfold iY
  omega
theorem adl {n:Nat} {l:List (List Int)} (hE:endsIn n l) (a b:Nat) (hab:a ≠ b):∀ d i,i+d≤l.length→bu l (i+d) a b≤bu l i a b:=by
 intro d
 induction d with
 | zero=>intro i _;exact Int.le_refl _
 | succ d ih =>
  intro i hi
  obtain ⟨_,u,v,hu,hv,_,_⟩:=hE (i+d) (by omega)
  have h1:=ih i (by omega)
  rw [show i+(d+1)=i+d+1 by omega,xL n l (i+d) u v hu hv a b]
  refine Int.le_trans ?_ h1
  by_cases e:u=v
  ·rw [if_pos e];omega
  ·rw [if_neg e, if_neg (show ¬ (a = u ∧ b = u) from fun h => hab (by omega)), if_neg (show ¬ (a = v ∧ b = v) from fun h => hab (by omega))]
   split<;>split<;>omega
/-- An edge stands in the Laplacian. -/
theorem Sr {n:Nat} {l:List (List Int)} (hE:endsIn n l) (i:Nat) (hi:i < l.length) (u v:Nat) (hu:rd (ah l (i:Int)) 0=u) (hv:rd (ah l (i:Int)) 1=v) (huv:u ≠ v):bu l l.length u v≤-1∧bu l l.length v u≤-1:=by
 have h1:∀ a b,a ≠ b→(a=u∧b=v∨a=v∧b=u)→bu l l.length a b≤-1:=fun a b hab h=>by
  have h2:=adl hE a b hab (l.length - (i+1)) (i+1) (by omega)
  rw [show i+1+(l.length - (i+1))=l.length by omega,xL n l i u v hu hv a b,if_neg huv] at h2
  have h3:=Ss (l:=l) i a b hab
  rcases h with ⟨h4,h5⟩|⟨h4,h5⟩
  ·rw [if_neg (show ¬ (a = u ∧ b = u) from fun h => hab (by omega)), if_pos (show a = u ∧ b = v from ⟨h4, h5⟩), if_neg (show ¬ (a = v ∧ b = v) from fun h => hab (by omega)), if_neg (show ¬ (a = v ∧ b = u) from fun h => huv (by omega))] at h2
   omega
  ·rw [if_neg (show ¬ (a = u ∧ b = u) from fun h => hab (by omega)), if_neg (show ¬ (a = u ∧ b = v) from fun h => huv (by omega)), if_neg (show ¬ (a = v ∧ b = v) from fun h => hab (by omega)), if_pos (show a = v ∧ b = u from ⟨h4, h5⟩)] at h2
   omega
 exact ⟨h1 u v huv (.inl ⟨rfl,rfl⟩),h1 v u (fun e=>huv e.symm) (.inr ⟨rfl,rfl⟩)⟩
/-- Vertices of one class are alike in all that edges keep. -/
theorem X8 {n : Nat} {l : List (List Int)} (hE : endsIn n l) (P : Nat → Prop) (hP : ∀ i, i < l.length → ∀ u v : Nat, rd (ah l (i : Int)) 0 = u → rd (ah l (i : Int)) 1 = v → (P u ↔ P v)) :
  ∀ (d i:Nat) (c:List Int),i+d≤l.length→c.length=n→(∀ a b:Nat,a < n→b < n→rd c (a:Int)=rd c (b:Int)→(P a↔P b))→∀ a b:Nat,a < n→b < n→rd (pJ l d i c) (a:Int)=rd (pJ l d i c) (b:Int)→(P a↔P b):=by
 intro d
 induction d with
 | zero=>intro i c _ _ h;exact h
 | succ d ih =>
  intro i c hi hc h
  obtain ⟨hx,u,v,hu,hv,hun,gq⟩:=hE i (by omega)
  rw [show pJ l (d+1) i c=pJ l d (i+1) (c.map (f_ (rd c (rd (ah l (i:Int)) 0)) (rd c (rd (ah l (i:Int)) 1)))) from rfl,hu,hv]
  refine ih (i+1) _ (by omega) (by rw [List.length_map];exact hc) fun a b ha hb e=>?_
  rw [GW _ _ a (by omega),GW _ _ b (by omega)] at e
  have huv:=hP i (by omega) u v hu hv
  have haa:=h a
  have key:∀ w:Nat,w < n→(P w↔P u)∨f_ (rd c (u:Int)) (rd c (v:Int)) (rd c (w:Int))=rd c (w:Int)∧rd c (w:Int) ≠ mx (rd c (u:Int)) (rd c (v:Int)):=fun w hw=>by
   by_cases h1:rd c (w:Int)=mx (rd c (u:Int)) (rd c (v:Int))
   ·refine .inl ?_
    unfold mx at h1
    split at h1
    ·first|exact h w u hw hun h1|exact (h w v hw gq h1).trans huv.symm
    ·first|exact (h w v hw gq h1).trans huv.symm|exact h w u hw hun h1
   ·exact .inr ⟨by unfold f_;rw [if_neg h1],h1⟩
  have near:∀ w:Nat,w < n→rd c (w:Int)=mn (rd c (u:Int)) (rd c (v:Int))→(P w↔P u):=fun w hw h1=>by
   unfold mn at h1
   split at h1
   ·first|exact h w u hw hun h1|exact (h w v hw gq h1).trans huv.symm
   ·first|exact (h w v hw gq h1).trans huv.symm|exact h w u hw hun h1
  by_cases yK:rd c (a:Int)=mx (rd c (u:Int)) (rd c (v:Int))
  ·have pa:P a↔P u:=by
    rcases key a ha with h1|⟨_,h1⟩
    ·exact h1
    ·exact absurd yK h1
   by_cases hb1:rd c (b:Int)=mx (rd c (u:Int)) (rd c (v:Int))
   ·rcases key b hb with h1 | ⟨_, h1⟩
    ·exact pa.trans h1.symm
    ·exact absurd hb1 h1
   ·unfold f_ at e
    rw [if_pos yK,if_neg hb1] at e
    exact pa.trans (near b hb e.symm).symm
  ·by_cases hb1 : rd c (b : Int) = mx (rd c (u : Int)) (rd c (v : Int))
   ·have pb:P b↔P u:=by
     rcases key b hb with h1|⟨_,h1⟩
     ·exact h1
     ·exact absurd hb1 h1
    unfold f_ at e
    rw [if_neg yK,if_pos hb1] at e
    exact (near a ha e).trans pb.symm
   ·unfold f_ at e
    rw [if_neg yK,if_neg hb1] at e
    exact h a b ha hb e
/-- In a graph of one part, what edges keep is all or nothing. -/
theorem R5 {n:Nat} {l:List (List Int)} (hE:endsIn n l) (h1:o_ (ja n l)=true) (P:Nat→Prop) (hP:∀ i,i < l.length→∀ u v:Nat,rd (ah l (i:Int)) 0=u→rd (ah l (i:Int)) 1=v→(P u↔P v)) (a b:Nat) (ha:a < n) (hb:b < n):P a↔P b:=by
 have Bh:∀ w:Nat,w < n→rd (upto n) (w:Int)=(w:Int):=fun w hw=>by
  rw [pn _ _ (by rw [xY];exact hw)]
  simp [upto]
 have h2:∀ v,v < (ja n l).length→rd (ja n l) ((v:Nat):Int)=rd (ja n l) 0:=of_decide_eq_true h1
 have hlen:=(FA n l hE).1
 refine X8 hE P hP l.length 0 (upto n) (by omega) (xY n) (fun x y hx hy e=>?_) a b ha hb ?_
 ·rw [Bh x hx, Bh y hy] at e
  rw [show x=y by omega]
 ·show rd (ja n l) _ = rd (ja n l) _
  rw [h2 a (by omega),h2 b (by omega)]
/-- A quotient, rounded: near enough. -/
def uw (a b:Int):Int:=if a < 0 then -(Int.tdiv (-a+b - 1) b) else Int.tdiv a b
theorem Tl (a b:Int) (hb:b ≠ 0):alh (Int.tmod a b) < alh b:=by
 unfold alh
 have h1:=Int.natAbs_tmod a b
 have h2:=Nat.mod_lt a.natAbs (show b.natAbs > 0 by omega)
 omega
theorem Pt (a b:Int) (hb:b ≠ 0):alh (a - b * uw a b)≤2 * alh b:=by
 unfold uw
 by_cases h:a < 0
 ·rw [if_pos h]
  have h1:=Int.mul_tdiv_add_tmod (-a+b - 1) b
  have h2:=Tl (-a+b - 1) b hb
  rw [Int.mul_neg]
  generalize b * Int.tdiv (-a+b - 1) b=x at h1
  generalize Int.tmod (-a+b - 1) b=y at h1 h2
  unfold alh at h2 ⊢
  omega
 ·rw [if_neg h]
  have h1:=Int.mul_tdiv_add_tmod a b
  have h2:=Tl a b hb
  generalize b * Int.tdiv a b=x at h1
  generalize Int.tmod a b=y at h1 h2
  unfold alh at h2 ⊢
  omega
theorem Zh (a b:Int) (hb:b ≠ 0):alh (uw a b)≤alh a+2 * alh b:=by
 have h1:=Pt a b hb
 have h2:alh (b * uw a b)≤alh a+2 * alh b:=by
  unfold alh at h1 ⊢
  omega
 rw [tJ] at h2
 have h3:1 * alh (uw a b)≤alh b * alh (uw a b):=Int.mul_le_mul_of_nonneg_right (by unfold alh;omega) (iK _)
 rw [Int.one_mul] at h3
 omega
/-- The Laplacian without q's row and column. -/
def cY (L:Nat→Nat→Int) (q:Nat):Nat→Nat→Int:=fun a b=>L (aln q a) (aln q b)
def vI (m:Nat) (L:Nat→Nat→Int) (q:Nat) (c:Nat→Int) (k:Nat):Int:=uw (aG m (alu (cY L q) k (fun b=>c (aln q b)))) (aG m (cY L q))
def sN (m:Nat) (L:Nat→Nat→Int) (q:Nat) (c:Nat→Int) (w:Nat):Int:=if w=q then 0 else vI m L q c (ke q w)
def rU (m:Nat) (L:Nat→Nat→Int) (q:Nat) (c:Nat→Int) (v:Nat):Int:=c v - bO (m+1) (fun w=>L v w * sN m L q c w)
theorem aeH (q:Nat) {a b:Nat} (h:a ≠ b):aln q a ≠ aln q b:=by unfold aln;split<;>split<;>omega
theorem Jw {m:Nat} {L:Nat→Nat→Int} (h:d_ (m+1) L) {q:Nat} {D:Nat→Nat} (hD:ni (m+1) L q D):yz m (cY L q) (fun a=>D (aln q a)):=by
 intro v hv
 have hq:=hD.1
 have hvs:aln q v < m+1:=xJ hq hv
 have hs:az m (cY L q v)=-(L (aln q v) q):=by
  have h1:=d_.sum h (aln q v)
  rw [kZ,uM m q hq] at h1
  show az m (fun b=>L (aln q v) (aln q b))=_
  omega
 refine ⟨fun w _ hw=>d_.off h _ _ (aeH q (fun e=>hw e.symm)),?_,fun h2=>?_⟩
 ·rw [hs]
  have:=d_.off h (aln q v) q (xK q v)
  omega
 ·obtain ⟨w, hw, hd, hl⟩ := hD.2.2.2 (aln q v) hvs (xK q v)
  have DN:w ≠ q:=fun e=>by rw [e] at hl;omega
  refine ⟨ke q w,Ee hq hw DN,?_,?_⟩
  ·show D (aln q (ke q w)) < _
   rw [Gy DN];exact hd
  ·show L (aln q v) (aln q (ke q w)) < 0
   rw [Gy DN];omega
theorem Sq {n:Nat} {L:Nat→Nat→Int} (h:d_ n L) (v:Nat) (hv:v < n):0≤L v v∧az n (fun w=>alh (L v w))=2 * L v v:=by
 have h1:bO n (fun w=>if w=v then L v v+L v v else 0)=bO n (fun w=>alh (L v w)+L v w)∨L v v < 0:=by
  by_cases e:0≤L v v
  ·refine .inl (lA fun w _ => ?_)
   by_cases e1:w=v
   ·rw [if_pos e1,e1];unfold alh;omega
   ·rw [if_neg e1]
    have:=d_.off h v w (fun e2=>e1 e2.symm)
    unfold alh
    omega
  ·exact .inr (by omega)
 have h2:bO n (fun w=>if w=v then L v v else 0) ≥ bO n (fun w=>L v w):=qX fun w _=>by
  by_cases e1:w=v
  ·rw [if_pos e1,e1];exact Int.le_refl _
  ·rw [if_neg e1];exact d_.off h v w (fun e2=>e1 e2.symm)
 rw [pI hv,d_.sum h v] at h2
 refine ⟨h2,?_⟩
 rcases h1 with h1|h1
 ·rw [pI hv, qW, d_.sum h v, kZ] at h1
  omega
 ·omega
theorem adm {n:Nat} {L:Nat→Nat→Int} (h:d_ n L):vZ n L≤40:=by
 unfold vZ
 rw [eE (fun v hv=>(Sq h v hv).2),iX,← kZ]
 have:=d_.tr h
 omega
theorem anz {m:Nat} {L:Nat→Nat→Int} (h:d_ (m+1) L) {q:Nat} (hq:q < m+1):vZ m (cY L q)≤40:=by
 refine Int.le_trans ?_ (adm h)
 unfold vZ
 rw [uM m q hq (fun a=>az (m+1) (fun b=>alh (L a b)))]
 have h1:0≤az (m+1) (fun b=>alh (L q b)):=o8 fun _ _=>iK _
 have h2:az m (fun a=>az m (fun b=>alh (cY L q a b)))≤az m (fun t=>az (m+1) (fun b=>alh (L (aln q t) b))):=uK fun a _=>by
  rw [uM m q hq (fun b=>alh (L (aln q a) b))]
  have:=iK (L (aln q a) q)
  show az m (fun b=>alh (L (aln q a) (aln q b)))≤_
  omega
 omega
theorem G1 (n:Nat) {f:Nat→Int} {x:Int} (h:∀ i,i < n→f i≤x):az n f≤n * x:=by
 induction n with
 | zero=>show (0:Int)≤((0:Nat):Int) * x;simp
 | succ n ih =>
  have h1:=ih fun i hi=>h i (by omega)
  have h2:=h n (by omega)
  show az n f+f n≤_
  rw [Int.natCast_add,Int.add_mul]
  omega
theorem Py {m:Nat} (hm:m+1≤8) {L:Nat→Nat→Int} (h:d_ (m+1) L) {q:Nat} (hq:q < m+1) (c:Nat→Int) (hc:∀ v,v < m+1→v ≠ q→alh (c v)≤200) (k:Nat) (hk:k < m):okB m (alu (cY L q) k (fun b=>c (aln q b))):=by
 refine .inr ⟨k,hk,by omega,?_,?_⟩
 ·rw [eE (g := fun a => alh (c (aln q a))) (fun a _ => by unfold alu; rw [if_pos rfl])]
  have:=G1 m (f:=fun a=>alh (c (aln q a))) (x:=200) fun a ha=>hc _ (xJ hq ha) (xK q a)
  omega
 ·refine Int.le_trans ?_ (anz h hq)
  unfold vZ
  rw [zq]
  refine uK fun b _=>?_
  by_cases e:b=k
  ·rw [if_pos e];exact o8 fun _ _=>iK _
  ·rw [if_neg e]
   exact Int.le_of_eq (eE fun a _=>by unfold alu;rw [if_neg e])
theorem Zq {m:Nat} {L:Nat→Nat→Int} {q:Nat} (hq:q < m+1) (c:Nat→Int) (r:Nat):bO (m+1) (fun w=>L (aln q r) w * sN m L q c w)=az m (fun k=>cY L q r k * vI m L q c k):=by
 rw [kZ,uM m q hq,show L (aln q r) q * sN m L q c q=0 by unfold sN;rw [if_pos rfl,Int.mul_zero],Int.zero_add]
 refine eE fun k _=>?_
 unfold sN cY
 rw [if_neg (xK q k),So]
theorem Zp {m:Nat} {L:Nat→Nat→Int} (h:d_ (m+1) L) {q:Nat} {D:Nat→Nat} (hD:ni (m+1) L q D) (c:Nat→Int) (v:Nat) (hv:v < m+1) (o6:v ≠ q):alh (rU m L q c v)≤80:=by
 have hq:=hD.1
 have hW:=Jv (Jw h hD)
 obtain ⟨r,hr,rfl⟩:∃ r,r < m∧v=aln q r:=⟨ke q v,Ee hq hv o6,(Gy o6).symm⟩
 have h1:=OY (cY L q) (fun b=>c (aln q b)) r hr
 have h2:aG m (cY L q) * rU m L q c (aln q r)=az m (fun k=>cY L q r k * (aG m (alu (cY L q) k (fun b=>c (aln q b))) - aG m (cY L q) * vI m L q c k)):=by
  unfold rU
  rw [Zq hq,Int.mul_sub,← h1,← iX,← Gz]
  exact eE fun k _=>by rw [Int.mul_sub,Int.mul_left_comm (aG m (cY L q))]
 have h3:alh (aG m (cY L q) * rU m L q c (aln q r))≤(2 * alh (aG m (cY L q))) * 40:=by
  rw [h2]
  refine Int.le_trans (Gs _ _) ?_
  have h4:az m (fun k=>alh (cY L q r k))≤40:=by
   have h5:=(Sq h (aln q r) hv).2
   rw [uM m q hq] at h5
   have h6:=d_.top h (aln q r)
   have h7:=iK (L (aln q r) q)
   show az m (fun k=>alh (L (aln q r) (aln q k)))≤40
   omega
  refine Int.le_trans (uK (g:=fun k=>(2 * alh (aG m (cY L q))) * alh (cY L q r k)) fun k _=>?_) ?_
  ·rw [tJ, Int.mul_comm]
   exact Int.mul_le_mul_of_nonneg_right (Pt _ _ hW) (iK _)
  ·rw [iX]
   exact Int.mul_le_mul_of_nonneg_left h4 (by have:=iK (aG m (cY L q));omega)
 rw [tJ] at h3
 have h8:0 < alh (aG m (cY L q)):=by unfold alh;omega
 have h9:alh (aG m (cY L q)) * alh (rU m L q c (aln q r))≤alh (aG m (cY L q)) * 80:=by
  generalize alh (aG m (cY L q))=x at h3
  omega
 exact Int.le_of_mul_le_mul_left h9 h8
theorem Zl (m:Nat) (L:Nat→Nat→Int) (q:Nat) (c:Nat→Int):jF (m+1) L c (rU m L q c):=⟨sN m L q c,fun _ _=>rfl⟩
theorem Oz {n:Nat} {f:Nat→Int} (h:∀ i,i < n→-20000000000000≤f i∧f i≤20000000000000):-(20000000000000 * (n:Int))≤bO n f∧bO n f≤20000000000000 * n:=by
 induction n with
 | zero=>exact ⟨by simp [bO],by simp [bO]⟩
 | succ n ih =>
  have h1:=ih (fun i hi=>h i (by omega))
  have h2:=h n (by omega)
  rw [oU]
  omega
/-- What row r does to w, where the vertices are fired t times. -/
def tG (L:Nat→Nat→Int) (t:Nat→Int) (w r:Nat):Int:=L r w * t r
theorem G2 {L:Nat→Nat→Int} (hL:∀ u w,-20≤L u w∧L u w≤20) {t:Nat→Int} {r:Nat} (ht:alh (t r)≤1000000000000) (w:Nat):-20000000000000≤tG L t w r∧tG L t w r≤20000000000000:=by
 have h1:=hL r w
 have h2:alh (L r w)≤20:=by unfold alh;omega
 have h3:alh (tG L t w r)≤20 * 1000000000000:=by
  unfold tG
  rw [tJ]
  exact Int.mul_le_mul h2 ht (iK _) (by decide)
 unfold alh at h3
 omega
def gF (S:Nat→Bool) (r:Nat):Int:=if S r=true then 1 else 0
theorem GG (S:Nat→Bool) (r:Nat):alh (gF S r)≤1000000000000:=by
 unfold gF
 split
 ·show (1:Int)≤1000000000000;decide
 ·show (0:Int)≤1000000000000;decide
theorem SQ {n:Nat} {L:Nat→Nat→Int} (hs:∀ i j,L i j=L j i) (S:Nat→Bool) (w:Nat):bO n (tG L (gF S) w)=fX L n S w:=by
 unfold fX
 refine lA fun r _=>?_
 show L r w * gF S r=_
 unfold gF
 rw [hs r w]
 split<;>omega
def mL (n:Nat) (L:Nat→Nat→Int) (c t:Nat→Int) (i j:Nat):List Int:=aA n (fun w=>c w - (bO i (tG L t w)+if w < j then tG L t w i else 0))
theorem SA (n:Nat) (L:Nat→Nat→Int) (c t:Nat→Int) (i:Nat):mL n L c t i n=mL n L c t (i+1) 0:=by
 unfold mL
 refine kj fun w hw=>?_
 rw [if_pos hw,if_neg (Nat.not_lt_zero _),oU]
 omega
theorem Sz (n:Nat) (L:Nat→Nat→Int) (c t:Nat→Int):mL n L c t n 0=aA n (fun w=>c w - bO n (tG L t w)):=kj fun w _=>by rw [if_neg (Nat.not_lt_zero _)];omega
theorem SD (n:Nat) (L:Nat→Nat→Int) (c t:Nat→Int):mL n L c t 0 0=aA n c:=kj fun w _=>by rw [if_neg (Nat.not_lt_zero _)];simp [bO]
theorem SC {n:Nat} (L:Nat→Nat→Int) (c t:Nat→Int) (i j:Nat):(mL n L c t i j).set j (c j - bO i (tG L t j) - tG L t j i)=mL n L c t i (j+1):=by
 unfold mL
 rw [qF]
 refine kj fun w hw=>?_
 by_cases e2:w=j
 ·subst e2;rw [if_pos rfl,if_pos (by omega)];omega
 ·rw [if_neg e2]
  by_cases e3:w < j
  ·rw [if_pos e3,if_pos (show w < j+1 by omega)]
  ·rw [if_neg e3,if_neg (show ¬ w < j+1 by omega)]
theorem SB {n:Nat} (L:Nat→Nat→Int) (c t:Nat→Int) (i:Nat) {j:Nat} (hj:j < n):rd (mL n L c t i j) (j:Int)=c j - bO i (tG L t j):=by
 unfold mL
 rw [fO hj,if_neg (Nat.lt_irrefl _)]
 omega
theorem Zf (n : Nat) (hn : n ≤ 8) (L : Nat → Nat → Int) (hL : ∀ u w, -20 ≤ L u w ∧ L u w ≤ 20) (c t : Nat → Int) (hc : ∀ v, v < n → alh (c v) ≤ 100000000000000000) (ht : ∀ r, r < n → alh (t r) ≤ 1000000000000) (i : Nat) (hi : i < n) (R : List Int)
  (next:Ev (fun k=>cC.l0 k (aA n t) (mL n L c t (i+1) 0) (bY n L) n ((i+1:Nat):Int)) R) :
  ∀ (q j:Nat),n - j=q→j≤n→Ev (fun k=>cC.l1 k (aA n t) (mL n L c t i j) i (bY n L) n i n j) R:=by
 intro q
 induction q with
 | zero =>
  intro j hq hj
  obtain rfl:j=n:=by omega
  refine Ev.step (fun k=>by simp only [cC.l1];rfl) ?_
  simp only [Int.lt_irrefl,if_false,wI ((i:Int)+1) (by omega)]
  rw [SA]
  exact next
 | succ q ih =>
  intro j hq hj
  have hjn:j < n:=by omega
  have h2:alh (c j)≤100000000000000000:=hc j hjn
  have h3:=Oz (n:=i) (f:=tG L t j) (fun r hr=>G2 hL (ht r (by omega)) j)
  refine Ev.step (fun k=>by simp only [cC.l1];rfl) ?_
  have hrd:=SB L c t i hjn
  have hlen:(mL n L c t i j).length=n:=eI _ _
  have hg:L i j * t i=tG L t j i:=rfl
  have hgb:=G2 hL (ht i hi) j
  unfold alh at h2
  simp only [lI j n (by omega),if_true,cB j,nR hi,eI,hlen,cB i,lI i n (by omega),fO hjn,fO hi,hrd,hg,Int.toNat_natCast,wI ((j:Int)+1) (by omega),wI (tG L t j i) (by omega)]
  rw [wI (c j - bO i (tG L t j) - tG L t j i) (by omega),SC]
  exact ih (j+1) (by omega) (by omega)
theorem Ze (n : Nat) (hn : n ≤ 8) (L : Nat → Nat → Int) (hL : ∀ u w, -20 ≤ L u w ∧ L u w ≤ 20) (c t : Nat → Int) (hc : ∀ v, v < n → alh (c v) ≤ 100000000000000000) (ht : ∀ r, r < n → alh (t r) ≤ 1000000000000) : ∀ (q i : Nat), n - i = q → i ≤ n →
  Ev (fun k=>cC.l0 k (aA n t) (mL n L c t i 0) (bY n L) n i) (aA n (fun w=>c w - bO n (tG L t w))):=by
 intro q
 induction q with
 | zero =>
  intro i hq hi
  obtain rfl:i=n:=by omega
  refine Ev.step (fun k=>by simp only [cC.l0];rfl) ?_
  simp only [Int.lt_irrefl,if_false,Sz]
  exact Ev.now _
 | succ q ih =>
  intro i hq hi
  have hin:i < n:=by omega
  refine Ev.step (fun k=>by simp only [cC.l0];rfl) ?_
  simp only [fo,lI i n (by omega),if_true,cB i,nR hin,eI]
  exact Zf n hn L hL c t hc ht i hin _ (ih (i+1) (by omega) (by omega)) n 0 (by omega) (by omega)
theorem JJ (n:Nat) (hn:n≤8) (l:List (List Int)) (hl:l.length≤10) (hE:endsIn n l) (c t:Nat→Int) (hc:∀ v,v < n→alh (c v)≤100000000000000000) (ht:∀ r,r < n→alh (t r)≤1000000000000):Ev (fun k=>cC.f k n l (aA n c) (aA n t)) (aA n (fun w=>c w - bO n (tG (bu l l.length) t w))):=by
 unfold cC.f kr.f
 simp only [eI,show n < 17592186044416 by omega,if_true,Option.bind_some]
 refine Ev.bind (St n hn l hl hE) ?_
 have h:=Ze n hn (bu l l.length) (Lq hl) c t hc ht n 0 (by omega) (by omega)
 rw [SD] at h
 simp only [fo]
 exact h
/-- The implementation fires a set. -/
theorem Pq (n:Nat) (hn:n≤8) (l:List (List Int)) (hl:l.length≤10) (hE:endsIn n l) (c:Nat→Int) (hc:∀ v,v < n→alh (c v)≤100000000000000000) (S:Nat→Bool):Ev (fun k=>cC.f k n l (aA n c) (aA n (gF S))) (aA n (fun w=>c w - fX (bu l l.length) n S w)):=by
 have h:=JJ n hn l hl hE c (gF S) hc (fun r _=>GG S r)
 rw [kj (g:=fun w=>c w - bO n (tG (bu l l.length) (gF S) w)) (h:=fun w=>c w - fX (bu l l.length) n S w) (fun w _=>by rw [SQ (vY hE hl).sym])] at h
 exact h
theorem Zc (n : Nat) (hn : n ≤ 8) (L : Nat → Nat → Int) (hL : ∀ u w, -20 ≤ L u w ∧ L u w ≤ 20) (c : Nat → Int) (hc : ∀ v, v < n → alh (c v) ≤ 100000000000000000) (S : Nat → Bool) (i : Nat) (hi : i < n) (R : List Int)
  (next:Ev (fun k=>cW.l0 k (bY n L) (lb S) 1 (mL n L c (gF S) (i+1) 0) ((i+1:Nat):Int)) R) :
  ∀ (q j:Nat),n - j=q→j≤n→(S i=true∨j=0)→Ev (fun k=>cW.l1 k (bY n L) (lb S) 1 (mL n L c (gF S) i j) i j) R:=by
 intro q
 induction q with
 | zero =>
  intro j hq hj _
  obtain rfl:j=n:=by omega
  refine Ev.step (fun k=>by simp only [cW.l1];rfl) ?_
  simp only [fo,Int.lt_irrefl,if_false,wI ((i:Int)+1) (by omega)]
  rw [SA]
  exact next
 | succ q ih =>
  intro j hq hj hS
  have hjn:j < n:=by omega
  have hi8:i < 8:=by omega
  refine Ev.step (fun k=>by simp only [cW.l1];rfl) ?_
  simp only [fo,lI j n (by omega),if_true,cB j,cB i,show ((i:Int) < (8:Int)) by omega,GC S hi8]
  cases e:S i with
  | false =>
   obtain rfl:j=0:=by
    rcases hS with h|h
    ·rw [e] at h;exact absurd h (by decide)
    ·exact h
   simp only [Bool.false_eq_true,if_false,wI ((i:Int)+1) (by omega)]
   rw [show mL n L c (gF S) i 0=mL n L c (gF S) (i+1) 0 from kj fun w _=>by
    rw [if_neg (Nat.not_lt_zero _),if_neg (Nat.not_lt_zero _),oU,show tG L (gF S) w i=0 from by unfold tG gF;rw [if_neg (by rw [e];decide)];omega]
    omega]
   exact next
  | true =>
   have h2:alh (c j)≤100000000000000000:=hc j hjn
   have h3:=Oz (n:=i) (f:=tG L (gF S) j) (fun r hr=>G2 hL (GG S r) j)
   have hrd:=SB L c (gF S) i hjn
   have hlen:(mL n L c (gF S) i j).length=n:=eI _ _
   have hg:L i j=tG L (gF S) j i:=by unfold tG gF;rw [if_pos e];omega
   have hgb:=G2 hL (GG S i) j
   unfold alh at h2
   simp only [if_true,hlen,lI j n (by omega),lI i n (by omega),nR hi,eI,fO hjn,hrd,Int.one_mul,Int.toNat_natCast,wI ((j:Int)+1) (by omega),hg,wI (tG L (gF S) j i) (by omega)]
   rw [jv (show -9223372036854775808≤c j - bO i (tG L (gF S) j) - tG L (gF S) j i by omega) (by omega),SC]
   exact ih (j+1) (by omega) (by omega) (Or.inl e)
theorem Zb (n : Nat) (hn : n ≤ 8) (L : Nat → Nat → Int) (hL : ∀ u w, -20 ≤ L u w ∧ L u w ≤ 20) (c : Nat → Int) (hc : ∀ v, v < n → alh (c v) ≤ 100000000000000000) (S : Nat → Bool) : ∀ (q i : Nat), n - i = q → i ≤ n →
  Ev (fun k=>cW.l0 k (bY n L) (lb S) 1 (mL n L c (gF S) i 0) i) (aA n (fun w=>c w - bO n (tG L (gF S) w))):=by
 intro q
 induction q with
 | zero =>
  intro i hq hi
  obtain rfl:i=n:=by omega
  refine Ev.step (fun k=>by simp only [cW.l0];rfl) ?_
  simp only [fo,Int.lt_irrefl,if_false,Sz]
  exact Ev.now _
 | succ q ih =>
  intro i hq hi
  have hin:i < n:=by omega
  refine Ev.step (fun k=>by simp only [cW.l0];rfl) ?_
  simp only [fo,lI i n (by omega),if_true]
  exact Zc n hn L hL c hc S i hin _ (ih (i+1) (by omega) (by omega)) n 0 (by omega) (by omega) (Or.inr rfl)
/-- The reference fires a set. -/
theorem Pp (n:Nat) (hn:n≤8) (L:Nat→Nat→Int) (hL:∀ u w,-20≤L u w∧L u w≤20) (hs:∀ i j,L i j=L j i) (c:Nat→Int) (hc:∀ v,v < n→alh (c v)≤100000000000000000) (S:Nat→Bool):Ev (fun k=>cW.fA k (bY n L) (aA n c) (lb S) 1) (aA n (fun w=>c w - fX L n S w)):=by
 have h:=Zb n hn L hL c hc S n 0 (by omega) (by omega)
 rw [SD,kj (g:=fun w=>c w - bO n (tG L (gF S) w)) (h:=fun w=>c w - fX L n S w) (fun w _=>by rw [SQ hs])] at h
 unfold cW.fA
 rw [K_ _ (by rw [eI];omega)]
 exact h
/-- The vertices nearer than d. -/
def jq (n:Nat) (D:Nat→Nat) (d:Nat):Nat→Bool:=fun v=>decide (v < n) && decide (D v < d)
theorem Sw {n:Nat} {D:Nat→Nat} {d v:Nat}:jq n D d v=true↔v < n∧D v < d:=by simp [jq]
theorem Lr {n:Nat} {D:Nat→Nat} {d v:Nat} (h:d≤D v):jq n D d v=false:=by
 unfold jq
 rw [decide_eq_false (show ¬ D v < d by omega),Bool.and_false]
theorem adE {n:Nat} {L:Nat→Nat→Int} (h:d_ n L) {D:Nat→Nat} {d v:Nat} (hv:v < n) (hd:d≤D v):fX L n (jq n D d) v≤0:=(FH h _ v hv (Lr hd)).2
theorem adD {n:Nat} {L:Nat→Nat→Int} (h:d_ n L) {q:Nat} {D:Nat→Nat} (hD:ni n L q D) {d v:Nat} (h1:1≤d) (hv:v < n) (hd:D v=d):fX L n (jq n D d) v≤-1:=by
 obtain ⟨hq,RJ,_,abO⟩:=hD
 obtain ⟨w,hw,hwd,hL⟩:=abO v hv (fun e=>by rw [e,RJ] at hd;omega)
 exact Zk h _ v (Lr (by omega)) w hw (Sw.2 ⟨hw,by omega⟩) hL
def CD (n:Nat) (D:Nat→Nat) (c:Nat→Int) (d:Nat):Prop:=∀ v,v < n→d≤D v→0≤c v
def mC (n:Nat) (c:Nat→Int) (B:Nat):Prop:=∀ v,v < n→alh (c v)≤(B:Int)
def ami (n:Nat) (D:Nat→Nat) (c:Nat→Int) (d:Nat):Prop:=∃ v,v < n∧D v=d∧c v < 0
theorem Yy {n : Nat} {L : Nat → Nat → Int} (h : d_ n L) {q : Nat} {D : Nat → Nat} (hD : ni n L q D) (d : Nat) (h1 : 1 ≤ d) (F G : List Int → (Nat → Int) → Prop)
  (Da:∀ R c,mC n c 100000000000000000→ami n D c d→F R (fun v=>c v - fX L n (jq n D d) v)→F R c)
  (ana:∀ R c,mC n c 100000000000000000→¬ ami n D c d→G R c→F R c) :
  ∀ (r B : Nat) (c : Nat → Int), (∀ v, v < n → D v = d → -(r : Int) ≤ c v) → mC n c B → B + 20 * r ≤ 100000000000000000 → CD n D c (d + 1) →
   ∃ c',jF n L c c'∧CD n D c' d∧mC n c' (B+20 * r)∧∀ R,G R c'→F R c:=by
 intro r
 induction r with
 | zero =>
  intro B c hr hb hB hf
  have QO:CD n D c d:=fun v hv hd=>by
   by_cases e:D v=d
   ·have:=hr v hv e;omega
   ·exact hf v hv (by omega)
  refine ⟨c,CB n L c,QO,hb,fun R hG=>ana R c (fun v hv=>?_) ?_ hG⟩
  ·have:=hb v hv;omega
  ·rintro ⟨v, hv, e, hn⟩
   have:=QO v hv (by omega)
   omega
 | succ r ih =>
  intro B c hr hb hB hf
  have amc:mC n c 100000000000000000:=fun v hv=>by have:=hb v hv;omega
  by_cases hq:ami n D c d
  ·obtain ⟨c',he,hf',hb',hG⟩:=ih (B+20) (fun v=>c v - fX L n (jq n D d) v) (fun v hv e=>by
    have h2:=hr v hv e
    have h3:=adD h hD h1 hv e
    show -(r:Int)≤c v - fX L n (jq n D d) v
    omega) (fun v hv=>by
    have h2:=hb v hv
    have h3:=Zj h (jq n D d) v hv
    show alh (c v - fX L n (jq n D d) v)≤_
    unfold alh at h2 ⊢
    omega) (by omega) (fun v hv hd=>by
    have h2:=hf v hv hd
    have h3:=adE h hv (show d≤D v by omega)
    show 0≤c v - fX L n (jq n D d) v
    omega)
   refine ⟨c',vH (Pg (jq n D d) (fun v _=>rfl)) he,hf',fun v hv=>?_,fun R hR=>Da R c amc hq (hG R hR)⟩
   have:=hb' v hv
   omega
  ·refine ⟨c, CB n L c, fun v hv hd => ?_, fun v hv => ?_, fun R hG => ana R c amc hq hG⟩
   ·by_cases e : D v = d
    ·by_cases hn : c v < 0
     ·exact absurd ⟨v,hv,e,hn⟩ hq
     ·omega
    ·exact hf v hv (by omega)
   ·have:=hb v hv;omega
theorem Yw {n : Nat} {L : Nat → Nat → Int} (h : d_ n L) {q : Nat} {D : Nat → Nat} (hD : ni n L q D) (qb Loop : Nat → List Int → (Nat → Int) → Prop)
  (hin:∀ d R c,1≤d→d≤n→Loop d R c→qb d R c)
  (Da:∀ d R c,1≤d→d≤n→mC n c 100000000000000000→ami n D c d→Loop d R (fun v=>c v - fX L n (jq n D d) v)→Loop d R c)
  (ana:∀ d R c,1≤d→d≤n→mC n c 100000000000000000→¬ ami n D c d→qb (d - 1) R c→Loop d R c) :
  ∀ (d B : Nat) (c : Nat → Int), d ≤ n → mC n c B → B * 21 ^ d ≤ 100000000000000000 → CD n D c (d + 1) →
   ∃ c',jF n L c c'∧CD n D c' 1∧mC n c' (B * 21 ^ d)∧∀ R,qb 0 R c'→qb d R c:=by
 intro d
 induction d with
 | zero =>
  intro B c _ hb hB hf
  exact ⟨c,CB n L c,hf,fun v hv=>by have:=hb v hv;simpa using this,fun R hR=>hR⟩
 | succ d ih =>
  intro B c hd hb hB hf
  have hp:0 < 21 ^ d:=Nat.pow_pos (by decide)
  have e1:B * 21 ^ (d+1)=(B+20 * B) * 21 ^ d:=by rw [Nat.pow_succ,show B+20 * B=B * 21 by omega,Nat.mul_assoc,Nat.mul_comm 21]
  have hle:B+20 * B≤(B+20 * B) * 21 ^ d:=Nat.le_mul_of_pos_right _ hp
  obtain ⟨c1,am_,xp,hb1,CS⟩:=Yy h hD (d+1) (by omega) (Loop (d+1)) (fun R c=>qb d R c) (fun R c hb hq=>Da (d+1) R c (by omega) hd hb hq) (fun R c hb hq=>ana (d+1) R c (by omega) hd hb hq) B B c (fun v hv _=>by
   have:=hb v hv
   unfold alh at this
   omega) hb (by omega) hf
  obtain ⟨c',he,hf',hb',hG⟩:=ih (B+20 * B) c1 (by omega) hb1 (by omega) xp
  exact ⟨c',vH am_ he,hf',by rw [e1];exact hb',fun R hR=>hin (d+1) R c (by omega) hd (CS R (hG R hR))⟩
theorem W9 {n:Nat} {c:Nat→Int} {q v:Nat} (hq:q < n) (hv:v < n) (o6:v ≠ q) (ho:∀ w,w < n→w ≠ q→0≤c w):c v+c q≤bO n c:=by
 have h1:bO n (fun j=>(if j=v then c v else 0)+(if j=q then c q else 0))≤bO n c:=qX fun j hj=>by
  by_cases e:j=v
  ·subst e;rw [if_pos rfl,if_neg o6];omega
  ·rw [if_neg e]
   by_cases e2:j=q
   ·subst e2;rw [if_pos rfl];omega
   ·rw [if_neg e2]
    have:=ho j hj e2
    omega
 rw [qW,pI hv,pI hq] at h1
 exact h1
theorem W8 {n:Nat} {c:Nat→Int} {q:Nat} (hq:q < n) (ho:∀ w,w < n→w ≠ q→0≤c w):c q≤bO n c:=by
 have h1:bO n (fun j=>if j=q then c q else 0)≤bO n c:=qX fun j hj=>by
  by_cases e2:j=q
  ·subst e2;rw [if_pos rfl];omega
  ·rw [if_neg e2]
   exact ho j hj e2
 rw [pI hq] at h1
 exact h1
theorem SL {n:Nat} {c:Nat→Int} {q:Nat} (hq:q < n) (ho:∀ w,w < n→w ≠ q→0≤c w) {s m:Int} (hs:bO n c=s) (hm:m≤c q) (h1:s≤10000000000000000) (h2:-10000000000000000≤m):mC n c 100000000000000000:=by
 intro v hv
 have h3:=W8 hq ho
 unfold alh
 by_cases e:v=q
 ·subst e;omega
 ·have h4 := W9 hq hv e ho
  have h5:=ho v hv e
  omega
theorem Px {n:Nat} {L:Nat→Nat→Int} (h:d_ n L) {S:Nat→Bool} {c:Nat→Int} (hl:lawful L c n S) {v:Nat} (hv:v < n) (hc:0≤c v):0≤c v - fX L n S v:=by
 cases e:S v with
 | false=>have:=(FH h S v hv e).2;omega
 | true =>
  have h1:=hl v hv e
  have h2:=GH h.sym v (h.sum v) S
  have h3:fX L n S v=ki L n S v:=by
   rw [← h2]
   unfold fX
   exact lA fun w _=>by rw [h.sym v w]
  omega
theorem Xe {n : Nat} {L : Nat → Nat → Int} (h : d_ n L) {q : Nat} {D : Nat → Nat} (hD : ni n L q D) (F : List Int → (Nat → Int) → Prop)
  (hstep:∀ c,mC n c 100000000000000000→(∃ S:Nat→Bool,lawful L c n S∧S q=false∧(∃ j,j < n∧S j=true)∧∀ R,F R (fun v=>c v - fX L n S v)→F R c)∨((∀ S:Nat→Bool,lawful L c n S→S q=false→∀ j,j < n→S j=false)∧F (aA n c) c))
  (s m:Int) (h1:s≤10000000000000000) (h2:-10000000000000000≤m) :
  ∀ (P:Nat) (c:Nat→Int),amA n (iY n D) q c≤(P:Int)→(∀ w,w < n→w ≠ q→0≤c w)→bO n c=s→m≤c q→∃ c',pU n L q c'∧jF n L c c'∧F (aA n c') c:=by
 have hq:q < n:=hD.1
 intro P
 induction P with
 | zero =>
  intro c hP ho hs hm
  rcases hstep c (SL hq ho hs hm h1 h2) with ⟨S,hl,AU,hne,hF⟩|⟨hno,hF⟩
  ·have h3 := SS h hD S AU hne (c := c) (d := fun v => c v - fX L n S v) (fun v _ => rfl)
   have h4:=ad7 hD (c:=fun v=>c v - fX L n S v) (fun v hv o6=>Px h hl hv (ho v hv o6))
   omega
  ·exact ⟨c,⟨ho,hno⟩,CB n L c,hF⟩
 | succ P ih =>
  intro c hP ho hs hm
  rcases hstep c (SL hq ho hs hm h1 h2) with ⟨S,hl,AU,hne,hF⟩|⟨hno,hF⟩
  ·have h3 := SS h hD S AU hne (c := c) (d := fun v => c v - fX L n S v) (fun v _ => rfl)
   have h5:jF n L c (fun v=>c v - fX L n S v):=Pg S (fun v _=>rfl)
   have h6:=(FH h S q hq AU).2
   obtain ⟨c',hr,he,ZN⟩:=ih (fun v=>c v - fX L n S v) (by omega) (fun v hv o6=>Px h hl hv (ho v hv o6)) (by rw [CC h h5];exact hs) (by show m≤c q - fX L n S q;omega)
   exact ⟨c',hr,vH h5 he,hF _ ZN⟩
  ·exact ⟨c,⟨ho,hno⟩,CB n L c,hF⟩
/-- The two phases, one behind the other. -/
theorem an0 {n : Nat} (hn : n ≤ 8) {L : Nat → Nat → Int} (h : d_ n L) {q : Nat} {D : Nat → Nat} (hD : ni n L q D) (qb Loop : Nat → List Int → (Nat → Int) → Prop)
  (hin:∀ d R c,1≤d→d≤n→Loop d R c→qb d R c)
  (Da:∀ d R c,1≤d→d≤n→mC n c 100000000000000000→ami n D c d→Loop d R (fun v=>c v - fX L n (jq n D d) v)→Loop d R c)
  (ana:∀ d R c,1≤d→d≤n→mC n c 100000000000000000→¬ ami n D c d→qb (d - 1) R c→Loop d R c)
  (hstep:∀ c,mC n c 100000000000000000→(∃ S:Nat→Bool,lawful L c n S∧S q=false∧(∃ j,j < n∧S j=true)∧∀ R,qb 0 R (fun v=>c v - fX L n S v)→qb 0 R c)∨((∀ S:Nat→Bool,lawful L c n S→S q=false→∀ j,j < n→S j=false)∧qb 0 (aA n c) c))
  (c:Nat→Int) (hb:mC n c 4000):∃ c',pU n L q c'∧jF n L c c'∧qb n (aA n c') c:=by
 have hp:4000 * 21 ^ n≤4000 * 21 ^ 8:=Nat.mul_le_mul_left _ (Nat.pow_le_pow_right (by decide) hn)
 obtain ⟨c1,am_,xp,hb1,hG⟩:=Yw h hD qb Loop hin Da ana n 4000 c (Nat.le_refl _) hb (Nat.le_trans hp (by decide)) (fun v hv hd=>by
  have:=hD.2.2.1 v hv
  omega)
 have hb2:∀ v,v < n→alh (c1 v)≤151291437444000:=fun v hv=>by
  have h3:=hb1 v hv
  have h4:((4000 * 21 ^ n:Nat):Int)≤((4000 * 21 ^ 8:Nat):Int):=Int.ofNat_le.2 hp
  have h5:((4000 * 21 ^ 8:Nat):Int)=151291437444000:=by decide
  omega
 have ho:∀ w,w < n→w ≠ q→0≤c1 w:=fun w hw DN=>xp w hw (by
  obtain ⟨u,_,hu,_⟩:=hD.2.2.2 w hw DN
  omega)
 have hs:bO n c1≤10000000000000000:=by
  have h3:bO n c1≤(n:Int) * 151291437444000:=by
   rw [kZ]
   exact G1 n (fun i hi=>by have:=hb2 i hi;unfold alh at this;omega)
  have h4:(n:Int) * 151291437444000≤8 * 151291437444000:=Int.mul_le_mul_of_nonneg_right (by omega) (by decide)
  omega
 have hm:-10000000000000000≤c1 q:=by
  have:=hb2 q hD.1
  unfold alh at this
  omega
 obtain ⟨c',hr,he,hF⟩:=Xe h hD (qb 0) hstep (bO n c1) (c1 q) hs hm (amA n (iY n D) q c1).toNat c1 (by omega) ho rfl (Int.le_refl _)
 exact ⟨c',hr,vH am_ he,hG _ hF⟩
theorem W_ (n:Nat) (hn:n≤8) (L:Nat→Nat→Int) (hL:∀ u w,-20≤L u w∧L u w≤20) (ho:∀ u w,u ≠ w→L u w≤0) (c:List Int) (hc:c.length=n) (q:Int):Ev (fun k=>bG.fA k (bY n L) c q) (lb (mX L (fun j=>rd c (j:Int)) n (iH n (iG n q)) (iG n q)),zu n L c q):=by
 have h4:=Xd n hn L (mX L (fun j=>rd c (j:Int)) n (iH n (iG n q)) (iG n q)) n 0 false (by omega) (by omega)
 have h1:=Xb n hn L hL ho c hc false _ (iH n (iG n q)) (iG n q) (Nat.le_refl _) h4
 have h0:=Xa n hn L c q _ h1 n 0 (by omega) (by omega)
 rw [show lb (iG 0 q)=List.replicate 8 false from by simp [lb,iG,List.range,List.range.loop,List.replicate],Bool.false_or] at h0
 refine Ev.congr (fun k=>?_) h0
 unfold bG.fA
 rw [if_pos (by omega)]
 rfl
theorem aeA {n:Nat} (hn:n≤8) (D:Nat→Nat) (d:Nat):bS.oH (aA n fun v=>(D v:Int)) (d:Int) n=lb (jq n D d):=by
 unfold bS.oH lb
 refine List.map_congr_left fun v _=>?_
 unfold jq
 by_cases e:v < n
 ·rw [fO e]
  simp
 ·rw [decide_eq_false e]
  rfl
theorem O0 {n:Nat} (D:Nat→Nat) (c:Nat→Int) (d:Nat):bS.sK (aA n fun v=>(D v:Int)) (aA n c) (d:Int) n=true↔ami n D c d:=by
 unfold bS.sK ami
 rw [List.any_eq_true]
 constructor
 ·rintro ⟨v, hv, h⟩
  rw [List.mem_range] at hv
  rw [fO hv,fO hv,Bool.and_eq_true,beq_iff_eq,decide_eq_true_eq] at h
  exact ⟨v,hv,by omega,h.2⟩
 ·rintro ⟨v, hv, h1, h2⟩
  refine ⟨v,List.mem_range.2 hv,?_⟩
  rw [fO hv,fO hv,Bool.and_eq_true,beq_iff_eq,decide_eq_true_eq]
  exact ⟨by omega,h2⟩
theorem adw {n:Nat} {L:Nat→Nat→Int} (ho:∀ u w,u ≠ w→L u w≤0) {c:Nat→Int} {q:Nat} (h:zu n L (aA n c) q=false):∀ S:Nat→Bool,lawful L c n S→S q=false→∀ j,j < n→S j=false:=by
 intro S hS hq j hj
 cases e:S j with
 | false=>rfl
 | true =>
  have h1:=(adv n L ho (aA n c) q).2 ⟨S,fun v hv Ka=>by show _≤rd (aA n c) (v:Int);rw [fO hv];exact hS v hv Ka,hq,j,hj,e⟩
  rw [h] at h1
  exact absurd h1 (by decide)
theorem adx {n:Nat} {L:Nat→Nat→Int} (ho:∀ u w,u ≠ w→L u w≤0) {c:Nat→Int} {q:Nat} (h:zu n L (aA n c) q=true):lawful L c n (mX L (fun j=>rd (aA n c) (j:Int)) n (iH n (iG n q)) (iG n q))∧mX L (fun j=>rd (aA n c) (j:Int)) n (iH n (iG n q)) (iG n q) q=false∧∃ j,j < n∧mX L (fun j=>rd (aA n c) (j:Int)) n (iH n (iG n q)) (iG n q) j=true:=by
 obtain ⟨h1,h2,h3⟩:=Oq (L:=L) (c:=fun j=>rd (aA n c) (j:Int)) (n:=n) ho (iH n (iG n q)) (iG n q) (Nat.le_refl _)
 unfold zu at h
 rw [Ol] at h
 obtain ⟨j,_,hj,hT⟩:=h
 refine ⟨fun v hv Ka=>?_,?_,j,by omega,hT⟩
 ·exact Int.le_trans (h1 v hv Ka) (Int.le_of_eq (fO hv))
 ·cases e:mX L (fun j=>rd (aA n c) (j:Int)) n (iH n (iG n q)) (iG n q) q with
  | false=>rfl
  | true =>
   have:=h2 q e
   simp [iG] at this
theorem Cg {n:Nat} {c:Nat→Int} (h:mC n c 100000000000000000):∀ v,v < n→alh (c v)≤100000000000000000:=fun v hv=>h v hv
theorem acT (n : Nat) (hn : n ≤ 8) {L : Nat → Nat → Int} (h : d_ n L) (hL : ∀ u w, -20 ≤ L u w ∧ L u w ≤ 20) {q : Nat} {D : Nat → Nat} (hD : ni n L q D) (c : Nat → Int) (hb : mC n c 4000) :
  ∃ c',pU n L q c'∧jF n L c c'∧Ev (fun k=>bS.l0 k (bY n L) (q:Int) (aA n c) (aA n fun v=>(D v:Int)) (n:Int)) (aA n c'):=by
 refine an0 hn h hD (fun d R c=>Ev (fun k=>bS.l0 k (bY n L) (q:Int) (aA n c) (aA n fun v=>(D v:Int)) (d:Int)) R) (fun d R c=>Ev (fun k=>bS.l1 k (bY n L) (q:Int) (aA n c) (aA n fun v=>(D v:Int)) (d:Int)) R) ?_ ?_ ?_ ?_ c hb
 ·intro d R c h1 hd hR
  refine Ev.step (fun k=>by simp only [bS.l0];rfl) ?_
  simp only [show ((d:Int) > 0) by omega,if_true]
  exact hR
 ·intro d R c h1 hd amc hq hR
  refine Ev.step (fun k=>by simp only [bS.l1];rfl) ?_
  simp only [fo,eI,hn,and_self,if_true,(O0 D c d).2 hq,aeA hn]
  exact Ev.bind (Pp n hn L hL h.sym c (Cg amc) (jq n D d)) hR
 ·intro d R c h1 hd amc hq hR
  refine Ev.step (fun k=>by simp only [bS.l1];rfl) ?_
  have e:bS.sK (aA n fun v=>(D v:Int)) (aA n c) (d:Int) n=false:=by
   cases e:bS.sK (aA n fun v=>(D v:Int)) (aA n c) (d:Int) n with
   | false=>rfl
   | true=>exact absurd ((O0 D c d).1 e) hq
  simp only [fo,eI,hn,and_self,if_true,e,Bool.false_eq_true,if_false,wI ((d:Int) - 1) (by omega)]
  refine Ev.congr (fun k=>?_) hR
  rw [show ((d - 1:Nat):Int)=(d:Int) - 1 by omega]
 ·intro c amc
  have hB:=W_ n hn L hL h.off (aA n c) (eI _ _) (q:Int)
  cases e:zu n L (aA n c) q with
  | true =>
   obtain ⟨h1,h2,h3⟩:=adx h.off e
   refine Or.inl ⟨_,h1,h2,h3,fun R hR=>?_⟩
   refine Ev.step (fun k=>by simp only [bS.l0];rfl) ?_
   simp only [show ¬ ((((0:Nat):Int)) > 0) by omega,if_false]
   refine Ev.step (fun k=>by simp only [bS.l2];rfl) ?_
   refine Ev.bind hB ?_
   simp only [e,if_true]
   refine Ev.bind (Pp n hn L hL h.sym c (Cg amc) _) ?_
   obtain ⟨K,hK⟩:=hR
   refine ⟨K,fun k hk=>?_⟩
   have:=hK (k+1) (by omega)
   simp only [bS.l0,show ¬ ((((0:Nat):Int)) > 0) by omega,if_false] at this
   exact this
  | false =>
   refine Or.inr ⟨adw h.off e,?_⟩
   refine Ev.step (fun k=>by simp only [bS.l0];rfl) ?_
   simp only [show ¬ ((((0:Nat):Int)) > 0) by omega,if_false]
   refine Ev.step (fun k=>by simp only [bS.l2];rfl) ?_
   refine Ev.bind hB ?_
   simp only [e,Bool.false_eq_true,if_false]
   exact Ev.now _
theorem acS (n : Nat) (hn : n ≤ 8) {L : Nat → Nat → Int} (h : d_ n L) (hL : ∀ u w, -20 ≤ L u w ∧ L u w ≤ 20) {q : Nat} {D : Nat → Nat} (hD : ni n L q D) (hds : Ev (fun k => als.f k (bY n L) (q : Int)) (aA n fun v => (D v : Int))) (c : Nat → Int) (hb : mC n c 4000) :
  ∃ c',pU n L q c'∧jF n L c c'∧Ev (fun k=>bS.f k (bY n L) (aA n c) (q:Int)) (aA n c'):=by
 obtain ⟨c',hr,he,hE⟩:=acT n hn h hL hD c hb
 refine ⟨c',hr,he,?_⟩
 unfold bS.f
 rw [K_ _ (by rw [eI];omega)]
 simp only [Option.bind_some,fo]
 exact Ev.bind hds hE
theorem OU {n:Nat} {S T:Nat→Bool} (h:∀ y,y < n→S y=true→T y=true):iH n S≤iH n T:=by
 induction n with
 | zero=>exact Nat.le_refl _
 | succ n ih =>
  have h1:=ih (fun y hy=>h y (by omega))
  rw [yy,yy]
  by_cases e:S n=true
  ·rw [if_pos e,if_pos (h n (by omega) e)];omega
  ·rw [if_neg e];split<;>omega
theorem OT (n:Nat) (T:Nat→Bool):iH n T≤n:=by
 induction n with
 | zero=>exact Nat.le_refl _
 | succ n ih=>rw [yy];split<;>omega
structure DI (n:Nat) (L:Nat→Nat→Int) (q:Nat) (f:Nat→Int) (d v w:Nat):Prop where
 z:f q=0
 r:∀ x,x < n→f x=-1∨(0≤f x∧f x≤(d:Int)+1)
 u:∀ x,x < n→x ≠ q→0≤f x→∃ y,y < n∧0≤f y∧f y=f x - 1∧L x y≤-1
 c:∀ x,x < n→0≤f x→f x < (d:Int)→∀ y,y < n→L x y≤-1→0≤f y
 p:∀ x y,x < n→y < n→f x=(d:Int)→(x < v∨(x=v∧y < w))→L x y≤-1→0≤f y
theorem Uv {n:Nat} {L:Nat→Nat→Int} (hs:∀ i j,L i j=L j i) {q:Nat} {f:Nat→Int} {d v w:Nat} (h:DI n L q f d v w) (hv:v < n) (hw:w < n) (uC:f v=(d:Int)) (hL:L v w≤-1) (hfw:f w < 0):DI n L q (fun j=>if j=w then (d:Int)+1 else f j) d v (w+1):=by
 have hw1:f w=-1:=by have:=h.r w hw;omega
 have Bh:∀ y,0≤f y→0≤(if y=w then (d:Int)+1 else f y):=fun y hy=>by split<;>omega
 refine ⟨?_,fun x hx=>?_,fun x hx hq h0=>?_,fun x hx h0 h1 y hy hxy=>?_,fun x y hx hy rj hxy ZW=>?_⟩
 ·show (if q = w then (d : Int) + 1 else f q) = 0
  rw [if_neg (fun e=>by rw [← e,h.z] at hfw;omega)]
  exact h.z
 ·show (if x = w then (d : Int) + 1 else f x) = -1 ∨ _
  by_cases e:x=w
  ·simp only [if_pos e];omega
  ·simp only [if_neg e];exact h.r x hx
 ·by_cases e : x = w
  ·subst e
   refine ⟨v,hv,?_,?_,?_⟩
   ·exact Bh v (by omega)
   ·simp only [if_pos, if_neg (show ¬ v = x from fun e2 => by rw [e2, hw1] at uC; omega)]
    omega
   ·rw [hs];exact hL
  ·simp only [if_neg e] at h0 ⊢
   obtain ⟨y,hy,hy0,vV,vU⟩:=h.u x hx hq h0
   have e2:¬ y=w:=fun e2=>by rw [e2,hw1] at hy0;omega
   exact ⟨y,hy,by rw [if_neg e2];exact hy0,by rw [if_neg e2];exact vV,vU⟩
 ·by_cases e : x = w
  ·simp only [if_pos e] at h1;omega
  ·simp only [if_neg e] at h0 h1
   exact Bh y (h.c x hx h0 h1 y hy hxy)
 ·by_cases e : x = w
  ·simp only [if_pos e] at rj;omega
  ·simp only [if_neg e] at rj
   by_cases e2:y=w
   ·simp only [if_pos e2];omega
   ·exact Bh y (h.p x y hx hy rj (by omega) ZW)
theorem M3 {n:Nat} {L:Nat→Nat→Int} {q:Nat} {f:Nat→Int} {d v w:Nat} (h:DI n L q f d v w) (hs:L v w≤-1→0≤f w):DI n L q f d v (w+1) :=
 ⟨h.z,h.r,h.u,h.c,fun x y hx hy rj hxy hL=>by
  by_cases e:x=v∧y=w
  ·rw [e.2];rw [e.1,e.2] at hL;exact hs hL
  ·exact h.p x y hx hy rj (by omega) hL⟩
theorem Uu {n:Nat} {L:Nat→Nat→Int} {q:Nat} {f:Nat→Int} {d v:Nat} (h:DI n L q f d v n):DI n L q f d (v+1) 0 :=
 ⟨h.z,h.r,h.u,h.c,fun x y hx hy rj hxy hL=>h.p x y hx hy rj (by omega) hL⟩
theorem Us {n:Nat} {L:Nat→Nat→Int} {q:Nat} {f:Nat→Int} {d v:Nat} (h:DI n L q f d v 0) (hv:f v ≠ (d:Int)):DI n L q f d (v+1) 0 :=
 ⟨h.z,h.r,h.u,h.c,fun x y hx hy rj hxy hL=>by
  by_cases e:x=v
  ·rw [e] at rj;exact absurd rj hv
  ·exact h.p x y hx hy rj (by omega) hL⟩
theorem Ut {n:Nat} {L:Nat→Nat→Int} {q:Nat} {f:Nat→Int} {d:Nat} (h:DI n L q f d n 0):DI n L q f (d+1) 0 0 :=
 ⟨h.z,fun x hx=>by have:=h.r x hx;omega,h.u,fun x hx h0 h1 y hy hL=>by
  by_cases e:f x=(d:Int)
  ·exact h.p x y hx hy e (by omega) hL
  ·exact h.c x hx h0 (by omega) y hy hL,fun x y hx hy rj hxy hL=>by omega⟩
theorem aez (n : Nat) (hn : n ≤ 8) {L : Nat → Nat → Int} (hs : ∀ i j, L i j = L j i) (q d v : Nat) (hd : d < n) (hv : v < n)
  (next:∀ f',DI n L q f' d (v+1) 0→∃ g,DI n L q g n 0 0∧Ev (fun k=>als.l2 k (bY n L) (aA n f') d ((v+1:Nat):Int)) (aA n g)) :
  ∀ (t w:Nat) (f:Nat→Int),n - w=t→w≤n→DI n L q f d v w→f v=(d:Int)→∃ g,DI n L q g n 0 0∧Ev (fun k=>als.l3 k (bY n L) (aA n f) d v w) (aA n g):=by
 intro t
 induction t with
 | zero =>
  intro w f ht hw h uC
  obtain rfl:w=n:=by omega
  obtain ⟨g,hg,hE⟩:=next f (Uu h)
  refine ⟨g,hg,?_⟩
  refine Ev.step (fun k=>by simp only [als.l3];rfl) ?_
  simp only [fo,Int.lt_irrefl,if_false]
  refine Ev.step (fun k=>by simp only [als.j4];rfl) ?_
  simp only [Bool.false_eq_true,if_false,wI ((v:Int)+1) (by omega)]
  exact hE
 | succ t ih =>
  intro w f ht hw h uC
  have hwn:w < n:=by omega
  have start:∀ R,Ev (fun k=>if L v w < 0 then (if f w < 0 then als.l3 k (bY n L) ((aA n f).set w ((d:Int)+1)) d v ((w:Int)+1) else als.l3 k (bY n L) (aA n f) d v ((w:Int)+1)) else als.l3 k (bY n L) (aA n f) d v ((w:Int)+1)) R→Ev (fun k=>als.l3 k (bY n L) (aA n f) d v w) R:=by
   intro R hR
   refine Ev.step (fun k=>by simp only [als.l3];rfl) ?_
   simp only [fo,eI,lI w n (by omega),if_true,cB v,lI v n (by omega),fO hv,uC,beq_self_eq_true]
   refine Ev.step (fun k=>by simp only [als.j4];rfl) ?_
   simp only [fo,eI,if_true,cB v,lI v n (by omega),cB w,lI w n (by omega),nR hv,fO hwn,Int.toNat_natCast,wI ((w:Int)+1) (by omega),wI ((d:Int)+1) (by omega)]
   exact hR
  by_cases e1:L v w < 0
  ·by_cases e2 : f w < 0
   ·obtain ⟨g,hg,hE⟩:=ih (w+1) (fun j=>if j=w then (d:Int)+1 else f j) (by omega) (by omega) (Uv hs h hv hwn uC (by omega) e2) (by
     show (if v=w then (d:Int)+1 else f v)=(d:Int)
     rw [if_neg (fun e=>by rw [← e,uC] at e2;omega)]
     exact uC)
    refine ⟨g,hg,start _ ?_⟩
    simp only [if_pos e1,if_pos e2,qF]
    exact hE
   ·obtain ⟨g, hg, hE⟩ := ih (w + 1) f (by omega) (by omega) (M3 h (fun _ => by omega)) uC
    refine ⟨g,hg,start _ ?_⟩
    simp only [if_pos e1,if_neg e2]
    exact hE
  ·obtain ⟨g, hg, hE⟩ := ih (w + 1) f (by omega) (by omega) (M3 h (fun hL => by omega)) uC
   refine ⟨g,hg,start _ ?_⟩
   simp only [if_neg e1]
   exact hE
theorem aey (n : Nat) (hn : n ≤ 8) {L : Nat → Nat → Int} (hs : ∀ i j, L i j = L j i) (q d : Nat) (hd : d < n)
  (next:∀ f',DI n L q f' (d+1) 0 0→∃ g,DI n L q g n 0 0∧Ev (fun k=>als.l1 k (bY n L) (aA n f') ((d+1:Nat):Int)) (aA n g)) :
  ∀ (t v:Nat) (f:Nat→Int),n - v=t→v≤n→DI n L q f d v 0→∃ g,DI n L q g n 0 0∧Ev (fun k=>als.l2 k (bY n L) (aA n f) d v) (aA n g):=by
 intro t
 induction t with
 | zero =>
  intro v f ht hv h
  obtain rfl:v=n:=by omega
  obtain ⟨g,hg,hE⟩:=next f (Ut h)
  refine ⟨g,hg,?_⟩
  refine Ev.step (fun k=>by simp only [als.l2];rfl) ?_
  simp only [fo,Int.lt_irrefl,if_false,wI ((d:Int)+1) (by omega)]
  exact hE
 | succ t ih =>
  intro v f ht hv h
  have gq:v < n:=by omega
  by_cases e:f v=(d:Int)
  ·obtain ⟨g, hg, hE⟩ := aez n hn hs q d v hd gq (fun f' h' => ih (v + 1) f' (by omega) (by omega) h') n 0 f (by omega) (by omega) h e
   refine ⟨g,hg,?_⟩
   refine Ev.step (fun k=>by simp only [als.l2];rfl) ?_
   simp only [fo,lI v n (by omega),if_true]
   exact hE
  ·obtain ⟨g, hg, hE⟩ := ih (v + 1) f (by omega) (by omega) (Us h e)
   refine ⟨g,hg,?_⟩
   refine Ev.step (fun k=>by simp only [als.l2];rfl) ?_
   simp only [fo,lI v n (by omega),if_true]
   refine Ev.step (fun k=>by simp only [als.l3];rfl) ?_
   simp only [fo,eI,show ((0:Int) < (n:Int)) by omega,if_true,cB v,lI v n (by omega),fO gq,beq_eq_false_iff_ne.mpr e]
   refine Ev.step (fun k=>by simp only [als.j4];rfl) ?_
   simp only [Bool.false_eq_true,if_false,wI ((v:Int)+1) (by omega)]
   exact hE
theorem aex (n:Nat) (hn:n≤8) {L:Nat→Nat→Int} (hs:∀ i j,L i j=L j i) (q:Nat):∀ (t d:Nat) (f:Nat→Int),n - d=t→d≤n→DI n L q f d 0 0→∃ g,DI n L q g n 0 0∧Ev (fun k=>als.l1 k (bY n L) (aA n f) d) (aA n g):=by
 intro t
 induction t with
 | zero =>
  intro d f ht hd h
  obtain rfl:d=n:=by omega
  refine ⟨f,h,?_⟩
  refine Ev.step (fun k=>by simp only [als.l1];rfl) ?_
  simp only [fo,Int.lt_irrefl,if_false]
  exact Ev.now _
 | succ t ih =>
  intro d f ht hd h
  obtain ⟨g,hg,hE⟩:=aey n hn hs q d (by omega) (fun f' h'=>ih (d+1) f' (by omega) (by omega) h') n 0 f (by omega) (by omega) h
  refine ⟨g,hg,?_⟩
  refine Ev.step (fun k=>by simp only [als.l1];rfl) ?_
  simp only [fo,lI d n (by omega),if_true]
  exact hE
theorem aew (n : Nat) (hn : n ≤ 8) (L : Nat → Nat → Int) (q : Nat) (hq : q < n) (R : List Int) (next : Ev (fun k => als.l1 k (bY n L) (aA n fun j => if j = q then 0 else -1) 0) R) :
  ∀ (t v:Nat),n - v=t→v≤n→Ev (fun k=>als.l0 k (bY n L) q (aA n fun j=>if j < v then -1 else 0) v) R:=by
 intro t
 induction t with
 | zero =>
  intro v ht hv
  obtain rfl:v=n:=by omega
  refine Ev.step (fun k=>by simp only [als.l0];rfl) ?_
  simp only [eI,Int.lt_irrefl,if_false,cB q,if_true,lI q v (by omega),Int.toNat_natCast,qF]
  rw [show (aA v fun j=>if j=q then (0:Int) else if j < v then -1 else 0)=aA v fun j=>if j=q then 0 else -1 from kj fun j hj=>by rw [if_pos hj]]
  exact next
 | succ t ih =>
  intro v ht hv
  have h1:=ih (v+1) (by omega) (by omega)
  refine Ev.step (fun k=>by simp only [als.l0];rfl) ?_
  simp only [eI,lI v n (by omega),if_true,cB v,Int.toNat_natCast,qF,wI ((v:Int)+1) (by omega)]
  rw [show (aA n fun j=>if j=v then (-1:Int) else if j < v then -1 else 0)=aA n fun j=>if j < v+1 then -1 else 0 from kj fun j hj=>by
   by_cases e:j=v
   ·rw [if_pos e,if_pos (by omega)]
   ·rw [if_neg e]
    by_cases e2:j < v
    ·rw [if_pos e2,if_pos (by omega)]
    ·rw [if_neg e2,if_neg (by omega)]]
  exact h1
theorem Uw {n:Nat} {L:Nat→Nat→Int} {q:Nat} (hq:q < n):DI n L q (fun j=>if j=q then 0 else -1) 0 0 0:=by
 refine ⟨if_pos rfl,fun x hx=>?_,fun x hx xH h0=>?_,fun x hx h0 h1=>?_,fun x y hx hy rj hxy=>by omega⟩
 ·show (if x = q then (0 : Int) else -1) = -1 ∨ _
  by_cases e:x=q
  ·simp only [if_pos e];omega
  ·exact Or.inl (if_neg e)
 ·simp only [if_neg xH] at h0;omega
 ·omega
theorem Uq {n:Nat} {L:Nat→Nat→Int} {q:Nat} {f:Nat→Int} {d v w:Nat} (h:DI n L q f d v w):∀ (j x:Nat),x < n→f x=(j:Int)→j+1≤iH n (fun y=>decide (0≤f y) && decide (f y≤(j:Int))):=by
 intro j
 induction j with
 | zero =>
  intro x hx hf
  have:=Cq (n:=n) (v:=x) (T:=fun y=>decide (0≤f y) && decide (f y≤((0:Nat):Int))) hx (by simp;omega)
  omega
 | succ j ih =>
  intro x hx hf
  have xH:x ≠ q:=fun e=>by rw [e,h.z] at hf;omega
  obtain ⟨y,hy,hy0,vV,_⟩:=h.u x hx xH (by omega)
  have h1:=ih y hy (by omega)
  have h2:=Cq (n:=n) (v:=x) (T:=fun y=>decide (0≤f y) && decide (f y≤((j+1:Nat):Int))) hx (by simp;omega)
  have h3:=OU (n:=n) (S:=fun y=>decide (0≤f y) && decide (f y≤(j:Int))) (T:=pg (fun y=>decide (0≤f y) && decide (f y≤((j+1:Nat):Int))) x) (fun z hz hS=>by
   simp only [Bool.and_eq_true,decide_eq_true_eq] at hS
   unfold pg
   rw [if_neg (fun e=>by rw [e] at hS;omega)]
   simp only [Bool.and_eq_true,decide_eq_true_eq]
   omega)
  omega
theorem anD {n:Nat} {L:Nat→Nat→Int} {q:Nat} {f:Nat→Int} {d v w:Nat} (h:DI n L q f d v w) {x:Nat} (hx:x < n):f x < n:=by
 by_cases e:0≤f x
 ·have h1 := Uq h (f x).toNat x hx (by omega)
  have h2:=OT n (fun y=>decide (0≤f y) && decide (f y≤((f x).toNat:Int)))
  omega
 ·omega
theorem Ur {n:Nat} {l:List (List Int)} (hE:endsIn n l) (h1:o_ (ja n l)=true) {q:Nat} (hq:q < n) {f:Nat→Int} (h:DI n (bu l l.length) q f n 0 0):(∀ v,v < n→f v=(((f v).toNat:Nat):Int))∧ni n (bu l l.length) q (fun v=>(f v).toNat):=by
 have hall:∀ v,v < n→0≤f v:=fun v hv=>by
  have hP:=R5 hE h1 (fun x=>0≤f x) (fun i hi u w hu hw=>by
   obtain ⟨_,u',w',Dy,hw',hun,hwn⟩:=hE i hi
   obtain rfl:u=u':=by omega
   obtain rfl:w=w':=by omega
   by_cases e:u=w
   ·rw [e]
   ·obtain ⟨ha, hb⟩ := Sr hE i hi u w hu hw e
    exact ⟨fun h0=>h.c u hun h0 (anD h hun) w hwn ha,fun h0=>h.c w hwn h0 (anD h hwn) u hun hb⟩) q v hq hv
  exact hP.1 (by show 0≤f q;rw [h.z];exact Int.le_refl _)
 refine ⟨fun v hv=>by have:=hall v hv;omega,hq,by show (f q).toNat=0;rw [h.z];rfl,fun v hv=>?_,fun v hv o6=>?_⟩
 ·have := anD h hv
  show (f v).toNat≤n
  omega
 ·obtain ⟨y, hy, hy0, vV, vU⟩ := h.u v hv o6 (hall v hv)
  exact ⟨y,hy,by show (f y).toNat < (f v).toNat;omega,vU⟩
theorem acO (n : Nat) (hn : n ≤ 8) (l : List (List Int)) (hE : endsIn n l) (hl : l.length ≤ 10) (h1 : o_ (ja n l) = true) (q : Nat) (hq : q < n) :
  ∃ D:Nat→Nat,ni n (bu l l.length) q D∧Ev (fun k=>als.f k (bY n (bu l l.length)) (q:Int)) (aA n fun v=>(D v:Int)):=by
 obtain ⟨g,hg,AQ⟩:=aex n hn (vY hE hl).sym q n 0 _ (by omega) (by omega) (Uw hq)
 obtain ⟨he,hD⟩:=Ur hE h1 hq hg
 refine ⟨fun v=>(g v).toNat,hD,?_⟩
 have h0:=aew n hn (bu l l.length) q hq _ AQ n 0 (by omega) (by omega)
 rw [kj he] at h0
 unfold als.f
 simp only [fo,cB n,if_true,Int.toNat_natCast,show n≤35184372088832 by omega]
 rw [show List.replicate n (0:Int)=aA n (fun j=>if j < 0 then -1 else 0) from by
  refine List.ext_getElem (by simp [aA]) fun i h1 h2=>?_
  simp [aA]]
 exact h0
structure EI (n:Nat) (L:Nat→Nat→Int) (q:Nat) (f:Nat→Int):Prop where
 z:f q=0
 r:∀ x,x < n→0≤f x∧f x≤(n:Int)
 u:∀ x,x < n→x ≠ q→f x=(n:Int)∨∃ y,y < n∧f y < f x∧L x y≤-1
def kN (f:Nat→Int) (u v:Nat):Nat→Int:=fun j=>if j=u then mn (f u) (f v+1) else f j
theorem SE (a b:Int):mn a b≤a∧mn a b≤b:=by unfold mn;split<;>omega
theorem tU (f:Nat→Int) (u v x:Nat):kN f u v x≤f x:=by
 unfold kN
 by_cases e:x=u
 ·rw [if_pos e,e];exact (SE _ _).1
 ·rw [if_neg e];exact Int.le_refl _
theorem S_ (f:Nat→Int) (u v:Nat):kN f u v u≤f v+1:=by
 unfold kN
 rw [if_pos rfl]
 exact (SE _ _).2
theorem M4 {n:Nat} {L:Nat→Nat→Int} {q:Nat} {f:Nat→Int} (h:EI n L q f) {u v:Nat} (hu:u < n) (hv:v < n) (hL:u ≠ v→L u v≤-1):EI n L q (kN f u v):=by
 have uC:=h.r v hv
 have FW:=h.r u hu
 have hval:kN f u v u=f u∨(kN f u v u=f v+1∧f v+1 < f u):=by
  unfold kN mn
  rw [if_pos rfl]
  split<;>omega
 have KS:∀ x,x ≠ u→kN f u v x=f x:=fun x hx=>if_neg hx
 refine ⟨?_,fun x hx=>?_,fun x hx xH=>?_⟩
 ·by_cases e : q = u
  ·have hz := h.z
   rw [e] at hz ⊢
   omega
  ·rw [KS q e];exact h.z
 ·by_cases e : x = u
  ·rw [e];omega
  ·rw [KS x e];exact h.r x hx
 ·by_cases e : x = u
  ·rcases hval with h1 | ⟨h1, h2⟩
   ·rw [show kN f u v x = f x from by rw [e]; exact h1]
    rcases h.u x hx xH with h3|⟨y,hy,vV,vU⟩
    ·exact Or.inl h3
    ·exact Or.inr ⟨y,hy,Int.lt_of_le_of_lt (tU f u v y) vV,vU⟩
   ·refine Or.inr ⟨v, hv, ?_, ?_⟩
    ·have := tU f u v v
     rw [e,h1]
     omega
    ·rw [e]
     exact hL (fun e2=>by rw [e2] at h2;omega)
  ·rw [KS x e]
   rcases h.u x hx xH with h3|⟨y,hy,vV,vU⟩
   ·exact Or.inl h3
   ·exact Or.inr ⟨y,hy,Int.lt_of_le_of_lt (tU f u v y) vV,vU⟩
/-- What a round knows at edge i: nearer than before, and the edges told their ends. -/
def GF (l:List (List Int)) (f g:Nat→Int) (i:Nat):Prop:=(∀ x,g x≤f x)∧∀ j,j < i→∀ u v:Nat,rd (ah l (j:Int)) 0=u→rd (ah l (j:Int)) 1=v→g u≤f v+1∧g v≤f u+1
theorem aco (n : Nat) (j8 : 1 ≤ n) (hn : n ≤ 8) (l : List (List Int)) (hl : l.length ≤ 10) (hE : endsIn n l) (q r : Nat) (hr : r < n) (f : Nat → Int)
  (next:∀ g,EI n (bu l l.length) q g→GF l f g l.length→∃ g',EI n (bu l l.length) q g'∧(∀ x,x < n→g' x < n)∧Ev (fun k=>cG.l0 k (aA n g) n ((r+1:Nat):Int) n l) (aA n g')) :
  ∀ (t i:Nat) (g:Nat→Int),l.length - i=t→i≤l.length→EI n (bu l l.length) q g→GF l f g i→∃ g',EI n (bu l l.length) q g'∧(∀ x,x < n→g' x < n)∧Ev (fun k=>cG.l1 k (aA n g) n r l l.length i n l) (aA n g'):=by
 intro t
 induction t with
 | zero =>
  intro i g ht hi h hm
  obtain rfl:i=l.length:=by omega
  obtain ⟨g',hg',hlt,oZ⟩:=next g h hm
  refine ⟨g',hg',hlt,?_⟩
  refine Ev.step (fun k=>by simp only [cG.l1];rfl) ?_
  simp only [Int.lt_irrefl,if_false,wI ((r:Int)+1) (by omega)]
  exact oZ
 | succ t ih =>
  intro i g ht hi h hm
  have hin:i < l.length:=by omega
  obtain ⟨hlen,u,v,hu,hv,hun,gq⟩:=hE i hin
  have hgu:=h.r u hun
  have hgv:=h.r v gq
  have hd:u ≠ v→bu l l.length u v≤-1∧bu l l.length v u≤-1:=Sr hE i hin u v hu hv
  have PY:=M4 h hun gq (fun e=>(hd e).1)
  have ZP:=M4 PY gq hun (fun e=>(hd (fun e2=>e e2.symm)).2)
  have aiB:=PY.r u hun
  have hm2:GF l f (kN (kN g u v) v u) (i+1):=by
   refine ⟨fun x=>Int.le_trans (tU _ _ _ _) (Int.le_trans (tU _ _ _ _) (hm.1 x)),fun j hj u' v' Dy hv'=>?_⟩
   by_cases e:j=i
   ·subst e
    obtain rfl:u=u':=by omega
    obtain rfl:v=v':=by omega
    have h1:=tU (kN g u v) v u u
    have h2:=S_ g u v
    have h3:=S_ (kN g u v) v u
    have h4:=tU g u v u
    have h5:=hm.1 u
    have h6:=hm.1 v
    omega
   ·obtain ⟨h1, h2⟩ := hm.2 j (by omega) u' v' Dy hv'
    have h3:=tU (kN g u v) v u u'
    have h4:=tU g u v u'
    have h5:=tU (kN g u v) v u v'
    have h6:=tU g u v v'
    omega
  obtain ⟨g',hg',hlt,oZ⟩:=ih (i+1) (kN (kN g u v) v u) (by omega) (by omega) ZP hm2
  refine ⟨g',hg',hlt,?_⟩
  refine Ev.step (fun k=>by simp only [cG.l1];rfl) ?_
  simp only [show ((i:Int) < (l.length:Int)) by omega,if_true,cB i,hlen,hu,hv,show (0:Int) < ((2:Nat):Int) by decide,show (1:Int) < ((2:Nat):Int) by decide,cB u,cB v,eI,lI u n (by omega),lI v n (by omega),fO hun,fO gq,Int.toNat_natCast,wI (g v+1) (by omega),qF,Option.bind_some,wI ((i:Int)+1) (by omega)]
  have e1:mn (g u) (g v+1)=kN g u v u:=(if_pos rfl).symm
  have e2:(if v=u then kN g u v u else g v)=kN g u v v:=by
   show _=(if v=u then mn (g u) (g v+1) else g v)
   rw [e1]
  rw [e1,e2,wI (kN g u v u+1) (by omega)]
  refine Ev.congr (fun k=>?_) oZ
  rw [show ((i+1:Nat):Int)=(i:Int)+1 by omega]
  congr 1
  refine kj fun j hj=>?_
  show _=(if j=v then mn (kN g u v v) (kN g u v u+1) else kN g u v j)
  by_cases e3:j=v
  ·rw [if_pos e3,if_pos e3]
  ·rw [if_neg e3, if_neg e3]
   by_cases e4:j=u
   ·rw [if_pos e4,e4]
   ·rw [if_neg e4]
    exact (if_neg e4).symm
theorem acm {n : Nat} {l : List (List Int)} (hE : endsIn n l) (h1 : o_ (ja n l) = true) {q : Nat} (hq : q < n) {f g : Nat → Int} (hf : EI n (bu l l.length) q f) {r : Nat} (hr : r < n) (hm : GF l f g l.length)
  (h:r+1≤iH n (fun x=>decide (f x≤(r:Int)))∨∀ x,x < n→f x < (n:Int)):r+1+1≤iH n (fun x=>decide (g x≤((r+1:Nat):Int)))∨∀ x,x < n→g x < (n:Int):=by
 rcases h with h|h
 ·by_cases hall : ∀ x, x < n → g x < (n : Int)
  ·exact Or.inr hall
  ·left
   obtain ⟨y,hy,vV,hyg⟩:∃ y,y < n∧(r:Int) < f y∧g y≤((r+1:Nat):Int):=by
    by_cases hno:∃ y,y < n∧(r:Int) < f y∧g y≤((r+1:Nat):Int)
    ·exact hno
    ·refine absurd (fun x hx => ?_) hall
     have hP:=R5 hE h1 (fun x=>f x≤(r:Int)) (fun i hi u w hu hw=>by
      obtain ⟨_,u',w',Dy,hw',hun,hwn⟩:=hE i hi
      obtain rfl:u=u':=by omega
      obtain rfl:w=w':=by omega
      obtain ⟨ha,hb⟩:=hm.2 i hi u w hu hw
      constructor
      ·intro h0
       by_cases e:f w≤(r:Int)
       ·exact e
       ·exact absurd ⟨w,hwn,by omega,by omega⟩ hno
      ·intro h0
       by_cases e:f u≤(r:Int)
       ·exact e
       ·exact absurd ⟨u,hun,by omega,by omega⟩ hno) q x hq hx
     have h2:f x≤(r:Int):=hP.1 (by show f q≤(r:Int);rw [hf.z];omega)
     have h3:=hm.1 x
     omega
   have h2:=Cq (n:=n) (v:=y) (T:=fun x=>decide (g x≤((r+1:Nat):Int))) hy (by simp only [decide_eq_true_eq];exact hyg)
   have h3:=OU (n:=n) (S:=fun x=>decide (f x≤(r:Int))) (T:=pg (fun x=>decide (g x≤((r+1:Nat):Int))) y) (fun z hz hS=>by
    simp only [decide_eq_true_eq] at hS
    unfold pg
    rw [if_neg (fun e=>by rw [e] at hS;omega)]
    simp only [decide_eq_true_eq]
    have:=hm.1 z
    omega)
   omega
 ·right
  intro x hx
  have h2:=h x hx
  have h3:=hm.1 x
  omega
theorem acn (n : Nat) (j8 : 1 ≤ n) (hn : n ≤ 8) (l : List (List Int)) (hl : l.length ≤ 10) (hE : endsIn n l) (h1 : o_ (ja n l) = true) (q : Nat) (hq : q < n) : ∀ (t r : Nat) (f : Nat → Int), n - r = t → r ≤ n → EI n (bu l l.length) q f →
  (r+1≤iH n (fun x=>decide (f x≤(r:Int)))∨∀ x,x < n→f x < (n:Int))→∃ g',EI n (bu l l.length) q g'∧(∀ x,x < n→g' x < n)∧Ev (fun k=>cG.l0 k (aA n f) n r n l) (aA n g'):=by
 intro t
 induction t with
 | zero =>
  intro r f ht hr h hc
  obtain rfl:r=n:=by omega
  refine ⟨f,h,?_,?_⟩
  ·rcases hc with hc | hc
   ·have := OT r (fun x => decide (f x ≤ (r : Int)))
    omega
   ·exact hc
  ·refine Ev.step (fun k => by simp only [cG.l0]; rfl) ?_
   simp only [Int.lt_irrefl,if_false]
   exact Ev.now _
 | succ t ih =>
  intro r f ht hr h hc
  obtain ⟨g',hg',hlt,oZ⟩:=aco n j8 hn l hl hE q r (by omega) f (fun g hg hm=>ih (r+1) g (by omega) (by omega) hg (acm hE h1 hq h (by omega) hm hc)) l.length 0 f (by omega) (by omega) h ⟨fun x=>Int.le_refl _,fun j hj=>absurd hj (Nat.not_lt_zero _)⟩
  refine ⟨g',hg',hlt,?_⟩
  refine Ev.step (fun k=>by simp only [cG.l0];rfl) ?_
  simp only [lI r n (by omega),if_true]
  exact oZ
theorem Ux {n:Nat} {L:Nat→Nat→Int} {q:Nat} (hq:q < n):EI n L q (fun j=>if j=q then 0 else (n:Int)):=by
 refine ⟨if_pos rfl,fun x hx=>?_,fun x hx xH=>Or.inl (if_neg xH)⟩
 show 0≤(if x=q then (0:Int) else (n:Int))∧(if x=q then (0:Int) else (n:Int))≤(n:Int)
 split<;>omega
theorem O1 (n : Nat) (j8 : 1 ≤ n) (hn : n ≤ 8) (l : List (List Int)) (hl : l.length ≤ 10) (hE : endsIn n l) (h1 : o_ (ja n l) = true) (q : Nat) (hq : q < n) :
  ∃ D:Nat→Nat,ni n (bu l l.length) q D∧Ev (fun k=>cG.f k n l (q:Int)) (aA n fun v=>(D v:Int)):=by
 obtain ⟨g,hg,hlt,oZ⟩:=acn n j8 hn l hl hE h1 q hq n 0 _ (by omega) (by omega) (Ux hq) (Or.inl (by
  have:=Cq (n:=n) (v:=q) (T:=fun x=>decide ((if x=q then (0:Int) else (n:Int))≤((0:Nat):Int))) hq (by simp)
  omega))
 refine ⟨fun v=>(g v).toNat,⟨hq,by show (g q).toNat=0;rw [hg.z];rfl,fun v hv=>by have:=hg.r v hv;show (g v).toNat≤n;omega,fun v hv o6=>?_⟩,?_⟩
 ·rcases hg.u v hv o6 with h2 | ⟨y, hy, vV, vU⟩
  ·have := hlt v hv
   omega
  ·have := hg.r y hy
   exact ⟨y,hy,by show (g y).toNat < (g v).toNat;omega,vU⟩
 ·unfold cG.f wD.f
  simp only [List.length_singleton,true_and,show (1:Int)≤(n:Int) by omega,show (n:Int)≤1048576 by omega,and_self,if_true,Option.bind_some,Int.toNat_natCast,List.length_replicate,cB q,lI q n (by omega)]
  rw [show (List.replicate n (rd [(n:Int)] 0)).set q 0=aA n (fun j=>if j=q then 0 else (n:Int)) from by
   refine List.ext_getElem (by simp [aA]) fun i h1 h2=>?_
   rw [List.getElem_set]
   simp only [aA,List.getElem_map,List.getElem_range,List.getElem_replicate]
   by_cases e:q=i
   ·rw [if_pos e,if_pos e.symm]
   ·rw [if_neg e, if_neg (fun h => e h.symm)]
    rfl]
  rw [← kj (g:=fun v=>g v) (h:=fun v=>(((g v).toNat:Nat):Int)) (fun v hv=>by have:=(hg.r v hv).1;omega)]
  exact oZ
theorem Zd (n:Nat) (hn:n≤8) (l:List (List Int)) (hl:l.length≤10) (hE:endsIn n l) (c:Nat→Int) (hc:∀ v,v < n→alh (c v)≤100000000000000000) (m:Nat):Ev (fun k=>cC.f k n l (aA n c) (sL n m)) (AK n (bu l l.length) (aA n c) m):=by
 have h:=JJ n hn l hl hE c (sW m) hc (fun r _=>GG (fun i=>m.testBit i) r)
 rw [show (aA n fun w=>c w - bO n (tG (bu l l.length) (sW m) w))=AK n (bu l l.length) (aA n c) m from kj fun w hw=>by
  rw [fO hw,lA (g:=gW (bu l l.length) m w) (fun r _=>by
   unfold tG sW gW
   split<;>omega)]] at h
 exact h
theorem adz (n : Nat) (j8 : 1 ≤ n) (hn : n ≤ 8) (l : List (List Int)) (hl : l.length ≤ 10) (hE : endsIn n l) (c : Nat → Int) (hb : ∀ v, v < n → alh (c v) ≤ 100000000000000000) (q : Nat) (hq : q < n) : ∀ (d m : Nat), 2 ^ n - m = d → m ≤ 2 ^ n →
  ∃ R:List Int,Ev (fun k=>alv.l0 k (aA n c) (q:Int) ((2 ^ n:Nat):Int) m n l) R∧((R=[]∧∀ m',m≤m'→m' < 2 ^ n→¬ yG n (bu l l.length) (aA n c) q m')∨∃ m',m' < 2 ^ n∧yG n (bu l l.length) (aA n c) q m'∧R=sL n m'):=by
 have hP:=ad8 hn
 generalize 2 ^ n=P at hP ⊢
 intro d
 induction d with
 | zero =>
  intro m hd hm
  obtain rfl:m=P:=by omega
  refine ⟨[],?_,Or.inl ⟨rfl,fun m' h1 h2=>by omega⟩⟩
  refine Ev.step (fun k=>by simp only [alv.l0];rfl) ?_
  simp only [Int.lt_irrefl,if_false]
  exact Ev.now _
 | succ d ih =>
  intro m hd hm
  have hmP:m < P:=by omega
  obtain ⟨R,hR,hiff⟩:=ih (m+1) (by omega) (by omega)
  have e1:wrap64 ((m:Int)+1)=((m+1:Nat):Int):=jv (by omega) (by omega)
  have more:¬ yG n (bu l l.length) (aA n c) q m→((R=[]∧∀ m',m≤m'→m' < P→¬ yG n (bu l l.length) (aA n c) q m')∨∃ m',m' < P∧yG n (bu l l.length) (aA n c) q m'∧R=sL n m'):=by
   intro hg
   rcases hiff with ⟨h0,h⟩|h
   ·refine Or.inl ⟨h0, fun m' h1 h2 => ?_⟩
    by_cases e:m'=m
    ·rw [e];exact hg
    ·exact h m' (by omega) h2
   ·exact Or.inr h
  have skip:Ev (fun k=>alv.j1 k (aA n c) (q:Int) m P m true n l) R:=by
   refine Ev.step (fun k=>by simp only [alv.j1];rfl) ?_
   simp only [if_true,e1]
   exact hR
  by_cases h0:m=0
  ·refine ⟨R, ?_, more (fun h => h.1 h0)⟩
   refine Ev.step (fun k=>by simp only [alv.l0];rfl) ?_
   simp only [show ((m:Int) < (P:Int)) by omega,if_true]
   simp only [show ((m:Int)=0) by omega,if_true]
   have:=skip
   simp only [show ((m:Int)=0) by omega] at this
   exact this
  ·have first:∀ R',Ev (fun k=>alv.j1 k (aA n c) (q:Int) m P m (m.testBit q) n l) R'→Ev (fun k=>alv.l0 k (aA n c) (q:Int) (P:Int) m n l) R':=by
    intro R' h
    refine Ev.step (fun k=>by simp only [alv.l0];rfl) ?_
    simp only [show ((m:Int) < (P:Int)) by omega,if_true,show ¬ ((m:Int)=0) by omega,if_false,cB q,Ou m q (by omega) (by omega)]
    cases e:m.testBit q with
    | true=>rw [e] at h;simp only [if_true];exact h
    | false=>rw [e] at h;simp only [Bool.false_eq_true,if_false];exact h
   cases CZ:m.testBit q with
   | true =>
    rw [CZ] at first
    exact ⟨R,first R skip,more (fun h=>by rw [h.2.1] at CZ;exact absurd CZ (by decide))⟩
   | false =>
    rw [CZ] at first
    have go:∀ R',Ev (fun k=>if (true && okF n (bu l l.length) (aA n c) m n 0)=true then (if sL n m=[] then none else some (sL n m)) else alv.l0 k (aA n c) (q:Int) P (wrap64 ((m:Int)+1)) n l) R'→Ev (fun k=>alv.j1 k (aA n c) (q:Int) m P m false n l) R':=by
     intro R' h
     have h2:=adB n hn (bu l l.length) (aA n c) (q:Int) P m l R' n 0 true (by omega) (by omega) h
     have h1:=adA n hn (aA n c) (q:Int) P m (by omega) l _ R' (Zd n hn l hl hE c hb m) (by rw [show (AK n (bu l l.length) (aA n c) m).length=n from eI _ _];exact h2) n 0 (by omega) (by omega)
     refine Ev.step (fun k=>by simp only [alv.j1];rfl) ?_
     simp only [Bool.false_eq_true,if_false,cB n,if_true,Int.toNat_natCast,show n≤35184372088832 by omega,Option.bind_some,List.length_replicate]
     rw [show List.replicate n (0:Int)=aA n (fun w=>if w < 0 then sW m w else 0) from by
      refine List.ext_getElem (by simp [aA]) fun i h1 h2=>?_
      simp [aA]]
     exact h1
    have hne:sL n m ≠ []:=fun e=>by
     have h1:(sL n m).length=n:=eI _ _
     rw [e] at h1
     simp at h1
     omega
    cases hok:okF n (bu l l.length) (aA n c) m n 0 with
    | true =>
     refine ⟨sL n m,first _ (go _ ?_),Or.inr ⟨m,hmP,⟨h0,CZ,hok⟩,rfl⟩⟩
     simp only [hok,Bool.and_self,if_true,if_neg hne]
     exact Ev.now _
    | false =>
     refine ⟨R,first _ (go _ ?_),more (fun h=>by rw [h.2.2] at hok;exact absurd hok (by decide))⟩
     simp only [hok,Bool.and_false,Bool.false_eq_true,if_false,e1]
     exact hR
theorem ZH {n:Nat} {L:Nat→Nat→Int} (h:d_ n L) {c:Nat→Int} {q m:Nat} (hm:m < 2 ^ n) (hg:yG n L (aA n c) q m):lawful L c n (fun i=>m.testBit i)∧m.testBit q=false∧∃ j,j < n∧m.testBit j=true:=by
 obtain ⟨h0,hq,hok⟩:=hg
 rw [SM] at hok
 refine ⟨fun v hv hS=>?_,hq,?_⟩
 ·have h1 := hok v (by omega) (by omega) hS
  rw [fO hv] at h1
  have h2:=GH h.sym v (h.sum v) (fun i=>m.testBit i)
  have h3:bO n (gW L m v)=ki L n (fun i=>m.testBit i) v:=by
   rw [← h2]
   rfl
  omega
 ·obtain ⟨j, hj⟩ := Nat.exists_testBit_of_ne_zero h0
  refine ⟨j,?_,hj⟩
  by_cases e:j < n
  ·exact e
  ·rw [Nat.testBit_lt_two_pow (Nat.lt_of_lt_of_le hm (Nat.pow_le_pow_right (by decide) (by omega)))] at hj
   exact absurd hj (by decide)
theorem adt {n:Nat} {L:Nat→Nat→Int} (h:d_ n L) {c:Nat→Int} {q:Nat} {S:Nat→Bool} (hl:lawful L c n S) (hq:S q=false) {j:Nat} (hj:j < n) (hS:S j=true):∃ m,m < 2 ^ n∧yG n L (aA n c) q m:=by
 refine ⟨rm n S,adF n S,fun e=>?_,by rw [GD,hq,Bool.and_false],?_⟩
 ·have := GD n S j
  rw [e,hS,decide_eq_true hj] at this
  simp at this
 ·rw [SM]
  intro v _ hv hb
  have gq:v < n:=by omega
  rw [GD,Bool.and_eq_true] at hb
  have h1:=hl v gq hb.2
  have h2:=GH h.sym v (h.sum v) S
  rw [fO gq]
  have h3:bO n (gW L (rm n S) v)=ki L n S v:=by
   rw [← h2]
   refine lA fun r hr=>?_
   unfold gW
   rw [GD,decide_eq_true hr,Bool.true_and]
  omega
theorem ady (n : Nat) (j8 : 1 ≤ n) (hn : n ≤ 8) (l : List (List Int)) (hl : l.length ≤ 10) (hE : endsIn n l) (c : Nat → Int) (hb : ∀ v, v < n → alh (c v) ≤ 100000000000000000) (q : Nat) (hq : q < n) :
  (Ev (fun k=>alv.f k n l (aA n c) (q:Int)) []∧∀ S:Nat→Bool,lawful (bu l l.length) c n S→S q=false→∀ j,j < n→S j=false) ∨
  ∃ S:Nat→Bool,lawful (bu l l.length) c n S∧S q=false∧(∃ j,j < n∧S j=true)∧Ev (fun k=>alv.f k n l (aA n c) (q:Int)) (aA n (gF S)):=by
 have hM:=vY hE hl
 obtain ⟨R,hR,h⟩:=adz n j8 hn l hl hE c hb q hq (2 ^ n) 0 (Nat.sub_zero _) (Nat.zero_le _)
 have oZ:Ev (fun k=>alv.f k n l (aA n c) (q:Int)) R:=by
  unfold alv.f
  simp only [cB n,if_true,aeE n hn]
  exact hR
 rcases h with ⟨h0,h⟩|⟨m,hm,hg,hRm⟩
 ·rw [h0] at oZ
  refine Or.inl ⟨oZ,fun S hS AU j hj=>?_⟩
  cases e:S j with
  | false=>rfl
  | true =>
   obtain ⟨m,hm,hg⟩:=adt hM hS AU hj e
   exact absurd hg (h m (by omega) hm)
 ·obtain ⟨h1, h2, h3⟩ := ZH hM hm hg
  rw [hRm] at oZ
  exact Or.inr ⟨fun i=>m.testBit i,h1,h2,h3,oZ⟩
theorem Zg (n:Nat) (hn:n≤8):∀ (t i:Nat),n - i=t→i≤n→Ev (fun k=>alQ.l0 k (aA i fun v=>(v:Int)) n i) (aA n fun v=>(v:Int)):=by
 intro t
 induction t with
 | zero =>
  intro i ht hi
  obtain rfl:i=n:=by omega
  refine Ev.step (fun k=>by simp only [alQ.l0];rfl) ?_
  simp only [Int.lt_irrefl,if_false]
  exact Ev.now _
 | succ t ih =>
  intro i ht hi
  have h1:=ih (i+1) (by omega) (by omega)
  refine Ev.step (fun k=>by simp only [alQ.l0];rfl) ?_
  simp only [lI i n (by omega),if_true,eI,show i < 17592186044416 by omega,wI ((i:Int)+1) (by omega)]
  have e:=Bz i (fun v=>(v:Int))
  rw [e]
  exact h1
theorem Pr (n:Nat) (hn:n≤8) (l:List (List Int)):Ev (fun k=>alQ.f k n l) (aA n fun v=>(v:Int)):=by
 unfold alQ.f
 exact Zg n hn n 0 (by omega) (by omega)
theorem S5 (n:Nat) (D:Nat→Nat) (c:Nat→Int) (d:Nat) (b:Bool) (hb:b=true↔ami n D c d):Ev (fun k=>nX.f k (aA n fun v=>(v:Int)) (aA n fun v=>(D v:Int)) (d:Int) (aA n c)) b:=by
 refine ⟨0,fun k _=>?_⟩
 show nX.f k (aA n fun v=>(v:Int)) (aA n fun v=>(D v:Int)) (d:Int) (aA n c)=some b
 unfold nX.f
 rw [if_pos (by
  rw [List.all_eq_true]
  intro x hx
  unfold aA at hx
  rw [List.mem_map] at hx
  obtain ⟨v,hv,rfl⟩:=hx
  rw [List.mem_range] at hv
  simp only [eI,Bool.and_eq_true,decide_eq_true_eq]
  omega)]
 congr 1
 have key:(aA n fun v=>(v:Int)).any (vF (aA n fun v=>(D v:Int)) (d:Int) (aA n c))=true↔ami n D c d:=by
  rw [List.any_eq_true]
  constructor
  ·rintro ⟨x, hx, h⟩
   unfold aA at hx
   rw [List.mem_map] at hx
   obtain ⟨v,hv,rfl⟩:=hx
   rw [List.mem_range] at hv
   unfold vF at h
   rw [fO hv,fO hv,Bool.and_eq_true,beq_iff_eq,decide_eq_true_eq] at h
   exact ⟨v,hv,by omega,h.2⟩
  ·rintro ⟨v, hv, h1, h2⟩
   refine ⟨(v:Int),?_,?_⟩
   ·unfold aA
    exact List.mem_map.2 ⟨v,List.mem_range.2 hv,rfl⟩
   ·unfold vF
    rw [fO hv,fO hv,Bool.and_eq_true,beq_iff_eq,decide_eq_true_eq]
    exact ⟨by omega,h2⟩
 rw [Bool.eq_iff_iff,key,hb]
theorem aen (n : Nat) (hn : n ≤ 8) (l : List (List Int)) (q : Nat) (D : Nat → Nat) (c : Nat → Int) (d : Nat) (R : List Int)
  (next:Ev (fun k=>bV.l2 k (q:Int) (aA n (gF (jq n D d))) (aA n fun v=>(D v:Int)) n l (aA n c) (aA n fun v=>(D v:Int)) (d:Int)) R) :
  ∀ (t i:Nat),n - i=t→i≤n→Ev (fun k=>bV.l1 k (q:Int) (aA n fun v=>if v < i then gF (jq n D d) v else 0) (aA n fun v=>(D v:Int)) n i n l (aA n c) (aA n fun v=>(D v:Int)) (d:Int)) R:=by
 intro t
 induction t with
 | zero =>
  intro i ht hi
  obtain rfl:i=n:=by omega
  refine Ev.step (fun k=>by simp only [bV.l1];rfl) ?_
  simp only [Int.lt_irrefl,if_false]
  rw [show (aA i fun v=>if v < i then gF (jq i D d) v else 0)=aA i (gF (jq i D d)) from kj fun v hv=>if_pos hv]
  exact next
 | succ t ih =>
  intro i ht hi
  have hin:i < n:=by omega
  have h1:=ih (i+1) (by omega) (by omega)
  refine Ev.step (fun k=>by simp only [bV.l1];rfl) ?_
  simp only [lI i n (by omega),if_true,cB i,eI,fO hin,Int.toNat_natCast,qF,wI ((i:Int)+1) (by omega)]
  by_cases e:D i < d
  ·simp only [show ((D i : Int) < (d : Int)) by omega, if_true]
   rw [show (aA n fun j=>if j=i then (1:Int) else if j < i then gF (jq n D d) j else 0)=aA n fun v=>if v < i+1 then gF (jq n D d) v else 0 from kj fun j hj=>by
    by_cases e2:j=i
    ·rw [if_pos e2, if_pos (show j < i + 1 by omega), e2]
     unfold gF
     rw [if_pos (Sw.2 ⟨hin,e⟩)]
    ·rw [if_neg e2]
     by_cases e3:j < i
     ·rw [if_pos e3,if_pos (show j < i+1 by omega)]
     ·rw [if_neg e3,if_neg (show ¬ j < i+1 by omega)]]
   exact h1
  ·simp only [show ¬ ((D i : Int) < (d : Int)) by omega, if_false]
   rw [show (aA n fun v=>if v < i then gF (jq n D d) v else 0)=aA n fun v=>if v < i+1 then gF (jq n D d) v else 0 from kj fun j hj=>by
    by_cases e2:j=i
    ·rw [if_neg (show ¬ j < i by omega), if_pos (show j < i + 1 by omega), e2]
     unfold gF
     rw [if_neg (by rw [Lr (show d≤D i by omega)];decide)]
    ·by_cases e3 : j < i
     ·rw [if_pos e3,if_pos (show j < i+1 by omega)]
     ·rw [if_neg e3,if_neg (show ¬ j < i+1 by omega)]]
   exact h1
theorem aem (n : Nat) (j8 : 1 ≤ n) (hn : n ≤ 8) (l : List (List Int)) (hl : l.length ≤ 10) (hE : endsIn n l) {q : Nat} {D : Nat → Nat} (hD : ni n (bu l l.length) q D) (c : Nat → Int) (hb : mC n c 4000) :
  ∃ c',pU n (bu l l.length) q c'∧jF n (bu l l.length) c c'∧Ev (fun k=>bV.l0 k (q:Int) (aA n fun v=>(D v:Int)) n l (aA n c) (n:Int)) (aA n c'):=by
 have hM:=vY hE hl
 refine an0 hn hM hD (fun d R c=>Ev (fun k=>bV.l0 k (q:Int) (aA n fun v=>(D v:Int)) n l (aA n c) (d:Int)) R) (fun d R c=>Ev (fun k=>bV.l2 k (q:Int) (aA n (gF (jq n D d))) (aA n fun v=>(D v:Int)) n l (aA n c) (aA n fun v=>(D v:Int)) (d:Int)) R) ?_ ?_ ?_ ?_ c hb
 ·intro d R c h1 hd hR
  refine Ev.step (fun k=>by simp only [bV.l0];rfl) ?_
  simp only [show ((d:Int) > 0) by omega,if_true,cB n,Int.toNat_natCast,show n≤35184372088832 by omega,Option.bind_some,List.length_replicate]
  have h2:=aen n hn l q D c d R hR n 0 (by omega) (by omega)
  rw [show (aA n fun v=>if v < 0 then gF (jq n D d) v else 0)=List.replicate n (0:Int) from by
   refine List.ext_getElem (by simp [aA]) fun i h1 h2=>?_
   simp [aA]] at h2
  exact h2
 ·intro d R c h1 hd amc hq hR
  refine Ev.step (fun k=>by simp only [bV.l2];rfl) ?_
  refine Ev.bind (Pr n hn l) (Ev.bind (S5 n D c d true ⟨fun _=>hq,fun _=>rfl⟩) ?_)
  simp only [if_true]
  exact Ev.bind (Pq n hn l hl hE c (Cg amc) (jq n D d)) hR
 ·intro d R c h1 hd amc hq hR
  refine Ev.step (fun k=>by simp only [bV.l2];rfl) ?_
  refine Ev.bind (Pr n hn l) (Ev.bind (S5 n D c d false ⟨fun h=>absurd h (by decide),fun h=>absurd h hq⟩) ?_)
  simp only [Bool.false_eq_true,if_false,wI ((d:Int) - 1) (by omega)]
  refine Ev.congr (fun k=>?_) hR
  rw [show ((d - 1:Nat):Int)=(d:Int) - 1 by omega]
 ·intro c amc
  have start:∀ (t R:List Int),Ev (fun k=>alv.f k n l (aA n c) (q:Int)) t→Ev (fun k=>bV.l3 k (q:Int) t n l (aA n c)) R→Ev (fun k=>bV.l0 k (q:Int) (aA n fun v=>(D v:Int)) n l (aA n c) (((0:Nat):Int))) R:=by
   intro t R ht hR
   refine Ev.step (fun k=>by simp only [bV.l0];rfl) ?_
   simp only [show ¬ ((((0:Nat):Int)) > 0) by omega,if_false]
   exact Ev.bind ht hR
  rcases ady n j8 hn l hl hE c (Cg amc) q hD.1 with ⟨oZ,hno⟩|⟨S,h1,h2,h3,oZ⟩
  ·refine Or.inr ⟨hno, start _ _ oZ ?_⟩
   refine Ev.step (fun k=>by simp only [bV.l3];rfl) ?_
   simp only [List.length_nil,if_true,show (((0:Nat):Int)=0) by omega]
   exact Ev.now _
  ·refine Or.inl ⟨S, h1, h2, h3, fun R hR => start _ _ oZ ?_⟩
   refine Ev.step (fun k=>by simp only [bV.l3];rfl) ?_
   simp only [eI,show ¬ ((n:Int)=0) by omega,if_false]
   refine Ev.bind (Pq n hn l hl hE c (Cg amc) S) ?_
   obtain ⟨K,hK⟩:=hR
   refine ⟨K,fun k hk=>?_⟩
   have:=hK (k+1) (by omega)
   simp only [bV.l0,show ¬ ((((0:Nat):Int)) > 0) by omega,if_false] at this
   exact this
def zB (a m:Nat) (f:Nat→Nat→Int):List (List Int):=(List.range a).map fun i=>aA m (f i)
theorem L4 (a m:Nat) (f:Nat→Nat→Int):(zB a m f).length=a:=by simp [zB]
theorem Ta (a m:Nat) (f:Nat→Nat→Int):zB a m f ++ [aA m (f a)]=zB (a+1) m f:=by
 unfold zB
 rw [List.range_succ,List.map_append]
 rfl
theorem afp {m q:Nat} (hq:q < m+1) (g:Nat→Int):(aA (m+1) g).eraseIdx q=aA m (fun b=>g (aln q b)):=by
 refine List.ext_getElem ?_ fun i h1 h2=>?_
 ·rw [List.length_eraseIdx, eI, eI, if_pos hq]
  omega
 ·rw [List.getElem_eraseIdx]
  unfold aln
  simp only [aA,List.getElem_map,List.getElem_range]
  split<;>rfl
def nI (q i:Nat):Nat:=if i≤q then i else i - 1
theorem OV {q i:Nat} (h:i ≠ q):aln q (nI q i)=i:=by
 unfold aln nI
 by_cases e:i≤q
 ·rw [if_pos e,if_pos (by omega)]
 ·rw [if_neg e,if_neg (by omega)];omega
theorem Yc {q i:Nat} (h:i ≠ q):nI q (i+1)=nI q i+1:=by
 unfold nI
 by_cases e:i≤q
 ·rw [if_pos e,if_pos (by omega)]
 ·rw [if_neg e,if_neg (by omega)];omega
theorem Yb (q:Nat):nI q (q+1)=nI q q:=by
 unfold nI
 rw [if_neg (by omega),if_pos (Nat.le_refl _)]
 omega
theorem Ya (q i:Nat):nI q i≤i:=by unfold nI;split<;>omega
theorem acz {m q:Nat} (hq:q < m+1) (t:Nat→Int):qD (aA m t) (q:Int) 0=aA (m+1) (fun w=>if w=q then 0 else t (ke q w)):=by
 unfold qD
 rw [Int.toNat_natCast]
 refine List.ext_getElem ?_ fun i h1 h2=>?_
 ·simp [aA];omega
 ·have hi : i < m + 1 := by simpa [aA] using h2
  rw [List.getElem_append]
  unfold ke
  by_cases e:i < q
  ·rw [dif_pos (by simp [aA]; omega)]
   simp only [aA,List.getElem_map,List.getElem_range,List.getElem_take]
   rw [if_neg (by omega),if_pos e]
  ·rw [dif_neg (by simp [aA]; omega), List.getElem_cons]
   by_cases e2:i=q
   ·rw [dif_pos (by simp [aA]; omega)]
    simp only [aA,List.getElem_map,List.getElem_range]
    rw [if_pos e2]
   ·rw [dif_neg (by simp [aA]; omega)]
    simp only [aA,List.getElem_map,List.getElem_range,List.getElem_drop,List.length_take,List.length_map,List.length_range]
    rw [if_neg e2,if_neg e]
    congr 1
    omega
theorem Zi {a b:Int} (ha:-2000000000≤a∧a≤2000000000) (hb:-2000000000≤b∧b≤2000000000) (h0:b ≠ 0):wC.f a b=some (uw a b):=by
 unfold wC.f uw
 by_cases e:a < 0
 ·have h1:alh (Int.tdiv (-a+b - 1) b)≤alh (-a+b - 1):=by
   unfold alh
   have:=Int.natAbs_tdiv_le_natAbs (-a+b - 1) b
   omega
  unfold alh at h1
  rw [if_pos e,if_pos e,if_neg h0,wI (-a) (by omega),wI (-a+b) (by omega),wI (-a+b - 1) (by omega),wI (Int.tdiv (-a+b - 1) b) (by omega),jv (by omega) (by omega)]
 ·have h1:alh (Int.tdiv a b)≤alh a:=by
   unfold alh
   have:=Int.natAbs_tdiv_le_natAbs a b
   omega
  unfold alh at h1
  rw [if_neg e,if_neg e,if_neg h0,jv (by omega) (by omega)]
theorem Zo (m : Nat) (hm : m + 1 ≤ 8) (L : Nat → Nat → Int) (q : Nat) (c : Nat → Int) (l : List (List Int)) (X : List Int) (dt : Int) (j : Nat) (hj : j < m) (R : List Int)
  (next:Ev (fun k=>(bD.f k (bY m (alu (cY L q) j (fun b=>c (aln q b))))).bind fun t147=>(wC.f t147 dt).bind fun t148=>if (aA j (vI m L q c)).length < 17592186044416 then ct.l1 k X (q:Int) (bY m (cY L q)) (aA m fun b=>c (aln q b)) dt (aA j (vI m L q c) ++ [t148]) m (wrap64 ((j:Int)+1)) ((m+1:Nat):Int) l else none) R) :
  ∀ (t i:Nat),m - i=t→i≤m→Ev (fun k=>ct.l2 k X (q:Int) (bY m (cY L q)) (aA m fun b=>c (aln q b)) dt (aA j (vI m L q c)) j (zB i m (alu (cY L q) j (fun b=>c (aln q b)))) m j m i ((m+1:Nat):Int) l) R:=by
 intro t
 induction t with
 | zero =>
  intro i ht hi
  obtain rfl:i=m:=by omega
  refine Ev.step (fun k=>by simp only [ct.l2];rfl) ?_
  simp only [Int.lt_irrefl,if_false]
  exact next
 | succ t ih =>
  intro i ht hi
  have Di:i < m:=by omega
  have h1:=ih (i+1) (by omega) (by omega)
  refine Ev.step (fun k=>by simp only [ct.l2];rfl) ?_
  simp only [lI i m (by omega),if_true,cB i,fo,nR Di,kr.f,eI,show m < 17592186044416 by omega,Option.bind_some,cB j,lI j m (by omega),L4,show i < 5864062014805 by omega,Int.toNat_natCast,fO Di,qF,wI ((i:Int)+1) (by omega)]
  rw [show (aA m fun b=>if b=j then c (aln q i) else cY L q i b)=aA m (alu (cY L q) j (fun b=>c (aln q b)) i) from rfl,Ta]
  exact h1
theorem Zn (m : Nat) (hm : m + 1 ≤ 8) (l : List (List Int)) (hl : l.length ≤ 10) (hE : endsIn (m + 1) l) {q : Nat} {D : Nat → Nat} (hD : ni (m + 1) (bu l l.length) q D) (c : Nat → Int) (hc : ∀ v, v < m + 1 → alh (c v) ≤ 100000000000000000) (yM : ∀ v, v < m + 1 → v ≠ q → alh (c v) ≤ 200) :
  ∀ (t j:Nat),m - j=t→j≤m→Ev (fun k=>ct.l1 k (aA (m+1) c) (q:Int) (bY m (cY (bu l l.length) q)) (aA m fun b=>c (aln q b)) (aG m (cY (bu l l.length) q)) (aA j (vI m (bu l l.length) q c)) m j ((m+1:Nat):Int) l) (aA (m+1) (rU m (bu l l.length) q c)):=by
 have hM:=vY hE hl
 have hq:q < m+1:=hD.1
 have h0:=Jv (Jw hM hD)
 have hA:okB m (cY (bu l l.length) q):=.inl (anz hM hq)
 intro t
 induction t with
 | zero =>
  intro j ht hj
  obtain rfl:j=m:=by omega
  refine Ev.step (fun k=>by simp only [ct.l1];rfl) ?_
  simp only [Int.lt_irrefl,if_false,eI,show j < 17592186044416 by omega,true_and,cB q,show (q:Int)≤(j:Int) by omega,and_self,if_true]
  rw [acz hq]
  have hf:=JJ (j+1) hm l hl hE c (sN j (bu l l.length) q c) hc (fun r hr=>by
   unfold sN
   by_cases e:r=q
   ·rw [if_pos e];show (0:Int)≤1000000000000;decide
   ·rw [if_neg e]
    have hu:=Ee hq hr e
    have h1:=Cw (n:=j) (by omega) _ hA
    have h2:=Cw (n:=j) (by omega) _ (Py hm hM hq c yM (ke q r) hu)
    have h3:=Zh (aG j (alu (cY (bu l l.length) q) (ke q r) (fun b=>c (aln q b)))) (aG j (cY (bu l l.length) q)) h0
    unfold vI
    unfold alh at h3 ⊢
    omega)
  rw [show (aA (j+1) fun w=>c w - bO (j+1) (tG (bu l l.length) (sN j (bu l l.length) q c) w))=aA (j+1) (rU j (bu l l.length) q c) from kj fun w hw=>by
   unfold rU
   rw [lA (f:=tG (bu l l.length) (sN j (bu l l.length) q c) w) (g:=fun r=>bu l l.length w r * sN j (bu l l.length) q c r) (fun r _=>by
    unfold tG
    rw [hM.sym r w])]] at hf
  exact Ev.bind hf (Ev.now _)
 | succ t ih =>
  intro j ht hj
  have ani:j < m:=by omega
  have h1:=ih (j+1) (by omega) (by omega)
  have hB:=Py hm hM hq c yM j ani
  refine Ev.step (fun k=>by simp only [ct.l1];rfl) ?_
  simp only [lI j m (by omega),if_true,fo]
  refine Zo m hm (bu l l.length) q c l _ _ j ani _ ?_ m 0 (by omega) (by omega)
  refine Ev.bind (TF m (by omega) _ hB) ?_
  rw [Zi (Cw (by omega) _ hB) (Cw (by omega) _ hA) h0]
  simp only [Option.bind_some,eI,show j < 17592186044416 by omega,if_true,wI ((j:Int)+1) (by omega)]
  rw [show uw (aG m (alu (cY (bu l l.length) q) j (fun b=>c (aln q b)))) (aG m (cY (bu l l.length) q))=vI m (bu l l.length) q c j from rfl,Bz]
  exact h1
theorem Zm (m : Nat) (hm : m + 1 ≤ 8) (L : Nat → Nat → Int) {q : Nat} (hq : q < m + 1) (c : Nat → Int) (l : List (List Int)) (R : List Int)
  (next:Ev (fun k=>(bD.f k (bY m (cY L q))).bind fun t125=>ct.l1 k (aA (m+1) c) (q:Int) (bY m (cY L q)) (aA m fun b=>c (aln q b)) t125 [] m 0 ((m+1:Nat):Int) l) R) :
  ∀ (t i:Nat),m+1 - i=t→i≤m+1→Ev (fun k=>ct.l0 k (aA (m+1) c) (q:Int) (zB (nI q i) m (cY L q)) (aA (nI q i) fun b=>c (aln q b)) (bY (m+1) L) ((m+1:Nat):Int) i ((m+1:Nat):Int) l) R:=by
 intro t
 induction t with
 | zero =>
  intro i ht hi
  obtain rfl:i=m+1:=by omega
  have e:nI q (m+1)=m:=by unfold nI;rw [if_neg (by omega)];omega
  refine Ev.step (fun k=>by simp only [ct.l0];rfl) ?_
  simp only [Int.lt_irrefl,if_false,e,L4]
  exact next
 | succ t ih =>
  intro i ht hi
  have Di:i < m+1:=by omega
  have h1:=ih (i+1) (by omega) (by omega)
  refine Ev.step (fun k=>by simp only [ct.l0];rfl) ?_
  simp only [show ((i:Int) < ((m+1:Nat):Int)) by omega,if_true,cB i,fo,nR Di,kr.f,eI,show m+1 < 17592186044416 by omega,Option.bind_some,cB q,show ((q:Int) < ((m+1:Nat):Int)) by omega,L4,Int.toNat_natCast,fO Di,wI ((i:Int)+1) (by omega)]
  by_cases e:i=q
  ·simp only [show ((i : Int) = (q : Int)) by omega, if_true]
   rw [e,Yb] at h1
   rw [e]
   exact h1
  ·have hle := Ya q i
   simp only [show ¬ ((i:Int)=(q:Int)) by omega,if_false,show nI q i < 5864062014805 by omega,show nI q i < 17592186044416 by omega,if_true]
   rw [Yc e] at h1
   rw [afp hq]
   rw [show (aA m fun b=>L i (aln q b))=aA m (cY L q (nI q i)) from kj fun b _=>by unfold cY;rw [OV e],Ta]
   have e3:=Bz (nI q i) (fun b=>c (aln q b))
   simp only [OV e] at e3
   rw [e3]
   exact h1
theorem Zr (m : Nat) (hm : m + 1 ≤ 8) (l : List (List Int)) (hl : l.length ≤ 10) (hE : endsIn (m + 1) l) {q : Nat} {D : Nat → Nat} (hD : ni (m + 1) (bu l l.length) q D) (c : Nat → Int) (hc : ∀ v, v < m + 1 → alh (c v) ≤ 100000000000000000) (yM : ∀ v, v < m + 1 → v ≠ q → alh (c v) ≤ 200) :
  Ev (fun k=>ct.f k ((m+1:Nat):Int) l (aA (m+1) c) (q:Int)) (aA (m+1) (rU m (bu l l.length) q c)):=by
 have hM:=vY hE hl
 have hA:okB m (cY (bu l l.length) q):=.inl (anz hM hD.1)
 unfold ct.f
 refine Ev.bind (St (m+1) hm l hl hE) ?_
 simp only [fo]
 have h0:=Zm m hm (bu l l.length) hD.1 c l _ (Ev.bind (TF m (by omega) _ hA) (Zn m hm l hl hE hD c hc yM m 0 (by omega) (by omega))) (m+1) 0 (by omega) (by omega)
 exact h0
theorem Lu {m q:Nat} (hm:m+1≤8) (hq:q < m+1) {c:Nat→Int} {X:Int} (hX:0≤X) (h:∀ v,v < m+1→v ≠ q→alh (c v)≤X):bO (m+1) c - c q≤7 * X∧-(7 * X)≤bO (m+1) c - c q:=by
 have h7:(m:Int) * X≤7 * X:=Int.mul_le_mul_of_nonneg_right (by omega) hX
 have h1:az m (fun t=>c (aln q t))≤m * X:=G1 m fun i hi=>by
  have:=h _ (xJ hq hi) (xK q i)
  unfold alh at this
  omega
 have h2:az m (fun t=>-c (aln q t))≤m * X:=G1 m fun i hi=>by
  have:=h _ (xJ hq hi) (xK q i)
  unfold alh at this
  omega
 have h3:az m (fun t=>-c (aln q t))=-az m (fun t=>c (aln q t)):=by rw [← kZ,← kZ,Au]
 have h4:=uM m q hq c
 rw [kZ,h4]
 omega
/-- Both reductions, at chips that are small enough. -/
theorem S4 (n : Nat) (j8 : 1 ≤ n) (hn : n ≤ 8) (l : List (List Int)) (hl : l.length ≤ 10) (hE : endsIn n l) (h1 : o_ (ja n l) = true) (q : Nat) (hq : q < n) (c : Nat → Int) (hc : ∀ v, v < n → v ≠ q → alh (c v) ≤ 200) (yM : alh (c q) ≤ 2000) :
  ∃ c',pU n (bu l l.length) q c'∧jF n (bu l l.length) c c'∧Ev (fun k=>bS.f k (bY n (bu l l.length)) (aA n c) (q:Int)) (aA n c')∧Ev (fun k=>bV.f k n l (aA n c) (q:Int)) (aA n c'):=by
 have hM:=vY hE hl
 obtain ⟨D1,ZK,hds⟩:=acO n hn l hE hl h1 q hq
 obtain ⟨D2,J4,C_⟩:=O1 n j8 hn l hl hE h1 q hq
 have hb:∀ v,v < n→alh (c v)≤2000:=fun v hv=>by
  by_cases e:v=q
  ·rw [e];exact yM
  ·have:=hc v hv e;omega
 obtain ⟨c1,c_,am_,AQ⟩:=acS n hn hM (Lq hl) ZK hds c (fun v hv=>by have:=hb v hv;omega)
 obtain ⟨m,rfl⟩:∃ m,n=m+1:=⟨n - 1,by omega⟩
 have hg:=Zr m hn l hl hE J4 c (fun v hv=>by have:=hb v hv;omega) hc
 have Q1:∀ v,v < m+1→v ≠ q→alh (rU m (bu l l.length) q c v)≤80:=fun v hv o6=>Zp hM J4 c v hv o6
 have QK:=Zl m (bu l l.length) q c
 have anU:mC (m+1) (rU m (bu l l.length) q c) 4000:=fun v hv=>by
  by_cases e:v=q
  ·have h2 := Lu hn hq (by decide) Q1
   have h3:=Lu hn hq (by decide) hc
   have h4:=CC hM QK
   rw [e]
   unfold alh at yM ⊢
   omega
  ·have := Q1 v hv e
   omega
 obtain ⟨c2,o5,KA,FP⟩:=aem (m+1) j8 hn l hl hE J4 _ anU
 have hsame:∀ v,v < m+1→c1 v=c2 v:=fun v hv=>S3 hM (vH (Pj am_) (vH QK KA)) c_ o5 v hv
 refine ⟨c1,c_,am_,AQ,?_⟩
 rw [kj hsame]
 unfold bV.f
 exact Ev.bind hg (Ev.bind C_ FP)
theorem Tz {n:Nat} {c:List Int} (h:c.length=n):aA n (fun w=>rd c (w:Int))=c:=(afq h).symm
theorem drop_eq {x y:List Int} {i:Nat} (hx:i < x.length) (hy:i < y.length):decide (x.drop i=y.drop i)=(decide (x[i]=y[i]) && decide (x.drop (i+1)=y.drop (i+1))):=by
 rw [List.drop_eq_getElem_cons hx,List.drop_eq_getElem_cons hy,← Bool.decide_and]
 exact decide_eq_decide.2 (Iff.of_eq (List.cons.injEq _ _ _ _))
theorem aev (x y:List Int) (hx:x.length≤1048576) (h:x.length=y.length):∀ (d i:Nat),x.length - i=d→i≤x.length→Ev (fun k=>iC.l0 k x y i) (decide (x.drop i=y.drop i)):=by
 intro d
 induction d with
 | zero =>
  intro i hd hi
  refine Ev.step (fun k=>by simp only [iC.l0];rfl) ?_
  simp only [show ¬ ((i:Int) < (x.length:Int)) by omega,if_false,List.drop_of_length_le (show x.length≤i by omega),List.drop_of_length_le (show y.length≤i by omega),decide_true]
  exact Ev.now _
 | succ d ih =>
  intro i hd hi
  have yY:i < x.length:=by omega
  have Rj:i < y.length:=by omega
  have h1:=ih (i+1) (by omega) (by omega)
  refine Ev.step (fun k=>by simp only [iC.l0];rfl) ?_
  simp only [show ((i:Int) < (x.length:Int)) by omega,show ((i:Int) < (y.length:Int)) by omega,if_true,cB i,pn x i yY,pn y i Rj,wI ((i:Int)+1) (by omega),drop_eq yY Rj]
  by_cases e:x[i]=y[i]
  ·simp only [e, if_true, decide_true, Bool.true_and]
   exact h1
  ·simp only [e, if_false, decide_false, Bool.false_and]
   exact Ev.now _
theorem Tc (x y:List Int) (hx:x.length≤1048576):Ev (fun k=>iC.f k x y) (decide (x=y)):=by
 unfold iC.f
 by_cases h:(x.length:Int)=(y.length:Int)
 ·simp only [h, if_true]
  have:=aev x y hx (by omega) x.length 0 (by omega) (by omega)
  rw [List.drop_zero,List.drop_zero] at this
  exact this
 ·simp only [h, if_false]
  rw [decide_eq_false (fun e=>h (by rw [e]))]
  exact Ev.now _
theorem Y9 {n:Nat} {L:Nat→Nat→Int} {c d:Nat→Int} (e:Nat→Int) (h:jF n L c d):jF n L (fun v=>c v+e v) (fun v=>d v+e v):=by
 obtain ⟨f,hf⟩:=h
 refine ⟨f,fun v hv=>?_⟩
 show d v+e v=c v+e v - _
 rw [hf v hv]
 omega
theorem Ph {n:Nat} {L:Nat→Nat→Int} {c d:Nat→Int} (h:∀ v,v < n→d v=c v):jF n L c d:=by
 refine ⟨fun _=>0,fun v hv=>?_⟩
 rw [h v hv,lA (g:=fun _=>0) (fun w _=>Int.mul_zero _),yp]
 omega
theorem adV {n:Nat} {L:Nat→Nat→Int} (h:d_ n L) {S:Nat→Bool} {v w:Nat} (hv:S v=true) (hw:w < n) (hSw:S w=false) (hL:L v w≤-1):1≤ki L n S v:=by
 have h1:bO n (fun j=>if j=w then (1:Int) else 0)≤ki L n S v:=qX fun j hj=>by
  by_cases e:j=w
  ·subst e
   rw [if_pos rfl,if_neg (by rw [hSw];decide)]
   omega
  ·rw [if_neg e]
   by_cases e2:S j=true
   ·rw [if_pos e2];exact Int.le_refl _
   ·rw [if_neg e2]
    have hne:v ≠ j:=fun e3=>e2 (by rw [← e3];exact hv)
    have:=h.off v j hne
    omega
 rw [pI hw] at h1
 exact h1
/-- No chips at all are reduced. -/
theorem ael {n:Nat} {L:Nat→Nat→Int} (h:d_ n L) {q:Nat} {D:Nat→Nat} (hD:ni n L q D):pU n L q (fun _=>0):=by
 refine ⟨fun v _ _=>Int.le_refl _,fun S hl hq=>?_⟩
 have key:∀ d v,v < n→D v < d→S v=false:=by
  intro d
  induction d with
  | zero=>intro v _ hd;omega
  | succ d ih =>
   intro v hv hd
   by_cases e:v=q
   ·rw [e];exact hq
   ·cases hS:S v with
    | false=>rfl
    | true =>
     obtain ⟨w,hw,hwd,hL⟩:=hD.2.2.2 v hv e
     have h1:=adV h hS hw (ih w hw (by omega)) hL
     have h2:=hl v hv hS
     have h3:ki L n S v≤0:=h2
     omega
 intro j hj
 exact key (D j+1) j hj (by omega)
/-- Reduced chips are few off q. -/
theorem aek {n:Nat} {L:Nat→Nat→Int} (h:d_ n L) {q:Nat} {c:Nat→Int} (r:pU n L q c) {v:Nat} (hv:v < n) (o6:v ≠ q):0≤c v∧c v≤19:=by
 refine ⟨r.1 v hv o6,?_⟩
 by_cases e:c v≤19
 ·exact e
 ·have h1:lawful L c n (fun j=>decide (j=v)):=fun u hu hS=>by
   have e2:u=v:=by simpa using hS
   subst e2
   have h2:=Pw h (fun j=>decide (j=u)) u hu (by simp)
   have h3:=GH h.sym u (h.sum u) (fun j=>decide (j=u))
   have h4:fX L n (fun j=>decide (j=u)) u=ki L n (fun j=>decide (j=u)) u:=by
    rw [← h3]
    unfold fX
    exact lA fun w _=>by rw [h.sym u w]
   omega
  have h5:=r.2 _ h1 (by simp;omega) v hv
  simp at h5
/-- The determinant's multiple of chips without sum is worth nothing. -/
theorem YA {m:Nat} {L:Nat→Nat→Int} (h:d_ (m+1) L) {q:Nat} (hq:q < m+1) (c:Nat→Int) (hs:bO (m+1) c=0) (s:Int):jF (m+1) L (fun v=>s * aG m (cY L q) * c v) (fun _=>0):=by
 have hr:∀ r,r < m→bO (m+1) (fun w=>L (aln q r) w * (if w=q then 0 else s * aG m (alu (cY L q) (ke q w) (fun b=>c (aln q b)))))=s * aG m (cY L q) * c (aln q r):=by
  intro r hr
  have h1:=OY (cY L q) (fun b=>c (aln q b)) r hr
  rw [kZ,uM m q hq,if_pos rfl,Int.mul_zero,Int.zero_add]
  rw [eE (g:=fun k=>s * (cY L q r k * aG m (alu (cY L q) k (fun b=>c (aln q b))))) (fun k _=>by
   rw [if_neg (xK q k),So]
   unfold cY
   exact Int.mul_left_comm _ _ _)]
  rw [iX,h1,Int.mul_assoc]
 refine ⟨fun w=>if w=q then 0 else s * aG m (alu (cY L q) (ke q w) (fun b=>c (aln q b))),fun v hv=>?_⟩
 show (0:Int)=s * aG m (cY L q) * c v - bO (m+1) (fun w=>L v w * (if w=q then 0 else s * aG m (alu (cY L q) (ke q w) (fun b=>c (aln q b)))))
 by_cases e:v=q
 ·have h2:bO (m+1) (fun v=>bO (m+1) (fun w=>L v w * (if w=q then 0 else s * aG m (alu (cY L q) (ke q w) (fun b=>c (aln q b))))))=0:=by
   have e0:jF (m+1) L (fun _=>0) (fun v=>0 - bO (m+1) (fun w=>L v w * (if w=q then 0 else s * aG m (alu (cY L q) (ke q w) (fun b=>c (aln q b)))))):=⟨_,fun v _=>rfl⟩
   have h3:=CC h e0
   rw [yp] at h3
   have h4:=Au (m+1) (fun v=>bO (m+1) (fun w=>L v w * (if w=q then 0 else s * aG m (alu (cY L q) (ke q w) (fun b=>c (aln q b))))))
   rw [lA (g:=fun v=>-bO (m+1) (fun w=>L v w * (if w=q then 0 else s * aG m (alu (cY L q) (ke q w) (fun b=>c (aln q b)))))) (fun v _=>Int.zero_sub _)] at h3
   omega
  rw [kZ,uM m q hq,eE (g:=fun r=>s * aG m (cY L q) * c (aln q r)) (fun r hr'=>hr r hr'),iX] at h2
  rw [kZ,uM m q hq] at hs
  rw [e]
  have h5:s * aG m (cY L q) * c q+s * aG m (cY L q) * az m (fun t=>c (aln q t))=0:=by
   rw [← Int.mul_add,hs,Int.mul_zero]
  omega
 ·have h6 := hr (ke q v) (Ee hq hv e)
  rw [Gy e] at h6
  omega
theorem Th : ∀ (c : List Int) (s : Int), (∀ x ∈ c, -200 ≤ x ∧ x ≤ 200) → -1000000 ≤ s - 200 * (c.length : Int) → s + 200 * (c.length : Int) ≤ 1000000 → zC c s = s + c.sum
 | [],s,_,_,_=>by simp [zC]
 | x :: xs,s,h,h1,h2=>by
  have hx:=h x (List.mem_cons_self ..)
  simp only [List.length_cons] at h1 h2
  have:=Th xs (s+x) (fun y hy=>h y (List.mem_cons_of_mem _ hy)) (by omega) (by omega)
  unfold zC at this ⊢
  rw [List.foldl_cons,jv (by omega) (by omega),this,List.sum_cons]
  omega
theorem afr (n:Nat) (f:Nat→Int):(aA n f).sum=bO n f:=by
 induction n with
 | zero=>rfl
 | succ n ih =>
  have e:=Bz n f
  rw [← e,List.sum_append,ih,oU]
  simp
theorem Td {n:Nat} {c:Nat→Int}:(aA n c=aA n fun _=>0)↔∀ v,v < n→c v=0:=by
 constructor
 ·intro h v hv
  have:=congrArg (fun l=>rd l (v:Int)) h
  simp only [fO hv] at this
  exact this
 ·intro h
  exact kj h
theorem SJ {n:Nat} {c:Nat→Int}:(aA n c).any xM=true↔¬ ∀ v,v < n→c v=0:=by
 rw [List.any_eq_true]
 constructor
 ·rintro ⟨x, hx, hn⟩ h
  unfold aA at hx
  rw [List.mem_map] at hx
  obtain ⟨v,hv,rfl⟩:=hx
  rw [List.mem_range] at hv
  rw [h v hv] at hn
  exact absurd hn (by decide)
 ·intro h
  by_cases h2:∃ v,v < n∧c v ≠ 0
  ·obtain ⟨v, hv, hne⟩ := h2
   exact ⟨c v,by unfold aA;exact List.mem_map.2 ⟨v,List.mem_range.2 hv,rfl⟩,by unfold xM;exact bne_iff_ne.2 hne⟩
  ·exact absurd (fun v hv=>by
    by_cases e:c v=0
    ·exact e
    ·exact absurd ⟨v,hv,e⟩ h2) h
theorem adS (n : Nat) (hn : n ≤ 8) (L : Nat → Nat → Int) (f c : Nat → Int) (hb : ∀ v, v < n → alh (c v) ≤ 2000 ∧ alh (f v) ≤ 2000) (j : Int) (R : Int × Int) (next : Ev (fun k => (bS.f k (bY n L) (aA n fun v => c v + f v) 0).bind fun t => bP.l0 k (bY n L) (aA n f) (aA n fun _ => 0) t (wrap64 (j + 1))) R) :
  ∀ (t i:Nat),n - i=t→i≤n→Ev (fun k=>bP.l1 k (bY n L) (aA n f) (aA n fun _=>0) (aA n c) j (aA i fun v=>c v+f v) i) R:=by
 intro t
 induction t with
 | zero =>
  intro i ht hi
  obtain rfl:i=n:=by omega
  refine Ev.step (fun k=>by simp only [bP.l1];rfl) ?_
  simp only [eI,Int.lt_irrefl,if_false]
  exact next
 | succ t ih =>
  intro i ht hi
  have hin:i < n:=by omega
  have h1:=ih (i+1) (by omega) (by omega)
  obtain ⟨h2,h3⟩:=hb i hin
  unfold alh at h2 h3
  refine Ev.step (fun k=>by simp only [bP.l1];rfl) ?_
  simp only [eI,lI i n (by omega),if_true,cB i,show i < 17592186044416 by omega,fO hin,wI ((i:Int)+1) (by omega),wI (c i+f i) (by omega)]
  have e:=Bz i (fun v=>c v+f v)
  rw [e]
  exact h1
theorem adQ (n : Nat) (hn : n ≤ 8) (l : List (List Int)) (f c : Nat → Int) (hb : ∀ v, v < n → alh (c v) ≤ 2000 ∧ alh (f v) ≤ 2000) (j : Int) (R : Int × Int) (next : Ev (fun k => (bV.f k n l (aA n fun v => c v + f v) 0).bind fun t => dw.l0 k (aA n f) t (wrap64 (j + 1)) n l) R) :
  ∀ (t i:Nat),n - i=t→i≤n→Ev (fun k=>dw.l1 k (aA n f) (aA n c) j (aA i fun v=>c v+f v) n i n l) R:=by
 intro t
 induction t with
 | zero =>
  intro i ht hi
  obtain rfl:i=n:=by omega
  refine Ev.step (fun k=>by simp only [dw.l1];rfl) ?_
  simp only [Int.lt_irrefl,if_false]
  exact next
 | succ t ih =>
  intro i ht hi
  have hin:i < n:=by omega
  have h1:=ih (i+1) (by omega) (by omega)
  obtain ⟨h2,h3⟩:=hb i hin
  unfold alh at h2 h3
  refine Ev.step (fun k=>by simp only [dw.l1];rfl) ?_
  simp only [eI,lI i n (by omega),if_true,cB i,show i < 17592186044416 by omega,fO hin,wI ((i:Int)+1) (by omega),wI (c i+f i) (by omega)]
  have e:=Bz i (fun v=>c v+f v)
  rw [e]
  exact h1
theorem adR (n : Nat) (j8 : 1 ≤ n) (hn : n ≤ 8) (l : List (List Int)) (hl : l.length ≤ 10) (hE : endsIn n l) (h1 : o_ (ja n l) = true) (f : Nat → Int) (hf : pU n (bu l l.length) 0 f) (anb : bO n f = 0) (W : Nat) (hW : W ≤ 2000000000) (h0 : ∀ c, pU n (bu l l.length) 0 c → jF n (bu l l.length) (fun v => (W : Int) * f v) c → ∀ v, v < n → c v = 0) :
  ∀ (d j : Nat) (c : Nat → Int), W - j = d → j ≤ W → pU n (bu l l.length) 0 c → jF n (bu l l.length) (fun v => (j : Int) * f v) c → bO n c = 0 →
   ∃ R:Int × Int,Ev (fun k=>bP.l0 k (bY n (bu l l.length)) (aA n f) (aA n fun _=>0) (aA n c) j) R∧Ev (fun k=>dw.l0 k (aA n f) (aA n c) j n l) R:=by
 have hM:=vY hE hl
 have Po:∀ c,pU n (bu l l.length) 0 c→bO n c=0→(∀ v,v < n→v ≠ 0→0≤c v∧c v≤19)∧alh (c 0)≤140:=by
  intro c hc hs
  have h2:∀ v,v < n→v ≠ 0→0≤c v∧c v≤19:=fun v hv hv0=>aek hM hc hv hv0
  refine ⟨h2,?_⟩
  obtain ⟨m,rfl⟩:∃ m,n=m+1:=⟨n - 1,by omega⟩
  have h3:=Lu hn (show 0 < m+1 by omega) (c:=c) (X:=19) (by decide) (fun v hv hv0=>by
   have:=h2 v hv hv0
   unfold alh
   omega)
  unfold alh
  omega
 have stop:∀ (j:Nat) (c:Nat→Int),(∀ v,v < n→c v=0)→∃ R:Int × Int,Ev (fun k=>bP.l0 k (bY n (bu l l.length)) (aA n f) (aA n fun _=>0) (aA n c) j) R∧Ev (fun k=>dw.l0 k (aA n f) (aA n c) j n l) R:=by
  intro j c hz
  refine ⟨((j:Int),0),?_,?_⟩
  ·refine Ev.step (fun k => by simp only [bP.l0]; rfl) ?_
   refine Ev.bind (Tc _ _ (by rw [eI];omega)) ?_
   simp only [decide_eq_true (Td.2 hz),if_true]
   exact Ev.now _
  ·refine Ev.step (fun k => by simp only [dw.l0, al5.f]; rfl) ?_
   have e:(aA n c).any xM=false:=by
    cases e:(aA n c).any xM with
    | false=>rfl
    | true=>exact absurd hz (SJ.1 e)
   simp only [Option.bind_some,e,Bool.false_eq_true,if_false]
   exact Ev.now _
 intro d
 induction d with
 | zero =>
  intro j c hd hj hr he hs
  obtain rfl:j=W:=by omega
  exact stop j c (h0 c hr he)
 | succ d ih =>
  intro j c hd hj hr he hs
  by_cases hz:∀ v,v < n→c v=0
  ·exact stop j c hz
  ·obtain ⟨b1, b2⟩ := Po c hr hs
   obtain ⟨b3,b4⟩:=Po f hf anb
   obtain ⟨c',hr',he',hS,hI⟩:=S4 n j8 hn l hl hE h1 0 (by omega) (fun v=>c v+f v) (fun v hv hv0=>by
    have h2:=b1 v hv hv0
    have h3:=b3 v hv hv0
    show alh (c v+f v)≤200
    unfold alh
    omega) (by
    show alh (c 0+f 0)≤2000
    unfold alh at b2 b4 ⊢
    omega)
   have KA:jF n (bu l l.length) (fun v=>((j+1:Nat):Int) * f v) c':=by
    refine vH (vH (Ph (d:=fun v=>(j:Int) * f v+f v) (fun v _=>?_)) (Y9 f he)) he'
    show (j:Int) * f v+f v=((j+1:Nat):Int) * f v
    rw [show ((j+1:Nat):Int)=(j:Int)+1 by omega,Int.add_mul,Int.one_mul]
   have KX:bO n c'=0:=by
    rw [CC hM he',qW,hs,anb]
    rfl
   obtain ⟨R,hRS,CU⟩:=ih (j+1) c' (by omega) (by omega) hr' KA KX
   have ux:∀ v,v < n→alh (c v)≤2000∧alh (f v)≤2000:=fun v hv=>by
    by_cases e:v=0
    ·rw [e];omega
    ·have h2 := b1 v hv e
     have h3:=b3 v hv e
     unfold alh
     omega
   have ew:wrap64 ((j:Int)+1)=((j+1:Nat):Int):=jv (by omega) (by omega)
   refine ⟨R,?_,?_⟩
   ·refine Ev.step (fun k => by simp only [bP.l0]; rfl) ?_
    refine Ev.bind (Tc _ _ (by rw [eI];omega)) ?_
    simp only [decide_eq_false (fun e=>hz (Td.1 e)),Bool.false_eq_true,if_false]
    exact adS n hn _ f c ux j R (Ev.bind hS (by simp only [ew];exact hRS)) n 0 (by omega) (by omega)
   ·refine Ev.step (fun k => by simp only [dw.l0, al5.f]; rfl) ?_
    simp only [Option.bind_some,SJ.2 hz,if_true,eI]
    exact adQ n hn l f c ux j R (Ev.bind hI (by simp only [ew];exact CU)) n 0 (by omega) (by omega)
theorem adT (n : Nat) (j8 : 1 ≤ n) (hn : n ≤ 8) (l : List (List Int)) (hl : l.length ≤ 10) (hE : endsIn n l) (h1 : o_ (ja n l) = true) (c : Nat → Int) (hc : ∀ v, v < n → alh (c v) ≤ 200) (hs : bO n c = 0) :
  ∃ (f : Nat → Int) (R : Int × Int), Ev (fun k => bS.f k (bY n (bu l l.length)) (aA n c) 0) (aA n f) ∧ Ev (fun k => bV.f k n l (aA n c) 0) (aA n f) ∧
   Ev (fun k=>bP.l0 k (bY n (bu l l.length)) (aA n f) (aA n fun _=>0) (aA n f) 1) R∧Ev (fun k=>dw.l0 k (aA n f) (aA n f) 1 n l) R:=by
 have hM:=vY hE hl
 obtain ⟨D,hD,_⟩:=O1 n j8 hn l hl hE h1 0 (by omega)
 obtain ⟨f,hr,he,hS,hI⟩:=S4 n j8 hn l hl hE h1 0 (by omega) c (fun v hv _=>hc v hv) (by have:=hc 0 (by omega);omega)
 obtain ⟨m,rfl⟩:∃ m,n=m+1:=⟨n - 1,by omega⟩
 have anb:bO (m+1) f=0:=by rw [CC hM he,hs]
 have ah0:=Jv (Jw hM hD)
 have hA:okB m (cY (bu l l.length) 0):=.inl (anz hM hD.1)
 have hbd:-2000000000≤aG m (cY (bu l l.length) 0)∧aG m (cY (bu l l.length) 0)≤2000000000:=by
  by_cases e:m=0
  ·subst e
   rw [show aG 0 (cY (bu l l.length) 0)=1 from rfl]
   decide
  ·exact Cw (by omega) _ hA
 have abX:∃ s:Int,((aG m (cY (bu l l.length) 0)).natAbs:Int)=s * aG m (cY (bu l l.length) 0):=by
  by_cases e:0≤aG m (cY (bu l l.length) 0)
  ·exact ⟨1,by omega⟩
  ·exact ⟨-1,by omega⟩
 obtain ⟨s,hsW⟩:=abX
 have Kw:=YA hM hD.1 f anb s
 obtain ⟨R,hRS,CU⟩:=adR (m+1) j8 hn l hl hE h1 f hr anb (aG m (cY (bu l l.length) 0)).natAbs (by omega) (fun c' pP he' v hv=>by
  have h2:jF (m+1) (bu l l.length) c' (fun _=>0):=by
   refine vH (Pj he') ?_
   rw [hsW]
   exact Kw
  exact S3 hM h2 pP (ael hM hD) v hv) ((aG m (cY (bu l l.length) 0)).natAbs - 1) 1 f rfl (by omega) hr (Ph (fun v _=>by show f v=((1:Nat):Int) * f v;omega)) anb
 exact ⟨f,R,hS,hI,hRS,CU⟩
theorem Wb (a : Int) (l : List (List Int)) (c : List Int) (hl : l.length ≤ maxLen) (hc : c.length ≤ maxLen) :
  ∃ (r e:Int),Ev (fun k=>bP.f k a l c) (r,e)∧Ev (fun k=>dw.f k a l c) (r,e):=by
 by_cases h:yw a l c 0=0
 ·have h' := h
  unfold yw at h'
  cases hg:mK a l with
  | false=>rw [hg] at h';simp at h'
  | true =>
   cases hk:vD a c && sM a 0 with
   | false=>rw [hg,hk] at h';simp at h'
   | true =>
    cases hp:o_ (ja a.toNat l) with
    | false=>rw [hg,hk,hp] at h';simp at h'
    | true =>
     rw [Bool.and_eq_true] at hk
     obtain ⟨n,rfl,j8,vP,hE⟩:=K5 hg
     have anj:=K6 hg
     obtain ⟨hcl,hcb⟩:=XX hk.1
     have uz:c.length=n:=by omega
     rw [Int.toNat_natCast] at hp
     have hb:∀ v,v < n→alh (rd c (v:Int))≤200:=fun v hv=>by
      have:=OP hcb v (by omega)
      unfold alh
      omega
     have ab0:zC c 0=bO n (fun v=>rd c (v:Int)):=by
      rw [Th c 0 (fun x hx=>by
       obtain ⟨v,hv,rfl⟩:=List.mem_iff_getElem.1 hx
       have:=OP hcb v hv
       rw [pn c v hv] at this
       exact this) (by omega) (by omega),Int.zero_add,← afr,Tz uz]
     have s1:=acU c hc c.length 0 0 (by omega) (by omega)
     have s2:=aeS c hc c.length 0 0 (by omega) (by omega)
     rw [List.drop_zero] at s1 s2
     by_cases hz:zC c 0=0
     ·obtain ⟨f, R, hS, hI, hRS, CU⟩ := adT n j8 vP l anj hE hp (fun v => rd c (v : Int)) hb (by rw [← ab0, hz])
      rw [Tz uz] at hS hI
      refine ⟨R.1,R.2,?_,?_⟩
      ·unfold bP.f
       refine Ev.bind (La n l c 0 hl hc) ?_
       simp only [h,if_true]
       refine Ev.bind s1 ?_
       simp only [hz,bne_self_eq_false]
       refine Ev.step (fun k=>by simp only [bP.j0];rfl) ?_
       simp only [Bool.false_eq_true,if_false]
       refine Ev.step (fun k=>by simp only [bP.j1];rfl) ?_
       simp only [if_true]
       refine Ev.bind (acP n vP l anj hE) (Ev.bind hS ?_)
       simp only [cB n,if_true,Int.toNat_natCast,show n≤35184372088832 by omega]
       rw [K_ _ (by rw [eI];omega)]
       simp only [Option.bind_some]
       rw [show List.replicate n (0:Int)=aA n (fun _=>0) from by
        refine List.ext_getElem (by simp [aA]) fun i h1 h2=>?_
        simp [aA]]
       exact hRS
      ·unfold dw.f
       refine Ev.bind (Jn n l c 0 hl) ?_
       simp only [h,if_true]
       refine Ev.bind s2 ?_
       simp only [hz,if_true]
       refine Ev.bind hI ?_
       simp only [kr.f,eI,show n < 17592186044416 by omega,if_true,Option.bind_some]
       exact CU
     ·refine ⟨0, 5, ?_, ?_⟩
      ·unfold bP.f
       refine Ev.bind (La n l c 0 hl hc) ?_
       simp only [h,if_true]
       refine Ev.bind s1 ?_
       simp only [bne_iff_ne.2 hz]
       refine Ev.step (fun k=>by simp only [bP.j0];rfl) ?_
       simp only [if_true]
       refine Ev.step (fun k=>by simp only [bP.j1];rfl) ?_
       simp only [show ¬ ((5:Int)=0) by decide,if_false]
       exact Ev.now _
      ·unfold dw.f
       refine Ev.bind (Jn n l c 0 hl) ?_
       simp only [h,if_true]
       refine Ev.bind s2 ?_
       simp only [hz,if_false]
       exact Ev.now _
 ·refine ⟨0, yw a l c 0, ?_, ?_⟩
  ·unfold bP.f
   refine Ev.bind (La a l c 0 hl hc) ?_
   simp only [h,if_false]
   refine Ev.step (fun k=>by simp only [bP.j0];rfl) ?_
   simp only [Bool.false_eq_true,if_false]
   refine Ev.step (fun k=>by simp only [bP.j1];rfl) ?_
   simp only [h,if_false]
   exact Ev.now _
  ·unfold dw.f
   refine Ev.bind (Jn a l c 0 hl) ?_
   simp only [h,if_false]
   exact Ev.now _
def F6.Pure:Prop:=∀ (af:Int) (aa:List (List Int)) (l1:List Int),(Lit.int .i64 af).wf=true→aa.length≤maxLen→(∀ x ∈ aa,x.length≤maxLen∧∀ n ∈ x,(Lit.int .i64 n).wf=true)→l1.length≤maxLen→(∀ n ∈ l1,(Lit.int .i64 n).wf=true)→∃ k,F6.f k af aa l1=some true
end Go.Proofs.Ytoebojnhchocaaa.D
namespace Go.Proofs.Ytoebojnhchocaaa.Pure
open Go.RowKit Go.Proofs.bR.eC Go.Proofs.bR.je Go.Proofs.bR.jO Go.Proofs.Ytoebojnhchocaaa.D
theorem UJ:F6.Pure:=by
 intro a l c _ hl hx hc _
 have hx':∀ x ∈ l,x.length≤maxLen:=fun x h=>(hx x h).1
 obtain ⟨B,E,hS,hI⟩:=Wb a l c hl hc
 refine Ev.rounds (r:=true) ?_
 unfold F6.f
 by_cases h1:(c.length:Int) > 1048576
 ·simp only [h1,if_true];exact Ev.now _
 ·simp only [h1, if_false]
  obtain ⟨r,hr,_,_,h4⟩:=aeV a l 1048576 (by omega) (by omega) hl hx'
  refine Ev.bind hr ?_
  by_cases hn:r < 0
  ·simp only [hn,if_true];exact Ev.now _
  ·simp only [hn, if_false]
   obtain ⟨s1,s2⟩:=h4 (by omega)
   have g:=ae' a l (by omega) (fun x h=>by have:=s2 x h;omega)
   have v:=Tm c (by omega)
   refine Ev.bind g (Ev.bind v (Ev.bind hS (Ev.bind g (Ev.bind v (Ev.bind hI ?_)))))
   simp only [bne_self_eq_false,if_true]
   refine Ev.step (fun k=>by simp only [F6.j0];rfl) ?_
   simp only [Bool.false_eq_true,if_false]
   refine Ev.bind g (Ev.bind (Y5 a l hl hx') ?_)
   simp only [if_true]
   refine Ev.bind v (Ev.bind (Pf c hc) ?_)
   simp only [if_true]
   exact Ev.now _
end Go.Proofs.Ytoebojnhchocaaa.Pure
/- Set with little white space, by a program. -/
