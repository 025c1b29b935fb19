/- Plain lemmas on the Lean functions that FnExactOrderOfChips reaches, the first half. No condition. -/
import Derived.Test.YtoebojnhchocaaaDx
namespace Go.Proofs.Ytoebojnhchocaaa.D
open Go.RowKit Go.Proofs.bR.eC Go.Proofs.bR.je Go.Proofs.bR.jO
set_option linter.unusedVariables false
set_option linter.unusedSimpArgs false
theorem wI (n:Int) (h:-9223372036854775808≤n∧n≤9223372036854775807):wrap64 n=n:=IntWalk.wrap64_in n h
theorem cB (n:Nat):(0:Int)≤(n:Int):=Int.natCast_nonneg n
theorem lI (a b:Nat) (h:a < b):(a:Int) < (b:Int):=Int.ofNat_lt.2 h
theorem jv {n:Int} (h0:-9223372036854775808≤n) (h1:n≤9223372036854775807):wrap64 n=n:=IntWalk.wrap64_in n ⟨h0,h1⟩
theorem fuel {k n:Nat} (h:n < k):∃ m,k=m+1∧n≤m:=⟨k - 1,by omega,by omega⟩
theorem pn (l:List Int) (i:Nat) (h:i < l.length):rd l (i:Int)=l[i]:=by
 simp [rd,List.getD_eq_getElem?_getD,h]
theorem tT (l:List (List Int)) (i:Nat) (h:i < l.length):ah l (i:Int)=l[i]:=by
 simp [ah,List.getD_eq_getElem?_getD,h]
theorem take_set {α:Type} (x l:List α) (i:Nat) (hx:x.length=l.length) (hi:i < l.length) (h:x.take i=l.take i):(x.set i l[i]).take (i+1)=l.take (i+1):=by
 apply List.ext_getElem?
 intro j
 rw [List.getElem?_take,List.getElem?_take]
 by_cases hj:j < i+1
 ·rw [if_pos hj, if_pos hj]
  by_cases hji:j=i
  ·subst hji
   rw [List.getElem?_set_self (by omega),List.getElem?_eq_getElem hi]
  ·rw [List.getElem?_set_ne (by omega)]
   have h2:=congrArg (fun z=>z[j]?) h
   simp only [List.getElem?_take] at h2
   rwa [if_pos (by omega),if_pos (by omega)] at h2
 ·rw [if_neg hj,if_neg hj]
theorem afb (l:List Int) (hl:l.length≤35184372088832):∀ (d k i:Nat) (x:List Int),l.length - i=d→d < k→i≤l.length→x.length=l.length→x.take i=l.take i→dZ.l0 k l x i=some l:=by
 intro d
 induction d with
 | zero =>
  intro k i x hd hk hi hx ht
  obtain ⟨m,rfl,hm⟩:=fuel hk
  simp only [dZ.l0]
  rw [if_neg (by omega)]
  rw [List.take_of_length_le (by omega),List.take_of_length_le (by omega)] at ht
  rw [ht]
 | succ d ih =>
  intro k i x hd hk hi hx ht
  obtain ⟨m,rfl,hm⟩:=fuel hk
  have hil:i < l.length:=by omega
  simp only [dZ.l0]
  rw [if_pos (by omega),if_pos (by omega),if_pos (by omega),jv (by omega) (by omega),pn l i hil,Int.toNat_natCast]
  exact ih m (i+1) _ (by omega) (by omega) (by omega) (by simp [hx]) (take_set x l i hx hil ht)
theorem Tm (l:List Int) (hl:l.length≤35184372088832):Ev (fun k=>dZ.f k l) l:=by
 refine Ev.of (dZ.mono l) (k:=l.length+1) ?_
 unfold dZ.f
 rw [if_pos (by omega),if_pos (by simpa using hl)]
 exact afb l hl l.length _ 0 _ (by omega) (by omega) (by omega) (by simp) (by simp)
theorem afa (l:List (List Int)) (hl:l.length≤11728124029610) (hx:∀ x ∈ l,x.length≤35184372088832):∀ (d i:Nat) (x:List (List Int)),l.length - i=d→i≤l.length→x.length=l.length→x.take i=l.take i→Ev (fun k=>ij.l0 k l x i) l:=by
 intro d
 induction d with
 | zero =>
  intro i x hd hi hx ht
  refine Ev.step (fun k=>by simp only [ij.l0];rfl) ?_
  rw [List.take_of_length_le (by omega),List.take_of_length_le (by omega)] at ht
  simp only [show ¬ ((i:Int) < (l.length:Int)) by omega,if_false,ht]
  exact Ev.now l
 | succ d ih =>
  intro i x hd hi hx' ht
  have hil:i < l.length:=by omega
  refine Ev.step (fun k=>by simp only [ij.l0];rfl) ?_
  simp only [show ((i:Int) < (l.length:Int)) by omega,cB i,show ((i:Int) < (x.length:Int)) by omega,if_true,Int.toNat_natCast,wI ((i:Int)+1) (by omega),tT l i hil]
  refine Ev.bind (Tm l[i] (hx _ (List.getElem_mem hil))) ?_
  exact ih (i+1) _ (by omega) (by omega) (by simp [hx']) (take_set x l i hx' hil ht)
theorem ae_ (l:List (List Int)) (hl:l.length≤11728124029610) (hx:∀ x ∈ l,x.length≤35184372088832):Ev (fun k=>ij.f k l) l:=by
 unfold ij.f
 simp only [show (0:Int)≤(l.length:Int) by omega,if_true,Int.toNat_natCast,hl]
 exact afa l hl hx l.length 0 _ (by omega) (by omega) (by simp) (by simp)
theorem ae' (a:Int) (l:List (List Int)) (hl:l.length≤11728124029610) (hx:∀ x ∈ l,x.length≤35184372088832):Ev (fun k=>jz.f k a l) (a,l):=by
 unfold jz.f
 exact Ev.bind (ae_ l hl hx) (Ev.now _)
theorem aeX (l:List (List Int)) (hl:l.length≤maxLen) (hx:∀ x ∈ l,x.length≤maxLen):∀ (d i:Nat) (a:Int),l.length - i=d→i≤l.length→0≤a→a≤1048576→∃ r,Ev (fun k=>ig.l0 k l a i) r∧r≤1048576∧-1≤r∧(0≤r→∀ x ∈ l.drop i,x.length≤1048576):=by
 unfold maxLen at hl hx
 intro d
 induction d with
 | zero =>
  intro i a hd hi h0 h1
  refine ⟨a,Ev.step (fun k=>by simp only [ig.l0];rfl) ?_,h1,by omega,fun _ x hx=>?_⟩
  ·simp only [show ¬ ((i : Int) < (l.length : Int)) by omega, if_false]
   exact Ev.now _
  ·rw [List.drop_of_length_le (by omega)] at hx;simp at hx
 | succ d ih =>
  intro i a hd hi h0 h1
  have hil:i < l.length:=by omega
  have hxl:=hx _ (List.getElem_mem hil)
  have hs:amR.f l[i] a=some (if a - (l[i].length:Int) < 0 then -1 else a - (l[i].length:Int)):=by
   unfold amR.f
   rw [jv (by omega) (by omega)]
   split<;>rfl
  by_cases hn:a - (l[i].length:Int) < 0
  ·rw [if_pos hn] at hs
   refine ⟨-1,Ev.step (fun k=>by simp only [ig.l0];rfl) ?_,by omega,by omega,fun h=>by omega⟩
   simp only [show ((i:Int) < (l.length:Int)) by omega,cB i,if_true,tT l i hil,hs,Option.bind_some]
   exact Ev.now _
  ·rw [if_neg hn] at hs
   obtain ⟨r,hr,h2,h3,h4⟩:=ih (i+1) (a - (l[i].length:Int)) (by omega) (by omega) (by omega) (by omega)
   refine ⟨r,Ev.step (fun k=>by simp only [ig.l0];rfl) ?_,h2,h3,fun h x hx=>?_⟩
   ·simp only [show ((i : Int) < (l.length : Int)) by omega, cB i, if_true, tT l i hil, hs, Option.bind_some, hn, if_false, wI ((i : Int) + 1) (by omega)]
    exact hr
   ·rw [List.drop_eq_getElem_cons hil] at hx
    rcases List.mem_cons.1 hx with rfl|hx
    ·omega
    ·exact h4 h x hx
/-- The sizes that the law lets by. -/
theorem aeW (l:List (List Int)) (a:Int) (ha:0≤a) (yK:a≤1048576) (hl:l.length≤maxLen) (hx:∀ x ∈ l,x.length≤maxLen):∃ r,Ev (fun k=>ig.f k l a) r∧r≤1048576∧-1≤r∧(0≤r→l.length≤1048576∧∀ x ∈ l,x.length≤1048576):=by
 have hl':=hl
 unfold maxLen at hl'
 unfold ig.f
 rw [jv (by omega) (by omega)]
 by_cases hn:a - (l.length:Int) < 0
 ·refine ⟨-1, ?_, by omega, by omega, fun h => by omega⟩
  simp only [hn,if_true]
  exact Ev.now _
 ·obtain ⟨r, hr, h2, h3, h4⟩ := aeX l hl hx l.length 0 (a - (l.length : Int)) (by omega) (by omega) (by omega) (by omega)
  refine ⟨r,?_,h2,h3,fun h=>⟨by omega,by simpa using h4 h⟩⟩
  simp only [hn,if_false]
  exact hr
theorem aeV (s:Int) (l:List (List Int)) (a:Int) (ha:0≤a) (yK:a≤1048576) (hl:l.length≤maxLen) (hx:∀ x ∈ l,x.length≤maxLen):∃ r,Ev (fun k=>oM.f k s l a) r∧r≤1048576∧-1≤r∧(0≤r→l.length≤1048576∧∀ x ∈ l,x.length≤1048576):=by
 obtain ⟨r,hr,h2,h3,h4⟩:=aeW l a ha yK hl hx
 unfold oM.f
 by_cases hn:r < 0
 ·refine ⟨-1, Ev.bind hr ?_, by omega, by omega, fun h => by omega⟩
  simp only [hn,if_true]
  exact Ev.now _
 ·refine ⟨r, Ev.bind hr ?_, h2, h3, h4⟩
  simp only [hn,if_false]
  exact Ev.now _
/-- Equal lists are told equal. -/
theorem Y8 (l:List Int) (hl:l.length≤maxLen):∀ (d i:Nat),l.length - i=d→i≤l.length→Ev (fun k=>fj.l0 k l l i) true:=by
 unfold maxLen at hl
 intro d
 induction d with
 | zero =>
  intro i hd hi
  refine Ev.step (fun k=>by simp only [fj.l0];rfl) ?_
  simp only [show ¬ ((i:Int) < (l.length:Int)) by omega,if_false]
  exact Ev.now _
 | succ d ih =>
  intro i hd hi
  refine Ev.step (fun k=>by simp only [fj.l0];rfl) ?_
  simp only [show ((i:Int) < (l.length:Int)) by omega,cB i,if_true,wI ((i:Int)+1) (by omega)]
  exact ih (i+1) (by omega) (by omega)
theorem Pf (l:List Int) (hl:l.length≤maxLen):Ev (fun k=>fj.f k l l) true:=by
 unfold fj.f
 simp only [if_true]
 exact Y8 l hl l.length 0 (by omega) (by omega)
theorem Y7 (l:List (List Int)) (hl:l.length≤maxLen) (hx:∀ x ∈ l,x.length≤maxLen):∀ (d i:Nat),l.length - i=d→i≤l.length→Ev (fun k=>iq.l0 k l l i) true:=by
 unfold maxLen at hl
 intro d
 induction d with
 | zero =>
  intro i hd hi
  refine Ev.step (fun k=>by simp only [iq.l0];rfl) ?_
  simp only [show ¬ ((i:Int) < (l.length:Int)) by omega,if_false]
  exact Ev.now _
 | succ d ih =>
  intro i hd hi
  have hil:i < l.length:=by omega
  refine Ev.step (fun k=>by simp only [iq.l0];rfl) ?_
  simp only [show ((i:Int) < (l.length:Int)) by omega,cB i,if_true,wI ((i:Int)+1) (by omega),tT l i hil]
  refine Ev.bind (Pf l[i] (hx _ (List.getElem_mem hil))) ?_
  simp only [if_true]
  exact ih (i+1) (by omega) (by omega)
theorem Y6 (l:List (List Int)) (hl:l.length≤maxLen) (hx:∀ x ∈ l,x.length≤maxLen):Ev (fun k=>iq.f k l l) true:=by
 unfold iq.f
 simp only [if_true]
 exact Y7 l hl hx l.length 0 (by omega) (by omega)
theorem Y5 (a:Int) (l:List (List Int)) (hl:l.length≤maxLen) (hx:∀ x ∈ l,x.length≤maxLen):Ev (fun k=>nC.f k a l a l) true:=by
 unfold nC.f
 simp only [if_true]
 refine Ev.bind (Y6 l hl hx) ?_
 simp only [if_true]
 exact Ev.now _
/-! ### what a graph is -/
def sM (a n:Int):Bool:=decide (0≤n) && decide (n≤wrap64 (a - 1))
def oY (a:Int) (e:List Int):Bool:=decide (e.length=2) && (sM a (rd e 0) && sM a (rd e 1))
def mK (a:Int) (l:List (List Int)):Bool:=decide (1≤a) && (decide (a≤8) && (decide (l.length≤10) && l.all (oY a)))
theorem Mm (a b c:Int):gQ.f a b c=some (decide (b≤a) && decide (a≤c)):=by
 unfold gQ.f
 by_cases h:b≤a<;>simp [h]
theorem Gr (a b c:Int):gy.f a b c=some (decide (b≤a) && decide (a≤c)):=by
 unfold gy.f
 by_cases h:b≤a<;>simp [h]
theorem acr (a:Int) (l:List (List Int)) (hl:l.length≤maxLen):∀ (d i:Nat),l.length - i=d→i≤l.length→Ev (fun k=>alP.l0 k l l.length i a l) ((l.drop i).all (oY a) && (decide (1≤a) && (decide (a≤8) && decide (l.length≤10)))):=by
 unfold maxLen at hl
 intro d
 induction d with
 | zero =>
  intro i hd hi
  refine Ev.step (fun k=>by simp only [alP.l0];rfl) ?_
  simp only [show ¬ ((i:Int) < (l.length:Int)) by omega,if_false,Mm,Option.bind_some,List.drop_of_length_le (show l.length≤i by omega),List.all_nil,Bool.true_and]
  by_cases h1:1≤a
  ·by_cases h2 : a ≤ 8
   ·simp only [h1, h2, decide_true, Bool.true_and, if_true]
    exact Ev.congr (fun k=>by congr 1;simp;omega) (Ev.now _)
   ·simp only [h1, h2, decide_true, decide_false, Bool.true_and, Bool.false_and, Bool.false_eq_true, if_false]
    exact Ev.now _
  ·simp only [h1, decide_false, Bool.false_and, Bool.false_eq_true, if_false]
   exact Ev.now _
 | succ d ih =>
  intro i hd hi
  have hil:i < l.length:=by omega
  refine Ev.step (fun k=>by simp only [alP.l0];rfl) ?_
  have Kz:(l.drop i).all (oY a)=(oY a l[i] && (l.drop (i+1)).all (oY a)):=by rw [List.drop_eq_getElem_cons hil,List.all_cons]
  rw [Kz]
  simp only [show ((i:Int) < (l.length:Int)) by omega,cB i,if_true,wI ((i:Int)+1) (by omega),tT l i hil,Mm,Option.bind_some]
  unfold oY sM
  by_cases h2:l[i].length=2
  ·simp only [h2, decide_true, Bool.true_and, show ((2 : Nat) : Int) = 2 from rfl, if_true, show (0 : Int) < 2 by omega, show (1 : Int) < 2 by omega]
   by_cases h3:(decide (0≤rd l[i] 0) && decide (rd l[i] 0≤wrap64 (a - 1)))=true
   ·by_cases h4 : (decide (0 ≤ rd l[i] 1) && decide (rd l[i] 1 ≤ wrap64 (a - 1))) = true
    ·simp only [h3, h4, if_true, Bool.true_and]
     exact ih (i+1) (by omega) (by omega)
    ·simp only [Bool.not_eq_true] at h4
     simp only [h3,h4,if_true,Bool.false_and,Bool.and_false,Bool.false_eq_true,if_false]
     exact Ev.now _
   ·simp only [Bool.not_eq_true] at h3
    simp only [h3,Bool.false_and,Bool.false_eq_true,if_false]
    exact Ev.now _
  ·simp only [show ¬ ((l[i].length : Int) = 2) by omega, h2, decide_false, Bool.false_and, if_false]
   exact Ev.now _
theorem acq (a:Int) (l:List (List Int)) (hl:l.length≤maxLen):Ev (fun k=>alP.f k a l) (mK a l):=by
 unfold alP.f
 have h:=acr a l hl l.length 0 (by omega) (by omega)
 have e:((l.drop 0).all (oY a) && (decide (1≤a) && (decide (a≤8) && decide (l.length≤10))))=mK a l:=by
  unfold mK
  rw [List.drop_zero]
  cases l.all (oY a)<;>simp
 rw [e] at h
 exact h
theorem aeK (a:Int) (l:List (List Int)) (hl:l.length≤maxLen):∀ (d i:Nat),l.length - i=d→i≤l.length→Ev (fun k=>eA.l0 k i a l) ((l.drop i).all (oY a)):=by
 unfold maxLen at hl
 intro d
 induction d with
 | zero =>
  intro i hd hi
  refine Ev.step (fun k=>by simp only [eA.l0];rfl) ?_
  simp only [show ¬ ((i:Int) < (l.length:Int)) by omega,if_false,List.drop_of_length_le (show l.length≤i by omega),List.all_nil]
  exact Ev.now _
 | succ d ih =>
  intro i hd hi
  have hil:i < l.length:=by omega
  refine Ev.step (fun k=>by simp only [eA.l0];rfl) ?_
  have Kz:(l.drop i).all (oY a)=(oY a l[i] && (l.drop (i+1)).all (oY a)):=by rw [List.drop_eq_getElem_cons hil,List.all_cons]
  rw [Kz]
  simp only [show ((i:Int) < (l.length:Int)) by omega,cB i,if_true,wI ((i:Int)+1) (by omega),tT l i hil,Gr,Option.bind_some]
  unfold oY sM
  by_cases h2:l[i].length=2
  ·simp only [h2, decide_true, Bool.true_and, show ((2 : Nat) : Int) = 2 from rfl, if_true, show (0 : Int) < 2 by omega, show (1 : Int) < 2 by omega]
   by_cases h3:(decide (0≤rd l[i] 0) && decide (rd l[i] 0≤wrap64 (a - 1)))=true
   ·by_cases h4 : (decide (0 ≤ rd l[i] 1) && decide (rd l[i] 1 ≤ wrap64 (a - 1))) = true
    ·simp only [h3, h4, if_true, Bool.true_and]
     exact ih (i+1) (by omega) (by omega)
    ·simp only [Bool.not_eq_true] at h4
     simp only [h3,h4,if_true,Bool.false_and,Bool.and_false,Bool.false_eq_true,if_false]
     exact Ev.now _
   ·simp only [Bool.not_eq_true] at h3
    simp only [h3,Bool.false_and,Bool.false_eq_true,if_false]
    exact Ev.now _
  ·simp only [show ¬ ((l[i].length : Int) = 2) by omega, h2, decide_false, Bool.false_and, if_false]
   exact Ev.now _
theorem aeJ (a:Int) (l:List (List Int)) (hl:l.length≤maxLen):Ev (fun k=>eA.f k a l) (mK a l):=by
 unfold eA.f mK
 simp only [Gr,Option.bind_some]
 have hj:∀ b,Ev (fun k=>eA.j0 k b a l) (!b && l.all (oY a)):=by
  intro b
  refine Ev.step (fun k=>by simp only [eA.j0];rfl) ?_
  cases b with
  | true=>simp only [if_true,Bool.not_true,Bool.false_and];exact Ev.now _
  | false =>
   simp only [Bool.false_eq_true,if_false,Bool.not_false,Bool.true_and]
   exact aeK a l hl l.length 0 (by omega) (by omega)
 by_cases h1:1≤a
 ·by_cases h2 : a ≤ 8
  ·simp only [h1, h2, decide_true, Bool.true_and, if_true]
   have h:=hj (decide ((l.length:Int) > 10))
   have e:(!decide ((l.length:Int) > 10))=decide (l.length≤10):=by
    by_cases h:l.length≤10
    ·simp [h];omega
    ·simp [h];omega
   rw [e] at h
   exact h
  ·simp only [h1, h2, decide_true, decide_false, Bool.true_and, Bool.false_and, Bool.false_eq_true, if_false]
   exact hj true
 ·simp only [h1, decide_false, Bool.false_and, Bool.false_eq_true, if_false]
  exact hj true
def az : Nat → (Nat → Int) → Int
 | 0,_=>0
 | n+1,f=>az n f+f n
theorem eE {n:Nat} {f g:Nat→Int} (h:∀ i,i < n→f i=g i):az n f=az n g:=by
 induction n with
 | zero=>rfl
 | succ n ih=>simp only [az];rw [ih (fun i hi=>h i (by omega)),h n (by omega)]
theorem o9 {n:Nat} {f:Nat→Int} (h:∀ i,i < n→f i=0):az n f=0:=by
 induction n with
 | zero=>rfl
 | succ n ih=>simp only [az];rw [ih (fun i hi=>h i (by omega)),h n (by omega)];rfl
theorem uJ (n:Nat) (f g:Nat→Int):az n (fun i=>f i+g i)=az n f+az n g:=by
 induction n with
 | zero=>rfl
 | succ n ih=>simp only [az];rw [ih];omega
theorem iX (n:Nat) (x:Int) (f:Nat→Int):az n (fun i=>x * f i)=x * az n f:=by
 induction n with
 | zero=>simp [az]
 | succ n ih=>simp only [az];rw [ih,Int.mul_add]
theorem Ed (n:Nat) (f:Nat→Int):az n (fun i=>- f i)=- az n f:=by
 induction n with
 | zero=>rfl
 | succ n ih=>simp only [az];rw [ih];omega
theorem Gz (n:Nat) (f g:Nat→Int):az n (fun i=>f i - g i)=az n f - az n g:=by
 induction n with
 | zero=>rfl
 | succ n ih=>simp only [az];rw [ih];omega
theorem uL {n:Nat} {f:Nat→Int} (k:Nat) (hk:k < n) (h:∀ i,i < n→i ≠ k→f i=0):az n f=f k:=by
 induction n with
 | zero=>omega
 | succ n ih =>
  simp only [az]
  by_cases hkn:k=n
  ·subst hkn
   rw [o9 (fun i hi=>h i (by omega) (by omega))];omega
  ·rw [ih (by omega) (fun i hi hne=>h i (by omega) hne),h n (by omega) (by omega)];omega
theorem Sn {n:Nat} {f:Nat→Int} (k l:Nat) (hk:k < n) (hl:l < n) (kJ:k ≠ l) (h:∀ i,i < n→i ≠ k→i ≠ l→f i=0):az n f=f k+f l:=by
 have e:az n f=az n (fun i=>(if i=k then f k else 0)+(if i=l then f l else 0)):=by
  refine eE (fun i hi=>?_)
  by_cases h1:i=k
  ·subst h1;simp [kJ]
  ·by_cases h2 : i = l
   ·subst h2;simp [h1]
   ·simp [h1,h2,h i hi h1 h2]
 rw [e,uJ,uL k hk (fun i _ hne=>by simp [hne]),uL l hl (fun i _ hne=>by simp [hne])]
 simp
theorem Lp (n:Nat) (f:Nat→Int):az (n+1) f=f 0+az n (fun i=>f (i+1)):=by
 induction n with
 | zero=>simp [az]
 | succ n ih =>
  rw [show az (n+1+1) f=az (n+1) f+f (n+1) from rfl,ih]
  simp only [az];omega
theorem zq (n m:Nat) (f:Nat→Nat→Int):az n (fun i=>az m (fun j=>f i j))=az m (fun j=>az n (fun i=>f i j)):=by
 induction n with
 | zero=>simp only [az];rw [o9 (fun _ _=>rfl)]
 | succ n ih=>simp only [az];rw [ih,uJ]
theorem adi (n m:Nat) (f:Nat→Int):az (n+m) f=az n f+az m (fun i=>f (n+i)):=by
 induction m with
 | zero=>simp [az]
 | succ m ih=>rw [← Nat.add_assoc];simp only [az];rw [ih];omega
theorem Sm {n m:Nat} {f:Nat→Int} (h:n≤m) (hz:∀ i,n≤i→i < m→f i=0):az m f=az n f:=by
 obtain ⟨d,rfl⟩:=Nat.exists_eq_add_of_le h
 rw [adi,o9 (n:=d) (fun i hi=>hz _ (by omega) (by omega))];omega
theorem adh (n : Nat) (f : Nat → Nat → Int) :
  az (n+1) (fun i=>az n (fun j=>f i j))=az (n+1) (fun b=>az b (fun a=>f b a+f a (b-1))):=by
 induction n with
 | zero=>simp [az]
 | succ n ih =>
  rw [show az (n+1+1) (fun b=>az b (fun a=>f b a+f a (b-1)))=az (n+1) (fun b=>az b (fun a=>f b a+f a (b-1)))+az (n+1) (fun a=>f (n+1) a+f a n) from rfl]
  rw [← ih,uJ]
  rw [show az (n+1+1) (fun i=>az (n+1) (fun j=>f i j))=az (n+1) (fun i=>az (n+1) (fun j=>f i j))+az (n+1) (fun j=>f (n+1) j) from rfl]
  rw [show (fun i=>az (n+1) (fun j=>f i j))=(fun i=>az n (fun j=>f i j)+f i n) from rfl,uJ]
  have:az (n+1) (f (n+1))=az (n+1) (fun j=>f (n+1) j):=rfl
  omega
def aln (i a:Nat):Nat:=if a < i then a else a+1
def jU (i:Nat):Int:=if i % 2=0 then 1 else -1
theorem Sk (i:Nat):jU (i+1)=- jU i:=by
 unfold jU;by_cases h:i % 2=0
 ·rw [if_pos h,if_neg (by omega)]
 ·rw [if_neg h,if_pos (by omega)];rfl
theorem xJ {i a n:Nat} (hi:i < n+1) (ha:a < n):aln i a < n+1:=by unfold aln;split<;>omega
def aG : Nat → (Nat → Nat → Int) → Int
 | 0,_=>1
 | n+1,M=>az (n+1) (fun i=>jU i * M i 0 * aG n (fun a b=>M (aln i a) (b+1)))
theorem nM (n:Nat) (M:Nat→Nat→Int):aG (n+1) M=az (n+1) (fun i=>jU i * M i 0 * aG n (fun a b=>M (aln i a) (b+1))):=rfl
theorem iW {n:Nat}:∀ {M N:Nat→Nat→Int},(∀ a b,a < n→b < n→M a b=N a b)→aG n M=aG n N:=by
 induction n with
 | zero=>intros;rfl
 | succ n ih =>
  intro M N h
  rw [nM,nM]
  refine eE (fun i hi=>?_)
  rw [h i 0 hi (by omega),ih (fun a b ha hb=>h _ _ (xJ hi ha) (by omega))]
def bt (M:Nat→Nat→Int) (i:Nat) (r:Nat→Int):Nat→Nat→Int:=fun a b=>if a=i then r b else M a b
def alu (M:Nat→Nat→Int) (j:Nat) (c:Nat→Int):Nat→Nat→Int:=fun a b=>if b=j then c a else M a b
def ke (i a:Nat):Nat:=if a < i then a else a - 1
theorem Gy {i a:Nat} (h:a ≠ i):aln i (ke i a)=a:=by
 unfold aln ke;by_cases h1:a < i
 ·simp [h1]
 ·rw [if_neg h1,if_neg (by omega)];omega
theorem Sl {i a k:Nat} (h:k ≠ i):aln i a=k↔a=ke i k:=by unfold aln ke;split<;>split<;>omega
theorem Ee {i k n:Nat} (hi:i < n+1) (hk:k < n+1) (h:k ≠ i):ke i k < n:=by unfold ke;split<;>omega
theorem xK (i a:Nat):aln i a ≠ i:=by unfold aln;split<;>omega
theorem Lk {M:Nat→Nat→Int} {i k:Nat} {r:Nat→Int} (h:k ≠ i):(fun a b=>bt M k r (aln i a) (b+1))=bt (fun a b=>M (aln i a) (b+1)) (ke i k) (fun b=>r (b+1)):=by
 funext a b
 unfold bt
 by_cases e:aln i a=k
 ·rw [if_pos e,if_pos ((Sl h).mp e)]
 ·rw [if_neg e,if_neg (fun h'=>e ((Sl h).mpr h'))]
theorem Ll {M:Nat→Nat→Int} {k:Nat} {r:Nat→Int}:(fun a b=>bt M k r (aln k a) (b+1))=(fun a b=>M (aln k a) (b+1)):=by
 funext a b
 unfold bt
 rw [if_neg (xK k a)]
theorem Ea {n:Nat}:∀ (M:Nat→Nat→Int) (k:Nat),k < n→∀ (x y:Int) (r s:Nat→Int),aG n (bt M k (fun b=>x * r b+y * s b))=x * aG n (bt M k r)+y * aG n (bt M k s):=by
 induction n with
 | zero=>intro M k hk;omega
 | succ n ih =>
  intro M k hk x y r s
  rw [nM,nM,nM,← iX,← iX,← uJ]
  refine eE (fun i hi=>?_)
  by_cases e:k=i
  ·subst e
   rw [Ll,Ll,Ll]
   simp only [bt,if_true]
   generalize aG n _=D
   grind
  ·rw [Lk e, Lk e, Lk e, ih _ _ (Ee hi hk e)]
   simp only [bt,if_neg (Ne.symm e)]
   generalize aG n _=D
   generalize aG n _=E
   grind
theorem Sf {n:Nat} (M:Nat→Nat→Int) (k:Nat) (hk:k < n) (x:Int) (r:Nat→Int):aG n (bt M k (fun b=>x * r b))=x * aG n (bt M k r):=by
 have:=Ea M k hk x 0 r r
 simpa using this
theorem Bp {n:Nat} (M:Nat→Nat→Int) (k:Nat) (hk:k < n) (r s:Nat→Int):aG n (bt M k (fun b=>r b+s b))=aG n (bt M k r)+aG n (bt M k s):=by
 have:=Ea M k hk 1 1 r s
 simpa using this
theorem zo (M:Nat→Nat→Int) (k:Nat):bt M k (M k)=M:=by
 funext a b;unfold bt;split
 ·case _ h=>rw [h]
 ·rfl
theorem r9 (M:Nat→Nat→Int) {k l:Nat} (h:k ≠ l) (r s:Nat→Int):bt (bt M k r) l s=bt (bt M l s) k r:=by
 funext a b;unfold bt;by_cases e:a=l
 ·subst e;simp [Ne.symm h]
 ·simp [e]
theorem ac8 {n:Nat} (M:Nat→Nat→Int) (k:Nat) (hk:k < n) (h:∀ b,b < n→M k b=0):aG n M=0:=by
 have e:aG n M=aG n (bt M k (fun b=>0 * M k b)):=by
  refine iW (fun a b _ hb=>?_)
  unfold bt;split
  ·case _ h'=>rw [h',h b hb];simp
  ·rfl
 rw [e,Sf _ _ hk];simp
theorem Gt {n:Nat}:∀ (M:Nat→Nat→Int) (k:Nat),k+1 < n→(∀ b,b < n→M k b=M (k+1) b)→aG n M=0:=by
 induction n with
 | zero=>intro M k hk;omega
 | succ n ih =>
  intro M k hk h
  rw [nM,Sn k (k+1) (by omega) hk (by omega)]
  ·have e:aG n (fun a b=>M (aln k a) (b+1))=aG n (fun a b=>M (aln (k+1) a) (b+1)):=by
    refine iW (fun a b ha hb=>?_)
    by_cases h1:a=k
    ·subst h1
     have e1:aln a a=a+1:=by unfold aln;split<;>omega
     have e2:aln (a+1) a=a:=by unfold aln;split<;>omega
     rw [e1,e2,h _ (by omega)]
    ·have : aln k a = aln (k+1) a := by unfold aln; split <;> split <;> omega
     rw [this]
   rw [e,Sk,h 0 (by omega)]
   generalize aG n _=D
   grind
  ·intro i hi h1 h2
   have:aG n (fun a b=>M (aln i a) (b+1))=0:=by
    by_cases hik:i < k
    ·refine ih _ (k-1) (by omega) (fun b hb => ?_)
     have e1:aln i (k-1)=k:=by unfold aln;split<;>omega
     have e2:aln i (k-1+1)=k+1:=by unfold aln;split<;>omega
     simp only [e1,e2];exact h _ (by omega)
    ·refine ih _ k (by omega) (fun b hb => ?_)
     have e1:aln i k=k:=by unfold aln;split<;>omega
     have e2:aln i (k+1)=k+1:=by unfold aln;split<;>omega
     simp only [e1,e2];exact h _ (by omega)
   rw [this];simp
theorem acY {n:Nat} (M:Nat→Nat→Int) (k:Nat) (hk:k+1 < n) (r s:Nat→Int):aG n (bt (bt M k r) (k+1) s)=- aG n (bt (bt M k s) (k+1) r):=by
 have h0:aG n (bt (bt M k (fun b=>r b+s b)) (k+1) (fun b=>r b+s b))=0 :=
  Gt _ k hk (fun b _=>by simp [bt])
 have hr:aG n (bt (bt M k r) (k+1) r)=0:=Gt _ k hk (fun b _=>by simp [bt])
 have hs:aG n (bt (bt M k s) (k+1) s)=0:=Gt _ k hk (fun b _=>by simp [bt])
 rw [Bp _ _ hk,r9 _ (show k ≠ k+1 by omega),r9 _ (show k ≠ k+1 by omega),Bp _ _ (by omega),Bp _ _ (by omega)] at h0
 rw [r9 _ (show k+1 ≠ k by omega),r9 _ (show k+1 ≠ k by omega),r9 _ (show k+1 ≠ k by omega),r9 _ (show k+1 ≠ k by omega),hr,hs] at h0
 omega
theorem Sb {n:Nat}:∀ (d:Nat) (M:Nat→Nat→Int) (k:Nat),k+1+d < n→(∀ b,b < n→M k b=M (k+1+d) b)→aG n M=0:=by
 intro d
 induction d with
 | zero=>intro M k hk h;exact Gt M k hk h
 | succ d ih =>
  intro M k hk h
  have e:M=bt (bt M (k+1+d) (M (k+1+d))) (k+1+d+1) (M (k+1+d+1)):=by
   rw [zo,zo]
  rw [e,acY _ _ (by omega)]
  rw [ih _ k (by omega) (fun b hb=>?_)]
  ·rfl
  ·simp only [bt]
   rw [if_neg (by omega),if_neg (by omega),if_neg (by omega),if_pos trivial]
   exact h b hb
theorem zm {n:Nat} (M:Nat→Nat→Int) (k l:Nat) (hk:k < n) (hl:l < n) (kJ:k ≠ l) (h:∀ b,b < n→M k b=M l b):aG n M=0:=by
 rcases Nat.lt_or_gt_of_ne kJ with h1|h1
 ·obtain ⟨d, rfl⟩ := Nat.exists_eq_add_of_lt h1
  exact Sb d M k (by omega) (fun b hb=>by rw [h b hb];congr 1;omega)
 ·obtain ⟨d, rfl⟩ := Nat.exists_eq_add_of_lt h1
  exact Sb d M l (by omega) (fun b hb=>by rw [← h b hb];congr 1;omega)
theorem ac7 {n:Nat} (M:Nat→Nat→Int) (k l:Nat) (hk:k < n) (hl:l < n) (kJ:k ≠ l) (x:Int):aG n (bt M k (fun b=>M k b+x * M l b))=aG n M:=by
 have h1:=Ea M k hk 1 x (M k) (M l)
 have h2:aG n (bt M k (M l))=0:=zm _ k l hk hl kJ (fun b _=>by simp [bt,Ne.symm kJ])
 rw [h2,zo] at h1
 simpa using h1
theorem ac9 {n:Nat} (M:Nat→Nat→Int) (l:Nat) (hl:l < n) (x:Nat→Int) (hx:x l=0):aG n (fun a b=>M a b+x a * M l b)=aG n M:=by
 have key:∀ m,m≤n→aG n (fun a b=>if a < m then M a b+x a * M l b else M a b)=aG n M:=by
  intro m
  induction m with
  | zero=>intro _;exact iW (fun a b _ _=>by simp)
  | succ m ih =>
   intro hm
   rw [← ih (by omega)]
   by_cases hml:m=l
   ·subst hml
    refine iW (fun a b _ _=>?_)
    by_cases h1:a < m
    ·rw [if_pos h1,if_pos (by omega)]
    ·by_cases h2 : a = m
     ·subst h2;simp [hx]
     ·rw [if_neg h1,if_neg (by omega)]
   ·rw [← ac7 (fun a b => if a < m then M a b + x a * M l b else M a b) m l (by omega) hl hml (x m)]
    refine iW (fun a b _ _=>?_)
    simp only [bt]
    by_cases h2:a=m
    ·subst h2
     by_cases h3:l < a
     ·simp [h3,hx]
     ·simp [h3]
    ·by_cases h1 : a < m
     ·rw [if_pos (by omega),if_neg h2,if_pos h1]
     ·rw [if_neg (by omega),if_neg h2,if_neg h1]
 rw [← key n (Nat.le_refl n)]
 exact iW (fun a b ha _=>by rw [if_pos ha])
theorem Sg {n:Nat} (M:Nat→Nat→Int) (k l:Nat) (hk:k < n) (hl:l < n) (kJ:k ≠ l):aG n (bt (bt M k (M l)) l (M k))=- aG n M:=by
 have h0:aG n (bt (bt M k (fun b=>M k b+M l b)) l (fun b=>M k b+M l b))=0 :=
  zm _ k l hk hl kJ (fun b _=>by simp [bt,kJ])
 have hr:aG n (bt (bt M k (M k)) l (M k))=0:=zm _ k l hk hl kJ (fun b _=>by simp [bt,kJ])
 have hs:aG n (bt (bt M k (M l)) l (M l))=0:=zm _ k l hk hl kJ (fun b _=>by simp [bt,kJ])
 rw [Bp _ _ hl,r9 _ kJ,r9 _ kJ,Bp _ _ hk,Bp _ _ hk] at h0
 rw [r9 _ (Ne.symm kJ),r9 _ (Ne.symm kJ),r9 _ (Ne.symm kJ),r9 _ (Ne.symm kJ),hr,hs,zo,zo] at h0
 omega
theorem Li {M:Nat→Nat→Int} {i k:Nat} {c:Nat→Int}:(fun a b=>alu M (k+1) c (aln i a) (b+1))=alu (fun a b=>M (aln i a) (b+1)) k (fun a=>c (aln i a)):=by
 funext a b
 unfold alu
 by_cases e:b=k
 ·subst e;simp
 ·simp [e]
theorem Lj {M:Nat→Nat→Int} {i:Nat} {c:Nat→Int}:(fun a b=>alu M 0 c (aln i a) (b+1))=(fun a b=>M (aln i a) (b+1)):=by
 funext a b;unfold alu;simp
theorem D9 {n:Nat}:∀ (M:Nat→Nat→Int) (k:Nat),k < n→∀ (x y:Int) (r s:Nat→Int),aG n (alu M k (fun b=>x * r b+y * s b))=x * aG n (alu M k r)+y * aG n (alu M k s):=by
 induction n with
 | zero=>intro M k hk;omega
 | succ n ih =>
  intro M k hk x y r s
  rw [nM,nM,nM,← iX,← iX,← uJ]
  refine eE (fun i hi=>?_)
  cases k with
  | zero =>
   rw [Lj,Lj,Lj]
   simp only [alu,if_true]
   generalize aG n _=D
   grind
  | succ k =>
   rw [Li,Li,Li,ih _ _ (by omega)]
   simp only [alu,if_neg (show ¬ 0=k+1 by omega)]
   generalize aG n _=D
   generalize aG n _=E
   grind
theorem ac3 {n:Nat} (M:Nat→Nat→Int) (k:Nat) (hk:k < n) (x:Int) (r:Nat→Int):aG n (alu M k (fun b=>x * r b))=x * aG n (alu M k r):=by
 have:=D9 M k hk x 0 r r
 simpa using this
theorem Ld {n:Nat} (M:Nat→Nat→Int) (k:Nat) (hk:k < n) (r s:Nat→Int):aG n (alu M k (fun b=>r b+s b))=aG n (alu M k r)+aG n (alu M k s):=by
 have:=D9 M k hk 1 1 r s
 simpa using this
theorem Eb (M:Nat→Nat→Int) (k:Nat):alu M k (fun a=>M a k)=M:=by
 funext a b;unfold alu;split
 ·case _ h=>rw [h]
 ·rfl
theorem Bq (M:Nat→Nat→Int) {k l:Nat} (h:k ≠ l) (r s:Nat→Int):alu (alu M k r) l s=alu (alu M l s) k r:=by
 funext a b;unfold alu;by_cases e:b=l
 ·subst e;simp [Ne.symm h]
 ·simp [e]
theorem Le {n:Nat} (M:Nat→Nat→Int) (k:Nat) (hk:k < n) (h:∀ a,a < n→M a k=0):aG n M=0:=by
 have e:aG n M=aG n (alu M k (fun a=>0 * M a k)):=by
  refine iW (fun a b ha _=>?_)
  unfold alu;split
  ·case _ h'=>rw [h',h a ha];simp
  ·rfl
 rw [e,ac3 _ _ hk];simp
theorem Gu {n:Nat}:∀ (M:Nat→Nat→Int) (k:Nat),k+1 < n→(∀ a,a < n→M a k=M a (k+1))→aG n M=0:=by
 induction n with
 | zero=>intro M k hk;omega
 | succ n ih =>
  intro M k hk h
  cases k with
  | succ k =>
   rw [nM]
   refine o9 (fun i hi=>?_)
   rw [ih _ k (by omega) (fun a ha=>h _ (xJ hi ha))];simp
  | zero =>
   obtain ⟨m,rfl⟩:∃ m,n=m+1:=⟨n - 1,by omega⟩
   rw [nM]
   have e:az (m+1+1) (fun i=>jU i * M i 0 * aG (m+1) (fun a b=>M (aln i a) (b+1)))=az (m+1+1) (fun i=>az (m+1) (fun j=>jU i * jU j * M i 0 * M (aln i j) 0 * aG m (fun a b=>M (aln i (aln j a)) (b+1+1)))):=by
    refine eE (fun i hi=>?_)
    rw [nM,← iX]
    refine eE (fun j hj=>?_)
    rw [h (aln i j) (xJ hi hj)]
    generalize aG m _=D
    grind
   rw [e,adh]
   refine o9 (fun b hb=>o9 (fun a ha=>?_))
   have e1:aln b a=a:=by unfold aln;split<;>omega
   have e2:aln a (b-1)=b:=by unfold aln;split<;>omega
   have e3:∀ c,aln b (aln a c)=aln a (aln (b-1) c):=by intro c;unfold aln;(repeat' split)<;>omega
   have e4:jU b=- jU (b-1):=by rw [← Sk];congr 1;omega
   simp only [e1,e2,e3,e4]
   generalize aG m _=D
   grind
theorem ac1 {n:Nat} (M:Nat→Nat→Int) (k:Nat) (hk:k+1 < n) (r s:Nat→Int):aG n (alu (alu M k r) (k+1) s)=- aG n (alu (alu M k s) (k+1) r):=by
 have h0:aG n (alu (alu M k (fun b=>r b+s b)) (k+1) (fun b=>r b+s b))=0 :=
  Gu _ k hk (fun b _=>by simp [alu])
 have hr:aG n (alu (alu M k r) (k+1) r)=0:=Gu _ k hk (fun b _=>by simp [alu])
 have hs:aG n (alu (alu M k s) (k+1) s)=0:=Gu _ k hk (fun b _=>by simp [alu])
 rw [Ld _ _ hk,Bq _ (show k ≠ k+1 by omega),Bq _ (show k ≠ k+1 by omega),Ld _ _ (by omega),Ld _ _ (by omega)] at h0
 rw [Bq _ (show k+1 ≠ k by omega),Bq _ (show k+1 ≠ k by omega),Bq _ (show k+1 ≠ k by omega),Bq _ (show k+1 ≠ k by omega),hr,hs] at h0
 omega
theorem Sd {n:Nat}:∀ (d:Nat) (M:Nat→Nat→Int) (k:Nat),k+1+d < n→(∀ b,b < n→M b k=M b (k+1+d))→aG n M=0:=by
 intro d
 induction d with
 | zero=>intro M k hk h;exact Gu M k hk h
 | succ d ih =>
  intro M k hk h
  have e:M=alu (alu M (k+1+d) (fun a=>M a (k+1+d))) (k+1+d+1) (fun a=>M a (k+1+d+1)):=by
   rw [Eb,Eb]
  rw [e,ac1 _ _ (by omega)]
  rw [ih _ k (by omega) (fun b hb=>?_)]
  ·rfl
  ·simp only [alu]
   rw [if_neg (by omega),if_neg (by omega),if_neg (by omega),if_pos trivial]
   exact h b hb
theorem Lf {n:Nat} (M:Nat→Nat→Int) (k l:Nat) (hk:k < n) (hl:l < n) (kJ:k ≠ l) (h:∀ b,b < n→M b k=M b l):aG n M=0:=by
 rcases Nat.lt_or_gt_of_ne kJ with h1|h1
 ·obtain ⟨d, rfl⟩ := Nat.exists_eq_add_of_lt h1
  exact Sd d M k (by omega) (fun b hb=>by rw [h b hb];congr 1;omega)
 ·obtain ⟨d, rfl⟩ := Nat.exists_eq_add_of_lt h1
  exact Sd d M l (by omega) (fun b hb=>by rw [← h b hb];congr 1;omega)
theorem ac0 {n:Nat} (M:Nat→Nat→Int) (k l:Nat) (hk:k < n) (hl:l < n) (kJ:k ≠ l) (x:Int):aG n (alu M k (fun a=>M a k+x * M a l))=aG n M:=by
 have h1:=D9 M k hk 1 x (fun a=>M a k) (fun a=>M a l)
 have h2:aG n (alu M k (fun a=>M a l))=0:=Lf _ k l hk hl kJ (fun b _=>by simp [alu,Ne.symm kJ])
 rw [h2,Eb] at h1
 simpa using h1
theorem ac4 {n:Nat} (M:Nat→Nat→Int) (l:Nat) (hl:l < n) (x:Nat→Int) (hx:x l=0):aG n (fun a b=>M a b+x b * M a l)=aG n M:=by
 have key:∀ m,m≤n→aG n (fun a b=>if b < m then M a b+x b * M a l else M a b)=aG n M:=by
  intro m
  induction m with
  | zero=>intro _;exact iW (fun a b _ _=>by simp)
  | succ m ih =>
   intro hm
   rw [← ih (by omega)]
   by_cases hml:m=l
   ·subst hml
    refine iW (fun a b _ _=>?_)
    by_cases h1:b < m
    ·rw [if_pos h1,if_pos (by omega)]
    ·by_cases h2 : b = m
     ·subst h2;simp [hx]
     ·rw [if_neg h1,if_neg (by omega)]
   ·rw [← ac0 (fun a b => if b < m then M a b + x b * M a l else M a b) m l (by omega) hl hml (x m)]
    refine iW (fun a b _ _=>?_)
    simp only [alu]
    by_cases h2:b=m
    ·subst h2
     by_cases h3:l < b
     ·simp [h3,hx]
     ·simp [h3]
    ·by_cases h1 : b < m
     ·rw [if_pos (by omega),if_neg h2,if_pos h1]
     ·rw [if_neg (by omega),if_neg h2,if_neg h1]
 rw [← key n (Nat.le_refl n)]
 exact iW (fun a b _ hb=>by rw [if_pos hb])
theorem D_ {n:Nat}:∀ (M:Nat→Nat→Int),(∀ b,b < n→M n b=0)→aG (n+1) M=M n n * aG n M:=by
 induction n with
 | zero=>intro M _;simp [aG,az,jU]
 | succ n ih =>
  intro M h
  rw [nM (n+1)]
  rw [show az (n+1+1) (fun i=>jU i * M i 0 * aG (n+1) (fun a b=>M (aln i a) (b+1)))=az (n+1) (fun i=>jU i * M i 0 * aG (n+1) (fun a b=>M (aln i a) (b+1)))+jU (n+1) * M (n+1) 0 * aG (n+1) (fun a b=>M (aln (n+1) a) (b+1)) from rfl]
  rw [h 0 (by omega)]
  simp only [Int.mul_zero,Int.zero_mul,Int.add_zero]
  rw [nM n M,← iX]
  refine eE (fun i hi=>?_)
  have e:aln i n=n+1:=by unfold aln;split<;>omega
  rw [ih _ (fun b hb=>by rw [e];exact h _ (by omega))]
  rw [e]
  generalize aG n _=D
  grind
theorem ac5 {n:Nat}:∀ (M:Nat→Nat→Int),(∀ a,a < n→M a n=0)→aG (n+1) M=M n n * aG n M:=by
 induction n with
 | zero=>intro M _;simp [aG,az,jU]
 | succ n ih =>
  intro M h
  rw [nM (n+1)]
  rw [show az (n+1+1) (fun i=>jU i * M i 0 * aG (n+1) (fun a b=>M (aln i a) (b+1)))=az (n+1) (fun i=>jU i * M i 0 * aG (n+1) (fun a b=>M (aln i a) (b+1)))+jU (n+1) * M (n+1) 0 * aG (n+1) (fun a b=>M (aln (n+1) a) (b+1)) from rfl]
  have z:aG (n+1) (fun a b=>M (aln (n+1) a) (b+1))=0:=by
   refine Le _ n (by omega) (fun a ha=>?_)
   have e:aln (n+1) a=a:=by unfold aln;split<;>omega
   rw [e];exact h _ (by omega)
  rw [z]
  simp only [Int.mul_zero,Int.add_zero]
  rw [nM n M,← iX]
  refine eE (fun i hi=>?_)
  have e:aln i n=n+1:=by unfold aln;split<;>omega
  rw [ih _ (fun a ha=>by exact h _ (xJ hi (by omega)))]
  rw [e]
  generalize aG n _=D
  grind
def cK (j b:Nat):Int:=if b=j then 1 else 0
theorem Gw (j:Nat):cK j j=1:=by simp [cK]
theorem zn {j b:Nat} (h:b ≠ j):cK j b=0:=by simp [cK,h]
theorem Ec {n:Nat} (x:Nat→Int) (b:Nat) (hb:b < n):az n (fun j=>x j * cK j b)=x b:=by
 rw [uL b hb (fun i _ hne=>by rw [zn (Ne.symm hne)];simp),Gw];simp
theorem Lg {n : Nat} (M : Nat → Nat → Int) (i : Nat) (hi : i < n) (m : Nat) (x : Nat → Int) (r : Nat → Nat → Int) :
  aG n (bt M i (fun b=>az m (fun j=>x j * r j b)))=az m (fun j=>x j * aG n (bt M i (r j))):=by
 induction m with
 | zero=>exact ac8 _ i hi (fun b _=>by simp [bt,az])
 | succ m ih =>
  simp only [az]
  have:=Ea M i hi 1 (x m) (fun b=>az m (fun j=>x j * r j b)) (r m)
  simp only [Int.one_mul] at this
  rw [this,ih]
theorem Gv {n : Nat} (M : Nat → Nat → Int) (i : Nat) (hi : i < n) (m : Nat) (x : Nat → Int) (r : Nat → Nat → Int) :
  aG n (alu M i (fun b=>az m (fun j=>x j * r j b)))=az m (fun j=>x j * aG n (alu M i (r j))):=by
 induction m with
 | zero=>exact Le _ i hi (fun b _=>by simp [alu,az])
 | succ m ih =>
  simp only [az]
  have:=D9 M i hi 1 (x m) (fun b=>az m (fun j=>x j * r j b)) (r m)
  simp only [Int.one_mul] at this
  rw [this,ih]
def gU (n:Nat) (M:Nat→Nat→Int) (j i:Nat):Int:=aG n (bt M i (cK j))
theorem Lc {n:Nat} (M:Nat→Nat→Int) (k i:Nat) (hi:i < n) (hk:k < n):az n (fun j=>M k j * gU n M j i)=if k=i then aG n M else 0:=by
 unfold gU
 rw [← Lg M i hi n (M k) (fun j=>cK j)]
 have e:aG n (bt M i (fun b=>az n (fun j=>M k j * cK j b)))=aG n (bt M i (M k)):=by
  refine iW (fun a b _ hb=>?_)
  unfold bt;split
  ·exact Ec (M k) b hb
  ·rfl
 rw [e]
 by_cases h:k=i
 ·subst h;rw [zo,if_pos rfl]
 ·rw [if_neg h]
  exact zm _ i k hi hk (Ne.symm h) (fun b _=>by simp [bt,h])
theorem R_ {n:Nat} (M:Nat→Nat→Int) (i j:Nat) (hi:i < n) (hj:j < n):gU n M j i=aG n (alu M j (cK i)):=by
 unfold gU
 have e1:aG n (bt M i (cK j))=aG n (bt (alu M j (cK i)) i (cK j)):=by
  rw [← ac9 (bt M i (cK j)) i hi (fun a=>if a=i then 0 else - M a j) (by simp)]
  refine iW (fun a b ha hb=>?_)
  unfold bt alu
  by_cases h1:a=i
  ·subst h1;simp
  ·by_cases h2 : b = j
   ·subst h2; simp [h1, cK]
    omega
   ·simp [h1,h2,cK]
 have e2:aG n (alu M j (cK i))=aG n (bt (alu M j (cK i)) i (cK j)):=by
  rw [← ac4 (alu M j (cK i)) j hj (fun b=>if b=j then 0 else - M i b) (by simp)]
  refine iW (fun a b ha hb=>?_)
  unfold bt alu
  by_cases h1:b=j
  ·subst h1; by_cases h2 : a = i
   ·subst h2;simp [cK]
   ·simp [h2]
  ·by_cases h2 : a = i
   ·subst h2; simp [h1, cK]
    omega
   ·simp [h1,h2,cK]
 rw [e1,e2]
theorem acV {n:Nat} (M:Nat→Nat→Int) (j l:Nat) (hj:j < n) (hl:l < n):az n (fun i=>gU n M j i * M i l)=if j=l then aG n M else 0:=by
 have e0:az n (fun i=>gU n M j i * M i l)=az n (fun i=>M i l * aG n (alu M j (cK i))) :=
  eE (fun i hi=>by rw [R_ M i j hi hj,Int.mul_comm])
 rw [e0,← Gv M j hj n (fun i=>M i l) (fun i=>cK i)]
 have e:aG n (alu M j (fun b=>az n (fun i=>M i l * cK i b)))=aG n (alu M j (fun b=>M b l)):=by
  refine iW (fun a b ha _=>?_)
  unfold alu;split
  ·exact Ec (fun i=>M i l) a ha
  ·rfl
 rw [e]
 by_cases h:j=l
 ·subst h;rw [Eb,if_pos rfl]
 ·rw [if_neg h]
  exact Lf _ j l hj hl h (fun b _=>by simp [alu,Ne.symm h])
theorem Sc (r : Nat) (K : Nat → Nat → Int) :
  aG (r+1) K=K r r * aG r K - az r (fun j=>az r (fun i=>K r j * gU r K j i * K i r)):=by
 have hrow:aG (r+1) K=az (r+1) (fun j=>K r j * aG (r+1) (bt K r (cK j))):=by
  rw [← Lg K r (by omega) (r+1) (K r) (fun j=>cK j)]
  refine iW (fun a b _ hb=>?_)
  unfold bt;split
  ·case _ h=>exact (by rw [h]:K a b=K r b).trans (Ec (K r) b hb).symm
  ·rfl
 rw [hrow]
 rw [show az (r+1) (fun j=>K r j * aG (r+1) (bt K r (cK j)))=az r (fun j=>K r j * aG (r+1) (bt K r (cK j)))+K r r * aG (r+1) (bt K r (cK r)) from rfl]
 have abC:aG (r+1) (bt K r (cK r))=aG r K:=by
  rw [D_ _ (fun b hb=>by simp [bt,cK];omega)]
  have:bt K r (cK r) r r=1:=by simp [bt,cK]
  rw [this,Int.one_mul]
  exact iW (fun a b ha _=>by unfold bt;rw [if_neg (by omega)])
 have hj:∀ j,j < r→aG (r+1) (bt K r (cK j))=- az r (fun i=>gU r K j i * K i r):=by
  intro j hj
  have aaA:aG (r+1) (bt K r (cK j))=az r (fun i=>K i r * aG (r+1) (alu (bt K r (cK j)) r (cK i))):=by
   rw [← Gv (bt K r (cK j)) r (by omega) r (fun i=>K i r) (fun i=>cK i)]
   refine iW (fun a b ha _=>?_)
   unfold alu;split
   ·case _ h =>
    subst h
    by_cases h2:a=b
    ·subst h2
     refine Eq.trans ?_ (o9 (f:=fun i=>K i a * cK i a) (fun i hi=>by rw [zn (show a ≠ i by omega)];simp)).symm
     simp [bt,cK];omega
    ·refine Eq.trans ?_ (Ec (fun i => K i b) a (by omega)).symm
     simp [bt,h2]
   ·rfl
  rw [aaA,← Ed]
  refine eE (fun i hi=>?_)
  have hs:=Sg (alu (bt K r (cK j)) r (cK i)) i r (n:=r+1) (by omega) (by omega) (by omega)
  have hx:aG (r+1) (bt (bt (alu (bt K r (cK j)) r (cK i)) i (alu (bt K r (cK j)) r (cK i) r)) r (alu (bt K r (cK j)) r (cK i) i))=gU r K j i:=by
   rw [ac5]
   ·unfold gU
    have:bt (bt (alu (bt K r (cK j)) r (cK i)) i (alu (bt K r (cK j)) r (cK i) r)) r (alu (bt K r (cK j)) r (cK i) i) r r=1:=by
     simp [bt,alu,cK]
    rw [this,Int.one_mul]
    refine iW (fun a b ha hb=>?_)
    unfold bt alu
    have h1:a ≠ r:=by omega
    have h2:b ≠ r:=by omega
    by_cases h3:a=i
    ·subst h3;simp [h1,h2]
    ·simp [h1,h2,h3]
   ·intro a ha
    have h1:a ≠ r:=by omega
    unfold bt alu
    by_cases h3:a=i
    ·subst h3;simp [h1,cK];omega
    ·simp [h1,h3,cK]
  rw [hx] at hs
  have:aG (r+1) (alu (bt K r (cK j)) r (cK i))=- gU r K j i:=by omega
  rw [this];grind
 rw [abC]
 have e2:az r (fun j=>K r j * aG (r+1) (bt K r (cK j)))=- az r (fun j=>az r (fun i=>K r j * gU r K j i * K i r)):=by
  rw [← Ed]
  refine eE (fun j hjr=>?_)
  rw [hj j hjr,Int.mul_neg,← iX]
  congr 1
  exact eE (fun i _=>by grind)
 rw [e2];omega
def k7 (n:Nat) (c:Nat→Int) (u:Int):Int:=az (n+1) (fun k=>c k * u ^ k)
def uN (c : Nat → Int) : Nat → Int
 | 0=>0
 | k+1=>c k
theorem adb (n:Nat) (c:Nat→Int) (u:Int):k7 (n+1) c u=c 0+u * k7 n (fun k=>c (k+1)) u:=by
 unfold k7
 rw [Lp,← iX]
 congr 1
 ·simp
 ·exact eE (fun i _=>by rw [Int.pow_succ];grind)
theorem adg (n:Nat) (c:Nat→Int) (u:Int):k7 (n+1) (uN c) u=u * k7 n c u:=by
 rw [adb];show 0+u * k7 n c u=_;omega
theorem ade {n m:Nat} (c:Nat→Int) (u:Int) (h:n≤m) (hz:∀ k,n < k→c k=0):k7 m c u=k7 n c u:=by
 unfold k7
 exact Sm (by omega) (fun i hi _=>by rw [hz i (by omega)];simp)
theorem Sj (n:Nat) (c d:Nat→Int) (u:Int):k7 n (fun k=>c k+d k) u=k7 n c u+k7 n d u:=by
 unfold k7;rw [← uJ];exact eE (fun i _=>by grind)
theorem Lo (n:Nat) (x:Int) (c:Nat→Int) (u:Int):k7 n (fun k=>x * c k) u=x * k7 n c u:=by
 unfold k7;rw [← iX];exact eE (fun i _=>by grind)
theorem adf (n m:Nat) (x:Nat→Int) (c:Nat→Nat→Int) (u:Int):k7 n (fun k=>az m (fun i=>x i * c i k)) u=az m (fun i=>x i * k7 n (c i) u):=by
 induction m with
 | zero=>simp only [az];unfold k7;exact o9 (fun _ _=>by simp)
 | succ m ih=>simp only [az];rw [Sj,ih,Lo]
def mb : Nat → (Nat → Nat → Int) → (Nat → Nat → Int) → Nat → Int
 | 0,_,_=>fun k=>if k=0 then 1 else 0
 | n+1,P,Q=>fun k=>az (n+1) (fun i=>jU i * (P i 0 * mb n (fun a b=>P (aln i a) (b+1)) (fun a b=>Q (aln i a) (b+1)) k+Q i 0 * uN (mb n (fun a b=>P (aln i a) (b+1)) (fun a b=>Q (aln i a) (b+1))) k))
theorem acX (n:Nat) (P Q:Nat→Nat→Int) (k:Nat):mb (n+1) P Q k=az (n+1) (fun i=>jU i * (P i 0 * mb n (fun a b=>P (aln i a) (b+1)) (fun a b=>Q (aln i a) (b+1)) k+Q i 0 * uN (mb n (fun a b=>P (aln i a) (b+1)) (fun a b=>Q (aln i a) (b+1))) k)):=rfl
theorem Sa {n:Nat}:∀ (P Q:Nat→Nat→Int) (k:Nat),n < k→mb n P Q k=0:=by
 induction n with
 | zero=>intro P Q k hk;simp [mb];omega
 | succ n ih =>
  intro P Q k hk
  rw [acX]
  refine o9 (fun i hi=>?_)
  rw [ih _ _ k (by omega)]
  obtain ⟨l,rfl⟩:∃ l,k=l+1:=⟨k - 1,by omega⟩
  show jU i * (P i 0 * 0+Q i 0 * mb n _ _ l)=0
  rw [ih _ _ l (by omega)];simp
theorem ac6 {n:Nat}:∀ (P Q:Nat→Nat→Int) (u:Int),aG n (fun a b=>P a b+u * Q a b)=k7 n (mb n P Q) u:=by
 induction n with
 | zero=>intro P Q u;simp [aG,k7,az,mb]
 | succ n ih =>
  intro P Q u
  rw [nM]
  have e:k7 (n+1) (mb (n+1) P Q) u=az (n+1) (fun i=>jU i * k7 (n+1) (fun k=>P i 0 * mb n (fun a b=>P (aln i a) (b+1)) (fun a b=>Q (aln i a) (b+1)) k+Q i 0 * uN (mb n (fun a b=>P (aln i a) (b+1)) (fun a b=>Q (aln i a) (b+1))) k) u):=by
   rw [← adf];rfl
  rw [e]
  refine eE (fun i hi=>?_)
  rw [ih,Sj,Lo,Lo,adg,ade _ _ (Nat.le_succ n) (fun k hk=>Sa _ _ k hk)]
  grind
def ee : Nat → (Nat → Int) → Int
 | 0,_=>1
 | n+1,f=>ee n f * f n
theorem Si {n:Nat} {f g:Nat→Int} (h:∀ i,i < n→f i=g i):ee n f=ee n g:=by
 induction n with
 | zero=>rfl
 | succ n ih=>simp only [ee];rw [ih (fun i hi=>h i (by omega)),h n (by omega)]
theorem Lm {n:Nat} {f:Nat→Int} (h:∀ i,i < n→0≤f i):0≤ee n f:=by
 induction n with
 | zero=>simp [ee]
 | succ n ih=>simp only [ee];exact Int.mul_nonneg (ih (fun i hi=>h i (by omega))) (h n (by omega))
theorem Gx {n:Nat} {f g:Nat→Int} (h0:∀ i,i < n→0≤f i) (h:∀ i,i < n→f i≤g i):ee n f≤ee n g:=by
 induction n with
 | zero=>simp [ee]
 | succ n ih =>
  simp only [ee]
  exact Int.mul_le_mul (ih (fun i hi=>h0 i (by omega)) (fun i hi=>h i (by omega))) (h n (by omega)) (h0 n (by omega)) (Lm (fun i hi=>Int.le_trans (h0 i (by omega)) (h i (by omega))))
theorem uK {n:Nat} {f g:Nat→Int} (h:∀ i,i < n→f i≤g i):az n f≤az n g:=by
 induction n with
 | zero=>simp [az]
 | succ n ih=>simp only [az];have:=ih (fun i hi=>h i (by omega));have:=h n (by omega);omega
theorem o8 {n:Nat} {f:Nat→Int} (h:∀ i,i < n→0≤f i):0≤az n f:=by
 have:=uK (f:=fun _=>0) h
 rwa [o9 (fun _ _=>rfl)] at this
theorem adj {n : Nat} (w R : Nat → Int) (hw : ∀ i, i < n → 0 ≤ w i) (hR : ∀ i, i < n → 0 ≤ R i) :
  az n (fun i=>w i * ee (n-1) (fun a=>R (aln i a)))≤ee n (fun a=>w a+R a):=by
 induction n with
 | zero=>simp [az,ee]
 | succ n ih =>
  have ih:=ih (fun i hi=>hw i (by omega)) (fun i hi=>hR i (by omega))
  show az n (fun i=>w i * ee (n+1-1) (fun a=>R (aln i a)))+w n * ee (n+1-1) (fun a=>R (aln n a))≤ee n (fun a=>w a+R a) * (w n+R n)
  have e1:az n (fun i=>w i * ee (n+1-1) (fun a=>R (aln i a)))=R n * az n (fun i=>w i * ee (n-1) (fun a=>R (aln i a))):=by
   rw [← iX]
   refine eE (fun i hi=>?_)
   obtain ⟨m,rfl⟩:∃ m,n=m+1:=⟨n - 1,by omega⟩
   show w i * (ee m _ * R (aln i m))=_
   have:aln i m=m+1:=by unfold aln;split<;>omega
   rw [this]
   show _=R (m+1) * (w i * ee m _)
   grind
  have e2:ee (n+1-1) (fun a=>R (aln n a))=ee n R:=Si (fun a ha=>by
   have:aln n a=a:=by unfold aln;split<;>omega
   rw [this])
  rw [e1,e2]
  have h1:R n * az n (fun i=>w i * ee (n-1) (fun a=>R (aln i a)))≤R n * ee n (fun a=>w a+R a):=Int.mul_le_mul_of_nonneg_left ih (hR n (by omega))
  have h2:w n * ee n R≤w n * ee n (fun a=>w a+R a):=Int.mul_le_mul_of_nonneg_left (Gx (fun i hi=>hR i (by omega)) (fun i hi=>by have:=hw i (by omega);omega)) (hw n (by omega))
  have h3:ee n (fun a=>w a+R a) * (w n+R n)=w n * ee n (fun a=>w a+R a)+R n * ee n (fun a=>w a+R a):=by grind
  omega
def alh (x:Int):Int:=(x.natAbs:Int)
theorem iK (x:Int):0≤alh x:=by unfold alh;omega
theorem tJ (x y:Int):alh (x * y)=alh x * alh y:=by unfold alh;rw [Int.natAbs_mul];simp
theorem R7 (x y:Int):alh (x+y)≤alh x+alh y:=by unfold alh;omega
theorem R8 (i:Nat):alh (jU i)=1:=by unfold jU;split<;>rfl
theorem R9:alh 0=0:=rfl
theorem Gs (n:Nat) (f:Nat→Int):alh (az n f)≤az n (fun i=>alh (f i)):=by
 induction n with
 | zero=>simp [az,alh]
 | succ n ih=>simp only [az];have:=R7 (az n f) (f n);omega
theorem acW {n:Nat}:∀ (P Q:Nat→Nat→Int),az (n+1) (fun k=>alh (mb n P Q k))≤ee n (fun a=>az n (fun b=>alh (P a b)+alh (Q a b))):=by
 induction n with
 | zero=>intro P Q;simp [az,ee,mb,alh]
 | succ n ih =>
  intro P Q
  have key:∀ i,i < n+1→az (n+1+1) (fun k=>alh (jU i * (P i 0 * mb n (fun a b=>P (aln i a) (b+1)) (fun a b=>Q (aln i a) (b+1)) k+Q i 0 * uN (mb n (fun a b=>P (aln i a) (b+1)) (fun a b=>Q (aln i a) (b+1))) k)))≤(alh (P i 0)+alh (Q i 0)) * ee n (fun a=>az n (fun b=>alh (P (aln i a) (b+1))+alh (Q (aln i a) (b+1)))):=by
   intro i hi
   have KM:=ih (fun a b=>P (aln i a) (b+1)) (fun a b=>Q (aln i a) (b+1))
   have htop:=Sa (n:=n) (fun a b=>P (aln i a) (b+1)) (fun a b=>Q (aln i a) (b+1))
   generalize mb n (fun a b=>P (aln i a) (b+1)) (fun a b=>Q (aln i a) (b+1))=d at KM htop ⊢
   have h1:az (n+1+1) (fun k=>alh (d k))=az (n+1) (fun k=>alh (d k)):=Sm (by omega) (fun k hk _=>by rw [htop k (by omega)];rfl)
   have h2:az (n+1+1) (fun k=>alh (uN d k))=az (n+1) (fun k=>alh (d k)):=by
    rw [Lp];simp [uN,R9]
   have h3:az (n+1+1) (fun k=>alh (jU i * (P i 0 * d k+Q i 0 * uN d k)))≤az (n+1+1) (fun k=>alh (P i 0) * alh (d k)+alh (Q i 0) * alh (uN d k)):=by
    refine uK (fun k _=>?_)
    rw [tJ,R8,Int.one_mul,← tJ,← tJ]
    exact R7 _ _
   rw [uJ,iX,iX,h1,h2] at h3
   have h4:=Int.mul_le_mul_of_nonneg_left KM (iK (P i 0))
   have h5:=Int.mul_le_mul_of_nonneg_left KM (iK (Q i 0))
   have h6:=Int.add_mul (alh (P i 0)) (alh (Q i 0)) (ee n (fun a=>az n (fun b=>alh (P (aln i a) (b+1))+alh (Q (aln i a) (b+1)))))
   omega
  have h1:az (n+1+1) (fun k=>alh (mb (n+1) P Q k))≤az (n+1+1) (fun k=>az (n+1) (fun i=>alh (jU i * (P i 0 * mb n (fun a b=>P (aln i a) (b+1)) (fun a b=>Q (aln i a) (b+1)) k+Q i 0 * uN (mb n (fun a b=>P (aln i a) (b+1)) (fun a b=>Q (aln i a) (b+1))) k)))) :=
   uK (fun k _=>Gs _ _)
  rw [zq] at h1
  refine Int.le_trans h1 (Int.le_trans (uK key) ?_)
  have h2:=adj (n:=n+1) (fun i=>alh (P i 0)+alh (Q i 0)) (fun a=>az n (fun b=>alh (P a (b+1))+alh (Q a (b+1)))) (fun i _=>by have:=iK (P i 0);have:=iK (Q i 0);omega) (fun i _=>o8 (fun b _=>by have:=iK (P i (b+1));have:=iK (Q i (b+1));omega))
  refine Int.le_trans h2 (Int.le_of_eq (Si (fun a _=>?_)))
  rw [Lp]
theorem Lb {n:Nat} (f:Nat→Int) (k:Nat) (hk:k < n):alh (f k)≤az n (fun i=>alh (f i)):=by
 have h:=uK (n:=n) (f:=fun i=>if i=k then alh (f k) else 0) (g:=fun i=>alh (f i)) (fun i _=>by
  by_cases e:i=k
  ·simp [e]
  ·simp [e,iK])
 rw [uL k hk (fun i _ hne=>by simp [hne])] at h
 simpa using h
theorem uM (n i:Nat) (hi:i < n+1) (f:Nat→Int):az (n+1) f=f i+az n (fun t=>f (aln i t)):=by
 induction n with
 | zero =>
      obtain rfl:i=0:=by omega
      simp [az]
 | succ n ih =>
  by_cases h:i=n+1
  ·subst h
   have:az (n+1) (fun t=>f (aln (n+1) t))=az (n+1) f:=eE (fun t ht=>by
    have:aln (n+1) t=t:=by unfold aln;split<;>omega
    rw [this])
   rw [this];show az (n+1) f+f (n+1)=_;omega
  ·show az (n+1) f + f (n+1) = f i + (az n (fun t => f (aln i t)) + f (aln i n))
   rw [ih (by omega)]
   have:aln i n=n+1:=by unfold aln;split<;>omega
   rw [this];omega
theorem So (i t:Nat):ke i (aln i t)=t:=by
 unfold ke aln;by_cases h1:t < i
 ·simp [h1]
 ·rw [if_neg h1,if_neg (by omega)];omega
theorem ac2 {n : Nat} (M : Nat → Nat → Int) (c : Nat) (hc : c < n) (x : Int) (m : Nat) (hm : m ≤ c) (y : Nat → Int) :
  aG n (alu M c (fun a=>x * M a c+az m (fun j=>y j * M a j)))=x * aG n M:=by
 have h:=D9 M c hc x 1 (fun a=>M a c) (fun a=>az m (fun j=>y j * M a j))
 simp only [Int.one_mul] at h
 rw [h,Gv M c hc m y (fun j a=>M a j),Eb]
 rw [o9 (n:=m) (fun j hj=>by rw [Lf (alu M c (fun a=>M a j)) c j hc (by omega) (by omega) (fun b _=>by simp only [alu];rw [if_pos trivial,if_neg (by omega)])];simp)]
 omega
theorem Se {n : Nat} (M : Nat → Nat → Int) (c : Nat) (hc : c < n) (x : Int) (m : Nat) (hm : m ≤ c) (y : Nat → Int) :
  aG n (bt M c (fun b=>x * M c b+az m (fun j=>y j * M j b)))=x * aG n M:=by
 have h:=Ea M c hc x 1 (M c) (fun b=>az m (fun j=>y j * M j b))
 simp only [Int.one_mul] at h
 rw [h,Lg M c hc m y (fun j=>M j),zo]
 rw [o9 (n:=m) (fun j hj=>by rw [zm (bt M c (M j)) c j hc (by omega) (by omega) (fun b _=>by simp only [bt];rw [if_pos trivial,if_neg (by omega)])];simp)]
 omega
def jT (c:Nat) (A:Nat→Nat→Int) (i j:Nat):Int:=aG (c+1) (fun a b=>A (if a=c then i else a) (if b=c then j else b))
theorem Sh (c : Nat) (A : Nat → Nat → Int) (i j : Nat) :
  jT c A i j=A i j * aG c A - az c (fun l=>az c (fun k=>A i l * gU c A l k * A k j)):=by
 unfold jT
 rw [Sc]
 simp only [if_true]
 have e0:aG c (fun a b=>A (if a=c then i else a) (if b=c then j else b))=aG c A :=
  iW (fun a b ha hb=>by rw [if_neg (by omega),if_neg (by omega)])
 rw [e0]
 congr 1
 refine eE (fun l hl=>eE (fun k hk=>?_))
 rw [if_neg (show l ≠ c by omega),if_neg (show k ≠ c by omega)]
 congr 2
 unfold gU
 refine iW (fun a b ha hb=>?_)
 show (if a=k then cK l b else A (if a=c then i else a) (if b=c then j else b))=(if a=k then cK l b else A a b)
 rw [if_neg (show a ≠ c by omega),if_neg (show b ≠ c by omega)]
theorem ac_ {n:Nat} (A:Nat→Nat→Int) (c:Nat) (hc:c < n) (hp:aG c A ≠ 0) (h:∀ i,c≤i→i < n→jT c A i c=0):aG n A=0:=by
 have h1:=ac2 A c hc (aG c A) c (Nat.le_refl c) (fun l=>- az c (fun k=>gU c A l k * A k c))
 rw [Le _ c hc (fun a ha=>?_)] at h1
 ·rcases Int.mul_eq_zero.mp h1.symm with h2 | h2
  ·exact absurd h2 hp
  ·exact h2
 ·simp only [alu, if_true]
  have e:az c (fun l=>(- az c (fun k=>gU c A l k * A k c)) * A a l)=- az c (fun l=>az c (fun k=>A a l * gU c A l k * A k c)):=by
   rw [← Ed]
   refine eE (fun l _=>?_)
   rw [Int.neg_mul,Int.mul_comm,← iX]
   congr 1
   exact eE (fun k _=>by grind)
  rw [e]
  by_cases hac:a < c
  ·have e2:az c (fun l=>az c (fun k=>A a l * gU c A l k * A k c))=aG c A * A a c:=by
    rw [zq]
    rw [eE (g:=fun k=>(if a=k then aG c A else 0) * A k c) (fun k hk=>by
     rw [← Lc A a k hk hac,Int.mul_comm,← iX]
     exact eE (fun l _=>by grind))]
    rw [uL a hac (fun k _ hne=>by rw [if_neg (Ne.symm hne)];simp),if_pos rfl]
   rw [e2];omega
  ·have := h a (by omega) ha
   rw [Sh] at this
   have e3:A a c * aG c A=aG c A * A a c:=Int.mul_comm _ _
   omega
theorem acZ (c : Nat) (K : Nat → Nat → Int) (h1 : ∀ b, b < c → K c b = 0) (h2 : ∀ b, b < c → K (c+1) b = 0) :
  aG (c+1+1) K=aG c K * (K c c * K (c+1) (c+1) - K (c+1) c * K c (c+1)):=by
 rw [Sc,D_ K h1]
 have hz:∀ i,i < c→gU (c+1) K c i=0:=by
  intro i hi
  unfold gU
  have e:aG (c+1) (bt K i (cK c))=aG (c+1) (bt (bt K i (cK c)) c (fun b=>K c c * cK c b)):=by
   refine iW (fun a b ha hb=>?_)
   unfold bt
   by_cases h:a=c
   ·subst h
    rw [if_neg (show a ≠ i by omega),if_pos rfl]
    show K a b=K a a * cK a b
    by_cases hb':b=a
    ·subst hb';rw [Gw];omega
    ·rw [h1 b (by omega),zn hb'];omega
   ·rw [if_neg h]
  rw [e,Sf _ _ (by omega),zm _ c i (by omega) (by omega) (by omega) (fun b _=>by simp [bt])]
  simp
 have hc:gU (c+1) K c c=aG c K:=by
  unfold gU
  rw [D_ _ (fun b hb=>by simp only [bt,if_true];exact zn (by omega))]
  have:bt K c (cK c) c c=1:=by simp [bt,cK]
  rw [this,Int.one_mul]
  exact iW (fun a b ha _=>by unfold bt;rw [if_neg (by omega)])
 have e:az (c+1) (fun j=>az (c+1) (fun i=>K (c+1) j * gU (c+1) K j i * K i (c+1)))=K (c+1) c * aG c K * K c (c+1):=by
  rw [uL c (by omega) (fun j hj hne=>o9 (fun i hi=>by rw [h2 j (by omega)];simp))]
  rw [uL c (by omega) (fun i hi hne=>by rw [hz i (by omega)];simp),hc]
 rw [e];grind
theorem adk (c : Nat) (A : Nat → Nat → Int) (hp : aG c A ≠ 0) (i j : Nat) :
  aG c A * jT (c+1) A i j=jT c A c c * jT c A i j - jT c A i c * jT c A c j:=by
 let K:Nat→Nat→Int:=fun a b=>A (if a=c+1 then i else a) (if b=c+1 then j else b)
 have hK:jT (c+1) A i j=aG (c+1+1) K:=rfl
 have ZV:aG c K=aG c A:=iW (fun a b ha hb=>by show A _ _=_;rw [if_neg (by omega),if_neg (by omega)])
 let y:Nat→Nat→Int:=fun r k=>- az c (fun l=>K r l * gU c A l k)
 let R:Nat→Nat→Int:=fun r b=>aG c A * K r b+az c (fun k=>y r k * K k b)
 have s1:=Se K c (n:=c+1+1) (by omega) (aG c A) c (Nat.le_refl c) (y c)
 have s2:=Se (bt K c (R c)) (c+1) (n:=c+1+1) (by omega) (aG c A) c (by omega) (y (c+1))
 have e2:(fun b=>aG c A * bt K c (R c) (c+1) b+az c (fun j=>y (c+1) j * bt K c (R c) j b))=R (c+1):=by
  funext b
  show _=aG c A * K (c+1) b+az c (fun k=>y (c+1) k * K k b)
  congr 1
  ·simp only [bt];rw [if_neg (by omega)]
  ·exact eE (fun k hk=>by simp only [bt];rw [if_neg (by omega)])
 rw [e2] at s2
 have hR:∀ r b,R r b=K r b * aG c A - az c (fun l=>az c (fun k=>K r l * gU c A l k * K k b)):=by
  intro r b
  show aG c A * K r b+az c (fun k=>(- az c (fun l=>K r l * gU c A l k)) * K k b)=_
  have:az c (fun k=>(- az c (fun l=>K r l * gU c A l k)) * K k b)=- az c (fun l=>az c (fun k=>K r l * gU c A l k * K k b)):=by
   rw [zq,← Ed]
   refine eE (fun k _=>?_)
   rw [Int.neg_mul,Int.mul_comm,← iX]
   congr 1
   exact eE (fun l _=>by grind)
  rw [this,Int.mul_comm];omega
 have Dl:∀ r b,b < c→R r b=0:=by
  intro r b hb
  rw [hR]
  have:az c (fun l=>az c (fun k=>K r l * gU c A l k * K k b))=K r b * aG c A:=by
   rw [eE (g:=fun l=>K r l * (if l=b then aG c A else 0)) (fun l hl=>by
    rw [← acV A l b hl hb,← iX]
    refine eE (fun k hk=>?_)
    have:K k b=A k b:=by show A _ _=_;rw [if_neg (by omega),if_neg (by omega)]
    rw [this];grind)]
   rw [uL b hb (fun l _ hne=>by rw [if_neg hne];simp),if_pos rfl]
  omega
 have amf:∀ r b:Nat,jT c A (if r=c+1 then i else r) (if b=c+1 then j else b)=R r b:=by
  intro r b
  rw [Sh,hR]
  congr 1
  refine eE (fun l hl=>eE (fun k hk=>?_))
  show A _ l * gU c A l k * A k _=A _ (if l=c+1 then j else l) * gU c A l k * A (if k=c+1 then i else k) _
  rw [if_neg (show l ≠ c+1 by omega),if_neg (show k ≠ c+1 by omega)]
 have s3:=acZ c (bt (bt K c (R c)) (c+1) (R (c+1))) (fun b hb=>by
   simp only [bt];rw [if_neg (by omega),if_pos trivial];exact Dl c b hb) (fun b hb=>by
   simp only [bt];rw [if_pos trivial];exact Dl (c+1) b hb)
 have e3:aG c (bt (bt K c (R c)) (c+1) (R (c+1)))=aG c A:=by
  rw [← ZV]
  exact iW (fun a b ha _=>by simp only [bt];rw [if_neg (by omega),if_neg (by omega)])
 have v1:bt (bt K c (R c)) (c+1) (R (c+1)) c=R c:=by funext b;simp only [bt];rw [if_neg (by omega),if_pos trivial]
 have v2:bt (bt K c (R c)) (c+1) (R (c+1)) (c+1)=R (c+1):=by funext b;simp only [bt];rw [if_pos trivial]
 rw [e3,v1,v2,s2] at s3
 have s1':aG (c+1+1) (bt K c (R c))=aG c A * aG (c+1+1) K:=s1
 rw [s1',← hK] at s3
 have h00:=amf c c
 have h01:=amf c (c+1)
 have h10:=amf (c+1) c
 have h11:=amf (c+1) (c+1)
 rw [if_neg (show c ≠ c+1 by omega)] at h00 h01 h10
 rw [if_neg (show c ≠ c+1 by omega)] at h00
 rw [if_pos rfl] at h01 h10 h11
 rw [if_pos rfl] at h11
 rw [← h00,← h01,← h10,← h11] at s3
 have s4:aG c A * (aG c A * jT (c+1) A i j - (jT c A c c * jT c A i j - jT c A i c * jT c A c j))=0:=by grind
 rcases Int.mul_eq_zero.mp s4 with h|h
 ·exact absurd h hp
 ·omega
theorem ada (A:Nat→Nat→Int) (i j:Nat):jT 0 A i j=A i j:=by
 unfold jT;rw [D_ _ (fun b hb=>by omega)];simp [aG]
theorem Lh (c:Nat) (A:Nat→Nat→Int):jT c A c c=aG (c+1) A:=by
 unfold jT
 exact iW (fun a b _ _=>by
  congr 1
  ·split<;>simp_all
  ·split<;>simp_all)
def kM (i m a:Nat):Nat:=if a=i then m else if a=m then i else a
def vD (a:Int) (c:List Int):Bool:=decide ((c.length:Int)=a) && !(c.any oa)
theorem WW (x:Int):(decide (-200≤x) && decide (x≤200))=!oa x:=by unfold oa;simp
theorem acN (a:Int) (l:List (List Int)) (c:List Int) (hc:c.length≤maxLen):∀ (d i:Nat),c.length - i=d→i≤c.length→Ev (fun k=>fh.l1 k [c] 0 i a l) (if (c.drop i).any oa then 2 else 0):=by
 unfold maxLen at hc
 intro d
 induction d with
 | zero =>
  intro i hd hi
  refine Ev.step (fun k=>by simp only [fh.l1];rfl) ?_
  simp only [show (0:Int)≤0 by omega,show ((0:Int) < (([c]:List (List Int)).length:Int)) by simp,if_true,show ah [c] 0=c from rfl,show ¬ ((i:Int) < (c.length:Int)) by omega,if_false,List.drop_of_length_le (show c.length≤i by omega),List.any_nil,Bool.false_eq_true]
  refine Ev.step (fun k=>by simp only [fh.l0];rfl) ?_
  simp only [wI ((0:Int)+1) (by omega),show ¬ ((0:Int)+1 < (([c]:List (List Int)).length:Int)) by simp,if_false]
  exact Ev.now _
 | succ d ih =>
  intro i hd hi
  have hil:i < c.length:=by omega
  refine Ev.step (fun k=>by simp only [fh.l1];rfl) ?_
  simp only [show (0:Int)≤0 by omega,show ((0:Int) < (([c]:List (List Int)).length:Int)) by simp,if_true,show ah [c] 0=c from rfl,show ((i:Int) < (c.length:Int)) by omega,cB i,Gr,Option.bind_some,pn c i hil,wI ((i:Int)+1) (by omega),WW]
  rw [List.drop_eq_getElem_cons hil,List.any_cons]
  cases hb:oa c[i] with
  | true=>simp only [Bool.not_true,Bool.false_eq_true,if_false,Bool.true_or,if_true];exact Ev.now _
  | false=>simp only [Bool.not_false,if_true,Bool.false_or];exact ih (i+1) (by omega) (by omega)
theorem acM (a:Int) (l:List (List Int)) (c:List Int) (hl:l.length≤maxLen) (hc:c.length≤maxLen):Ev (fun k=>fh.f k a l [c]) (if mK a l then if vD a c then 0 else 2 else 1):=by
 unfold fh.f
 refine Ev.bind (aeJ a l hl) ?_
 cases mK a l with
 | false=>simp only [Bool.false_eq_true,if_false];exact Ev.now _
 | true =>
  simp only [if_true]
  refine Ev.step (fun k=>by simp only [fh.l0];rfl) ?_
  simp only [show ((0:Int) < (([c]:List (List Int)).length:Int)) by simp,show (0:Int)≤0 by omega,if_true,show ah [c] 0=c from rfl]
  unfold vD
  by_cases h:(c.length:Int)=a
  ·simp only [h, if_true, decide_true, Bool.true_and]
   have:=acN a l c hc c.length 0 (by omega) (by omega)
   rw [List.drop_zero] at this
   cases hb:c.any oa with
   | true=>simp only [hb,if_true] at this;simp only [Bool.not_true,Bool.false_eq_true,if_false];exact this
   | false=>simp only [hb,Bool.false_eq_true,if_false] at this;simp only [Bool.not_false,if_true];exact this
  ·simp only [h, if_false, decide_false, Bool.false_and, Bool.false_eq_true]
   exact Ev.now _
def zC (c:List Int) (s:Int):Int:=c.foldl (fun s x=>wrap64 (s+x)) s
theorem aeS (c:List Int) (hc:c.length≤maxLen):∀ (d i:Nat) (s:Int),c.length - i=d→i≤c.length→Ev (fun k=>ir.l0 k s c c.length i) (zC (c.drop i) s):=by
 unfold maxLen at hc
 intro d
 induction d with
 | zero =>
  intro i s hd hi
  refine Ev.step (fun k=>by simp only [ir.l0];rfl) ?_
  simp only [show ¬ ((i:Int) < (c.length:Int)) by omega,if_false,List.drop_of_length_le (show c.length≤i by omega)]
  exact Ev.now _
 | succ d ih =>
  intro i s hd hi
  have hil:i < c.length:=by omega
  refine Ev.step (fun k=>by simp only [ir.l0];rfl) ?_
  simp only [show ((i:Int) < (c.length:Int)) by omega,cB i,if_true,wI ((i:Int)+1) (by omega),pn c i hil]
  rw [List.drop_eq_getElem_cons hil]
  exact ih (i+1) _ (by omega) (by omega)
theorem acU (c:List Int) (hc:c.length≤maxLen):∀ (d i:Nat) (s:Int),c.length - i=d→i≤c.length→Ev (fun k=>iD.l0 k c s i) (zC (c.drop i) s):=by
 unfold maxLen at hc
 intro d
 induction d with
 | zero =>
  intro i s hd hi
  refine Ev.step (fun k=>by simp only [iD.l0];rfl) ?_
  simp only [show ¬ ((i:Int) < (c.length:Int)) by omega,if_false,List.drop_of_length_le (show c.length≤i by omega)]
  exact Ev.now _
 | succ d ih =>
  intro i s hd hi
  have hil:i < c.length:=by omega
  refine Ev.step (fun k=>by simp only [iD.l0];rfl) ?_
  simp only [show ((i:Int) < (c.length:Int)) by omega,cB i,if_true,wI ((i:Int)+1) (by omega),pn c i hil]
  rw [List.drop_eq_getElem_cons hil]
  exact ih (i+1) _ (by omega) (by omega)
theorem ae8 (e:Nat):Int.tdiv (e:Int) 2=((e / 2:Nat):Int):=rfl
theorem ae9 (e:Nat):Int.tmod (e:Int) 2=((e % 2:Nat):Int):=rfl
/-- Where the directed edge e begins, and where it ends. -/
def rL (l:List (List Int)) (e:Nat):Int:=rd (ah l ((e / 2:Nat):Int)) ((e % 2:Nat):Int)
def rS (l:List (List Int)) (e:Nat):Int:=rd (ah l ((e / 2:Nat):Int)) ((1 - e % 2:Nat):Int)
def two (l:List (List Int)):Prop:=∀ x ∈ l,x.length=2
theorem acE {a:Int} {l:List (List Int)} (h:mK a l=true):two l:=by
 intro x hx
 simp only [mK,Bool.and_eq_true,List.all_eq_true] at h
 have:=h.2.2.2 x hx
 simp only [oY,Bool.and_eq_true,decide_eq_true_eq] at this
 exact this.1
theorem K6 {a:Int} {l:List (List Int)} (h:mK a l=true):l.length≤10:=by
 simp only [mK,Bool.and_eq_true,decide_eq_true_eq] at h
 exact h.2.2.1
theorem R4 {a:Int} {l:List (List Int)} (h:mK a l=true):1≤a∧a≤8:=by
 simp only [mK,Bool.and_eq_true,decide_eq_true_eq] at h
 exact ⟨h.1,h.2.1⟩
theorem acD {a:Int} {l:List (List Int)} (h:mK a l=true) {x:List Int} (hx:x ∈ l):(0≤rd x 0∧rd x 0≤a - 1)∧(0≤rd x 1∧rd x 1≤a - 1):=by
 have hs:=R4 h
 simp only [mK,Bool.and_eq_true,List.all_eq_true] at h
 have:=h.2.2.2 x hx
 simp only [oY,sM,Bool.and_eq_true,decide_eq_true_eq] at this
 rw [jv (by omega) (by omega)] at this
 exact this.2
theorem afc {l:List (List Int)} (h2:two l) (e:Nat) (he:e < 2 * l.length):(ah l ((e / 2:Nat):Int)).length=2:=by
 have hi:e / 2 < l.length:=by omega
 rw [tT l (e / 2) hi]
 exact h2 _ (List.getElem_mem hi)
theorem acL (a:Int) (l:List (List Int)) (hl:l.length≤1048576) (h2:two l) (e:Nat) (he:e < 2 * l.length):zU.f a l e=some (rL l e,rS l e):=by
 have hx:=afc h2 e he
 unfold zU.f
 rw [ae8,ae9,jv (by omega) (by omega),if_pos (by omega),if_pos (by omega),hx]
 unfold rL rS
 rcases Nat.mod_two_eq_zero_or_one e with h|h
 ·rw [h];rfl
 ·rw [h];rfl
/-- The other direction of e's edge. -/
def opp (e:Nat):Nat:=if e % 2=0 then e+1 else e - 1
/-- May f come behind e. -/
def next (l:List (List Int)) (e f:Nat):Bool:=decide (rS l e=rL l f) && !decide (f=opp e)
theorem aeQ (n:Nat) (hn:n≤1048576):∀ (d i:Nat),n - i=d→i≤n→Ev (fun k=>ia.l0 k n (List.replicate i (List.replicate n 0)) n i) (List.replicate n (List.replicate n 0)):=by
 intro d
 induction d with
 | zero =>
  intro i hd hi
  obtain rfl:i=n:=by omega
  refine Ev.step (fun k=>by simp only [ia.l0];rfl) ?_
  simp only [Int.lt_irrefl,if_false]
  exact Ev.now _
 | succ d ih =>
  intro i hd hi
  refine Ev.step (fun k=>by simp only [ia.l0];rfl) ?_
  simp only [lI i n (by omega),cB n,Int.toNat_natCast,show n≤35184372088832 by omega,List.length_replicate,show i < 5864062014805 by omega,if_true,wI ((i:Int)+1) (by omega)]
  have h:=ih (i+1) (by omega) (by omega)
  rw [List.replicate_succ'] at h
  exact h
theorem aeP (n:Nat) (hn:n≤1048576):Ev (fun k=>ia.f k n) (List.replicate n (List.replicate n 0)):=aeQ n hn n 0 (by omega) (by omega)
theorem X2 (l:List Int) (h:l.length≤1048576):kr.f l=some l:=by
 unfold kr.f
 rw [if_pos (by omega)]
theorem K_ (l:List Int) (h:l.length≤1048576):p5.f l=some l:=by
 unfold p5.f
 simp only [Option.bind_some,List.length_nil,List.nil_append]
 rw [if_pos (by omega)]
/-- The two ends of edge i of a graph, as numbers below n. -/
def endsIn (n:Nat) (l:List (List Int)):Prop:=∀ i,i < l.length→(ah l (i:Int)).length=2∧∃ u v:Nat,rd (ah l (i:Int)) 0=u∧rd (ah l (i:Int)) 1=v∧u < n∧v < n
theorem K5 {a:Int} {l:List (List Int)} (h:mK a l=true):∃ n:Nat,a=n∧1≤n∧n≤8∧endsIn n l:=by
 have hs:=R4 h
 refine ⟨a.toNat,by omega,by omega,by omega,fun i hi=>?_⟩
 have hm:l[i] ∈ l:=List.getElem_mem hi
 rw [tT l i hi]
 have he:=acD h hm
 exact ⟨acE h _ hm,(rd l[i] 0).toNat,(rd l[i] 1).toNat,by omega,by omega,by omega,by omega⟩
/-- How often v is an end of the first i edges. -/
def mE (l : List (List Int)) : Nat → Nat → Nat
 | 0,_=>0
 | i+1,v=>mE l i v+(if rd (ah l (i:Int)) 0=(v:Int) then 1 else 0)+(if rd (ah l (i:Int)) 1=(v:Int) then 1 else 0)
theorem Ju (l:List (List Int)) (i v:Nat):mE l i v≤2 * i:=by
 induction i with
 | zero=>simp [mE]
 | succ i ih =>
  unfold mE
  have h1:(if rd (ah l (i:Int)) 0=(v:Int) then 1 else 0)≤1:=by split<;>omega
  have h2:(if rd (ah l (i:Int)) 1=(v:Int) then 1 else 0)≤1:=by split<;>omega
  omega
theorem acK (a:Int) (l:List (List Int)) (hl:l.length≤1048576) (h2:two l) (v:Nat):∀ (d i:Nat),l.length - i=d→i≤l.length→Ev (fun k=>fC.l0 k v (mE l i v:Int) i a l) (mE l l.length v:Int):=by
 intro d
 induction d with
 | zero =>
  intro i hd hi
  obtain rfl:i=l.length:=by omega
  refine Ev.step (fun k=>by simp only [fC.l0];rfl) ?_
  simp only [Int.lt_irrefl,if_false]
  exact Ev.now _
 | succ d ih =>
  intro i hd hi
  have hil:i < l.length:=by omega
  have hx:(ah l (i:Int)).length=2:=by rw [tT l i hil];exact h2 _ (List.getElem_mem hil)
  have hdn:=Ju l i v
  have h:=ih (i+1) (by omega) (by omega)
  have hend:∀ z:Nat,z≤2 * i+2→z=mE l (i+1) v→Ev (fun k=>fC.l1 k v (z:Int) i 2 a l) (mE l l.length v:Int):=by
   intro z hz1 hz
   refine Ev.step (fun k=>by simp only [fC.l1];rfl) ?_
   simp only [Int.lt_irrefl,if_false,wI ((i:Int)+1) (by omega)]
   rw [hz]
   exact h
  have hone:∀ z:Nat,z≤2 * i+1→z=mE l i v+(if rd (ah l (i:Int)) 0=(v:Int) then 1 else 0)→Ev (fun k=>fC.l1 k v (z:Int) i 1 a l) (mE l l.length v:Int):=by
   intro z hz1 hz
   refine Ev.step (fun k=>by simp only [fC.l1];rfl) ?_
   simp only [show ((1:Int) < 2) by omega,show ((0:Int)≤1) by omega,cB i,show ((i:Int) < (l.length:Int)) by omega,hx,show ((1:Int) < ((2:Nat):Int)) by omega,if_true,wI ((1:Int)+1) (by omega)]
   by_cases hc:rd (ah l (i:Int)) 1=(v:Int)
   ·simp only [hc, if_true, wI ((z : Int) + 1) (by omega)]
    have:=hend (z+1) (by omega) (by unfold mE;rw [if_pos hc,← hz])
    simpa using this
   ·simp only [hc, if_false]
    have:=hend z (by omega) (by unfold mE;rw [if_neg hc,← hz];rfl)
    simpa using this
  refine Ev.step (fun k=>by simp only [fC.l0];rfl) ?_
  simp only [show ((i:Int) < (l.length:Int)) by omega,if_true]
  refine Ev.step (fun k=>by simp only [fC.l1];rfl) ?_
  simp only [show ((0:Int) < 2) by omega,cB i,show ((i:Int) < (l.length:Int)) by omega,hx,show ((0:Int)≤0) by omega,show ((0:Int) < ((2:Nat):Int)) by omega,if_true,wI ((0:Int)+1) (by omega)]
  by_cases hc:rd (ah l (i:Int)) 0=(v:Int)
  ·simp only [hc, if_true, jv (show -9223372036854775808 ≤ ((mE l i v : Nat) : Int) + 1 by omega) (by omega)]
   have:=hone (mE l i v+1) (by omega) (by rw [if_pos hc])
   simpa using this
  ·simp only [hc, if_false]
   have:=hone (mE l i v) (by omega) (by rw [if_neg hc];rfl)
   simpa using this
theorem acJ (a:Int) (l:List (List Int)) (hl:l.length≤1048576) (h2:two l) (v:Nat):Ev (fun k=>fC.f k a l v) (mE l l.length v:Int) :=
 acK a l hl h2 v l.length 0 (by omega) (by omega)
def f_ (a b z:Int):Int:=if z=mx a b then mn a b else z
def nh (f:Int→Int) (i:Nat) (c:List Int):List Int:=(c.take i).map f ++ c.drop i
theorem Ef (f:Int→Int) (i:Nat) (c:List Int):(nh f i c).length=c.length:=by
 unfold nh
 rw [List.length_append,List.length_map,List.length_take,List.length_drop]
 omega
theorem Ls (f:Int→Int) (i:Nat) (c:List Int) (h:i < c.length):rd (nh f i c) (i:Int)=c[i]:=by
 rw [pn _ _ (by rw [Ef];exact h)]
 unfold nh
 rw [List.getElem_append_right (by rw [List.length_map,List.length_take];omega)]
 simp [List.length_take,Nat.min_eq_left (Nat.le_of_lt h)]
theorem Lt (f:Int→Int) (i:Nat) (c:List Int) (h:i < c.length):nh f (i+1) c=(nh f i c).set i (f c[i]):=by
 have hl:((c.take i).map f).length=i:=by rw [List.length_map,List.length_take];omega
 unfold nh
 apply List.ext_getElem?
 intro j
 rw [List.getElem?_set]
 by_cases hj:i=j
 ·subst hj
  rw [if_pos rfl,if_pos (by rw [List.length_append,hl,List.length_drop];omega)]
  rw [List.getElem?_append_left (by rw [List.length_map,List.length_take];omega),List.getElem?_map,List.getElem?_take,if_pos (by omega),List.getElem?_eq_getElem h]
  rfl
 ·rw [if_neg hj]
  by_cases hlt:j < i
  ·rw [List.getElem?_append_left (by rw [List.length_map, List.length_take]; omega), List.getElem?_append_left (by omega)]
   simp only [List.getElem?_map,List.getElem?_take]
   rw [if_pos (by omega),if_pos hlt]
  ·rw [List.getElem?_append_right (by rw [List.length_map, List.length_take]; omega), List.getElem?_append_right (by omega), hl]
   simp only [List.length_map,List.length_take,List.getElem?_drop]
   congr 1
   omega
theorem Sy (f:Int→Int) (i:Nat) (c:List Int) (h:i < c.length) (e:f c[i]=c[i]):nh f (i+1) c=nh f i c:=by
 rw [Lt f i c h,e]
 apply List.ext_getElem
 ·simp
 ·intro j h1 h2
  rw [List.getElem_set]
  by_cases hj:i=j
  ·subst hj
   rw [if_pos rfl]
   have:=Ls f i c h
   rw [pn _ _ (by rw [Ef];exact h)] at this
   exact this.symm
  ·rw [if_neg hj]
def pJ (l : List (List Int)) : Nat → Nat → List Int → List Int
 | 0,_,c=>c
 | d+1,i,c=>pJ l d (i+1) (c.map (f_ (rd c (rd (ah l (i:Int)) 0)) (rd c (rd (ah l (i:Int)) 1))))
theorem aeO (a : Int) (l : List (List Int)) (hl : l.length ≤ 1048576) (i : Nat) (hi : i < l.length) (x y : Int) (c : List Int) (hc : c.length ≤ 1048576) (R : List Int)
  (hR:Ev (fun k=>dz.l1 k (c.map (f_ x y)) ((i:Int)+1) a l) R) :
  ∀ (d v:Nat),c.length - v=d→v≤c.length→Ev (fun k=>dz.l2 k (nh (f_ x y) v c) i x y v a l) R:=by
 intro d
 induction d with
 | zero =>
  intro v hd hv
  obtain rfl:v=c.length:=by omega
  refine Ev.step (fun k=>by simp only [dz.l2];rfl) ?_
  simp only [Ef,Int.lt_irrefl,if_false,wI ((i:Int)+1) (by omega)]
  rw [show nh (f_ x y) c.length c=c.map (f_ x y) from by simp [nh]]
  exact hR
 | succ d ih =>
  intro v hd hv
  have zg:v < c.length:=by omega
  have h:=ih (v+1) (by omega) (by omega)
  refine Ev.step (fun k=>by simp only [dz.l2];rfl) ?_
  simp only [Ef,show ((v:Int) < (c.length:Int)) by omega,cB v,if_true,Ls _ v c zg,Int.toNat_natCast,wI ((v:Int)+1) (by omega)]
  by_cases hz:c[v]=mx x y
  ·rw [Lt _ v c zg, show f_ x y c[v] = mn x y from by unfold f_; exact if_pos hz] at h
   simp only [hz,if_true]
   exact h
  ·rw [Sy (f_ x y) v c zg (by unfold f_; exact if_neg hz)] at h
   simp only [hz,if_false]
   exact h
theorem acw (l : List (List Int)) (hl : l.length ≤ 1048576) (i : Nat) (hi : i < l.length) (x y : Int) (c : List Int) (hc : c.length ≤ 1048576) (R : List Int)
  (hR:Ev (fun k=>dg.l1 k (c.map (f_ x y)) l (l.length:Int) ((i:Int)+1)) R) :
  ∀ (d v:Nat),c.length - v=d→v≤c.length→Ev (fun k=>dg.l2 k (nh (f_ x y) v c) x y l (l.length:Int) i (c.length:Int) v) R:=by
 intro d
 induction d with
 | zero =>
  intro v hd hv
  obtain rfl:v=c.length:=by omega
  refine Ev.step (fun k=>by simp only [dg.l2];rfl) ?_
  simp only [Int.lt_irrefl,if_false,wI ((i:Int)+1) (by omega)]
  rw [show nh (f_ x y) c.length c=c.map (f_ x y) from by simp [nh]]
  exact hR
 | succ d ih =>
  intro v hd hv
  have zg:v < c.length:=by omega
  have h:=ih (v+1) (by omega) (by omega)
  refine Ev.step (fun k=>by simp only [dg.l2];rfl) ?_
  simp only [Ef,show ((v:Int) < (c.length:Int)) by omega,cB v,if_true,Ls _ v c zg,Int.toNat_natCast,wI ((v:Int)+1) (by omega)]
  by_cases hz:c[v]=mx x y
  ·rw [Lt _ v c zg, show f_ x y c[v] = mn x y from by unfold f_; exact if_pos hz] at h
   simp only [hz,if_true]
   exact h
  ·rw [Sy (f_ x y) v c zg (by unfold f_; exact if_neg hz)] at h
   simp only [hz,if_false]
   exact h
theorem aeN (n:Nat) (hn:n≤1048576) (a:Int) (l:List (List Int)) (hl:l.length≤1048576) (hE:endsIn n l):∀ (d i:Nat) (c:List Int),l.length - i=d→i≤l.length→c.length=n→Ev (fun k=>dz.l1 k c i a l) (pJ l d i c):=by
 intro d
 induction d with
 | zero =>
  intro i c hd hi hc
  obtain rfl:i=l.length:=by omega
  refine Ev.step (fun k=>by simp only [dz.l1];rfl) ?_
  simp only [Int.lt_irrefl,if_false]
  exact Ev.now _
 | succ d ih =>
  intro i c hd hi hc
  have hil:i < l.length:=by omega
  obtain ⟨hx,u,v,hu,hv,hun,gq⟩:=hE i hil
  have h:=aeO a l hl i hil (rd c u) (rd c v) c (by omega) _ (ih (i+1) (c.map (f_ (rd c u) (rd c v))) (by omega) (by omega) (by rw [List.length_map];exact hc)) c.length 0 (by omega) (by omega)
  rw [show nh (f_ (rd c u) (rd c v)) 0 c=c from by simp [nh]] at h
  rw [show pJ l (d+1) i c=pJ l d (i+1) (c.map (f_ (rd c (rd (ah l (i:Int)) 0)) (rd c (rd (ah l (i:Int)) 1)))) from rfl,hu,hv]
  refine Ev.step (fun k=>by simp only [dz.l1];rfl) ?_
  simp only [show ((i:Int) < (l.length:Int)) by omega,cB i,hx,hu,hv,hc,show ((0:Int) < ((2:Nat):Int)) by omega,show ((1:Int) < ((2:Nat):Int)) by omega,cB u,cB v,lI u n (by omega),lI v n (by omega),if_true]
  exact h
theorem acv (n:Nat) (hn:n≤1048576) (l:List (List Int)) (hl:l.length≤1048576) (hE:endsIn n l):∀ (d i:Nat) (c:List Int),l.length - i=d→i≤l.length→c.length=n→Ev (fun k=>dg.l1 k c l (l.length:Int) i) (pJ l d i c):=by
 intro d
 induction d with
 | zero =>
  intro i c hd hi hc
  obtain rfl:i=l.length:=by omega
  refine Ev.step (fun k=>by simp only [dg.l1];rfl) ?_
  simp only [Int.lt_irrefl,if_false]
  exact Ev.now _
 | succ d ih =>
  intro i c hd hi hc
  have hil:i < l.length:=by omega
  obtain ⟨hx,u,v,hu,hv,hun,gq⟩:=hE i hil
  have h:=acw l hl i hil (rd c u) (rd c v) c (by omega) _ (ih (i+1) (c.map (f_ (rd c u) (rd c v))) (by omega) (by omega) (by rw [List.length_map];exact hc)) c.length 0 (by omega) (by omega)
  rw [show nh (f_ (rd c u) (rd c v)) 0 c=c from by simp [nh],hc] at h
  rw [show pJ l (d+1) i c=pJ l d (i+1) (c.map (f_ (rd c (rd (ah l (i:Int)) 0)) (rd c (rd (ah l (i:Int)) 1)))) from rfl,hu,hv]
  refine Ev.step (fun k=>by simp only [dg.l1];rfl) ?_
  simp only [show ((i:Int) < (l.length:Int)) by omega,cB i,hx,hu,hv,hc,ud.f,Option.bind_some,show ((0:Int) < ((2:Nat):Int)) by omega,show ((1:Int) < ((2:Nat):Int)) by omega,cB u,cB v,lI u n (by omega),lI v n (by omega),if_true]
  exact h
def upto (i:Nat):List Int:=(List.range i).map Int.ofNat
theorem xY (i:Nat):(upto i).length=i:=by simp [upto]
theorem To (i:Nat):upto (i+1)=upto i ++ [(i:Int)]:=by
 unfold upto
 rw [List.range_succ,List.map_append]
 rfl
def ja (n:Nat) (l:List (List Int)):List Int:=pJ l l.length 0 (upto n)
theorem aeM (n:Nat) (hn:n≤1048576) (l:List (List Int)) (hl:l.length≤1048576) (hE:endsIn n l):∀ (d v:Nat),n - v=d→v≤n→Ev (fun k=>dz.l0 k (upto v) v n l) (ja n l):=by
 intro d
 induction d with
 | zero =>
  intro v hd hv
  obtain rfl:v=n:=by omega
  refine Ev.step (fun k=>by simp only [dz.l0];rfl) ?_
  simp only [Int.lt_irrefl,if_false]
  exact aeN v hn v l hl hE l.length 0 (upto v) (by omega) (by omega) (xY v)
 | succ d ih =>
  intro v hd hv
  have h:=ih (v+1) (by omega) (by omega)
  rw [To] at h
  refine Ev.step (fun k=>by simp only [dz.l0];rfl) ?_
  simp only [lI v n (by omega),if_true,xY,show v < 17592186044416 by omega,wI ((v:Int)+1) (by omega)]
  exact h
theorem aeL (n:Nat) (hn:n≤1048576) (l:List (List Int)) (hl:l.length≤1048576) (hE:endsIn n l):Ev (fun k=>dz.f k n l) (ja n l):=aeM n hn l hl hE n 0 (by omega) (by omega)
theorem acu (n:Nat) (hn:n≤1048576) (l:List (List Int)) (hl:l.length≤1048576) (hE:endsIn n l):∀ (d v:Nat),n - v=d→v≤n→Ev (fun k=>dg.l0 k (upto v) n v n l) (ja n l):=by
 intro d
 induction d with
 | zero =>
  intro v hd hv
  obtain rfl:v=n:=by omega
  refine Ev.step (fun k=>by simp only [dg.l0];rfl) ?_
  simp only [Int.lt_irrefl,if_false]
  exact acv v hn l hl hE l.length 0 (upto v) (by omega) (by omega) (xY v)
 | succ d ih =>
  intro v hd hv
  have h:=ih (v+1) (by omega) (by omega)
  rw [To] at h
  refine Ev.step (fun k=>by simp only [dg.l0];rfl) ?_
  simp only [lI v n (by omega),if_true,xY,show v < 17592186044416 by omega,wI ((v:Int)+1) (by omega)]
  exact h
theorem acs (n:Nat) (hn:n≤1048576) (l:List (List Int)) (hl:l.length≤1048576) (hE:endsIn n l):Ev (fun k=>dg.f k n l) (ja n l):=acu n hn l hl hE n 0 (by omega) (by omega)
/-- Each class has its least vertex as its name. -/
def yx (n:Nat) (c:List Int):Prop:=c.length=n∧∀ v:Nat,v < n→0≤rd c v∧rd c v≤v∧rd c (rd c v)=rd c v
theorem GW (f:Int→Int) (c:List Int) (v:Nat) (h:v < c.length):rd (c.map f) (v:Int)=f (rd c (v:Int)):=by
 rw [pn _ _ (by rw [List.length_map];exact h),pn _ _ h,List.getElem_map]
theorem X6 (n:Nat):yx n (upto n):=by
 refine ⟨xY n,fun v hv=>?_⟩
 have h:∀ w:Nat,w < n→rd (upto n) (w:Int)=(w:Int):=fun w hw=>by
  rw [pn _ _ (by rw [xY];exact hw)]
  simp [upto]
 rw [h v hv,h v hv]
 omega
theorem X5 {n:Nat} {c:List Int} (h:yx n c) (u v:Nat) (hu:u < n) (hv:v < n):yx n (c.map (f_ (rd c u) (rd c v))):=by
 refine ⟨by rw [List.length_map];exact h.1,fun w hw=>?_⟩
 have hU:=h.2 u hu
 have hV:=h.2 v hv
 have hW:=h.2 w hw
 rw [GW _ _ w (by rw [h.1];exact hw)]
 generalize hp:rd c (u:Int)=p at *
 generalize hq:rd c (v:Int)=q at *
 generalize hz:rd c (w:Int)=z at *
 have QS:∀ y:Int,0≤y→y < n→rd c y=y→rd (c.map (f_ p q)) y=f_ p q y:=by
  intro y h0 h1 h2
  obtain ⟨k,rfl⟩:∃ k:Nat,y=k:=⟨y.toNat,by omega⟩
  rw [GW _ _ k (by rw [h.1];omega),h2]
 have hmm:f_ p q (mn p q)=mn p q:=by unfold f_;split<;>rfl
 by_cases e:z=mx p q
 ·have hm : mn p q ≤ mx p q := by unfold mn mx; split <;> split <;> omega
  have RC:0≤mn p q∧rd c (mn p q)=mn p q:=by
   unfold mn
   split
   ·first|exact ⟨by omega,hU.2.2⟩|exact ⟨by omega,hV.2.2⟩
   ·first|exact ⟨by omega,hV.2.2⟩|exact ⟨by omega,hU.2.2⟩
  rw [show f_ p q z=mn p q from by unfold f_;exact if_pos e]
  rw [QS _ RC.1 (by omega) RC.2,hmm]
  omega
 ·rw [show f_ p q z = z from by unfold f_; exact if_neg e]
  rw [QS z hW.1 (by omega) hW.2.2,show f_ p q z=z from by unfold f_;exact if_neg e]
  omega
theorem X7 {n:Nat} {l:List (List Int)} (hE:endsIn n l):∀ (d i:Nat) (c:List Int),i+d≤l.length→yx n c→yx n (pJ l d i c):=by
 intro d
 induction d with
 | zero=>intro i c _ h;exact h
 | succ d ih =>
  intro i c hi h
  obtain ⟨hx,u,v,hu,hv,hun,gq⟩:=hE i (by omega)
  rw [show pJ l (d+1) i c=pJ l d (i+1) (c.map (f_ (rd c (rd (ah l (i:Int)) 0)) (rd c (rd (ah l (i:Int)) 1)))) from rfl,hu,hv]
  exact ih (i+1) _ (by omega) (X5 h u v hun gq)
theorem FA (n:Nat) (l:List (List Int)) (hE:endsIn n l):yx n (ja n l):=X7 hE l.length 0 _ (by omega) (X6 n)
/-- How many of the vertices v ≥ i bear their class's name. -/
def jE (c : List Int) : Nat → Nat → Nat
 | 0,_=>0
 | d+1,i=>(if rd c (i:Int)=(i:Int) then 1 else 0)+jE c d (i+1)
theorem Cr (c:List Int) (d i:Nat):jE c (d+1) i=(if rd c (i:Int)=(i:Int) then 1 else 0)+jE c d (i+1):=rfl
theorem Yt (c:List Int) (hc:c.length≤1048576):∀ (d i z:Nat),c.length - i=d→i≤c.length→z≤i→Ev (fun k=>iM.l0 k z c (c.length:Int) i) ((z+jE c d i:Nat):Int):=by
 intro d
 induction d with
 | zero =>
  intro i z hd hi hz
  obtain rfl:i=c.length:=by omega
  refine Ev.step (fun k=>by simp only [iM.l0];rfl) ?_
  simp only [Int.lt_irrefl,if_false]
  exact Ev.now _
 | succ d ih =>
  intro i z hd hi hz
  refine Ev.step (fun k=>by simp only [iM.l0];rfl) ?_
  simp only [show ((i:Int) < (c.length:Int)) by omega,cB i,if_true,wI ((i:Int)+1) (by omega),wI ((z:Int)+1) (by omega)]
  by_cases h:rd c (i:Int)=(i:Int)
  ·have h1 := ih (i + 1) (z + 1) (by omega) (by omega) (by omega)
   rw [show jE c (d+1) i=1+jE c d (i+1) from by rw [Cr,if_pos h],show z+(1+jE c d (i+1))=z+1+jE c d (i+1) by omega]
   simp only [h,if_true]
   exact h1
  ·have h1 := ih (i + 1) z (by omega) (by omega) (by omega)
   rw [show jE c (d+1) i=jE c d (i+1) from by rw [Cr,if_neg h,Nat.zero_add]]
   simp only [Ne.symm h,if_false]
   exact h1
theorem Yr (c:List Int) (hc:c.length≤1048576):Ev (fun k=>iM.f k c) ((jE c c.length 0:Nat):Int):=by
 have h:=Yt c hc c.length 0 0 (by omega) (by omega) (by omega)
 rw [Nat.zero_add] at h
 exact h
theorem X_ (c:List Int):∀ (d i:Nat),jE c d i=0↔∀ v:Nat,i≤v→v < i+d→rd c (v:Int) ≠ (v:Int):=by
 intro d
 induction d with
 | zero=>intro i;simp [jE];omega
 | succ d ih =>
  intro i
  rw [show jE c (d+1) i=(if rd c (i:Int)=(i:Int) then 1 else 0)+jE c d (i+1) from rfl]
  by_cases h:rd c (i:Int)=(i:Int)
  ·rw [if_pos h]
   exact ⟨fun e=>by omega,fun e=>(e i (by omega) (by omega) h).elim⟩
  ·rw [if_neg h, Nat.zero_add, ih]
   exact ⟨fun e v h1 h2=>by
    by_cases hv:v=i
    ·subst hv;exact h
    ·exact e v (by omega) (by omega),fun e v h1 h2=>e v (by omega) (by omega)⟩
/-- Is all one part. -/
def o_ (c:List Int):Bool:=decide (∀ v,v < c.length→rd c ((v:Nat):Int)=rd c 0)
theorem OW {n:Nat} {c:List Int} (hn:1≤n) (h:yx n c):((((jE c c.length 0:Nat):Int)) == 1)=o_ c:=by
 have h0:rd c 0=0:=by
  have:=h.2 0 (by omega)
  have e:((0:Nat):Int)=0:=rfl
  rw [e] at this
  omega
 obtain ⟨m,hm⟩:∃ m,c.length=m+1:=⟨c.length - 1,by have:=h.1;omega⟩
 rw [Bool.eq_iff_iff,beq_iff_eq]
 unfold o_
 rw [decide_eq_true_eq,hm]
 rw [show jE c (m+1) 0=1+jE c m 1 from by rw [Cr,if_pos (show rd c ((0:Nat):Int)=((0:Nat):Int) from h0)]]
 have hz:=X_ c m 1
 constructor
 ·intro e v hv
  rw [h0]
  have h1:=hz.1 (by omega)
  have h2:=h.2 v (by have:=h.1;omega)
  by_cases hp:rd c (v:Int)=0
  ·exact hp
  ·exfalso
   refine h1 (rd c (v:Int)).toNat (by omega) (by omega) ?_
   rw [show (((rd c (v:Int)).toNat:Nat):Int)=rd c (v:Int) by omega]
   exact h2.2.2
 ·intro e
  have:jE c m 1=0:=hz.2 (fun v h1 h2 hc=>by
   have:=e v (by omega)
   rw [h0] at this
   omega)
  omega
/-- A row and a square of numbers, by their places. -/
def aA (n:Nat) (g:Nat→Int):List Int:=(List.range n).map g
def bY (n:Nat) (f:Nat→Nat→Int):List (List Int):=(List.range n).map fun i=>aA n (f i)
theorem eI (n:Nat) (g:Nat→Int):(aA n g).length=n:=by simp [aA]
theorem fo (n:Nat) (f:Nat→Nat→Int):(bY n f).length=n:=by simp [bY]
theorem fO {n:Nat} {g:Nat→Int} {v:Nat} (h:v < n):rd (aA n g) (v:Int)=g v:=by
 rw [pn _ _ (by rw [eI];exact h)]
 simp [aA]
theorem nR {n:Nat} {f:Nat→Nat→Int} {u:Nat} (h:u < n):ah (bY n f) (u:Int)=aA n (f u):=by
 rw [tT _ _ (by rw [fo];exact h)]
 simp [bY]
theorem kj {n:Nat} {g h:Nat→Int} (e:∀ j,j < n→g j=h j):aA n g=aA n h:=by
 unfold aA
 apply List.map_congr_left
 intro j hj
 exact e j (List.mem_range.mp hj)
theorem amh {n:Nat} {f h:Nat→Nat→Int} (e:∀ i j,i < n→j < n→f i j=h i j):bY n f=bY n h:=by
 unfold bY
 apply List.map_congr_left
 intro i hi
 exact kj fun j hj=>e i j (List.mem_range.mp hi) hj
theorem qF {n:Nat} (g:Nat→Int) (v:Nat) (x:Int):(aA n g).set v x=aA n (fun j=>if j=v then x else g j):=by
 apply List.ext_getElem
 ·rw [List.length_set,eI,eI]
 intro j h1 h2
 rw [List.getElem_set]
 simp only [aA,List.getElem_map,List.getElem_range]
 by_cases h:v=j
 ·subst h;simp
 ·rw [if_neg h,if_neg (fun e=>h e.symm)]
theorem By {n:Nat} (f:Nat→Nat→Int) (u:Nat) (g:Nat→Int):(bY n f).set u (aA n g)=bY n (fun i j=>if i=u then g j else f i j):=by
 apply List.ext_getElem
 ·rw [List.length_set,fo,fo]
 intro i h1 h2
 rw [List.getElem_set]
 simp only [bY,List.getElem_map,List.getElem_range]
 by_cases h:u=i
 ·subst h;simp
 ·rw [if_neg h];exact kj fun j _=>by rw [if_neg (fun e=>h e.symm)]
/-- One place written. -/
theorem afj {n:Nat} (f:Nat→Nat→Int) (u:Nat) (hu:u < n) (v:Nat) (x:Int):(bY n f).set u ((ah (bY n f) (u:Int)).set v x)=bY n (fun i j=>if i=u∧j=v then x else f i j):=by
 rw [nR hu,qF,By]
 refine amh fun i j _ _=>?_
 by_cases h:i=u
 ·subst h;simp
 ·simp [h]
theorem Tt (n:Nat):List.replicate n (List.replicate n (0:Int))=bY n (fun _ _=>0):=by
 have h0:∀ m:Nat,aA m (fun _=>0)=List.replicate m 0:=fun m=>by
  apply List.ext_getElem
  ·simp [aA]
  ·intro i _ _;simp [aA]
 apply List.ext_getElem
 ·simp [bY]
 ·intro i _ _;simp [bY,h0]
theorem afq {n:Nat} {c:List Int} (h:c.length=n):c=aA n (fun w=>rd c (w:Int)):=by
 apply List.ext_getElem
 ·rw [eI];exact h
 ·intro i h1 h2
  simp only [aA,List.getElem_map,List.getElem_range]
  rw [pn _ _ h1]
/-- How many of the first d directed edges lead from u to v. -/
def jP (l : List (List Int)) : Nat → Nat → Nat → Int
 | 0,_,_=>0
 | d+1,u,v=>jP l d u v+(if rL l d=(u:Int)∧rS l d=(v:Int) then 1 else 0)
theorem Ce (l:List (List Int)) (d u v:Nat):0≤jP l d u v∧jP l d u v≤d:=by
 induction d with
 | zero=>simp [jP]
 | succ d ih =>
  unfold jP
  have h1:(0:Int)≤(if rL l d=(u:Int)∧rS l d=(v:Int) then 1 else 0)∧(if rL l d=(u:Int)∧rS l d=(v:Int) then 1 else 0:Int)≤1:=by split<;>omega
  omega
theorem Yu {n:Nat} {l:List (List Int)} (hE:endsIn n l) (d:Nat) (hd:d < 2 * l.length):∃ u v:Nat,rL l d=u∧rS l d=v∧u < n∧v < n:=by
 obtain ⟨_,u,v,hu,hv,hun,gq⟩:=hE (d / 2) (by omega)
 unfold rL rS
 rcases Nat.mod_two_eq_zero_or_one d with h|h
 ·rw [h];exact ⟨u,v,hu,hv,hun,gq⟩
 ·rw [h];exact ⟨v,u,hv,hu,gq,hun⟩
theorem O4 {n:Nat} {l:List (List Int)} (hE:endsIn n l):two l:=by
 intro x hx
 obtain ⟨i,hi,rfl⟩:=List.mem_iff_getElem.mp hx
 have h:=(hE i hi).1
 rwa [tT l i hi] at h
theorem WR (n:Nat) (hn:n≤8) (a:Int) (l:List (List Int)) (hl:l.length≤10) (hE:endsIn n l):∀ (q d:Nat),2 * l.length - d=q→d≤2 * l.length→Ev (fun k=>eV.l1 k (bY n (jP l d)) d a l) (bY n (jP l (2 * l.length))):=by
 intro q
 induction q with
 | zero =>
  intro d hq hd
  obtain rfl:d=2 * l.length:=by omega
  refine Ev.step (fun k=>by simp only [eV.l1];rfl) ?_
  rw [wI (2 * (l.length:Int)) (by omega)]
  simp only [show ¬ (((2 * l.length:Nat):Int) < 2 * (l.length:Int)) by omega,if_false]
  exact Ev.now _
 | succ q ih =>
  intro d hq hd
  have hdl:d < 2 * l.length:=by omega
  obtain ⟨u,v,hu,hv,hun,gq⟩:=Yu hE d hdl
  have hb:=Ce l d u v
  refine Ev.step (fun k=>by simp only [eV.l1];rfl) ?_
  rw [wI (2 * (l.length:Int)) (by omega)]
  simp only [show ((d:Int) < 2 * (l.length:Int)) by omega,if_true,acL a l (by omega) (O4 hE) d hdl,Option.bind_some,hu,hv,cB u,cB v,fo,lI u n (by omega),nR hun,eI,lI v n (by omega),fO gq,Int.toNat_natCast]
  rw [wI (jP l d u v+1) (by omega),wI ((d:Int)+1) (by omega)]
  have e:=afj (jP l d) u hun v (jP l d u v+1)
  rw [nR hun] at e
  rw [e,show bY n (fun i j=>if i=u∧j=v then jP l d u v+1 else jP l d i j)=bY n (jP l (d+1)) from amh fun i j _ _=>by
   rw [jP,hu,hv]
   by_cases h:i=u∧j=v
   ·obtain ⟨rfl,rfl⟩:=h;simp
   ·rw [if_neg h,if_neg (by omega)];omega]
  exact ih (d+1) (by omega) (by omega)
theorem WQ (n:Nat) (hn:n≤8) (l:List (List Int)) (hl:l.length≤10) (hE:endsIn n l):∀ (q i:Nat),n - i=q→i≤n→Ev (fun k=>eV.l0 k (List.replicate i (List.replicate n 0)) i n l) (bY n (jP l (2 * l.length))):=by
 intro q
 induction q with
 | zero =>
  intro i hq hi
  obtain rfl:i=n:=by omega
  refine Ev.step (fun k=>by simp only [eV.l0];rfl) ?_
  simp only [Int.lt_irrefl,if_false]
  rw [Tt]
  exact WR i hn i l hl hE (2 * l.length) 0 (by omega) (by omega)
 | succ q ih =>
  intro i hq hi
  refine Ev.step (fun k=>by simp only [eV.l0];rfl) ?_
  simp only [lI i n (by omega),if_true,cB n,Int.toNat_natCast,show n≤35184372088832 by omega,List.length_replicate,show i < 5864062014805 by omega,wI ((i:Int)+1) (by omega)]
  rw [show List.replicate i (List.replicate n (0:Int)) ++ [List.replicate n 0]=List.replicate (i+1) (List.replicate n 0) from by rw [List.replicate_succ']]
  exact ih (i+1) (by omega) (by omega)
theorem acG (n:Nat) (hn:n≤8) (l:List (List Int)) (hl:l.length≤10) (hE:endsIn n l):Ev (fun k=>eV.f k n l) (bY n (jP l (2 * l.length))):=WQ n hn l hl hE n 0 (by omega) (by omega)
/-- The Laplacian behind the first i edges. -/
def bu (l:List (List Int)) (i u v:Nat):Int:=-(jP l (2 * i) u v)+(if u=v then (mE l i u:Int) else 0)
theorem Sp (l:List (List Int)) (i u v:Nat):-(2 * (i:Int))≤bu l i u v∧bu l i u v≤2 * i:=by
 have h1:=Ce l (2 * i) u v
 have h2:=Ju l i u
 unfold bu
 split<;>omega
theorem acR (n : Nat) (hn : n ≤ 8) (l : List (List Int)) (hl : l.length ≤ 10) (hE : endsIn n l) (v : Nat) (hv : v < n) (R : List (List Int))
  (next:Ev (fun k=>dO.l0 k (bY n (fun r j=>if r≤v then bu l l.length r j else jP l (2 * l.length) r j)) ((v+1:Nat):Int) n l) R) :
  ∀ (q i:Nat),n - i=q→i≤n→Ev (fun k=>dO.l1 k (bY n (fun r j=>if r < v then bu l l.length r j else if r=v∧j < i then -(jP l (2 * l.length) r j) else jP l (2 * l.length) r j)) v i n l) R:=by
 intro q
 induction q with
 | zero =>
  intro i hq hi
  obtain rfl:i=n:=by omega
  have hd:=Ju l l.length v
  have ha:=Ce l (2 * l.length) v v
  refine Ev.step (fun k=>by simp only [dO.l1];rfl) ?_
  simp only [Int.lt_irrefl,if_false,cB v,if_true,nR hv,eI,lI v i (by omega),fO hv,Int.toNat_natCast]
  refine Ev.bind (acJ i l (by omega) (O4 hE) v) ?_
  simp only [Nat.lt_irrefl,if_false,true_and,hv,if_true]
  rw [wI (-jP l (2 * l.length) v v+(mE l l.length v:Int)) (by omega),wI ((v:Int)+1) (by omega),qF,By]
  refine Ev.congr (fun k=>?_) next
  rw [show ((v+1:Nat):Int)=(v:Int)+1 by omega]
  congr 1
  refine amh fun r j hr hj=>?_
  rcases Nat.lt_trichotomy r v with h|h|h
  ·simp only [show r ≠ v by omega,show r < v by omega,show r≤v by omega,if_true,if_false]
  ·subst h
   simp only [Nat.lt_irrefl,Nat.le_refl,true_and,hj,if_true,if_false]
   unfold bu
   by_cases e:j=r
   ·subst e;simp
   ·rw [if_neg e,if_neg (fun e2=>e e2.symm)];omega
  ·simp only [show r ≠ v by omega,show ¬ r < v by omega,show ¬ r≤v by omega,if_false,false_and]
 | succ q ih =>
  intro i hq hi
  have hin:i < n:=by omega
  have ha:=Ce l (2 * l.length) v i
  refine Ev.step (fun k=>by simp only [dO.l1];rfl) ?_
  simp only [lI i n (by omega),if_true,cB i,nR hv,eI,fO hin,Nat.lt_irrefl,if_false,and_false,Int.toNat_natCast]
  rw [wI (-jP l (2 * l.length) v i) (by omega),wI ((i:Int)+1) (by omega),qF,By]
  refine Ev.congr (fun k=>?_) (ih (i+1) (by omega) (by omega))
  rw [show ((i+1:Nat):Int)=(i:Int)+1 by omega]
  congr 1
  refine amh fun r j hr hj=>?_
  by_cases h:r=v
  ·subst h
   simp only [Nat.lt_irrefl,if_false,if_true,true_and]
   by_cases e:j=i
   ·subst e;simp
   ·rw [if_neg e]
    by_cases e2:j < i
    ·rw [if_pos e2,if_pos (by omega)]
    ·rw [if_neg e2,if_neg (by omega)]
  ·simp only [h,if_false,false_and]
theorem acQ (n:Nat) (hn:n≤8) (l:List (List Int)) (hl:l.length≤10) (hE:endsIn n l):∀ (q v:Nat),n - v=q→v≤n→Ev (fun k=>dO.l0 k (bY n (fun r j=>if r < v then bu l l.length r j else jP l (2 * l.length) r j)) v n l) (bY n (bu l l.length)):=by
 intro q
 induction q with
 | zero =>
  intro v hq hv
  obtain rfl:v=n:=by omega
  refine Ev.step (fun k=>by simp only [dO.l0];rfl) ?_
  simp only [Int.lt_irrefl,if_false]
  rw [show bY v (fun r j=>if r < v then bu l l.length r j else jP l (2 * l.length) r j)=bY v (bu l l.length) from amh fun r j hr _=>by rw [if_pos hr]]
  exact Ev.now _
 | succ q ih =>
  intro v hq hv
  have gq:v < n:=by omega
  refine Ev.step (fun k=>by simp only [dO.l0];rfl) ?_
  simp only [lI v n (by omega),if_true,cB v,fo]
  have nx:=ih (v+1) (by omega) (by omega)
  have h:=acR n hn l hl hE v gq _ (by simpa only [Nat.lt_succ_iff] using nx) n 0 (by omega) (by omega)
  simp only [Nat.not_lt_zero,and_false,if_false] at h
  exact h
theorem acP (n:Nat) (hn:n≤8) (l:List (List Int)) (hl:l.length≤10) (hE:endsIn n l):Ev (fun k=>dO.f k n l) (bY n (bu l l.length)):=by
 unfold dO.f
 refine Ev.bind (acG n hn l hl hE) ?_
 have h:=acQ n hn l hl hE n 0 (by omega) (by omega)
 simp only [Nat.not_lt_zero,if_false] at h
 exact h
/-- One edge more, laid upon the Laplacian: both ends' own places up, the places between them down. -/
theorem xL (n : Nat) (l : List (List Int)) (i u v : Nat) (hu : rd (ah l (i : Int)) 0 = u) (hv : rd (ah l (i : Int)) 1 = v) (r j : Nat) :
  bu l (i+1) r j=bu l i r j+(if u=v then 0 else (if r=u∧j=u then 1 else 0) - (if r=u∧j=v then 1 else 0)+(if r=v∧j=v then 1 else 0) - (if r=v∧j=u then 1 else 0)):=by
 have b0:rL l (2 * i)=u:=by unfold rL;rw [show 2 * i / 2=i by omega,show 2 * i % 2=0 by omega];exact hu
 have b1:rS l (2 * i)=v:=by unfold rS;rw [show 2 * i / 2=i by omega,show 2 * i % 2=0 by omega];exact hv
 have b2:rL l (2 * i+1)=v:=by unfold rL;rw [show (2 * i+1) / 2=i by omega,show (2 * i+1) % 2=1 by omega];exact hv
 have b3:rS l (2 * i+1)=u:=by unfold rS;rw [show (2 * i+1) / 2=i by omega,show (2 * i+1) % 2=1 by omega];exact hu
 unfold bu
 rw [show 2 * (i+1)=2 * i+1+1 by omega,jP,jP,mE,b0,b1,b2,b3,hu,hv]
 clear b0 b1 b2 b3
 have c1:((u:Int)=(r:Int))=(r=u):=propext ⟨by omega,by omega⟩
 have c2:((u:Int)=(j:Int))=(j=u):=propext ⟨by omega,by omega⟩
 have c3:((v:Int)=(r:Int))=(r=v):=propext ⟨by omega,by omega⟩
 have c4:((v:Int)=(j:Int))=(j=v):=propext ⟨by omega,by omega⟩
 simp only [c1,c2,c3,c4]
 clear c1 c2 c3 c4
 rcases Classical.propComplete (r = u) with h1 | h1 <;> rcases Classical.propComplete (j = u) with h2 | h2 <;> rcases Classical.propComplete (r = v) with h3 | h3 <;> rcases Classical.propComplete (j = v) with h4 | h4 <;> rcases Classical.propComplete (r = j) with h5 | h5 <;> rcases Classical.propComplete (u = v) with h6 | h6 <;>
  first
  | (exfalso;simp only [eq_iff_iff,iff_true,iff_false] at h1 h2 h3 h4 h5 h6;omega)
  | (simp only [h1,h2,h3,h4,h5,h6,if_true,if_false,and_true,and_false,and_self];omega)
theorem adq (n:Nat) (hn:n≤8) (l:List (List Int)) (hl:l.length≤10) (hE:endsIn n l):∀ (q i:Nat),l.length - i=q→i≤l.length→Ev (fun k=>cz.l0 k (bY n (bu l i)) l l.length i) (bY n (bu l l.length)):=by
 intro q
 induction q with
 | zero =>
  intro i hq hi
  obtain rfl:i=l.length:=by omega
  refine Ev.step (fun k=>by simp only [cz.l0];rfl) ?_
  simp only [Int.lt_irrefl,if_false]
  exact Ev.now _
 | succ q ih =>
  intro i hq hi
  have hil:i < l.length:=by omega
  obtain ⟨h2,u,v,hu,hv,hun,gq⟩:=hE i hil
  have xC:=fun r j=>Sp l i r j
  refine Ev.step (fun k=>by simp only [cz.l0];rfl) ?_
  simp only [show ((i:Int) < (l.length:Int)) by omega,if_true,cB i,h2,show ((0:Int) < ((2:Nat):Int)) by omega,show ((1:Int) < ((2:Nat):Int)) by omega,hu,hv,Int.natCast_inj,wI ((i:Int)+1) (by omega)]
  by_cases e:u=v
  ·simp only [e, if_true]
   have nx:=ih (i+1) (by omega) (by omega)
   rw [show bY n (bu l (i+1))=bY n (bu l i) from amh fun r j _ _=>by rw [xL n l i u v hu hv r j,if_pos e];omega] at nx
   exact nx
  ·have e' : ¬ v = u := fun h => e h.symm
   simp only [e,if_false]
   refine Ev.step (fun k=>by simp only [cz.l1];rfl) ?_
   simp only [show ((0:Int) < ((2:Nat):Int)) by omega,if_true,Int.le_refl,h2,hu,fo,cB u,lI u n (by omega),nR hun,eI,fO hun,Option.bind_some,show wrap64 (1 - 0)=1 from jv (by omega) (by omega),show (0:Int)≤1 by omega,show ((1:Int) < ((2:Nat):Int)) by omega,hv,cB v,lI v n (by omega),Int.toNat_natCast,qF,By,fO gq,show wrap64 (0+1)=1 from jv (by omega) (by omega),e',if_false]
   rw [jv (show -9223372036854775808≤bu l i u u+1 by have:=xC u u;omega) (by have:=xC u u;omega),jv (show -9223372036854775808≤bu l i u v - 1 by have:=xC u v;omega) (by have:=xC u v;omega)]
   refine Ev.step (fun k=>by simp only [cz.l1];rfl) ?_
   simp only [show ((1:Int) < ((2:Nat):Int)) by omega,if_true,show (0:Int)≤1 by omega,h2,hv,fo,cB v,lI v n (by omega),nR gq,eI,fO gq,Option.bind_some,show wrap64 (1 - 1)=0 from jv (by omega) (by omega),Int.le_refl,show ((0:Int) < ((2:Nat):Int)) by omega,hu,cB u,lI u n (by omega),Int.toNat_natCast,qF,By,fO hun,show wrap64 (1+1)=2 from jv (by omega) (by omega),e',e,if_false]
   rw [jv (show -9223372036854775808≤bu l i v v+1 by have:=xC v v;omega) (by have:=xC v v;omega),jv (show -9223372036854775808≤bu l i v u - 1 by have:=xC v u;omega) (by have:=xC v u;omega)]
   refine Ev.step (fun k=>by simp only [cz.l1];rfl) ?_
   simp only [show ¬ ((2:Int) < ((2:Nat):Int)) by omega,if_false,wI ((i:Int)+1) (by omega)]
   refine Ev.congr (fun k=>?_) (ih (i+1) (by omega) (by omega))
   rw [show ((i+1:Nat):Int)=(i:Int)+1 by omega]
   congr 1
   refine amh fun r j _ _=>?_
   rw [xL n l i u v hu hv r j,if_neg e]
   by_cases h1:r=v
   ·subst h1
    by_cases h2:j=u
    ·subst h2;first|(simp [e,fun h:r=j=>e h.symm];done)|(simp [e,fun h:r=j=>e h.symm];omega)
    ·by_cases h3 : j = r
     ·subst h3;first|(simp [h2];done)|(simp [h2];omega)
     ·simp [h2,h3,fun h:r=u=>e h.symm]
   ·by_cases h4 : r = u
    ·subst h4
     by_cases h2:j=v
     ·subst h2;first|(simp [h1,fun h:j=r=>h1 h.symm];done)|(simp [h1,fun h:j=r=>h1 h.symm];omega)
     ·by_cases h3 : j = r
      ·subst h3;first|(simp [h1];done)|(simp [h1,h2];done)|(simp [h1];omega)
      ·simp [h1,h2,h3]
    ·simp [h1,h4]
theorem St (n:Nat) (hn:n≤8) (l:List (List Int)) (hl:l.length≤10) (hE:endsIn n l):Ev (fun k=>cz.f k n l) (bY n (bu l l.length)):=by
 unfold cz.f
 refine Ev.bind (aeP n (by omega)) ?_
 rw [Tt,show bY n (fun _ _=>(0:Int))=bY n (bu l 0) from amh fun i j _ _=>by simp [bu,jP,mE]]
 exact adq n hn l hl hE l.length 0 (by omega) (by omega)
theorem OP {c:List Int} (h:c.any oa=false) (w:Nat) (hw:w < c.length):-200≤rd c (w:Int)∧rd c (w:Int)≤200:=by
 rw [pn c w hw]
 have:=List.any_eq_false.mp h _ (List.getElem_mem hw)
 unfold oa at this
 simp at this
 exact this
theorem XX {a:Int} {c:List Int} (h:vD a c=true):(c.length:Int)=a∧c.any oa=false:=by
 unfold vD at h
 simpa using h
theorem Bz (n:Nat) (g:Nat→Int):aA n g ++ [g n]=aA (n+1) g:=by
 unfold aA;rw [List.range_succ,List.map_append];rfl
theorem aeI (n j:Nat):az n (cK j)≤1:=by
 by_cases h:j < n
 ·rw [uL j h (fun i _ hne=>zn hne),Gw];omega
 ·rw [o9 (fun i hi=>zn (by omega))];omega
/-- n rows of m numbers, by their places. -/
def oI (n m:Nat) (f:Nat→Nat→Int):List (List Int):=(List.range n).map fun i=>aA m (f i)
theorem EA (n m:Nat) (f:Nat→Nat→Int):(oI n m f).length=n:=by simp [oI]
theorem Tu {n m:Nat} {f h:Nat→Nat→Int} (e:∀ i j,i < n→j < m→f i j=h i j):oI n m f=oI n m h:=by
 unfold oI
 apply List.map_congr_left
 intro i hi
 exact kj fun j hj=>e i j (List.mem_range.mp hi) hj
theorem Tv {n m:Nat} (f:Nat→Nat→Int) (u:Nat) (g:Nat→Int):(oI n m f).set u (aA m g)=oI n m (fun i j=>if i=u then g j else f i j):=by
 apply List.ext_getElem
 ·rw [List.length_set,EA,EA]
 intro i h1 h2
 rw [List.getElem_set]
 simp only [oI,List.getElem_map,List.getElem_range]
 by_cases h:u=i
 ·subst h;simp
 ·rw [if_neg h];exact kj fun j _=>by rw [if_neg (fun e=>h e.symm)]
theorem afk (n m:Nat) (f:Nat→Nat→Int):oI n m f ++ [aA m (f n)]=oI (n+1) m f:=by
 unfold oI;rw [List.range_succ,List.map_append];rfl
theorem Tw (n:Nat) (f:Nat→Nat→Int):oI n n f=bY n f:=rfl
theorem aeU (n m:Nat) (f:Nat→Nat→Int) (i j:Nat) (hi:i < n) (hj:j < n):swp (oI n m f) i j=oI n m (fun r=>f (kM i j r)):=by
 have hg:∀ u,u < n→(oI n m f).getD u []=aA m (f u):=fun u hu=>by
  rw [List.getD_eq_getElem?_getD,List.getElem?_eq_getElem (by rw [EA];exact hu)]
  simp [oI]
 unfold swp
 rw [Int.toNat_natCast,Int.toNat_natCast,hg i hi,hg j hj,Tv,Tv]
 refine Tu fun r c _ _=>?_
 unfold kM
 by_cases h1:r=j
 ·subst h1
  by_cases h2:r=i
  ·subst h2;simp
  ·simp [h2]
 ·by_cases h2 : r = i
  ·subst h2;simp [h1]
  ·simp [h1,h2]
theorem Tg {n:Nat} {f:Nat→Int} (h:∀ i,i < n→0≤f i) (k:Nat) (hk:k < n):f k≤az n f:=by
 have h1:=Lb f k hk
 rw [eE (g:=f) (fun i hi=>by unfold alh;have:=h i hi;omega)] at h1
 unfold alh at h1
 omega
/-- The bound of a determinant by its columns. -/
theorem Yz {n:Nat}:∀ (M:Nat→Nat→Int),alh (aG n M)≤ee n (fun b=>az n (fun a=>alh (M a b))):=by
 induction n with
 | zero=>intro M;exact Int.le_refl _
 | succ n ih =>
  intro M
  rw [nM]
  refine Int.le_trans (Gs _ _) ?_
  have abY:ee (n+1) (fun b=>az (n+1) (fun a=>alh (M a b)))=az (n+1) (fun a=>alh (M a 0)) * ee n (fun b=>az (n+1) (fun a=>alh (M a (b+1)))):=by
   have gen:∀ (k:Nat) (f:Nat→Int),ee (k+1) f=f 0 * ee k (fun b=>f (b+1)):=by
    intro k f
    induction k with
    | zero=>show 1 * f 0=f 0 * 1;rw [Int.one_mul,Int.mul_one]
    | succ k ihk =>
     show ee (k+1) f * f (k+1)=f 0 * (ee k (fun b=>f (b+1)) * f (k+1))
     rw [ihk,Int.mul_assoc]
   exact gen n _
  rw [abY,Int.mul_comm,← iX]
  refine uK fun i hi=>?_
  rw [tJ,tJ,R8,Int.one_mul,Int.mul_comm]
  refine Int.mul_le_mul_of_nonneg_right (Int.le_trans (ih _) (Gx (fun b _=>o8 fun _ _=>iK _) (fun b _=>?_))) (iK _)
  rw [uM n i hi (fun a=>alh (M a (b+1)))]
  have:=iK (M i (b+1))
  omega
theorem Xf (n:Nat) (M:Nat→Nat→Int):alh (aG n M)≤ee n (fun a=>az n (fun b=>alh (M a b))):=by
 have h:=acW (n:=n) M (fun _ _=>0)
 have e:=ac6 (n:=n) M (fun _ _=>0) 1
 simp only [Int.mul_zero,Int.add_zero] at e
 rw [e]
 unfold k7
 simp only [R9,Int.add_zero] at h
 refine Int.le_trans (Gs _ _) (Int.le_trans (uK (fun k _=>?_)) h)
 rw [Int.one_pow,Int.mul_one]
 exact Int.le_refl _
theorem OB : ∀ x : Nat, x * x * x ≤ 3 ^ x
 | 0=>by decide
 | 1=>by decide
 | 2=>by decide
 | 3=>by decide
 | n+4=>by
  have ih:=OB (n+3)
  rw [Nat.pow_succ]
  have h0:3 * (n+4)≤4 * (n+3):=by omega
  have h1:=Nat.mul_le_mul (Nat.mul_le_mul h0 h0) h0
  have key:∀ k x:Nat,k * x * (k * x) * (k * x)=k * k * k * (x * x * x):=fun k x=>by ac_rfl
  rw [key,key] at h1
  have h2:(n+3) * (n+3) * (n+3)≤3 ^ (n+3):=ih
  show (n+4) * (n+4) * (n+4)≤3 ^ (n+3) * 3
  generalize (n+4) * (n+4) * (n+4)=x at h1 ⊢
  generalize (n+3) * (n+3) * (n+3)=y at h1 h2
  generalize 3 ^ (n+3)=z at h2 ⊢
  omega
theorem OD (g : Nat → Int) : ∀ n : Nat, (∀ i, i < n → 0 ≤ g i) → ∃ P S : Nat, ee n g = (P : Int) ∧ az n g = (S : Int) ∧ P * P * P ≤ 3 ^ S
 | 0,_=>⟨1,0,rfl,rfl,by decide⟩
 | n+1,h=>by
  obtain ⟨P,S,e1,e2,e3⟩:=OD g n (fun i hi=>h i (by omega))
  obtain ⟨x,hx⟩:=Int.eq_ofNat_of_zero_le (h n (by omega))
  refine ⟨P * x,S+x,?_,?_,?_⟩
  ·show ee n g * g n = _
   rw [e1,hx];simp
  ·show az n g + g n = _
   rw [e2,hx];simp
  ·rw [Nat.pow_add]
   have h2:=Nat.mul_le_mul e3 (OB x)
   rw [show P * x * (P * x) * (P * x)=P * P * P * (x * x * x) by ac_rfl]
   exact h2
theorem Fq {n:Nat} (f:Nat→Int) (hf:∀ i,i < n→0≤f i) (c j:Nat) (hc:c≤j) (hj:j < n):az (c+1) (fun b=>f (if b=c then j else b))≤az n f:=by
 have mono:∀ d m,m+d≤n→az m f≤az (m+d) f:=by
  intro d
  induction d with
  | zero=>intro m _;exact Int.le_refl _
  | succ d ih =>
   intro m hm
   have h1:=ih m (by omega)
   have h2:=hf (m+d) (by omega)
   show az m f≤az (m+d) f+f (m+d)
   omega
 have h1:az (c+1) (fun b=>f (if b=c then j else b))=az c f+f j:=by
  show az c _+f (if c=c then j else c)=_
  rw [if_pos rfl,eE (g:=f) (fun i hi=>by rw [if_neg (by omega)])]
 have h2:=mono (j - c) c (by omega)
 rw [show c+(j - c)=j by omega] at h2
 have h3:=mono (n - (j+1)) (j+1) (by omega)
 rw [show j+1+(n - (j+1))=n by omega] at h3
 have h4:az (j+1) f=az j f+f j:=rfl
 omega
def vZ (n:Nat) (A:Nat→Nat→Int):Int:=az n (fun a=>az n (fun b=>alh (A a b)))
theorem Xl {n:Nat} (B:Nat→Nat→Int) (hB:vZ n B≤40) (c i j:Nat) (hi:c≤i) (hin:i < n) (hj:c≤j) (hjn:j < n):alh (jT c B i j)≤2300000:=by
 unfold jT
 refine Int.le_trans (Xf _ _) ?_
 have h1:ee (c+1) (fun a=>az (c+1) (fun b=>alh (B (if a=c then i else a) (if b=c then j else b))))≤ee (c+1) (fun a=>az n (fun b=>alh (B (if a=c then i else a) b))) :=
  Gx (fun a _=>o8 (fun b _=>iK _)) (fun a _=>Fq (fun b=>alh (B (if a=c then i else a) b)) (fun _ _=>iK _) c j hj hjn)
 refine Int.le_trans h1 ?_
 obtain ⟨P,S,e1,e2,e3⟩:=OD (fun a=>az n (fun b=>alh (B (if a=c then i else a) b))) (c+1) (fun a _=>o8 (fun b _=>iK _))
 have h2:=Fq (n:=n) (fun a=>az n (fun b=>alh (B a b))) (fun a _=>o8 (fun b _=>iK _)) c i hi hin
 rw [e1]
 rw [e2] at h2
 have hS:S≤40:=by unfold vZ at hB;omega
 have h3:P * P * P≤3 ^ 40:=Nat.le_trans e3 (Nat.pow_le_pow_right (by decide) hS)
 rcases Nat.lt_or_ge 2300000 P with h4|h4
 ·exfalso
  have h5:2300001 * 2300001 * 2300001≤P * P * P:=Nat.mul_le_mul (Nat.mul_le_mul h4 h4) h4
  have h6:¬ (2300001 * 2300001 * 2300001≤3 ^ 40):=by decide
  exact h6 (Nat.le_trans h5 h3)
 ·omega
/-- By columns: one of them up to 1600, the others small together. -/
def Yp (n:Nat) (B:Nat→Nat→Int) (k:Nat):Prop:=n≤8∧az n (fun a=>alh (B a k))≤1600∧az n (fun b=>if b=k then 0 else az n (fun a=>alh (B a b)))≤40
def okB (n:Nat) (B:Nat→Nat→Int):Prop:=vZ n B≤40∨∃ k,k < n∧Yp n B k
theorem OG : ∀ x : Nat, 7776 * x * 5 ^ x ≤ 15625 * 6 ^ x
 | 0=>by decide
 | 1=>by decide
 | 2=>by decide
 | 3=>by decide
 | 4=>by decide
 | 5=>by decide
 | n+6=>by
  have ih:=OG (n+5)
  rw [Nat.pow_succ,Nat.pow_succ 6]
  have h0:5 * (n+6)≤6 * (n+5):=by omega
  have h1:=Nat.mul_le_mul_left 7776 (Nat.mul_le_mul_right (5 ^ (n+5)) h0)
  have e1:7776 * (n+6) * (5 ^ (n+5) * 5)=7776 * (5 * (n+6) * 5 ^ (n+5)):=by ac_rfl
  have e2:7776 * (6 * (n+5) * 5 ^ (n+5))=6 * (7776 * (n+5) * 5 ^ (n+5)):=by ac_rfl
  rw [e1]
  refine Nat.le_trans h1 ?_
  rw [e2]
  refine Nat.le_trans (Nat.mul_le_mul_left 6 ih) ?_
  have e3:6 * (15625 * 6 ^ (n+5))=15625 * (6 ^ (n+5) * 6):=by ac_rfl
  rw [e3]
  exact Nat.le_refl _
theorem OE (g : Nat → Int) : ∀ n : Nat, (∀ i, i < n → 0 ≤ g i) → ∃ P S : Nat, ee n g = (P : Int) ∧ az n g = (S : Int) ∧ P * (7776 ^ n * 5 ^ S) ≤ 15625 ^ n * 6 ^ S
 | 0,_=>⟨1,0,rfl,rfl,by decide⟩
 | n+1,h=>by
  obtain ⟨P,S,e1,e2,e3⟩:=OE g n (fun i hi=>h i (by omega))
  obtain ⟨x,hx⟩:=Int.eq_ofNat_of_zero_le (h n (by omega))
  refine ⟨P * x,S+x,?_,?_,?_⟩
  ·show ee n g * g n = _
   rw [e1,hx];simp
  ·show az n g + g n = _
   rw [e2,hx];simp
  ·have h2 := Nat.mul_le_mul e3 (OG x)
   rw [Nat.pow_add 5,Nat.pow_add 6,Nat.pow_succ,Nat.pow_succ]
   have f1:P * x * (7776 ^ n * 7776 * (5 ^ S * 5 ^ x))=P * (7776 ^ n * 5 ^ S) * (7776 * x * 5 ^ x):=by ac_rfl
   have f2:15625 ^ n * 15625 * (6 ^ S * 6 ^ x)=15625 ^ n * 6 ^ S * (15625 * 6 ^ x):=by ac_rfl
   rw [f1,f2]
   exact h2
theorem Xo:∀ n:Nat,n < 9→∀ S:Nat,S < 42→15625 ^ n * 6 ^ S≤800000 * (7776 ^ n * 5 ^ S):=by decide
theorem Xn (g:Nat→Int) (n:Nat) (hn:n≤8) (hg:∀ i,i < n→0≤g i) (hs:az n g≤41):ee n g≤800000:=by
 obtain ⟨P,S,e1,e2,e3⟩:=OE g n hg
 have h1:=Nat.le_trans e3 (Xo n (by omega) S (by omega))
 have h2:0 < 7776 ^ n * 5 ^ S:=Nat.mul_pos (Nat.pow_pos (by decide)) (Nat.pow_pos (by decide))
 have h3:=Nat.le_of_mul_le_mul_right h1 h2
 omega
theorem Xm (g:Nat→Int) (k:Nat) (X:Int) (hX:0≤X) (h1:1≤X):∀ n:Nat,(∀ i,i < n→0≤g i)→(∀ i,i < n→i=k→g i≤X)→ee n g≤(if k < n then X else 1) * ee n (fun i=>if i=k then 1 else g i):=by
 intro n
 induction n with
 | zero=>intro _ _;show (1:Int)≤(if k < 0 then X else 1) * 1;rw [if_neg (by omega)];decide
 | succ n ih =>
  intro h0 hk
  have h2:=ih (fun i hi=>h0 i (by omega)) (fun i hi=>hk i (by omega))
  have h3:0≤ee n (fun i=>if i=k then 1 else g i):=Lm fun i hi=>by
   by_cases e:i=k
   ·rw [if_pos e];decide
   ·rw [if_neg e];exact h0 i (by omega)
  show ee n g * g n≤_ * (ee n (fun i=>if i=k then 1 else g i) * (if n=k then 1 else g n))
  by_cases e:n=k
  ·rw [if_neg (by omega), Int.one_mul] at h2
   rw [if_pos e,if_pos (by omega),Int.mul_one,Int.mul_comm X]
   exact Int.mul_le_mul h2 (hk n (by omega) e) (h0 n (by omega)) h3
  ·have e2:(if k < n+1 then X else 1)=(if k < n then X else 1):=by
    by_cases e3:k < n
    ·rw [if_pos e3,if_pos (by omega)]
    ·rw [if_neg e3,if_neg (by omega)]
   rw [if_neg e,e2,← Int.mul_assoc]
   exact Int.mul_le_mul_of_nonneg_right h2 (h0 n (by omega))
theorem yq {n:Nat} (B:Nat→Nat→Int) (hB:okB n B) (c i j:Nat) (hi:c≤i) (hin:i < n) (hj:c≤j) (hjn:j < n):alh (jT c B i j)≤2000000000:=by
 rcases hB with hB|⟨k,hk,vP,h1,h2⟩
 ·exact Int.le_trans (Xl B hB c i j hi hin hj hjn) (by decide)
 ·unfold jT
  refine Int.le_trans (Yz _) ?_
  have h3:ee (c+1) (fun b=>az (c+1) (fun a=>alh (B (if a=c then i else a) (if b=c then j else b))))≤ee (c+1) (fun b=>az n (fun a=>alh (B a (if b=c then j else b)))) :=
   Gx (fun b _=>o8 (fun a _=>iK _)) (fun b _=>Fq (fun a=>alh (B a (if b=c then j else b))) (fun _ _=>iK _) c i hi hin)
  refine Int.le_trans h3 ?_
  have h4:∃ k2:Nat,∀ b,b < c+1→((if b=c then j else b)=k↔b=k2):=by
   by_cases e:k < c
   ·exact ⟨k,fun b hb=>by split<;>omega⟩
   ·by_cases e2 : j = k
    ·exact ⟨c,fun b hb=>by split<;>omega⟩
    ·exact ⟨c+1,fun b hb=>by split<;>omega⟩
  obtain ⟨k2,hk2⟩:=h4
  refine Int.le_trans (Xm _ k2 1600 (by decide) (by decide) (c+1) (fun b _=>o8 (fun a _=>iK _)) (fun b hb e=>by rw [(hk2 b hb).2 e];exact h1)) ?_
  have h5:ee (c+1) (fun b=>if b=k2 then 1 else az n (fun a=>alh (B a (if b=c then j else b))))≤800000:=by
   have h6:∀ b,0≤(fun b=>if b=k then (0:Int) else az n (fun a=>alh (B a b))) b:=fun b=>by
    show 0≤if b=k then (0:Int) else _
    split
    ·decide
    ·exact o8 (fun a _=>iK _)
   have h7:=Fq (n:=n) _ (fun b _=>h6 b) c j hj hjn
   have h8:az (c+1) (fun b=>if b=k2 then 0 else az n (fun a=>alh (B a (if b=c then j else b))))≤40:=by
    refine Int.le_trans (Int.le_of_eq (eE fun b hb=>?_)) (Int.le_trans h7 h2)
    by_cases e:b=k2
    ·rw [if_pos e,if_pos ((hk2 b hb).2 e)]
    ·rw [if_neg e,if_neg (fun e2=>e ((hk2 b hb).1 e2))]
   refine Xn _ (c+1) (by omega) (fun b _=>?_) ?_
   ·by_cases e : b = k2
    ·rw [if_pos e];decide
    ·rw [if_neg e];exact o8 (fun a _=>iK _)
   ·refine Int.le_trans (Int.le_of_eq (eE (g := fun b => (if b = k2 then 0 else az n (fun a => alh (B a (if b = c then j else b)))) + (if b = k2 then 1 else 0)) fun b _ => ?_)) ?_
    ·by_cases e : b = k2
     ·rw [if_pos e,if_pos e,if_pos e];rfl
     ·rw [if_neg e,if_neg e,if_neg e,Int.add_zero]
    ·rw [uJ]
     have h11:az (c+1) (fun b=>if b=k2 then (1:Int) else 0)≤1:=aeI (c+1) k2
     omega
  have h9:(if k2 < c+1 then (1600:Int) else 1)≤1600:=by split<;>decide
  have h10:(0:Int)≤ee (c+1) (fun b=>if b=k2 then 1 else az n (fun a=>alh (B a (if b=c then j else b)))):=Lm fun b _=>by
   by_cases e:b=k2
   ·rw [if_pos e];decide
   ·rw [if_neg e];exact o8 (fun a _=>iK _)
  exact Int.le_trans (Int.mul_le_mul h9 h5 h10 (by decide)) (by decide)
/-- Where the elimination without fractions stands at the column c. -/
structure BI (n:Nat) (A:Nat→Nat→Int) (c:Nat) (s p:Int) (T:Nat→Nat→Int):Prop where
 ex:∃ B:Nat→Nat→Int,okB n B∧aG n A=s * aG n B∧p=aG c B∧∀ i j,c≤i→i < n→c≤j→j < n→T i j=jT c B i j
 sg:s=1∨s=-1
 p0:p ≠ 0
theorem BI.start {n:Nat} (A:Nat→Nat→Int) (hA:okB n A):BI n A 0 1 1 A :=
 ⟨⟨A,hA,by rw [Int.one_mul],rfl,fun i j _ _ _ _=>(ada A i j).symm⟩,.inl rfl,by decide⟩
theorem BI.none {n:Nat} {A:Nat→Nat→Int} {c:Nat} {s p:Int} {T:Nat→Nat→Int} (h:BI n A c s p T) (hc:c < n) (h0:∀ i,c≤i→i < n→T i c=0):aG n A=0:=by
 obtain ⟨⟨B,hB,hd,hp,hT⟩,_,vS⟩:=h
 rw [hd,ac_ B c hc (by rw [← hp];exact vS) (fun i hi hin=>by rw [← hT i c hi hin (Nat.le_refl _) hc];exact h0 i hi hin),Int.mul_zero]
theorem BI.last {n:Nat} {A:Nat→Nat→Int} {s p:Int} {T:Nat→Nat→Int} (h:BI n A n s p T):aG n A=s * p:=by
 obtain ⟨⟨B,hB,hd,hp,hT⟩,_,vS⟩:=h
 rw [hd,hp]
theorem L9 {n:Nat} (f:Nat→Int) (i c:Nat) (hi:i < n) (hc:c < n) (hic:i ≠ c):az n (fun r=>f (kM i c r))=az n f:=by
 have h:=Sn (n:=n) (f:=fun r=>f (kM i c r) - f r) i c hi hc hic (fun r _ h1 h2=>by simp [kM,h1,h2])
 rw [Gz] at h
 simp only [kM,if_true,if_neg (show ¬ (c=i) from fun e=>hic e.symm)] at h
 unfold kM
 omega
theorem BI.swap {n:Nat} {A:Nat→Nat→Int} {c:Nat} {s p:Int} {T:Nat→Nat→Int} (h:BI n A c s p T) (i:Nat) (hci:c < i) (hi:i < n):BI n A c (-s) p (fun r=>T (kM i c r)):=by
 obtain ⟨⟨B,hB,hd,hp,hT⟩,hs,vS⟩:=h
 have Dl:∀ a,a < c→kM i c a=a:=fun a ha=>by unfold kM;rw [if_neg (by omega),if_neg (by omega)]
 refine ⟨⟨fun r=>B (kM i c r),?_,?_,?_,?_⟩,by omega,vS⟩
 ·rcases hB with hB | ⟨k, hk, vP, h1, h2⟩
  ·refine .inl ?_
   unfold vZ
   have:=L9 (n:=n) (fun a=>az n (fun b=>alh (B a b))) i c hi (by omega) (by omega)
   rw [this];exact hB
  ·refine .inr ⟨k, hk, vP, ?_, ?_⟩
   ·have := L9 (n := n) (fun a => alh (B a k)) i c hi (by omega) (by omega)
    rw [this];exact h1
   ·refine Int.le_trans (Int.le_of_eq (eE fun b _ => ?_)) h2
    have:=L9 (n:=n) (fun a=>alh (B a b)) i c hi (by omega) (by omega)
    rw [this]
 ·have he:aG n (fun r=>B (kM i c r))=- aG n B:=by
   rw [← Sg B i c hi (by omega) (by omega)]
   refine iW (fun a b _ _=>?_)
   unfold kM bt
   by_cases h1:a=c
   ·subst h1
    by_cases h2:a=i
    ·omega
    ·simp [h2]
   ·by_cases h2 : a = i
    ·subst h2;simp [h1]
    ·simp [h1,h2]
  rw [he,hd,Int.neg_mul_neg]
 ·rw [hp]
  exact iW (fun a b ha _=>by rw [Dl a ha])
 ·intro r j hr hrn hj hjn
  have o5:c≤kM i c r∧kM i c r < n:=by unfold kM;(repeat' split)<;>omega
  show T (kM i c r) j=_
  rw [hT _ j o5.1 o5.2 hj hjn]
  unfold jT
  refine iW (fun a b ha hb=>?_)
  by_cases h1:a=c
  ·rw [if_pos h1,if_pos h1]
  ·rw [if_neg h1,if_neg h1];show B a _=B (kM i c a) _;rw [Dl a (by omega)]
theorem vr {x b:Int} (h:alh x≤b):-b≤x∧x≤b:=by unfold alh at h;omega
/-- One column: what each cell below gets. -/
theorem BI.step {n : Nat} {A : Nat → Nat → Int} {c : Nat} {s p : Int} {T : Nat → Nat → Int} (h : BI n A c s p T) (hc : c < n) (h0 : T c c ≠ 0) :
  ∃ N : Nat → Nat → Int, (∀ i j, c < i → i < n → c < j → j < n → wrap64 (Int.tdiv (wrap64 (wrap64 (T i j * T c c) - wrap64 (T i c * T c j))) p) = N i j) ∧
   ∀ S:Nat→Nat→Int,(∀ i j,c < i→i < n→c < j→j < n→S i j=N i j)→BI n A (c+1) s (T c c) S:=by
 obtain ⟨⟨B,hB,hd,hp,hT⟩,hs,vS⟩:=h
 refine ⟨jT (c+1) B,?_,?_⟩
 ·intro i j hi hin hj hjn
  have RM:=adk c B (by rw [← hp];exact vS) i j
  rw [← hp,← hT c c (Nat.le_refl _) hc (Nat.le_refl _) hc,← hT i j (by omega) hin (by omega) hjn,← hT i c (by omega) hin (Nat.le_refl _) hc,← hT c j (Nat.le_refl _) hc (by omega) hjn] at RM
  have b1:=vr (yq B hB c c c (Nat.le_refl _) hc (Nat.le_refl _) hc)
  have b2:=vr (yq B hB c i j (by omega) hin (by omega) hjn)
  have b3:=vr (yq B hB c i c (by omega) hin (Nat.le_refl _) hc)
  have b4:=vr (yq B hB c c j (Nat.le_refl _) hc (by omega) hjn)
  have b5:=vr (yq B hB (c+1) i j (by omega) hin (by omega) hjn)
  rw [← hT c c (Nat.le_refl _) hc (Nat.le_refl _) hc] at b1
  rw [← hT i j (by omega) hin (by omega) hjn] at b2
  rw [← hT i c (by omega) hin (Nat.le_refl _) hc] at b3
  rw [← hT c j (Nat.le_refl _) hc (by omega) hjn] at b4
  have m1:=vr (show alh (T i j * T c c)≤2000000000 * 2000000000 by rw [tJ];exact Int.mul_le_mul (by unfold alh;omega) (by unfold alh;omega) (iK _) (by omega))
  have m2:=vr (show alh (T i c * T c j)≤2000000000 * 2000000000 by rw [tJ];exact Int.mul_le_mul (by unfold alh;omega) (by unfold alh;omega) (iK _) (by omega))
  rw [jv (n:=T i j * T c c) (by omega) (by omega),jv (n:=T i c * T c j) (by omega) (by omega),jv (n:=T i j * T c c - T i c * T c j) (by omega) (by omega)]
  rw [show T i j * T c c - T i c * T c j=p * jT (c+1) B i j by rw [RM,Int.mul_comm (T i j)],Int.mul_tdiv_cancel_left _ vS]
  exact jv (by omega) (by omega)
 ·intro S hS
  refine ⟨⟨B,hB,hd,?_,fun i j hi hin hj hjn=>hS i j (by omega) hin (by omega) hjn⟩,hs,h0⟩
  rw [hT c c (Nat.le_refl _) hc (Nat.le_refl _) hc,Lh]
theorem BI.pb {n:Nat} {A:Nat→Nat→Int} {c:Nat} {s p:Int} {T:Nat→Nat→Int} (h:BI n A c s p T) (hc:c≤n):-2000000000≤p∧p≤2000000000:=by
 obtain ⟨⟨B,hB,hd,hp,hT⟩,_,vS⟩:=h
 cases c with
 | zero=>rw [hp];show -2000000000≤(1:Int)∧(1:Int)≤2000000000;omega
 | succ c=>rw [hp,← Lh];exact vr (yq B hB c c c (Nat.le_refl _) (by omega) (Nat.le_refl _) (by omega))
def bT (N T:Nat→Nat→Int) (c i m:Nat):Nat→Nat→Int:=fun r q=>if c < q∧(c < r∧r < i∨r=i∧q < m) then N r q else T r q
theorem Xk (n : Nat) (hn : n ≤ 1048576) (N T : Nat → Nat → Int) (c : Nat) (hc : c < n) (s p : Int) (hp : p ≠ 0)
  (hN:∀ i j,c < i→i < n→c < j→j < n→wrap64 (Int.tdiv (wrap64 (wrap64 (T i j * T c c) - wrap64 (T i c * T c j))) p)=N i j) (i:Nat) (hci:c < i) (hi:i < n) (R:Int)
  (next:Ev (fun k=>bD.l2 k (bY n (bT N T c (i+1) 0)) s p ((i:Int)+1) n c c) R) :
  ∀ (d j:Nat),n - j=d→j≤n→c < j→Ev (fun k=>bD.l3 k (bY n (bT N T c i j)) s p i j n c c) R:=by
 intro d
 induction d with
 | zero =>
  intro j hd hj _
  obtain rfl:j=n:=by omega
  refine Ev.step (fun q=>by simp only [bD.l3];rfl) ?_
  simp only [fo,Int.lt_irrefl,if_false,wI ((i:Int)+1) (by omega)]
  refine Ev.congr (fun q=>?_) next
  congr 1
  refine amh fun r q hr hq=>?_
  unfold bT
  by_cases h1:c < q∧(c < r∧r < i∨r=i∧q < j)
  ·rw [if_pos h1,if_pos ⟨h1.1,by omega⟩]
  ·rw [if_neg h1,if_neg (by omega)]
 | succ d ih =>
  intro j hd hj hcj
  have hjn:j < n:=by omega
  refine Ev.step (fun q=>by simp only [bD.l3];rfl) ?_
  have e1:bT N T c i j i j=T i j:=by unfold bT;rw [if_neg (by omega)]
  have e2:bT N T c i j c c=T c c:=by unfold bT;rw [if_neg (by omega)]
  have e3:bT N T c i j i c=T i c:=by unfold bT;rw [if_neg (by omega)]
  have e4:bT N T c i j c j=T c j:=by unfold bT;rw [if_neg (by omega)]
  simp only [fo,lI j n (by omega),lI i n (by omega),lI c n (by omega),cB i,cB j,cB c,if_true,if_false,nR hi,nR hc,eI,hp,fO hjn,fO hc,e1,e2,e3,e4,hN i j hci hi hcj hjn,Int.toNat_natCast,qF,By,wI ((j:Int)+1) (by omega)]
  refine Ev.congr (fun q=>?_) (ih (j+1) (by omega) (by omega) (by omega))
  rw [show ((j+1:Nat):Int)=(j:Int)+1 by omega]
  congr 1
  refine amh fun r q hr hq=>?_
  by_cases h1:r=i
  ·subst h1
   rw [if_pos rfl]
   by_cases h2:q=j
   ·subst h2
    rw [if_pos rfl]
    unfold bT;rw [if_pos (by omega)]
   ·rw [if_neg h2]
    unfold bT
    by_cases h3:c < q∧(c < r∧r < r∨r=r∧q < j)
    ·rw [if_pos h3,if_pos (by omega)]
    ·rw [if_neg h3,if_neg (by omega)]
  ·rw [if_neg h1]
   unfold bT
   by_cases h3:c < q∧(c < r∧r < i∨r=i∧q < j)
   ·rw [if_pos h3,if_pos (by omega)]
   ·rw [if_neg h3,if_neg (by omega)]
theorem Xj (n : Nat) (hn : n ≤ 1048576) (N T : Nat → Nat → Int) (c : Nat) (hc : c < n) (s p : Int) (hp : p ≠ 0)
  (hN:∀ i j,c < i→i < n→c < j→j < n→wrap64 (Int.tdiv (wrap64 (wrap64 (T i j * T c c) - wrap64 (T i c * T c j))) p)=N i j) (R:Int)
  (next:Ev (fun k=>bD.l1 k (bY n (bT N T c n 0)) s (T c c) n ((c:Int)+1)) R) :
  ∀ (d i:Nat),n - i=d→i≤n→c < i→Ev (fun k=>bD.l2 k (bY n (bT N T c i 0)) s p i n c c) R:=by
 intro d
 induction d with
 | zero =>
  intro i hd hi _
  obtain rfl:i=n:=by omega
  refine Ev.step (fun q=>by simp only [bD.l2];rfl) ?_
  have e2:bT N T c i 0 c c=T c c:=by unfold bT;rw [if_neg (by omega)]
  simp only [fo,Int.lt_irrefl,if_false,cB c,lI c i (by omega),if_true,nR hc,eI,fO hc,e2,wI ((c:Int)+1) (by omega)]
  exact next
 | succ d ih =>
  intro i hd hi hci
  have hin:i < n:=by omega
  refine Ev.step (fun q=>by simp only [bD.l2];rfl) ?_
  simp only [fo,lI i n (by omega),if_true,wI ((c:Int)+1) (by omega)]
  have h:=ih (i+1) (by omega) (by omega) (by omega)
  rw [show ((i+1:Nat):Int)=(i:Int)+1 by omega] at h
  have h2:=Xk n hn N T c hc s p hp hN i hci hin R h (n - (c+1)) (c+1) rfl (by omega) (by omega)
  rw [show ((c+1:Nat):Int)=(c:Int)+1 by omega] at h2
  refine Ev.congr (fun q=>?_) h2
  congr 1
  refine amh fun r q hr hq=>?_
  unfold bT
  by_cases h3:c < q∧(c < r∧r < i∨r=i∧q < 0)
  ·rw [if_pos h3,if_pos (by omega)]
  ·rw [if_neg h3,if_neg (by omega)]
def Eh (c:Int) (x:List Int):Option Bool:=if 0≤c then (if c < (x.length:Int) then some (rd x c != 0) else none) else none
theorem adI (n c:Nat) (hc:c < n) (g:Nat→Int):Eh (c:Int) (aA n g)=some (g c != 0):=by
 unfold Eh
 rw [if_pos (by omega),if_pos (by rw [eI];omega),fO hc]
theorem acp (k:Nat) (l:List (List Int)) (c:Int):pz.f k l c=nL (Eh c) l 0:=rfl
theorem Xg (n : Nat) (T : Nat → Nat → Int) (c : Nat) (hc : c < n) : ∀ (d r z : Nat), n - r = d → r ≤ n →
  (∃ i,r≤i∧i < n∧T i c ≠ 0∧nL (Eh (c:Int)) ((bY n T).drop r) z=some ((z+(i - r):Nat):Int)) ∨
  ((∀ i,r≤i→i < n→T i c=0)∧nL (Eh (c:Int)) ((bY n T).drop r) z=some (-1)):=by
 intro d
 induction d with
 | zero =>
  intro r z hd hr
  refine .inr ⟨fun i h1 h2=>by omega,?_⟩
  rw [List.drop_eq_nil_of_le (by rw [fo];omega)]
  rfl
 | succ d ih =>
  intro r z hd hr
  have hl:r < (bY n T).length:=by rw [fo];omega
  have hg:(bY n T)[r]=aA n (T r):=by simp [bY]
  rw [List.drop_eq_getElem_cons hl,hg]
  simp only [nL,adI n c hc,Option.bind_some]
  by_cases h0:T r c=0
  ·simp only [h0, bne_self_eq_false, Bool.false_eq_true, if_false]
   rcases ih (r+1) (z+1) (by omega) (by omega) with ⟨i,h1,h2,h3,h4⟩|⟨h1,h2⟩
   ·exact .inl ⟨i,by omega,h2,h3,by rw [h4];congr 2;omega⟩
   ·refine .inr ⟨fun i h3 h4 => ?_, h2⟩
    by_cases h5:i=r
    ·rw [h5];exact h0
    ·exact h1 i (by omega) h4
  ·have hb : (T r c != 0) = true := by simp [h0]
   simp only [hb,if_true]
   exact .inl ⟨r,Nat.le_refl _,by omega,h0,by congr 2;omega⟩
theorem aeT (i c r:Nat):kM i c r=kM c i r:=by unfold kM;(repeat' split)<;>omega
theorem OC (n : Nat) (hn : n ≤ 1048576) (A : Nat → Nat → Int) (c : Nat) (hc : c < n) (ih : ∀ (s p : Int) (T : Nat → Nat → Int), BI n A (c + 1) s p T → Ev (fun k => bD.l1 k (bY n T) s p n ((c : Int) + 1)) (aG n A))
  (s p:Int) (T:Nat→Nat→Int) (h:BI n A c s p T) (h0:T c c ≠ 0):Ev (fun k=>bD.j2 k (bY n T) s p n c c) (aG n A):=by
 obtain ⟨N,hN,hS⟩:=BI.step h hc h0
 refine Ev.step (fun q=>by simp only [bD.j2];rfl) ?_
 have h1:=ih s (T c c) (bT N T c n 0) (hS _ (fun i j hi hin hj hjn=>by unfold bT;rw [if_pos ⟨hj,.inl ⟨hi,hin⟩⟩]))
 have h2:=Xj n hn N T c hc s p h.p0 hN _ h1 (n - (c+1)) (c+1) rfl (by omega) (by omega)
 rw [show ((c+1:Nat):Int)=(c:Int)+1 by omega] at h2
 simp only [wI ((c:Int)+1) (by omega)]
 refine Ev.congr (fun q=>?_) h2
 congr 1
 refine amh fun r q hr hq=>?_
 unfold bT
 rw [if_neg (by omega)]
theorem Xi (n:Nat) (hn:n≤1048576) (A:Nat→Nat→Int):∀ (d c:Nat),n - c=d→c≤n→∀ (s p:Int) (T:Nat→Nat→Int),BI n A c s p T→Ev (fun k=>bD.l1 k (bY n T) s p n c) (aG n A):=by
 intro d
 induction d with
 | zero =>
  intro c hd hc s p T h
  obtain rfl:c=n:=by omega
  refine Ev.step (fun q=>by simp only [bD.l1];rfl) ?_
  have hb:=BI.pb h (Nat.le_refl _)
  have hl:=BI.last h
  have hw:wrap64 (s * p)=s * p:=by rcases h.sg with e|e<;>rw [e]<;>exact jv (by omega) (by omega)
  simp only [Int.lt_irrefl,if_false,hw]
  rw [hl]
  exact Ev.now _
 | succ d ih =>
  intro c hd hc s p T h
  have uz:c < n:=by omega
  refine Ev.step (fun q=>by simp only [bD.l1,acp];rfl) ?_
  have ih2:∀ (s p:Int) (T:Nat→Nat→Int),BI n A (c+1) s p T→Ev (fun k=>bD.l1 k (bY n T) s p n ((c:Int)+1)) (aG n A):=fun s p T h=>by
   have:=ih (c+1) (by omega) (by omega) s p T h
   rwa [show ((c+1:Nat):Int)=(c:Int)+1 by omega] at this
  rcases Xg n T c uz (n - c) c 0 rfl hc with ⟨i,h1,h2,h3,h4⟩|⟨h1,h2⟩
  ·simp only [lI c n (by omega), cB c, fo, show ((c : Int) ≤ (n : Int)) by omega, if_true, Int.toNat_natCast]
   simp only [Nat.zero_add] at h4
   rw [h4]
   simp only [Option.bind_some,show ¬ (((i - c:Nat):Int) < 0) by omega,if_false]
   by_cases hic:i=c
   ·subst hic
    simp only [Nat.sub_self,show ¬ (((0:Nat):Int) > 0) by omega,if_false]
    exact OC n hn A i uz ih2 s p T h h3
   ·have hs : wrap64 (-s) = -s := by rcases h.sg with e | e <;> rw [e] <;> exact jv (by omega) (by omega)
    simp only [show (((i - c:Nat):Int) > 0) by omega,show (c:Int)+((i - c:Nat):Int)=(i:Int) by omega,wI ((i:Int)) (by omega),cB i,lI i n (by omega),if_true,hs]
    have h5:=BI.swap h i (by omega) h2
    have e:swp (bY n T) c i=bY n (fun r=>T (kM i c r)):=by
     rw [← Tw,aeU n n T c i uz h2,← Tw]
     refine Tu fun r q _ _=>?_
     rw [aeT]
    rw [e]
    refine OC n hn A c uz ih2 (-s) p _ h5 ?_
    show T (kM i c c) c ≠ 0
    rw [show kM i c c=i by unfold kM;rw [if_neg (by omega),if_pos rfl]]
    exact h3
  ·simp only [lI c n (by omega), cB c, fo, show ((c : Int) ≤ (n : Int)) by omega, if_true, Int.toNat_natCast]
   rw [h2,BI.none h uz h1]
   simp only [Option.bind_some,show ((-1:Int) < 0) by omega,if_true]
   exact Ev.now _
theorem Xh (n:Nat) (hn:n≤1048576) (A:Nat→Nat→Int) (hA:okB n A):∀ (d i:Nat),n - i=d→i≤n→Ev (fun k=>bD.l0 k (oI i n A) 1 1 (bY n A) n i) (aG n A):=by
 intro d
 induction d with
 | zero =>
  intro i hd hi
  obtain rfl:i=n:=by omega
  refine Ev.step (fun q=>by simp only [bD.l0];rfl) ?_
  simp only [Int.lt_irrefl,if_false,EA]
  exact Xi i hn A i 0 (by omega) (by omega) 1 1 A (BI.start A hA)
 | succ d ih =>
  intro i hd hi
  have hin:i < n:=by omega
  refine Ev.step (fun q=>by simp only [bD.l0];rfl) ?_
  simp only [lI i n (by omega),cB i,if_true,fo,nR hin,X2 (aA n (A i)) (by rw [eI];omega),Option.bind_some,EA,show i < 5864062014805 by omega,afk,wI ((i:Int)+1) (by omega)]
  have h:=ih (i+1) (by omega) (by omega)
  rwa [show ((i+1:Nat):Int)=(i:Int)+1 by omega] at h
theorem TF (n:Nat) (hn:n≤1048576) (A:Nat→Nat→Int) (hA:okB n A):Ev (fun k=>bD.f k (bY n A)) (aG n A):=by
 unfold bD.f
 rw [fo]
 exact Xh n hn A hA n 0 (by omega) (by omega)
theorem Cw {n:Nat} (hn:1≤n) (A:Nat→Nat→Int) (hA:okB n A):-2000000000≤aG n A∧aG n A≤2000000000:=by
 obtain ⟨m,rfl⟩:∃ m,n=m+1:=⟨n - 1,by omega⟩
 rw [← Lh]
 exact vr (yq A hA m m m (Nat.le_refl _) (by omega) (Nat.le_refl _) (by omega))
def bO : Nat → (Nat → Int) → Int
 | 0,_=>0
 | n+1,f=>bO n f+f n
theorem oU (n:Nat) (f:Nat→Int):bO (n+1) f=bO n f+f n:=rfl
theorem lA {n:Nat} {f g:Nat→Int} (h:∀ i,i < n→f i=g i):bO n f=bO n g:=by
 induction n with
 | zero=>rfl
 | succ n ih=>rw [oU,oU,ih (fun i hi=>h i (by omega)),h n (by omega)]
theorem qX {n:Nat} {f g:Nat→Int} (h:∀ i,i < n→f i≤g i):bO n f≤bO n g:=by
 induction n with
 | zero=>simp [bO]
 | succ n ih =>
  have h1:=ih (fun i hi=>h i (by omega))
  have h2:=h n (by omega)
  rw [oU,oU]
  omega
theorem W7 {n:Nat} {f:Nat→Int} (h:∀ i,i < n→-20≤f i∧f i≤20):-(20 * (n:Int))≤bO n f∧bO n f≤20 * n:=by
 induction n with
 | zero=>simp [bO]
 | succ n ih =>
  have h1:=ih (fun i hi=>h i (by omega))
  have h2:=h n (by omega)
  rw [oU]
  omega
theorem qW (n:Nat) (f g:Nat→Int):bO n (fun i=>f i+g i)=bO n f+bO n g:=by
 induction n with
 | zero=>rfl
 | succ n ih=>rw [oU,oU,oU,ih];omega
theorem Au (n:Nat) (f:Nat→Int):bO n (fun i=>-f i)=-bO n f:=by
 induction n with
 | zero=>rfl
 | succ n ih=>rw [oU,oU,ih];omega
theorem yp (n:Nat):bO n (fun _=>0)=0:=by
 induction n with
 | zero=>rfl
 | succ n ih=>rw [oU,ih];rfl
theorem pI {n u:Nat} (hu:u < n) (x:Int):bO n (fun j=>if j=u then x else 0)=x:=by
 induction n with
 | zero=>omega
 | succ n ih =>
  rw [oU]
  by_cases h:n=u
  ·subst h
   rw [if_pos rfl,lA (g:=fun _=>0) (fun i hi=>by rw [if_neg (by omega)]),yp]
   omega
  ·rw [if_neg h, ih (by omega)]
   omega
theorem Gm (p q:Prop) [Decidable p] [Decidable q]:(if p∧q then (1:Int) else 0)=if q∧p then 1 else 0:=by
 by_cases hp:p<;>by_cases hq:q<;>simp [hp,hq]
/-- The Laplacian is the same read either way. -/
theorem ado {n:Nat} {l:List (List Int)} (hE:endsIn n l):∀ i,i≤l.length→∀ r j,bu l i r j=bu l i j r:=by
 intro i
 induction i with
 | zero =>
  intro _ r j
  unfold bu
  by_cases h:r=j
  ·subst h;rfl
  ·rw [if_neg h,if_neg (fun e=>h e.symm)];rfl
 | succ i ih =>
  intro hi r j
  obtain ⟨_,u,v,hu,hv,_,_⟩:=hE i (by omega)
  rw [xL n l i u v hu hv r j,xL n l i u v hu hv j r,ih (by omega) r j]
  by_cases h:u=v
  ·rw [if_pos h,if_pos h]
  ·rw [if_neg h, if_neg h, Gm (j = u) (r = u), Gm (j = u) (r = v), Gm (j = v) (r = v), Gm (j = v) (r = u)]
   omega
/-- A row of the Laplacian comes to nothing. -/
theorem adn {n:Nat} {l:List (List Int)} (hE:endsIn n l):∀ i,i≤l.length→∀ r,bO n (fun j=>bu l i r j)=0:=by
 intro i
 induction i with
 | zero =>
  intro _ r
  rw [lA (g:=fun _=>0) (fun j _=>by unfold bu;split<;>rfl),yp]
 | succ i ih =>
  intro hi r
  obtain ⟨_,u,v,hu,hv,hun,gq⟩:=hE i (by omega)
  rw [lA (g:=fun j=>bu l i r j+((if j=u then (if u=v then 0 else (if r=u then 1 else 0) - (if r=v then 1 else 0)) else 0)+(if j=v then (if u=v then 0 else (if r=v then 1 else 0) - (if r=u then 1 else 0)) else 0))) (fun j _=>by
   rw [xL n l i u v hu hv r j]
   by_cases h:u=v
   ·simp [h]
   ·by_cases h1:r=u<;>by_cases h2:r=v<;>by_cases h3:j=u<;>by_cases h4:j=v<;>simp [h,h1,h2,h3,h4]<;>omega),qW,ih (by omega),qW,pI hun,pI gq]
  by_cases h:u=v
  ·simp [h]
  ·simp only [if_neg h];omega
theorem Ss {l:List (List Int)} (i u v:Nat) (h:u ≠ v):bu l i u v≤0:=by
 have:=Ce l (2 * i) u v
 unfold bu
 rw [if_neg h]
 omega
/-- What comes to v from outside of S. -/
def ki (L:Nat→Nat→Int) (n:Nat) (S:Nat→Bool) (v:Nat):Int:=bO n (fun w=>if S w=true then 0 else -(L v w))
def lawful (L:Nat→Nat→Int) (c:Nat→Int) (n:Nat) (S:Nat→Bool):Prop:=∀ v,v < n→S v=true→ki L n S v≤c v
theorem GH {L:Nat→Nat→Int} {n:Nat} (hs:∀ i j,L i j=L j i) (v:Nat) (h0:bO n (fun j=>L v j)=0) (S:Nat→Bool):bO n (fun i=>if S i=true then L i v else 0)=ki L n S v:=by
 have h:bO n (fun i=>(if S i=true then L i v else 0)+-(if S i=true then 0 else -(L v i)))=0:=by
  refine Eq.trans (lA fun i _=>?_) h0
  cases S i with
  | true=>simp [hs i v]
  | false=>simp
 rw [qW,Au] at h
 unfold ki
 omega
theorem adU {L:Nat→Nat→Int} {n:Nat} (ho:∀ u w,u ≠ w→L u w≤0) {S T:Nat→Bool} (AR:∀ j,j < n→S j=true→T j=true) {v:Nat} (hv:S v=true):ki L n T v≤ki L n S v:=by
 unfold ki
 refine qX fun w hw=>?_
 cases hT:T w with
 | true =>
  cases hS:S w with
  | true=>simp
  | false =>
   have h1:v ≠ w:=fun e=>by rw [e,hS] at hv;exact absurd hv (by decide)
   have h2:=ho v w h1
   simp only [if_true,Bool.false_eq_true,if_false]
   omega
 | false =>
  cases hS:S w with
  | true=>rw [AR w hw hS] at hT;exact absurd hT (by decide)
  | false=>exact Int.le_refl _
def iH : Nat → (Nat → Bool) → Nat
 | 0,_=>0
 | n+1,T=>iH n T+(if T n=true then 1 else 0)
theorem yy (n:Nat) (T:Nat→Bool):iH (n+1) T=iH n T+(if T n=true then 1 else 0):=rfl
theorem X9 {n:Nat} {S T:Nat→Bool} (h:∀ j,j < n→S j=T j):iH n S=iH n T:=by
 induction n with
 | zero=>rfl
 | succ n ih=>rw [yy,yy,ih (fun j hj=>h j (by omega)),h n (by omega)]
def pg (T:Nat→Bool) (v:Nat):Nat→Bool:=fun j=>if j=v then false else T j
theorem Cq {n v:Nat} {T:Nat→Bool} (hv:v < n) (hT:T v=true):iH n (pg T v)+1=iH n T:=by
 induction n with
 | zero=>omega
 | succ n ih =>
  rw [yy,yy]
  by_cases h:n=v
  ·subst h
   rw [X9 (T:=T) (fun j hj=>by unfold pg;rw [if_neg (by omega)]),hT,show pg T n n=false from if_pos rfl]
   simp
  ·rw [show pg T v n = T n from if_neg h]
   have:=ih (by omega)
   omega
/-- One round of the burning. -/
def jf (L : Nat → Nat → Int) (c : Nat → Int) (n : Nat) : Nat → Nat → (Nat → Bool) → Bool → (Nat → Bool) × Bool
 | 0,_,T,m=>(T,m)
 | d+1,v,T,m=>if T v=true∧c v < ki L n T v then jf L c n d (v+1) (pg T v) true else jf L c n d (v+1) T m
theorem Cf {L : Nat → Nat → Int} {c : Nat → Int} {n : Nat} (ho : ∀ u w, u ≠ w → L u w ≤ 0) : ∀ (d v : Nat) (T : Nat → Bool) (m : Bool), v + d ≤ n →
  (∀ j,(jf L c n d v T m).1 j=true→T j=true)∧(∀ S,lawful L c n S→(∀ j,j < n→S j=true→T j=true)→∀ j,j < n→S j=true→(jf L c n d v T m).1 j=true) ∧
  ((jf L c n d v T m).2=false→m=false∧(jf L c n d v T m).1=T∧∀ j,v≤j→j < v+d→T j=true→ki L n T j≤c j) ∧
  iH n (jf L c n d v T m).1≤iH n T∧((jf L c n d v T m).2=true→m=false→iH n (jf L c n d v T m).1 < iH n T):=by
 intro d
 induction d with
 | zero =>
  intro v T m _
  refine ⟨fun j h=>h,fun S _ h=>h,fun h=>⟨h,rfl,fun j h1 h2=>by omega⟩,Nat.le_refl _,fun h1 h2=>?_⟩
  have h3:m=true:=h1
  rw [h2] at h3
  exact absurd h3 (by decide)
 | succ d ih =>
  intro v T m hd
  by_cases h:T v=true∧c v < ki L n T v
  ·have e : jf L c n (d + 1) v T m = jf L c n d (v + 1) (pg T v) true := if_pos h
   rw [e]
   obtain ⟨i1,i2,i3,i4,i5⟩:=ih (v+1) (pg T v) true (by omega)
   have hc:=Cq (show v < n by omega) h.1
   refine ⟨fun j hj=>?_,fun S hS AR=>i2 S hS (fun j hj yJ=>?_),fun hm=>?_,by omega,fun _ _=>by omega⟩
   ·have h1 := i1 j hj
    unfold pg at h1
    by_cases e:j=v
    ·rw [if_pos e] at h1;exact absurd h1 (by decide)
    ·rw [if_neg e] at h1;exact h1
   ·unfold pg
    by_cases e:j=v
    ·subst e
     have h1:=hS j hj yJ
     have h2:=adU (n:=n) ho AR yJ
     omega
    ·rw [if_neg e];exact AR j hj yJ
   ·exact absurd (i3 hm).1 (by decide)
  ·have e : jf L c n (d + 1) v T m = jf L c n d (v + 1) T m := if_neg h
   rw [e]
   obtain ⟨i1,i2,i3,i4,i5⟩:=ih (v+1) T m (by omega)
   refine ⟨i1,i2,fun hm=>?_,i4,i5⟩
   obtain ⟨h1,h2,h3⟩:=i3 hm
   refine ⟨h1,h2,fun j yZ hj2 hT=>?_⟩
   by_cases e:j=v
   ·subst e
    by_cases h4:ki L n T j≤c j
    ·exact h4
    ·exact absurd ⟨hT,by omega⟩ h
   ·exact h3 j (by omega) (by omega) hT
def mX (L : Nat → Nat → Int) (c : Nat → Int) (n : Nat) : Nat → (Nat → Bool) → Nat → Bool
 | 0,T=>T
 | N+1,T=>if (jf L c n n 0 T false).2=true then mX L c n N (jf L c n n 0 T false).1 else T
theorem Oo {L:Nat→Nat→Int} {c:Nat→Int} {n:Nat} (ho:∀ u w,u ≠ w→L u w≤0) {T:Nat→Bool} (h:iH n T=0):(jf L c n n 0 T false).2=false:=by
 cases e:(jf L c n n 0 T false).2 with
 | false=>rfl
 | true =>
  have:=(Cf (L:=L) (c:=c) (n:=n) ho n 0 T false (by omega)).2.2.2.2 e rfl
  omega
theorem Oq {L : Nat → Nat → Int} {c : Nat → Int} {n : Nat} (ho : ∀ u w, u ≠ w → L u w ≤ 0) : ∀ (N : Nat) (T : Nat → Bool), iH n T ≤ N →
  lawful L c n (mX L c n N T)∧(∀ j,mX L c n N T j=true→T j=true)∧∀ S,lawful L c n S→(∀ j,j < n→S j=true→T j=true)→∀ j,j < n→S j=true→mX L c n N T j=true:=by
 intro N
 induction N with
 | zero =>
  intro T h
  obtain ⟨_,_,i3,_,_⟩:=Cf (L:=L) (c:=c) (n:=n) ho n 0 T false (by omega)
  obtain ⟨_,_,h3⟩:=i3 (Oo ho (by omega))
  exact ⟨fun v hv hT=>h3 v (by omega) (by omega) hT,fun j h=>h,fun S _ h=>h⟩
 | succ N ih =>
  intro T h
  obtain ⟨i1,i2,i3,i4,i5⟩:=Cf (L:=L) (c:=c) (n:=n) ho n 0 T false (by omega)
  cases e:(jf L c n n 0 T false).2 with
  | true =>
   have hr:mX L c n (N+1) T=mX L c n N (jf L c n n 0 T false).1:=if_pos e
   rw [hr]
   have:=i5 e rfl
   obtain ⟨j1,j2,j3⟩:=ih (jf L c n n 0 T false).1 (by omega)
   exact ⟨j1,fun j hj=>i1 j (j2 j hj),fun S hS AR=>j3 S hS (i2 S hS AR)⟩
  | false =>
   have hr:mX L c n (N+1) T=T:=if_neg (by rw [e];decide)
   rw [hr]
   obtain ⟨_,_,h3⟩:=i3 e
   exact ⟨fun v hv hT=>h3 v (by omega) (by omega) hT,fun j h=>h,fun S _ h=>h⟩
/-- A set as a number. -/
def rm : Nat → (Nat → Bool) → Nat
 | 0,_=>0
 | n+1,S=>2 * rm n (fun i=>S (i+1))+(S 0).toNat
theorem adF (n:Nat):∀ S,rm n S < 2 ^ n:=by
 induction n with
 | zero=>intro S;simp [rm]
 | succ n ih =>
  intro S
  have h:=ih (fun i=>S (i+1))
  have h2:(S 0).toNat≤1:=by cases S 0<;>simp
  rw [rm,Nat.pow_succ]
  omega
theorem GD:∀ (n:Nat) (S:Nat→Bool) (i:Nat),(rm n S).testBit i=(decide (i < n) && S i):=by
 intro n
 induction n with
 | zero=>intro S i;simp [rm]
 | succ n ih =>
  intro S i
  have h2:(S 0).toNat≤1:=by cases S 0<;>simp
  cases i with
  | zero =>
   rw [Nat.testBit_zero,rm,show (2 * rm n (fun i=>S (i+1))+(S 0).toNat) % 2=(S 0).toNat by omega]
   cases S 0<;>simp
  | succ i =>
   rw [Nat.testBit_succ,rm,show (2 * rm n (fun i=>S (i+1))+(S 0).toNat) / 2=rm n (fun i=>S (i+1)) by omega,ih]
   simp
/-- The eight marks, as the code keeps them. -/
def lb (T:Nat→Bool):List Bool:=(List.range 8).map T
theorem GC (T:Nat→Bool) {i:Nat} (h:i < 8):nQ false (lb T) (i:Int)=T i:=by
 unfold nQ lb
 rw [List.getD_eq_getElem?_getD,Int.toNat_natCast,List.getElem?_map,List.getElem?_range h]
 rfl
theorem adu {S T:Nat→Bool} (h:∀ j,j < 8→S j=T j):lb S=lb T:=by
 unfold lb
 refine List.map_congr_left fun j hj=>h j (by simpa using hj)
theorem Sv (T:Nat→Bool) (v:Nat) (b:Bool):(lb T).set v b=lb (fun j=>if j=v then b else T j):=by
 refine List.ext_getElem (by simp [lb]) fun i h1 h2=>?_
 rw [List.getElem_set]
 simp only [lb,List.getElem_map,List.getElem_range]
 by_cases h:v=i
 ·subst h;simp
 ·rw [if_neg h,if_neg (fun e=>h e.symm)]
/-- What has been counted of v's burning before w. -/
def tO (L:Nat→Nat→Int) (T:Nat→Bool) (v w:Nat):Int:=bO w (fun u=>if u=v∨T u=true then 0 else -(L v u))
theorem ad5 {L:Nat→Nat→Int} {T:Nat→Bool} {v:Nat} (n:Nat) (h:T v=true):tO L T v n=ki L n T v:=by
 unfold tO ki
 refine lA fun u _=>?_
 by_cases h1:T u=true
 ·rw [if_pos (Or.inr h1),if_pos h1]
 ·rw [if_neg h1,if_neg (fun e=>e.elim (fun e=>h1 (e ▸ h)) h1)]
theorem ad4 {L:Nat→Nat→Int} (hL:∀ u w,-20≤L u w∧L u w≤20) (T:Nat→Bool) (v:Nat) {w:Nat} (hw:w≤8):-160≤tO L T v w∧tO L T v w≤160:=by
 have h:=W7 (n:=w) (f:=fun u=>if u=v∨T u=true then 0 else -(L v u)) (fun u _=>by
  have:=hL v u
  by_cases e:u=v∨T u=true
  ·simp only [if_pos e];omega
  ·simp only [if_neg e];omega)
 unfold tO
 omega
theorem Xc (n : Nat) (hn : n ≤ 8) (L : Nat → Nat → Int) (hL : ∀ u w, -20 ≤ L u w ∧ L u w ≤ 20) (c : List Int) (hc : c.length = n) (T : Nat → Bool) (any more : Bool) (v : Nat) (hv : v < n) (R : List Bool × Bool)
  (next:Ev (fun k=>if T v=true∧rd c (v:Int) < ki L n T v then bG.l2 k (bY n L) c (lb (pg T v)) any true ((v+1:Nat):Int) else bG.l2 k (bY n L) c (lb T) any more ((v+1:Nat):Int)) R) :
  ∀ (q w:Nat),n - w=q→w≤n→Ev (fun k=>bG.l3 k (bY n L) c (lb T) any more v (tO L T v w) w) R:=by
 intro q
 induction q with
 | zero =>
  intro w hq hw
  obtain rfl:w=n:=by omega
  refine Ev.step (fun k=>by simp only [bG.l3];rfl) ?_
  simp only [fo,Int.lt_irrefl,if_false,cB v,show ((v:Int) < 8) by omega,if_true,GC T (show v < 8 by omega),hc,lI v w (by omega),wI ((v:Int)+1) (by omega),Int.toNat_natCast,Sv]
  cases hT:T v with
  | false =>
   simp only [hT,Bool.false_eq_true,false_and,if_false] at next ⊢
   exact next
  | true =>
   simp only [hT,true_and,if_true,ad5 w hT] at next ⊢
   by_cases h:rd c (v:Int) < ki L w T v
   ·simp only [if_pos h, show ki L w T v > rd c (v : Int) from h, if_true] at next ⊢
    exact next
   ·simp only [if_neg h, show ¬ (ki L w T v > rd c (v : Int)) from h, if_false] at next ⊢
    exact next
 | succ q ih =>
  intro w hq hw
  have hwn:w < n:=by omega
  have e:tO L T v (w+1)=tO L T v w+(if w=v∨T w=true then 0 else -(L v w)):=rfl
  have hb:=ad4 hL T v (show w≤8 by omega)
  have h1:=hL v w
  have h2:=ih (w+1) (by omega) (by omega)
  refine Ev.step (fun k=>by simp only [bG.l3];rfl) ?_
  simp only [fo,lI w n (by omega),if_true,cB w,cB v,show ((w:Int) < 8) by omega,lI v n (by omega),GC T (show w < 8 by omega),nR hv,eI,fO hwn,wI ((w:Int)+1) (by omega)]
  by_cases h:w=v
  ·subst h
   rw [e,if_pos (Or.inl rfl),Int.add_zero] at h2
   simp only [if_true]
   exact h2
  ·simp only [show ¬ ((v : Int) = (w : Int)) by omega, if_false]
   cases hT:T w with
   | true =>
    rw [e,if_pos (Or.inr hT),Int.add_zero] at h2
    simp only [if_true]
    exact h2
   | false =>
    rw [e,if_neg (fun e=>e.elim h (fun e=>by rw [hT] at e;exact absurd e (by decide)))] at h2
    simp only [Bool.false_eq_true,if_false]
    rw [wI (tO L T v w - L v w) (by omega),show tO L T v w - L v w=tO L T v w+-(L v w) by omega]
    exact h2
end Go.Proofs.Ytoebojnhchocaaa.D
/- Set with little white space, by a program. -/
