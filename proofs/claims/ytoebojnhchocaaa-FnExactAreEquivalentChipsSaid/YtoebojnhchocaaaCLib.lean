/- Plain lemmas on the Lean functions that FnExactAreEquivalentChips reaches, the first half. No condition. -/
import Derived.Test.YtoebojnhchocaaaCx
namespace Go.Proofs.Ytoebojnhchocaaa.C
open Go.RowKit Go.Proofs.bI.en Go.Proofs.bI.je Go.Proofs.bI.jC
set_option linter.unusedVariables false
set_option linter.unusedSimpArgs false
theorem wI (n:Int) (h:-9223372036854775808≤n∧n≤9223372036854775807):wrap64 n=n:=IntWalk.wrap64_in n h
theorem cD (n:Nat):(0:Int)≤(n:Int):=Int.natCast_nonneg n
theorem lI (a b:Nat) (h:a < b):(a:Int) < (b:Int):=Int.ofNat_lt.2 h
theorem jH {n:Int} (h0:-9223372036854775808≤n) (h1:n≤9223372036854775807):wrap64 n=n:=IntWalk.wrap64_in n ⟨h0,h1⟩
theorem fuel {k n:Nat} (h:n < k):∃ m,k=m+1∧n≤m:=⟨k - 1,by omega,by omega⟩
theorem oX (l:List Int) (i:Nat) (h:i < l.length):rd l (i:Int)=l[i]:=by
 simp [rd,List.getD_eq_getElem?_getD,h]
theorem pO (l:List (List Int)) (i:Nat) (h:i < l.length):ah l (i:Int)=l[i]:=by
 simp [ah,List.getD_eq_getElem?_getD,h]
theorem take_set {α:Type} (x l:List α) (i:Nat) (hx:x.length=l.length) (hi:i < l.length) (h:x.take i=l.take i):(x.set i l[i]).take (i+1)=l.take (i+1):=by
 apply List.ext_getElem?
 intro j
 rw [List.getElem?_take,List.getElem?_take]
 by_cases hj:j < i+1
 ·rw [if_pos hj, if_pos hj]
  by_cases hji:j=i
  ·subst hji
   rw [List.getElem?_set_self (by omega),List.getElem?_eq_getElem hi]
  ·rw [List.getElem?_set_ne (by omega)]
   have h2:=congrArg (fun z=>z[j]?) h
   simp only [List.getElem?_take] at h2
   rwa [if_pos (by omega),if_pos (by omega)] at h2
 ·rw [if_neg hj,if_neg hj]
theorem aet (l:List Int) (hl:l.length≤35184372088832):∀ (d k i:Nat) (x:List Int),l.length - i=d→d < k→i≤l.length→x.length=l.length→x.take i=l.take i→cv.l0 k l x i=some l:=by
 intro d
 induction d with
 | zero =>
  intro k i x hd hk hi hx ht
  obtain ⟨m,rfl,hm⟩:=fuel hk
  simp only [cv.l0]
  rw [if_neg (by omega)]
  rw [List.take_of_length_le (by omega),List.take_of_length_le (by omega)] at ht
  rw [ht]
 | succ d ih =>
  intro k i x hd hk hi hx ht
  obtain ⟨m,rfl,hm⟩:=fuel hk
  have hil:i < l.length:=by omega
  simp only [cv.l0]
  rw [if_pos (by omega),if_pos (by omega),if_pos (by omega),jH (by omega) (by omega),oX l i hil,Int.toNat_natCast]
  exact ih m (i+1) _ (by omega) (by omega) (by omega) (by simp [hx]) (take_set x l i hx hil ht)
theorem Lc (l:List Int) (hl:l.length≤35184372088832):Ev (fun k=>cv.f k l) l:=by
 refine Ev.of (cv.mono l) (k:=l.length+1) ?_
 unfold cv.f
 rw [if_pos (by omega),if_pos (by simpa using hl)]
 exact aet l hl l.length _ 0 _ (by omega) (by omega) (by omega) (by simp) (by simp)
theorem aes (l:List (List Int)) (hl:l.length≤11728124029610) (hx:∀ x ∈ l,x.length≤35184372088832):∀ (d i:Nat) (x:List (List Int)),l.length - i=d→i≤l.length→x.length=l.length→x.take i=l.take i→Ev (fun k=>iA.l0 k l x i) l:=by
 intro d
 induction d with
 | zero =>
  intro i x hd hi hx ht
  refine Ev.step (fun k=>by simp only [iA.l0];rfl) ?_
  rw [List.take_of_length_le (by omega),List.take_of_length_le (by omega)] at ht
  simp only [show ¬ ((i:Int) < (l.length:Int)) by omega,if_false,ht]
  exact Ev.now l
 | succ d ih =>
  intro i x hd hi hx' ht
  have hil:i < l.length:=by omega
  refine Ev.step (fun k=>by simp only [iA.l0];rfl) ?_
  simp only [show ((i:Int) < (l.length:Int)) by omega,cD i,show ((i:Int) < (x.length:Int)) by omega,if_true,Int.toNat_natCast,wI ((i:Int)+1) (by omega),pO l i hil]
  refine Ev.bind (Lc l[i] (hx _ (List.getElem_mem hil))) ?_
  exact ih (i+1) _ (by omega) (by omega) (by simp [hx']) (take_set x l i hx' hil ht)
theorem aer (l:List (List Int)) (hl:l.length≤11728124029610) (hx:∀ x ∈ l,x.length≤35184372088832):Ev (fun k=>iA.f k l) l:=by
 unfold iA.f
 simp only [show (0:Int)≤(l.length:Int) by omega,if_true,Int.toNat_natCast,hl]
 exact aes l hl hx l.length 0 _ (by omega) (by omega) (by simp) (by simp)
theorem aeq (a:Int) (l:List (List Int)) (hl:l.length≤11728124029610) (hx:∀ x ∈ l,x.length≤35184372088832):Ev (fun k=>jd.f k a l) (a,l):=by
 unfold jd.f
 exact Ev.bind (aer l hl hx) (Ev.now _)
theorem aee (l:List (List Int)) (hl:l.length≤maxLen) (hx:∀ x ∈ l,x.length≤maxLen):∀ (d i:Nat) (a:Int),l.length - i=d→i≤l.length→0≤a→a≤1048576→∃ r,Ev (fun k=>iz.l0 k l a i) r∧r≤1048576∧-1≤r∧(0≤r→∀ x ∈ l.drop i,x.length≤1048576):=by
 unfold maxLen at hl hx
 intro d
 induction d with
 | zero =>
  intro i a hd hi h0 h1
  refine ⟨a,Ev.step (fun k=>by simp only [iz.l0];rfl) ?_,h1,by omega,fun _ x hx=>?_⟩
  ·simp only [show ¬ ((i : Int) < (l.length : Int)) by omega, if_false]
   exact Ev.now _
  ·rw [List.drop_of_length_le (by omega)] at hx;simp at hx
 | succ d ih =>
  intro i a hd hi h0 h1
  have hil:i < l.length:=by omega
  have hxl:=hx _ (List.getElem_mem hil)
  have hs:xL.f l[i] a=some (if a - (l[i].length:Int) < 0 then -1 else a - (l[i].length:Int)):=by
   unfold xL.f
   rw [jH (by omega) (by omega)]
   split<;>rfl
  by_cases hn:a - (l[i].length:Int) < 0
  ·rw [if_pos hn] at hs
   refine ⟨-1,Ev.step (fun k=>by simp only [iz.l0];rfl) ?_,by omega,by omega,fun h=>by omega⟩
   simp only [show ((i:Int) < (l.length:Int)) by omega,cD i,if_true,pO l i hil,hs,Option.bind_some]
   exact Ev.now _
  ·rw [if_neg hn] at hs
   obtain ⟨r,hr,h2,h3,h4⟩:=ih (i+1) (a - (l[i].length:Int)) (by omega) (by omega) (by omega) (by omega)
   refine ⟨r,Ev.step (fun k=>by simp only [iz.l0];rfl) ?_,h2,h3,fun h x hx=>?_⟩
   ·simp only [show ((i : Int) < (l.length : Int)) by omega, cD i, if_true, pO l i hil, hs, Option.bind_some, hn, if_false, wI ((i : Int) + 1) (by omega)]
    exact hr
   ·rw [List.drop_eq_getElem_cons hil] at hx
    rcases List.mem_cons.1 hx with rfl|hx
    ·omega
    ·exact h4 h x hx
/-- The sizes that the law lets by. -/
theorem aed (l:List (List Int)) (a:Int) (ha:0≤a) (yq:a≤1048576) (hl:l.length≤maxLen) (hx:∀ x ∈ l,x.length≤maxLen):∃ r,Ev (fun k=>iz.f k l a) r∧r≤1048576∧-1≤r∧(0≤r→l.length≤1048576∧∀ x ∈ l,x.length≤1048576):=by
 have hl':=hl
 unfold maxLen at hl'
 unfold iz.f
 rw [jH (by omega) (by omega)]
 by_cases hn:a - (l.length:Int) < 0
 ·refine ⟨-1, ?_, by omega, by omega, fun h => by omega⟩
  simp only [hn,if_true]
  exact Ev.now _
 ·obtain ⟨r, hr, h2, h3, h4⟩ := aee l hl hx l.length 0 (a - (l.length : Int)) (by omega) (by omega) (by omega) (by omega)
  refine ⟨r,?_,h2,h3,fun h=>⟨by omega,by simpa using h4 h⟩⟩
  simp only [hn,if_false]
  exact hr
theorem aec (s:Int) (l:List (List Int)) (a:Int) (ha:0≤a) (yq:a≤1048576) (hl:l.length≤maxLen) (hx:∀ x ∈ l,x.length≤maxLen):∃ r,Ev (fun k=>oG.f k s l a) r∧r≤1048576∧-1≤r∧(0≤r→l.length≤1048576∧∀ x ∈ l,x.length≤1048576):=by
 obtain ⟨r,hr,h2,h3,h4⟩:=aed l a ha yq hl hx
 unfold oG.f
 by_cases hn:r < 0
 ·refine ⟨-1, Ev.bind hr ?_, by omega, by omega, fun h => by omega⟩
  simp only [hn,if_true]
  exact Ev.now _
 ·refine ⟨r, Ev.bind hr ?_, h2, h3, h4⟩
  simp only [hn,if_false]
  exact Ev.now _
/-- Equal lists are told equal. -/
theorem Yj (l:List Int) (hl:l.length≤maxLen):∀ (d i:Nat),l.length - i=d→i≤l.length→Ev (fun k=>dP.l0 k l l i) true:=by
 unfold maxLen at hl
 intro d
 induction d with
 | zero =>
  intro i hd hi
  refine Ev.step (fun k=>by simp only [dP.l0];rfl) ?_
  simp only [show ¬ ((i:Int) < (l.length:Int)) by omega,if_false]
  exact Ev.now _
 | succ d ih =>
  intro i hd hi
  refine Ev.step (fun k=>by simp only [dP.l0];rfl) ?_
  simp only [show ((i:Int) < (l.length:Int)) by omega,cD i,if_true,wI ((i:Int)+1) (by omega)]
  exact ih (i+1) (by omega) (by omega)
theorem Ix (l:List Int) (hl:l.length≤maxLen):Ev (fun k=>dP.f k l l) true:=by
 unfold dP.f
 simp only [if_true]
 exact Yj l hl l.length 0 (by omega) (by omega)
theorem Yi (l:List (List Int)) (hl:l.length≤maxLen) (hx:∀ x ∈ l,x.length≤maxLen):∀ (d i:Nat),l.length - i=d→i≤l.length→Ev (fun k=>iB.l0 k l l i) true:=by
 unfold maxLen at hl
 intro d
 induction d with
 | zero =>
  intro i hd hi
  refine Ev.step (fun k=>by simp only [iB.l0];rfl) ?_
  simp only [show ¬ ((i:Int) < (l.length:Int)) by omega,if_false]
  exact Ev.now _
 | succ d ih =>
  intro i hd hi
  have hil:i < l.length:=by omega
  refine Ev.step (fun k=>by simp only [iB.l0];rfl) ?_
  simp only [show ((i:Int) < (l.length:Int)) by omega,cD i,if_true,wI ((i:Int)+1) (by omega),pO l i hil]
  refine Ev.bind (Ix l[i] (hx _ (List.getElem_mem hil))) ?_
  simp only [if_true]
  exact ih (i+1) (by omega) (by omega)
theorem Yh (l:List (List Int)) (hl:l.length≤maxLen) (hx:∀ x ∈ l,x.length≤maxLen):Ev (fun k=>iB.f k l l) true:=by
 unfold iB.f
 simp only [if_true]
 exact Yi l hl hx l.length 0 (by omega) (by omega)
theorem Yg (a:Int) (l:List (List Int)) (hl:l.length≤maxLen) (hx:∀ x ∈ l,x.length≤maxLen):Ev (fun k=>mP.f k a l a l) true:=by
 unfold mP.f
 simp only [if_true]
 refine Ev.bind (Yh l hl hx) ?_
 simp only [if_true]
 exact Ev.now _
/-! ### what a graph is -/
def sB (a n:Int):Bool:=decide (0≤n) && decide (n≤wrap64 (a - 1))
def oP (a:Int) (e:List Int):Bool:=decide (e.length=2) && (sB a (rd e 0) && sB a (rd e 1))
def mK (a:Int) (l:List (List Int)):Bool:=decide (1≤a) && (decide (a≤8) && (decide (l.length≤10) && l.all (oP a)))
theorem Lm (a b c:Int):gO.f a b c=some (decide (b≤a) && decide (a≤c)):=by
 unfold gO.f
 by_cases h:b≤a<;>simp [h]
theorem Dl (a b c:Int):gy.f a b c=some (decide (b≤a) && decide (a≤c)):=by
 unfold gy.f
 by_cases h:b≤a<;>simp [h]
theorem abQ (a:Int) (l:List (List Int)) (hl:l.length≤maxLen):∀ (d i:Nat),l.length - i=d→i≤l.length→Ev (fun k=>ie.l0 k l l.length i a l) ((l.drop i).all (oP a) && (decide (1≤a) && (decide (a≤8) && decide (l.length≤10)))):=by
 unfold maxLen at hl
 intro d
 induction d with
 | zero =>
  intro i hd hi
  refine Ev.step (fun k=>by simp only [ie.l0];rfl) ?_
  simp only [show ¬ ((i:Int) < (l.length:Int)) by omega,if_false,Lm,Option.bind_some,List.drop_of_length_le (show l.length≤i by omega),List.all_nil,Bool.true_and]
  by_cases h1:1≤a
  ·by_cases h2 : a ≤ 8
   ·simp only [h1, h2, decide_true, Bool.true_and, if_true]
    exact Ev.congr (fun k=>by congr 1;simp;omega) (Ev.now _)
   ·simp only [h1, h2, decide_true, decide_false, Bool.true_and, Bool.false_and, Bool.false_eq_true, if_false]
    exact Ev.now _
  ·simp only [h1, decide_false, Bool.false_and, Bool.false_eq_true, if_false]
   exact Ev.now _
 | succ d ih =>
  intro i hd hi
  have hil:i < l.length:=by omega
  refine Ev.step (fun k=>by simp only [ie.l0];rfl) ?_
  have Jy:(l.drop i).all (oP a)=(oP a l[i] && (l.drop (i+1)).all (oP a)):=by rw [List.drop_eq_getElem_cons hil,List.all_cons]
  rw [Jy]
  simp only [show ((i:Int) < (l.length:Int)) by omega,cD i,if_true,wI ((i:Int)+1) (by omega),pO l i hil,Lm,Option.bind_some]
  unfold oP sB
  by_cases h2:l[i].length=2
  ·simp only [h2, decide_true, Bool.true_and, show ((2 : Nat) : Int) = 2 from rfl, if_true, show (0 : Int) < 2 by omega, show (1 : Int) < 2 by omega]
   by_cases h3:(decide (0≤rd l[i] 0) && decide (rd l[i] 0≤wrap64 (a - 1)))=true
   ·by_cases h4 : (decide (0 ≤ rd l[i] 1) && decide (rd l[i] 1 ≤ wrap64 (a - 1))) = true
    ·simp only [h3, h4, if_true, Bool.true_and]
     exact ih (i+1) (by omega) (by omega)
    ·simp only [Bool.not_eq_true] at h4
     simp only [h3,h4,if_true,Bool.false_and,Bool.and_false,Bool.false_eq_true,if_false]
     exact Ev.now _
   ·simp only [Bool.not_eq_true] at h3
    simp only [h3,Bool.false_and,Bool.false_eq_true,if_false]
    exact Ev.now _
  ·simp only [show ¬ ((l[i].length : Int) = 2) by omega, h2, decide_false, Bool.false_and, if_false]
   exact Ev.now _
theorem abP (a:Int) (l:List (List Int)) (hl:l.length≤maxLen):Ev (fun k=>ie.f k a l) (mK a l):=by
 unfold ie.f
 have h:=abQ a l hl l.length 0 (by omega) (by omega)
 have e:((l.drop 0).all (oP a) && (decide (1≤a) && (decide (a≤8) && decide (l.length≤10))))=mK a l:=by
  unfold mK
  rw [List.drop_zero]
  cases l.all (oP a)<;>simp
 rw [e] at h
 exact h
theorem ad5 (a:Int) (l:List (List Int)) (hl:l.length≤maxLen):∀ (d i:Nat),l.length - i=d→i≤l.length→Ev (fun k=>ey.l0 k i a l) ((l.drop i).all (oP a)):=by
 unfold maxLen at hl
 intro d
 induction d with
 | zero =>
  intro i hd hi
  refine Ev.step (fun k=>by simp only [ey.l0];rfl) ?_
  simp only [show ¬ ((i:Int) < (l.length:Int)) by omega,if_false,List.drop_of_length_le (show l.length≤i by omega),List.all_nil]
  exact Ev.now _
 | succ d ih =>
  intro i hd hi
  have hil:i < l.length:=by omega
  refine Ev.step (fun k=>by simp only [ey.l0];rfl) ?_
  have Jy:(l.drop i).all (oP a)=(oP a l[i] && (l.drop (i+1)).all (oP a)):=by rw [List.drop_eq_getElem_cons hil,List.all_cons]
  rw [Jy]
  simp only [show ((i:Int) < (l.length:Int)) by omega,cD i,if_true,wI ((i:Int)+1) (by omega),pO l i hil,Dl,Option.bind_some]
  unfold oP sB
  by_cases h2:l[i].length=2
  ·simp only [h2, decide_true, Bool.true_and, show ((2 : Nat) : Int) = 2 from rfl, if_true, show (0 : Int) < 2 by omega, show (1 : Int) < 2 by omega]
   by_cases h3:(decide (0≤rd l[i] 0) && decide (rd l[i] 0≤wrap64 (a - 1)))=true
   ·by_cases h4 : (decide (0 ≤ rd l[i] 1) && decide (rd l[i] 1 ≤ wrap64 (a - 1))) = true
    ·simp only [h3, h4, if_true, Bool.true_and]
     exact ih (i+1) (by omega) (by omega)
    ·simp only [Bool.not_eq_true] at h4
     simp only [h3,h4,if_true,Bool.false_and,Bool.and_false,Bool.false_eq_true,if_false]
     exact Ev.now _
   ·simp only [Bool.not_eq_true] at h3
    simp only [h3,Bool.false_and,Bool.false_eq_true,if_false]
    exact Ev.now _
  ·simp only [show ¬ ((l[i].length : Int) = 2) by omega, h2, decide_false, Bool.false_and, if_false]
   exact Ev.now _
theorem ad4 (a:Int) (l:List (List Int)) (hl:l.length≤maxLen):Ev (fun k=>ey.f k a l) (mK a l):=by
 unfold ey.f mK
 simp only [Dl,Option.bind_some]
 have hj:∀ b,Ev (fun k=>ey.j0 k b a l) (!b && l.all (oP a)):=by
  intro b
  refine Ev.step (fun k=>by simp only [ey.j0];rfl) ?_
  cases b with
  | true=>simp only [if_true,Bool.not_true,Bool.false_and];exact Ev.now _
  | false =>
   simp only [Bool.false_eq_true,if_false,Bool.not_false,Bool.true_and]
   exact ad5 a l hl l.length 0 (by omega) (by omega)
 by_cases h1:1≤a
 ·by_cases h2 : a ≤ 8
  ·simp only [h1, h2, decide_true, Bool.true_and, if_true]
   have h:=hj (decide ((l.length:Int) > 10))
   have e:(!decide ((l.length:Int) > 10))=decide (l.length≤10):=by
    by_cases h:l.length≤10
    ·simp [h];omega
    ·simp [h];omega
   rw [e] at h
   exact h
  ·simp only [h1, h2, decide_true, decide_false, Bool.true_and, Bool.false_and, Bool.false_eq_true, if_false]
   exact hj true
 ·simp only [h1, decide_false, Bool.false_and, Bool.false_eq_true, if_false]
  exact hj true
def ax : Nat → (Nat → Int) → Int
 | 0,_=>0
 | n+1,f=>ax n f+f n
theorem eM {n:Nat} {f g:Nat→Int} (h:∀ i,i < n→f i=g i):ax n f=ax n g:=by
 induction n with
 | zero=>rfl
 | succ n ih=>simp only [ax];rw [ih (fun i hi=>h i (by omega)),h n (by omega)]
theorem oV {n:Nat} {f:Nat→Int} (h:∀ i,i < n→f i=0):ax n f=0:=by
 induction n with
 | zero=>rfl
 | succ n ih=>simp only [ax];rw [ih (fun i hi=>h i (by omega)),h n (by omega)];rfl
theorem uv (n:Nat) (f g:Nat→Int):ax n (fun i=>f i+g i)=ax n f+ax n g:=by
 induction n with
 | zero=>rfl
 | succ n ih=>simp only [ax];rw [ih];omega
theorem ju (n:Nat) (x:Int) (f:Nat→Int):ax n (fun i=>x * f i)=x * ax n f:=by
 induction n with
 | zero=>simp [ax]
 | succ n ih=>simp only [ax];rw [ih,Int.mul_add]
theorem Ds (n:Nat) (f:Nat→Int):ax n (fun i=>- f i)=- ax n f:=by
 induction n with
 | zero=>rfl
 | succ n ih=>simp only [ax];rw [ih];omega
theorem FL (n:Nat) (f g:Nat→Int):ax n (fun i=>f i - g i)=ax n f - ax n g:=by
 induction n with
 | zero=>rfl
 | succ n ih=>simp only [ax];rw [ih];omega
theorem ux {n:Nat} {f:Nat→Int} (k:Nat) (hk:k < n) (h:∀ i,i < n→i ≠ k→f i=0):ax n f=f k:=by
 induction n with
 | zero=>omega
 | succ n ih =>
  simp only [ax]
  by_cases hkn:k=n
  ·subst hkn
   rw [oV (fun i hi=>h i (by omega) (by omega))];omega
  ·rw [ih (by omega) (fun i hi hne=>h i (by omega) hne),h n (by omega) (by omega)];omega
theorem Rt {n:Nat} {f:Nat→Int} (k l:Nat) (hk:k < n) (hl:l < n) (kz:k ≠ l) (h:∀ i,i < n→i ≠ k→i ≠ l→f i=0):ax n f=f k+f l:=by
 have e:ax n f=ax n (fun i=>(if i=k then f k else 0)+(if i=l then f l else 0)):=by
  refine eM (fun i hi=>?_)
  by_cases h1:i=k
  ·subst h1;simp [kz]
  ·by_cases h2 : i = l
   ·subst h2;simp [h1]
   ·simp [h1,h2,h i hi h1 h2]
 rw [e,uv,ux k hk (fun i _ hne=>by simp [hne]),ux l hl (fun i _ hne=>by simp [hne])]
 simp
theorem Kn (n:Nat) (f:Nat→Int):ax (n+1) f=f 0+ax n (fun i=>f (i+1)):=by
 induction n with
 | zero=>simp [ax]
 | succ n ih =>
  rw [show ax (n+1+1) f=ax (n+1) f+f (n+1) from rfl,ih]
  simp only [ax];omega
theorem zf (n m:Nat) (f:Nat→Nat→Int):ax n (fun i=>ax m (fun j=>f i j))=ax m (fun j=>ax n (fun i=>f i j)):=by
 induction n with
 | zero=>simp only [ax];rw [oV (fun _ _=>rfl)]
 | succ n ih=>simp only [ax];rw [ih,uv]
theorem acG (n m:Nat) (f:Nat→Int):ax (n+m) f=ax n f+ax m (fun i=>f (n+i)):=by
 induction m with
 | zero=>simp [ax]
 | succ m ih=>rw [← Nat.add_assoc];simp only [ax];rw [ih];omega
theorem Rs {n m:Nat} {f:Nat→Int} (h:n≤m) (hz:∀ i,n≤i→i < m→f i=0):ax m f=ax n f:=by
 obtain ⟨d,rfl⟩:=Nat.exists_eq_add_of_le h
 rw [acG,oV (n:=d) (fun i hi=>hz _ (by omega) (by omega))];omega
theorem acF (n : Nat) (f : Nat → Nat → Int) :
  ax (n+1) (fun i=>ax n (fun j=>f i j))=ax (n+1) (fun b=>ax b (fun a=>f b a+f a (b-1))):=by
 induction n with
 | zero=>simp [ax]
 | succ n ih =>
  rw [show ax (n+1+1) (fun b=>ax b (fun a=>f b a+f a (b-1)))=ax (n+1) (fun b=>ax b (fun a=>f b a+f a (b-1)))+ax (n+1) (fun a=>f (n+1) a+f a n) from rfl]
  rw [← ih,uv]
  rw [show ax (n+1+1) (fun i=>ax (n+1) (fun j=>f i j))=ax (n+1) (fun i=>ax (n+1) (fun j=>f i j))+ax (n+1) (fun j=>f (n+1) j) from rfl]
  rw [show (fun i=>ax (n+1) (fun j=>f i j))=(fun i=>ax n (fun j=>f i j)+f i n) from rfl,uv]
  have:ax (n+1) (f (n+1))=ax (n+1) (fun j=>f (n+1) j):=rfl
  omega
def aW (i a:Nat):Nat:=if a < i then a else a+1
def jV (i:Nat):Int:=if i % 2=0 then 1 else -1
theorem Rp (i:Nat):jV (i+1)=- jV i:=by
 unfold jV;by_cases h:i % 2=0
 ·rw [if_pos h,if_neg (by omega)]
 ·rw [if_neg h,if_pos (by omega)];rfl
theorem xp {i a n:Nat} (hi:i < n+1) (ha:a < n):aW i a < n+1:=by unfold aW;split<;>omega
def akh : Nat → (Nat → Nat → Int) → Int
 | 0,_=>1
 | n+1,M=>ax (n+1) (fun i=>jV i * M i 0 * akh n (fun a b=>M (aW i a) (b+1)))
theorem nK (n:Nat) (M:Nat→Nat→Int):akh (n+1) M=ax (n+1) (fun i=>jV i * M i 0 * akh n (fun a b=>M (aW i a) (b+1))):=rfl
theorem ja {n:Nat}:∀ {M N:Nat→Nat→Int},(∀ a b,a < n→b < n→M a b=N a b)→akh n M=akh n N:=by
 induction n with
 | zero=>intros;rfl
 | succ n ih =>
  intro M N h
  rw [nK,nK]
  refine eM (fun i hi=>?_)
  rw [h i 0 hi (by omega),ih (fun a b ha hb=>h _ _ (xp hi ha) (by omega))]
def bp (M:Nat→Nat→Int) (i:Nat) (r:Nat→Int):Nat→Nat→Int:=fun a b=>if a=i then r b else M a b
def ck (M:Nat→Nat→Int) (j:Nat) (c:Nat→Int):Nat→Nat→Int:=fun a b=>if b=j then c a else M a b
def nL (i a:Nat):Nat:=if a < i then a else a - 1
theorem Km {i a:Nat} (h:a ≠ i):aW i (nL i a)=a:=by
 unfold aW nL;by_cases h1:a < i
 ·simp [h1]
 ·rw [if_neg h1,if_neg (by omega)];omega
theorem Rq {i a k:Nat} (h:k ≠ i):aW i a=k↔a=nL i k:=by unfold aW nL;split<;>split<;>omega
theorem FM {i k n:Nat} (hi:i < n+1) (hk:k < n+1) (h:k ≠ i):nL i k < n:=by unfold nL;split<;>omega
theorem zc (i a:Nat):aW i a ≠ i:=by unfold aW;split<;>omega
theorem Ki {M:Nat→Nat→Int} {i k:Nat} {r:Nat→Int} (h:k ≠ i):(fun a b=>bp M k r (aW i a) (b+1))=bp (fun a b=>M (aW i a) (b+1)) (nL i k) (fun b=>r (b+1)):=by
 funext a b
 unfold bp
 by_cases e:aW i a=k
 ·rw [if_pos e,if_pos ((Rq h).mp e)]
 ·rw [if_neg e,if_neg (fun h'=>e ((Rq h).mpr h'))]
theorem Kj {M:Nat→Nat→Int} {k:Nat} {r:Nat→Int}:(fun a b=>bp M k r (aW k a) (b+1))=(fun a b=>M (aW k a) (b+1)):=by
 funext a b
 unfold bp
 rw [if_neg (zc k a)]
theorem Dp {n:Nat}:∀ (M:Nat→Nat→Int) (k:Nat),k < n→∀ (x y:Int) (r s:Nat→Int),akh n (bp M k (fun b=>x * r b+y * s b))=x * akh n (bp M k r)+y * akh n (bp M k s):=by
 induction n with
 | zero=>intro M k hk;omega
 | succ n ih =>
  intro M k hk x y r s
  rw [nK,nK,nK,← ju,← ju,← uv]
  refine eM (fun i hi=>?_)
  by_cases e:k=i
  ·subst e
   rw [Kj,Kj,Kj]
   simp only [bp,if_true]
   generalize akh n _=D
   grind
  ·rw [Ki e, Ki e, Ki e, ih _ _ (FM hi hk e)]
   simp only [bp,if_neg (Ne.symm e)]
   generalize akh n _=D
   generalize akh n _=E
   grind
theorem Rk {n:Nat} (M:Nat→Nat→Int) (k:Nat) (hk:k < n) (x:Int) (r:Nat→Int):akh n (bp M k (fun b=>x * r b))=x * akh n (bp M k r):=by
 have:=Dp M k hk x 0 r r
 simpa using this
theorem AJ {n:Nat} (M:Nat→Nat→Int) (k:Nat) (hk:k < n) (r s:Nat→Int):akh n (bp M k (fun b=>r b+s b))=akh n (bp M k r)+akh n (bp M k s):=by
 have:=Dp M k hk 1 1 r s
 simpa using this
theorem zb (M:Nat→Nat→Int) (k:Nat):bp M k (M k)=M:=by
 funext a b;unfold bp;split
 ·case _ h=>rw [h]
 ·rfl
theorem rT (M:Nat→Nat→Int) {k l:Nat} (h:k ≠ l) (r s:Nat→Int):bp (bp M k r) l s=bp (bp M l s) k r:=by
 funext a b;unfold bp;by_cases e:a=l
 ·subst e;simp [Ne.symm h]
 ·simp [e]
theorem acw {n:Nat} (M:Nat→Nat→Int) (k:Nat) (hk:k < n) (h:∀ b,b < n→M k b=0):akh n M=0:=by
 have e:akh n M=akh n (bp M k (fun b=>0 * M k b)):=by
  refine ja (fun a b _ hb=>?_)
  unfold bp;split
  ·case _ h'=>rw [h',h b hb];simp
  ·rfl
 rw [e,Rk _ _ hk];simp
theorem FG {n:Nat}:∀ (M:Nat→Nat→Int) (k:Nat),k+1 < n→(∀ b,b < n→M k b=M (k+1) b)→akh n M=0:=by
 induction n with
 | zero=>intro M k hk;omega
 | succ n ih =>
  intro M k hk h
  rw [nK,Rt k (k+1) (by omega) hk (by omega)]
  ·have e:akh n (fun a b=>M (aW k a) (b+1))=akh n (fun a b=>M (aW (k+1) a) (b+1)):=by
    refine ja (fun a b ha hb=>?_)
    by_cases h1:a=k
    ·subst h1
     have e1:aW a a=a+1:=by unfold aW;split<;>omega
     have e2:aW (a+1) a=a:=by unfold aW;split<;>omega
     rw [e1,e2,h _ (by omega)]
    ·have : aW k a = aW (k+1) a := by unfold aW; split <;> split <;> omega
     rw [this]
   rw [e,Rp,h 0 (by omega)]
   generalize akh n _=D
   grind
  ·intro i hi h1 h2
   have:akh n (fun a b=>M (aW i a) (b+1))=0:=by
    by_cases hik:i < k
    ·refine ih _ (k-1) (by omega) (fun b hb => ?_)
     have e1:aW i (k-1)=k:=by unfold aW;split<;>omega
     have e2:aW i (k-1+1)=k+1:=by unfold aW;split<;>omega
     simp only [e1,e2];exact h _ (by omega)
    ·refine ih _ k (by omega) (fun b hb => ?_)
     have e1:aW i k=k:=by unfold aW;split<;>omega
     have e2:aW i (k+1)=k+1:=by unfold aW;split<;>omega
     simp only [e1,e2];exact h _ (by omega)
   rw [this];simp
theorem ack {n:Nat} (M:Nat→Nat→Int) (k:Nat) (hk:k+1 < n) (r s:Nat→Int):akh n (bp (bp M k r) (k+1) s)=- akh n (bp (bp M k s) (k+1) r):=by
 have h0:akh n (bp (bp M k (fun b=>r b+s b)) (k+1) (fun b=>r b+s b))=0 :=
  FG _ k hk (fun b _=>by simp [bp])
 have hr:akh n (bp (bp M k r) (k+1) r)=0:=FG _ k hk (fun b _=>by simp [bp])
 have hs:akh n (bp (bp M k s) (k+1) s)=0:=FG _ k hk (fun b _=>by simp [bp])
 rw [AJ _ _ hk,rT _ (show k ≠ k+1 by omega),rT _ (show k ≠ k+1 by omega),AJ _ _ (by omega),AJ _ _ (by omega)] at h0
 rw [rT _ (show k+1 ≠ k by omega),rT _ (show k+1 ≠ k by omega),rT _ (show k+1 ≠ k by omega),rT _ (show k+1 ≠ k by omega),hr,hs] at h0
 omega
theorem Rg {n:Nat}:∀ (d:Nat) (M:Nat→Nat→Int) (k:Nat),k+1+d < n→(∀ b,b < n→M k b=M (k+1+d) b)→akh n M=0:=by
 intro d
 induction d with
 | zero=>intro M k hk h;exact FG M k hk h
 | succ d ih =>
  intro M k hk h
  have e:M=bp (bp M (k+1+d) (M (k+1+d))) (k+1+d+1) (M (k+1+d+1)):=by
   rw [zb,zb]
  rw [e,ack _ _ (by omega)]
  rw [ih _ k (by omega) (fun b hb=>?_)]
  ·rfl
  ·simp only [bp]
   rw [if_neg (by omega),if_neg (by omega),if_neg (by omega),if_pos trivial]
   exact h b hb
theorem al0 {n:Nat} (M:Nat→Nat→Int) (k l:Nat) (hk:k < n) (hl:l < n) (kz:k ≠ l) (h:∀ b,b < n→M k b=M l b):akh n M=0:=by
 rcases Nat.lt_or_gt_of_ne kz with h1|h1
 ·obtain ⟨d, rfl⟩ := Nat.exists_eq_add_of_lt h1
  exact Rg d M k (by omega) (fun b hb=>by rw [h b hb];congr 1;omega)
 ·obtain ⟨d, rfl⟩ := Nat.exists_eq_add_of_lt h1
  exact Rg d M l (by omega) (fun b hb=>by rw [← h b hb];congr 1;omega)
theorem acv {n:Nat} (M:Nat→Nat→Int) (k l:Nat) (hk:k < n) (hl:l < n) (kz:k ≠ l) (x:Int):akh n (bp M k (fun b=>M k b+x * M l b))=akh n M:=by
 have h1:=Dp M k hk 1 x (M k) (M l)
 have h2:akh n (bp M k (M l))=0:=al0 _ k l hk hl kz (fun b _=>by simp [bp,Ne.symm kz])
 rw [h2,zb] at h1
 simpa using h1
theorem acy {n:Nat} (M:Nat→Nat→Int) (l:Nat) (hl:l < n) (x:Nat→Int) (hx:x l=0):akh n (fun a b=>M a b+x a * M l b)=akh n M:=by
 have key:∀ m,m≤n→akh n (fun a b=>if a < m then M a b+x a * M l b else M a b)=akh n M:=by
  intro m
  induction m with
  | zero=>intro _;exact ja (fun a b _ _=>by simp)
  | succ m ih =>
   intro hm
   rw [← ih (by omega)]
   by_cases hml:m=l
   ·subst hml
    refine ja (fun a b _ _=>?_)
    by_cases h1:a < m
    ·rw [if_pos h1,if_pos (by omega)]
    ·by_cases h2 : a = m
     ·subst h2;simp [hx]
     ·rw [if_neg h1,if_neg (by omega)]
   ·rw [← acv (fun a b => if a < m then M a b + x a * M l b else M a b) m l (by omega) hl hml (x m)]
    refine ja (fun a b _ _=>?_)
    simp only [bp]
    by_cases h2:a=m
    ·subst h2
     by_cases h3:l < a
     ·simp [h3,hx]
     ·simp [h3]
    ·by_cases h1 : a < m
     ·rw [if_pos (by omega),if_neg h2,if_pos h1]
     ·rw [if_neg (by omega),if_neg h2,if_neg h1]
 rw [← key n (Nat.le_refl n)]
 exact ja (fun a b ha _=>by rw [if_pos ha])
theorem Rl {n:Nat} (M:Nat→Nat→Int) (k l:Nat) (hk:k < n) (hl:l < n) (kz:k ≠ l):akh n (bp (bp M k (M l)) l (M k))=- akh n M:=by
 have h0:akh n (bp (bp M k (fun b=>M k b+M l b)) l (fun b=>M k b+M l b))=0 :=
  al0 _ k l hk hl kz (fun b _=>by simp [bp,kz])
 have hr:akh n (bp (bp M k (M k)) l (M k))=0:=al0 _ k l hk hl kz (fun b _=>by simp [bp,kz])
 have hs:akh n (bp (bp M k (M l)) l (M l))=0:=al0 _ k l hk hl kz (fun b _=>by simp [bp,kz])
 rw [AJ _ _ hl,rT _ kz,rT _ kz,AJ _ _ hk,AJ _ _ hk] at h0
 rw [rT _ (Ne.symm kz),rT _ (Ne.symm kz),rT _ (Ne.symm kz),rT _ (Ne.symm kz),hr,hs,zb,zb] at h0
 omega
theorem Kg {M:Nat→Nat→Int} {i k:Nat} {c:Nat→Int}:(fun a b=>ck M (k+1) c (aW i a) (b+1))=ck (fun a b=>M (aW i a) (b+1)) k (fun a=>c (aW i a)):=by
 funext a b
 unfold ck
 by_cases e:b=k
 ·subst e;simp
 ·simp [e]
theorem Kh {M:Nat→Nat→Int} {i:Nat} {c:Nat→Int}:(fun a b=>ck M 0 c (aW i a) (b+1))=(fun a b=>M (aW i a) (b+1)):=by
 funext a b;unfold ck;simp
theorem Dm {n:Nat}:∀ (M:Nat→Nat→Int) (k:Nat),k < n→∀ (x y:Int) (r s:Nat→Int),akh n (ck M k (fun b=>x * r b+y * s b))=x * akh n (ck M k r)+y * akh n (ck M k s):=by
 induction n with
 | zero=>intro M k hk;omega
 | succ n ih =>
  intro M k hk x y r s
  rw [nK,nK,nK,← ju,← ju,← uv]
  refine eM (fun i hi=>?_)
  cases k with
  | zero =>
   rw [Kh,Kh,Kh]
   simp only [ck,if_true]
   generalize akh n _=D
   grind
  | succ k =>
   rw [Kg,Kg,Kg,ih _ _ (by omega)]
   simp only [ck,if_neg (show ¬ 0=k+1 by omega)]
   generalize akh n _=D
   generalize akh n _=E
   grind
theorem acq {n:Nat} (M:Nat→Nat→Int) (k:Nat) (hk:k < n) (x:Int) (r:Nat→Int):akh n (ck M k (fun b=>x * r b))=x * akh n (ck M k r):=by
 have:=Dm M k hk x 0 r r
 simpa using this
theorem Ka {n:Nat} (M:Nat→Nat→Int) (k:Nat) (hk:k < n) (r s:Nat→Int):akh n (ck M k (fun b=>r b+s b))=akh n (ck M k r)+akh n (ck M k s):=by
 have:=Dm M k hk 1 1 r s
 simpa using this
theorem Dq (M:Nat→Nat→Int) (k:Nat):ck M k (fun a=>M a k)=M:=by
 funext a b;unfold ck;split
 ·case _ h=>rw [h]
 ·rfl
theorem AK (M:Nat→Nat→Int) {k l:Nat} (h:k ≠ l) (r s:Nat→Int):ck (ck M k r) l s=ck (ck M l s) k r:=by
 funext a b;unfold ck;by_cases e:b=l
 ·subst e;simp [Ne.symm h]
 ·simp [e]
theorem Kb {n:Nat} (M:Nat→Nat→Int) (k:Nat) (hk:k < n) (h:∀ a,a < n→M a k=0):akh n M=0:=by
 have e:akh n M=akh n (ck M k (fun a=>0 * M a k)):=by
  refine ja (fun a b ha _=>?_)
  unfold ck;split
  ·case _ h'=>rw [h',h a ha];simp
  ·rfl
 rw [e,acq _ _ hk];simp
theorem FH {n:Nat}:∀ (M:Nat→Nat→Int) (k:Nat),k+1 < n→(∀ a,a < n→M a k=M a (k+1))→akh n M=0:=by
 induction n with
 | zero=>intro M k hk;omega
 | succ n ih =>
  intro M k hk h
  cases k with
  | succ k =>
   rw [nK]
   refine oV (fun i hi=>?_)
   rw [ih _ k (by omega) (fun a ha=>h _ (xp hi ha))];simp
  | zero =>
   obtain ⟨m,rfl⟩:∃ m,n=m+1:=⟨n - 1,by omega⟩
   rw [nK]
   have e:ax (m+1+1) (fun i=>jV i * M i 0 * akh (m+1) (fun a b=>M (aW i a) (b+1)))=ax (m+1+1) (fun i=>ax (m+1) (fun j=>jV i * jV j * M i 0 * M (aW i j) 0 * akh m (fun a b=>M (aW i (aW j a)) (b+1+1)))):=by
    refine eM (fun i hi=>?_)
    rw [nK,← ju]
    refine eM (fun j hj=>?_)
    rw [h (aW i j) (xp hi hj)]
    generalize akh m _=D
    grind
   rw [e,acF]
   refine oV (fun b hb=>oV (fun a ha=>?_))
   have e1:aW b a=a:=by unfold aW;split<;>omega
   have e2:aW a (b-1)=b:=by unfold aW;split<;>omega
   have e3:∀ c,aW b (aW a c)=aW a (aW (b-1) c):=by intro c;unfold aW;(repeat' split)<;>omega
   have e4:jV b=- jV (b-1):=by rw [← Rp];congr 1;omega
   simp only [e1,e2,e3,e4]
   generalize akh m _=D
   grind
theorem aco {n:Nat} (M:Nat→Nat→Int) (k:Nat) (hk:k+1 < n) (r s:Nat→Int):akh n (ck (ck M k r) (k+1) s)=- akh n (ck (ck M k s) (k+1) r):=by
 have h0:akh n (ck (ck M k (fun b=>r b+s b)) (k+1) (fun b=>r b+s b))=0 :=
  FH _ k hk (fun b _=>by simp [ck])
 have hr:akh n (ck (ck M k r) (k+1) r)=0:=FH _ k hk (fun b _=>by simp [ck])
 have hs:akh n (ck (ck M k s) (k+1) s)=0:=FH _ k hk (fun b _=>by simp [ck])
 rw [Ka _ _ hk,AK _ (show k ≠ k+1 by omega),AK _ (show k ≠ k+1 by omega),Ka _ _ (by omega),Ka _ _ (by omega)] at h0
 rw [AK _ (show k+1 ≠ k by omega),AK _ (show k+1 ≠ k by omega),AK _ (show k+1 ≠ k by omega),AK _ (show k+1 ≠ k by omega),hr,hs] at h0
 omega
theorem Ri {n:Nat}:∀ (d:Nat) (M:Nat→Nat→Int) (k:Nat),k+1+d < n→(∀ b,b < n→M b k=M b (k+1+d))→akh n M=0:=by
 intro d
 induction d with
 | zero=>intro M k hk h;exact FH M k hk h
 | succ d ih =>
  intro M k hk h
  have e:M=ck (ck M (k+1+d) (fun a=>M a (k+1+d))) (k+1+d+1) (fun a=>M a (k+1+d+1)):=by
   rw [Dq,Dq]
  rw [e,aco _ _ (by omega)]
  rw [ih _ k (by omega) (fun b hb=>?_)]
  ·rfl
  ·simp only [ck]
   rw [if_neg (by omega),if_neg (by omega),if_neg (by omega),if_pos trivial]
   exact h b hb
theorem amR {n:Nat} (M:Nat→Nat→Int) (k l:Nat) (hk:k < n) (hl:l < n) (kz:k ≠ l) (h:∀ b,b < n→M b k=M b l):akh n M=0:=by
 rcases Nat.lt_or_gt_of_ne kz with h1|h1
 ·obtain ⟨d, rfl⟩ := Nat.exists_eq_add_of_lt h1
  exact Ri d M k (by omega) (fun b hb=>by rw [h b hb];congr 1;omega)
 ·obtain ⟨d, rfl⟩ := Nat.exists_eq_add_of_lt h1
  exact Ri d M l (by omega) (fun b hb=>by rw [← h b hb];congr 1;omega)
theorem acn {n:Nat} (M:Nat→Nat→Int) (k l:Nat) (hk:k < n) (hl:l < n) (kz:k ≠ l) (x:Int):akh n (ck M k (fun a=>M a k+x * M a l))=akh n M:=by
 have h1:=Dm M k hk 1 x (fun a=>M a k) (fun a=>M a l)
 have h2:akh n (ck M k (fun a=>M a l))=0:=amR _ k l hk hl kz (fun b _=>by simp [ck,Ne.symm kz])
 rw [h2,Dq] at h1
 simpa using h1
theorem acr {n:Nat} (M:Nat→Nat→Int) (l:Nat) (hl:l < n) (x:Nat→Int) (hx:x l=0):akh n (fun a b=>M a b+x b * M a l)=akh n M:=by
 have key:∀ m,m≤n→akh n (fun a b=>if b < m then M a b+x b * M a l else M a b)=akh n M:=by
  intro m
  induction m with
  | zero=>intro _;exact ja (fun a b _ _=>by simp)
  | succ m ih =>
   intro hm
   rw [← ih (by omega)]
   by_cases hml:m=l
   ·subst hml
    refine ja (fun a b _ _=>?_)
    by_cases h1:b < m
    ·rw [if_pos h1,if_pos (by omega)]
    ·by_cases h2 : b = m
     ·subst h2;simp [hx]
     ·rw [if_neg h1,if_neg (by omega)]
   ·rw [← acn (fun a b => if b < m then M a b + x b * M a l else M a b) m l (by omega) hl hml (x m)]
    refine ja (fun a b _ _=>?_)
    simp only [ck]
    by_cases h2:b=m
    ·subst h2
     by_cases h3:l < b
     ·simp [h3,hx]
     ·simp [h3]
    ·by_cases h1 : b < m
     ·rw [if_pos (by omega),if_neg h2,if_pos h1]
     ·rw [if_neg (by omega),if_neg h2,if_neg h1]
 rw [← key n (Nat.le_refl n)]
 exact ja (fun a b _ hb=>by rw [if_pos hb])
theorem Dn {n:Nat}:∀ (M:Nat→Nat→Int),(∀ b,b < n→M n b=0)→akh (n+1) M=M n n * akh n M:=by
 induction n with
 | zero=>intro M _;simp [akh,ax,jV]
 | succ n ih =>
  intro M h
  rw [nK (n+1)]
  rw [show ax (n+1+1) (fun i=>jV i * M i 0 * akh (n+1) (fun a b=>M (aW i a) (b+1)))=ax (n+1) (fun i=>jV i * M i 0 * akh (n+1) (fun a b=>M (aW i a) (b+1)))+jV (n+1) * M (n+1) 0 * akh (n+1) (fun a b=>M (aW (n+1) a) (b+1)) from rfl]
  rw [h 0 (by omega)]
  simp only [Int.mul_zero,Int.zero_mul,Int.add_zero]
  rw [nK n M,← ju]
  refine eM (fun i hi=>?_)
  have e:aW i n=n+1:=by unfold aW;split<;>omega
  rw [ih _ (fun b hb=>by rw [e];exact h _ (by omega))]
  rw [e]
  generalize akh n _=D
  grind
theorem acs {n:Nat}:∀ (M:Nat→Nat→Int),(∀ a,a < n→M a n=0)→akh (n+1) M=M n n * akh n M:=by
 induction n with
 | zero=>intro M _;simp [akh,ax,jV]
 | succ n ih =>
  intro M h
  rw [nK (n+1)]
  rw [show ax (n+1+1) (fun i=>jV i * M i 0 * akh (n+1) (fun a b=>M (aW i a) (b+1)))=ax (n+1) (fun i=>jV i * M i 0 * akh (n+1) (fun a b=>M (aW i a) (b+1)))+jV (n+1) * M (n+1) 0 * akh (n+1) (fun a b=>M (aW (n+1) a) (b+1)) from rfl]
  have z:akh (n+1) (fun a b=>M (aW (n+1) a) (b+1))=0:=by
   refine Kb _ n (by omega) (fun a ha=>?_)
   have e:aW (n+1) a=a:=by unfold aW;split<;>omega
   rw [e];exact h _ (by omega)
  rw [z]
  simp only [Int.mul_zero,Int.add_zero]
  rw [nK n M,← ju]
  refine eM (fun i hi=>?_)
  have e:aW i n=n+1:=by unfold aW;split<;>omega
  rw [ih _ (fun a ha=>by exact h _ (xp hi (by omega)))]
  rw [e]
  generalize akh n _=D
  grind
def cK (j b:Nat):Int:=if b=j then 1 else 0
theorem FJ (j:Nat):cK j j=1:=by simp [cK]
theorem za {j b:Nat} (h:b ≠ j):cK j b=0:=by simp [cK,h]
theorem Dr {n:Nat} (x:Nat→Int) (b:Nat) (hb:b < n):ax n (fun j=>x j * cK j b)=x b:=by
 rw [ux b hb (fun i _ hne=>by rw [za (Ne.symm hne)];simp),FJ];simp
theorem Ke {n : Nat} (M : Nat → Nat → Int) (i : Nat) (hi : i < n) (m : Nat) (x : Nat → Int) (r : Nat → Nat → Int) :
  akh n (bp M i (fun b=>ax m (fun j=>x j * r j b)))=ax m (fun j=>x j * akh n (bp M i (r j))):=by
 induction m with
 | zero=>exact acw _ i hi (fun b _=>by simp [bp,ax])
 | succ m ih =>
  simp only [ax]
  have:=Dp M i hi 1 (x m) (fun b=>ax m (fun j=>x j * r j b)) (r m)
  simp only [Int.one_mul] at this
  rw [this,ih]
theorem FI {n : Nat} (M : Nat → Nat → Int) (i : Nat) (hi : i < n) (m : Nat) (x : Nat → Int) (r : Nat → Nat → Int) :
  akh n (ck M i (fun b=>ax m (fun j=>x j * r j b)))=ax m (fun j=>x j * akh n (ck M i (r j))):=by
 induction m with
 | zero=>exact Kb _ i hi (fun b _=>by simp [ck,ax])
 | succ m ih =>
  simp only [ax]
  have:=Dm M i hi 1 (x m) (fun b=>ax m (fun j=>x j * r j b)) (r m)
  simp only [Int.one_mul] at this
  rw [this,ih]
def akI (n:Nat) (M:Nat→Nat→Int) (j i:Nat):Int:=akh n (bp M i (cK j))
theorem J_ {n:Nat} (M:Nat→Nat→Int) (k i:Nat) (hi:i < n) (hk:k < n):ax n (fun j=>M k j * akI n M j i)=if k=i then akh n M else 0:=by
 unfold akI
 rw [← Ke M i hi n (M k) (fun j=>cK j)]
 have e:akh n (bp M i (fun b=>ax n (fun j=>M k j * cK j b)))=akh n (bp M i (M k)):=by
  refine ja (fun a b _ hb=>?_)
  unfold bp;split
  ·exact Dr (M k) b hb
  ·rfl
 rw [e]
 by_cases h:k=i
 ·subst h;rw [zb,if_pos rfl]
 ·rw [if_neg h]
  exact al0 _ i k hi hk (Ne.symm h) (fun b _=>by simp [bp,h])
theorem Re {n:Nat} (M:Nat→Nat→Int) (i j:Nat) (hi:i < n) (hj:j < n):akI n M j i=akh n (ck M j (cK i)):=by
 unfold akI
 have e1:akh n (bp M i (cK j))=akh n (bp (ck M j (cK i)) i (cK j)):=by
  rw [← acy (bp M i (cK j)) i hi (fun a=>if a=i then 0 else - M a j) (by simp)]
  refine ja (fun a b ha hb=>?_)
  unfold bp ck
  by_cases h1:a=i
  ·subst h1;simp
  ·by_cases h2 : b = j
   ·subst h2; simp [h1, cK]
    omega
   ·simp [h1,h2,cK]
 have e2:akh n (ck M j (cK i))=akh n (bp (ck M j (cK i)) i (cK j)):=by
  rw [← acr (ck M j (cK i)) j hj (fun b=>if b=j then 0 else - M i b) (by simp)]
  refine ja (fun a b ha hb=>?_)
  unfold bp ck
  by_cases h1:b=j
  ·subst h1; by_cases h2 : a = i
   ·subst h2;simp [cK]
   ·simp [h2]
  ·by_cases h2 : a = i
   ·subst h2; simp [h1, cK]
    omega
   ·simp [h1,h2,cK]
 rw [e1,e2]
theorem ach {n:Nat} (M:Nat→Nat→Int) (j l:Nat) (hj:j < n) (hl:l < n):ax n (fun i=>akI n M j i * M i l)=if j=l then akh n M else 0:=by
 have e0:ax n (fun i=>akI n M j i * M i l)=ax n (fun i=>M i l * akh n (ck M j (cK i))) :=
  eM (fun i hi=>by rw [Re M i j hi hj,Int.mul_comm])
 rw [e0,← FI M j hj n (fun i=>M i l) (fun i=>cK i)]
 have e:akh n (ck M j (fun b=>ax n (fun i=>M i l * cK i b)))=akh n (ck M j (fun b=>M b l)):=by
  refine ja (fun a b ha _=>?_)
  unfold ck;split
  ·exact Dr (fun i=>M i l) a ha
  ·rfl
 rw [e]
 by_cases h:j=l
 ·subst h;rw [Dq,if_pos rfl]
 ·rw [if_neg h]
  exact amR _ j l hj hl h (fun b _=>by simp [ck,Ne.symm h])
theorem Rh (r : Nat) (K : Nat → Nat → Int) :
  akh (r+1) K=K r r * akh r K - ax r (fun j=>ax r (fun i=>K r j * akI r K j i * K i r)):=by
 have hrow:akh (r+1) K=ax (r+1) (fun j=>K r j * akh (r+1) (bp K r (cK j))):=by
  rw [← Ke K r (by omega) (r+1) (K r) (fun j=>cK j)]
  refine ja (fun a b _ hb=>?_)
  unfold bp;split
  ·case _ h=>exact (by rw [h]:K a b=K r b).trans (Dr (K r) b hb).symm
  ·rfl
 rw [hrow]
 rw [show ax (r+1) (fun j=>K r j * akh (r+1) (bp K r (cK j)))=ax r (fun j=>K r j * akh (r+1) (bp K r (cK j)))+K r r * akh (r+1) (bp K r (cK r)) from rfl]
 have aa8:akh (r+1) (bp K r (cK r))=akh r K:=by
  rw [Dn _ (fun b hb=>by simp [bp,cK];omega)]
  have:bp K r (cK r) r r=1:=by simp [bp,cK]
  rw [this,Int.one_mul]
  exact ja (fun a b ha _=>by unfold bp;rw [if_neg (by omega)])
 have hj:∀ j,j < r→akh (r+1) (bp K r (cK j))=- ax r (fun i=>akI r K j i * K i r):=by
  intro j hj
  have Z6:akh (r+1) (bp K r (cK j))=ax r (fun i=>K i r * akh (r+1) (ck (bp K r (cK j)) r (cK i))):=by
   rw [← FI (bp K r (cK j)) r (by omega) r (fun i=>K i r) (fun i=>cK i)]
   refine ja (fun a b ha _=>?_)
   unfold ck;split
   ·case _ h =>
    subst h
    by_cases h2:a=b
    ·subst h2
     refine Eq.trans ?_ (oV (f:=fun i=>K i a * cK i a) (fun i hi=>by rw [za (show a ≠ i by omega)];simp)).symm
     simp [bp,cK];omega
    ·refine Eq.trans ?_ (Dr (fun i => K i b) a (by omega)).symm
     simp [bp,h2]
   ·rfl
  rw [Z6,← Ds]
  refine eM (fun i hi=>?_)
  have hs:=Rl (ck (bp K r (cK j)) r (cK i)) i r (n:=r+1) (by omega) (by omega) (by omega)
  have hx:akh (r+1) (bp (bp (ck (bp K r (cK j)) r (cK i)) i (ck (bp K r (cK j)) r (cK i) r)) r (ck (bp K r (cK j)) r (cK i) i))=akI r K j i:=by
   rw [acs]
   ·unfold akI
    have:bp (bp (ck (bp K r (cK j)) r (cK i)) i (ck (bp K r (cK j)) r (cK i) r)) r (ck (bp K r (cK j)) r (cK i) i) r r=1:=by
     simp [bp,ck,cK]
    rw [this,Int.one_mul]
    refine ja (fun a b ha hb=>?_)
    unfold bp ck
    have h1:a ≠ r:=by omega
    have h2:b ≠ r:=by omega
    by_cases h3:a=i
    ·subst h3;simp [h1,h2]
    ·simp [h1,h2,h3]
   ·intro a ha
    have h1:a ≠ r:=by omega
    unfold bp ck
    by_cases h3:a=i
    ·subst h3;simp [h1,cK];omega
    ·simp [h1,h3,cK]
  rw [hx] at hs
  have:akh (r+1) (ck (bp K r (cK j)) r (cK i))=- akI r K j i:=by omega
  rw [this];grind
 rw [aa8]
 have e2:ax r (fun j=>K r j * akh (r+1) (bp K r (cK j)))=- ax r (fun j=>ax r (fun i=>K r j * akI r K j i * K i r)):=by
  rw [← Ds]
  refine eM (fun j hjr=>?_)
  rw [hj j hjr,Int.mul_neg,← ju]
  congr 1
  exact eM (fun i _=>by grind)
 rw [e2];omega
def kU (n:Nat) (c:Nat→Int) (u:Int):Int:=ax (n+1) (fun k=>c k * u ^ k)
def uy (c : Nat → Int) : Nat → Int
 | 0=>0
 | k+1=>c k
theorem acB (n:Nat) (c:Nat→Int) (u:Int):kU (n+1) c u=c 0+u * kU n (fun k=>c (k+1)) u:=by
 unfold kU
 rw [Kn,← ju]
 congr 1
 ·simp
 ·exact eM (fun i _=>by rw [Int.pow_succ];grind)
theorem acE (n:Nat) (c:Nat→Int) (u:Int):kU (n+1) (uy c) u=u * kU n c u:=by
 rw [acB];show 0+u * kU n c u=_;omega
theorem acC {n m:Nat} (c:Nat→Int) (u:Int) (h:n≤m) (hz:∀ k,n < k→c k=0):kU m c u=kU n c u:=by
 unfold kU
 exact Rs (by omega) (fun i hi _=>by rw [hz i (by omega)];simp)
theorem Ro (n:Nat) (c d:Nat→Int) (u:Int):kU n (fun k=>c k+d k) u=kU n c u+kU n d u:=by
 unfold kU;rw [← uv];exact eM (fun i _=>by grind)
theorem Kl (n:Nat) (x:Int) (c:Nat→Int) (u:Int):kU n (fun k=>x * c k) u=x * kU n c u:=by
 unfold kU;rw [← ju];exact eM (fun i _=>by grind)
theorem acD (n m:Nat) (x:Nat→Int) (c:Nat→Nat→Int) (u:Int):kU n (fun k=>ax m (fun i=>x i * c i k)) u=ax m (fun i=>x i * kU n (c i) u):=by
 induction m with
 | zero=>simp only [ax];unfold kU;exact oV (fun _ _=>by simp)
 | succ m ih=>simp only [ax];rw [Ro,ih,Kl]
def lX : Nat → (Nat → Nat → Int) → (Nat → Nat → Int) → Nat → Int
 | 0,_,_=>fun k=>if k=0 then 1 else 0
 | n+1,P,Q=>fun k=>ax (n+1) (fun i=>jV i * (P i 0 * lX n (fun a b=>P (aW i a) (b+1)) (fun a b=>Q (aW i a) (b+1)) k+Q i 0 * uy (lX n (fun a b=>P (aW i a) (b+1)) (fun a b=>Q (aW i a) (b+1))) k))
theorem acj (n:Nat) (P Q:Nat→Nat→Int) (k:Nat):lX (n+1) P Q k=ax (n+1) (fun i=>jV i * (P i 0 * lX n (fun a b=>P (aW i a) (b+1)) (fun a b=>Q (aW i a) (b+1)) k+Q i 0 * uy (lX n (fun a b=>P (aW i a) (b+1)) (fun a b=>Q (aW i a) (b+1))) k)):=rfl
theorem Rf {n:Nat}:∀ (P Q:Nat→Nat→Int) (k:Nat),n < k→lX n P Q k=0:=by
 induction n with
 | zero=>intro P Q k hk;simp [lX];omega
 | succ n ih =>
  intro P Q k hk
  rw [acj]
  refine oV (fun i hi=>?_)
  rw [ih _ _ k (by omega)]
  obtain ⟨l,rfl⟩:∃ l,k=l+1:=⟨k - 1,by omega⟩
  show jV i * (P i 0 * 0+Q i 0 * lX n _ _ l)=0
  rw [ih _ _ l (by omega)];simp
theorem acu {n:Nat}:∀ (P Q:Nat→Nat→Int) (u:Int),akh n (fun a b=>P a b+u * Q a b)=kU n (lX n P Q) u:=by
 induction n with
 | zero=>intro P Q u;simp [akh,kU,ax,lX]
 | succ n ih =>
  intro P Q u
  rw [nK]
  have e:kU (n+1) (lX (n+1) P Q) u=ax (n+1) (fun i=>jV i * kU (n+1) (fun k=>P i 0 * lX n (fun a b=>P (aW i a) (b+1)) (fun a b=>Q (aW i a) (b+1)) k+Q i 0 * uy (lX n (fun a b=>P (aW i a) (b+1)) (fun a b=>Q (aW i a) (b+1))) k) u):=by
   rw [← acD];rfl
  rw [e]
  refine eM (fun i hi=>?_)
  rw [ih,Ro,Kl,Kl,acE,acC _ _ (Nat.le_succ n) (fun k hk=>Rf _ _ k hk)]
  grind
def d_ : Nat → (Nat → Int) → Int
 | 0,_=>1
 | n+1,f=>d_ n f * f n
theorem Rn {n:Nat} {f g:Nat→Int} (h:∀ i,i < n→f i=g i):d_ n f=d_ n g:=by
 induction n with
 | zero=>rfl
 | succ n ih=>simp only [d_];rw [ih (fun i hi=>h i (by omega)),h n (by omega)]
theorem Kk {n:Nat} {f:Nat→Int} (h:∀ i,i < n→0≤f i):0≤d_ n f:=by
 induction n with
 | zero=>simp [d_]
 | succ n ih=>simp only [d_];exact Int.mul_nonneg (ih (fun i hi=>h i (by omega))) (h n (by omega))
theorem amw {n:Nat} {f g:Nat→Int} (h0:∀ i,i < n→0≤f i) (h:∀ i,i < n→f i≤g i):d_ n f≤d_ n g:=by
 induction n with
 | zero=>simp [d_]
 | succ n ih =>
  simp only [d_]
  exact Int.mul_le_mul (ih (fun i hi=>h0 i (by omega)) (fun i hi=>h i (by omega))) (h n (by omega)) (h0 n (by omega)) (Kk (fun i hi=>Int.le_trans (h0 i (by omega)) (h i (by omega))))
theorem uw {n:Nat} {f g:Nat→Int} (h:∀ i,i < n→f i≤g i):ax n f≤ax n g:=by
 induction n with
 | zero=>simp [ax]
 | succ n ih=>simp only [ax];have:=ih (fun i hi=>h i (by omega));have:=h n (by omega);omega
theorem oU {n:Nat} {f:Nat→Int} (h:∀ i,i < n→0≤f i):0≤ax n f:=by
 have:=uw (f:=fun _=>0) h
 rwa [oV (fun _ _=>rfl)] at this
theorem acH {n : Nat} (w R : Nat → Int) (hw : ∀ i, i < n → 0 ≤ w i) (hR : ∀ i, i < n → 0 ≤ R i) :
  ax n (fun i=>w i * d_ (n-1) (fun a=>R (aW i a)))≤d_ n (fun a=>w a+R a):=by
 induction n with
 | zero=>simp [ax,d_]
 | succ n ih =>
  have ih:=ih (fun i hi=>hw i (by omega)) (fun i hi=>hR i (by omega))
  show ax n (fun i=>w i * d_ (n+1-1) (fun a=>R (aW i a)))+w n * d_ (n+1-1) (fun a=>R (aW n a))≤d_ n (fun a=>w a+R a) * (w n+R n)
  have e1:ax n (fun i=>w i * d_ (n+1-1) (fun a=>R (aW i a)))=R n * ax n (fun i=>w i * d_ (n-1) (fun a=>R (aW i a))):=by
   rw [← ju]
   refine eM (fun i hi=>?_)
   obtain ⟨m,rfl⟩:∃ m,n=m+1:=⟨n - 1,by omega⟩
   show w i * (d_ m _ * R (aW i m))=_
   have:aW i m=m+1:=by unfold aW;split<;>omega
   rw [this]
   show _=R (m+1) * (w i * d_ m _)
   grind
  have e2:d_ (n+1-1) (fun a=>R (aW n a))=d_ n R:=Rn (fun a ha=>by
   have:aW n a=a:=by unfold aW;split<;>omega
   rw [this])
  rw [e1,e2]
  have h1:R n * ax n (fun i=>w i * d_ (n-1) (fun a=>R (aW i a)))≤R n * d_ n (fun a=>w a+R a):=Int.mul_le_mul_of_nonneg_left ih (hR n (by omega))
  have h2:w n * d_ n R≤w n * d_ n (fun a=>w a+R a):=Int.mul_le_mul_of_nonneg_left (amw (fun i hi=>hR i (by omega)) (fun i hi=>by have:=hw i (by omega);omega)) (hw n (by omega))
  have h3:d_ n (fun a=>w a+R a) * (w n+R n)=w n * d_ n (fun a=>w a+R a)+R n * d_ n (fun a=>w a+R a):=by grind
  omega
def akm (x:Int):Int:=(x.natAbs:Int)
theorem iO (x:Int):0≤akm x:=by unfold akm;omega
theorem als (x y:Int):akm (x * y)=akm x * akm y:=by unfold akm;rw [Int.natAbs_mul];simp
theorem Rb (x y:Int):akm (x+y)≤akm x+akm y:=by unfold akm;omega
theorem Rc (i:Nat):akm (jV i)=1:=by unfold jV;split<;>rfl
theorem Rd:akm 0=0:=rfl
theorem FF (n:Nat) (f:Nat→Int):akm (ax n f)≤ax n (fun i=>akm (f i)):=by
 induction n with
 | zero=>simp [ax,akm]
 | succ n ih=>simp only [ax];have:=Rb (ax n f) (f n);omega
theorem aci {n:Nat}:∀ (P Q:Nat→Nat→Int),ax (n+1) (fun k=>akm (lX n P Q k))≤d_ n (fun a=>ax n (fun b=>akm (P a b)+akm (Q a b))):=by
 induction n with
 | zero=>intro P Q;simp [ax,d_,lX,akm]
 | succ n ih =>
  intro P Q
  have key:∀ i,i < n+1→ax (n+1+1) (fun k=>akm (jV i * (P i 0 * lX n (fun a b=>P (aW i a) (b+1)) (fun a b=>Q (aW i a) (b+1)) k+Q i 0 * uy (lX n (fun a b=>P (aW i a) (b+1)) (fun a b=>Q (aW i a) (b+1))) k)))≤(akm (P i 0)+akm (Q i 0)) * d_ n (fun a=>ax n (fun b=>akm (P (aW i a) (b+1))+akm (Q (aW i a) (b+1)))):=by
   intro i hi
   have JN:=ih (fun a b=>P (aW i a) (b+1)) (fun a b=>Q (aW i a) (b+1))
   have htop:=Rf (n:=n) (fun a b=>P (aW i a) (b+1)) (fun a b=>Q (aW i a) (b+1))
   generalize lX n (fun a b=>P (aW i a) (b+1)) (fun a b=>Q (aW i a) (b+1))=d at JN htop ⊢
   have h1:ax (n+1+1) (fun k=>akm (d k))=ax (n+1) (fun k=>akm (d k)):=Rs (by omega) (fun k hk _=>by rw [htop k (by omega)];rfl)
   have h2:ax (n+1+1) (fun k=>akm (uy d k))=ax (n+1) (fun k=>akm (d k)):=by
    rw [Kn];simp [uy,Rd]
   have h3:ax (n+1+1) (fun k=>akm (jV i * (P i 0 * d k+Q i 0 * uy d k)))≤ax (n+1+1) (fun k=>akm (P i 0) * akm (d k)+akm (Q i 0) * akm (uy d k)):=by
    refine uw (fun k _=>?_)
    rw [als,Rc,Int.one_mul,← als,← als]
    exact Rb _ _
   rw [uv,ju,ju,h1,h2] at h3
   have h4:=Int.mul_le_mul_of_nonneg_left JN (iO (P i 0))
   have h5:=Int.mul_le_mul_of_nonneg_left JN (iO (Q i 0))
   have h6:=Int.add_mul (akm (P i 0)) (akm (Q i 0)) (d_ n (fun a=>ax n (fun b=>akm (P (aW i a) (b+1))+akm (Q (aW i a) (b+1)))))
   omega
  have h1:ax (n+1+1) (fun k=>akm (lX (n+1) P Q k))≤ax (n+1+1) (fun k=>ax (n+1) (fun i=>akm (jV i * (P i 0 * lX n (fun a b=>P (aW i a) (b+1)) (fun a b=>Q (aW i a) (b+1)) k+Q i 0 * uy (lX n (fun a b=>P (aW i a) (b+1)) (fun a b=>Q (aW i a) (b+1))) k)))) :=
   uw (fun k _=>FF _ _)
  rw [zf] at h1
  refine Int.le_trans h1 (Int.le_trans (uw key) ?_)
  have h2:=acH (n:=n+1) (fun i=>akm (P i 0)+akm (Q i 0)) (fun a=>ax n (fun b=>akm (P a (b+1))+akm (Q a (b+1)))) (fun i _=>by have:=iO (P i 0);have:=iO (Q i 0);omega) (fun i _=>oU (fun b _=>by have:=iO (P i (b+1));have:=iO (Q i (b+1));omega))
  refine Int.le_trans h2 (Int.le_of_eq (Rn (fun a _=>?_)))
  rw [Kn]
theorem J' {n:Nat} (f:Nat→Int) (k:Nat) (hk:k < n):akm (f k)≤ax n (fun i=>akm (f i)):=by
 have h:=uw (n:=n) (f:=fun i=>if i=k then akm (f k) else 0) (g:=fun i=>akm (f i)) (fun i _=>by
  by_cases e:i=k
  ·simp [e]
  ·simp [e,iO])
 rw [ux k hk (fun i _ hne=>by simp [hne])] at h
 simpa using h
theorem ze (n i:Nat) (hi:i < n+1) (f:Nat→Int):ax (n+1) f=f i+ax n (fun t=>f (aW i t)):=by
 induction n with
 | zero =>
      obtain rfl:i=0:=by omega
      simp [ax]
 | succ n ih =>
  by_cases h:i=n+1
  ·subst h
   have:ax (n+1) (fun t=>f (aW (n+1) t))=ax (n+1) f:=eM (fun t ht=>by
    have:aW (n+1) t=t:=by unfold aW;split<;>omega
    rw [this])
   rw [this];show ax (n+1) f+f (n+1)=_;omega
  ·show ax (n+1) f + f (n+1) = f i + (ax n (fun t => f (aW i t)) + f (aW i n))
   rw [ih (by omega)]
   have:aW i n=n+1:=by unfold aW;split<;>omega
   rw [this];omega
theorem acJ (i t:Nat):nL i (aW i t)=t:=by
 unfold nL aW;by_cases h1:t < i
 ·simp [h1]
 ·rw [if_neg h1,if_neg (by omega)];omega
theorem acp {n : Nat} (M : Nat → Nat → Int) (c : Nat) (hc : c < n) (x : Int) (m : Nat) (hm : m ≤ c) (y : Nat → Int) :
  akh n (ck M c (fun a=>x * M a c+ax m (fun j=>y j * M a j)))=x * akh n M:=by
 have h:=Dm M c hc x 1 (fun a=>M a c) (fun a=>ax m (fun j=>y j * M a j))
 simp only [Int.one_mul] at h
 rw [h,FI M c hc m y (fun j a=>M a j),Dq]
 rw [oV (n:=m) (fun j hj=>by rw [amR (ck M c (fun a=>M a j)) c j hc (by omega) (by omega) (fun b _=>by simp only [ck];rw [if_pos trivial,if_neg (by omega)])];simp)]
 omega
theorem Rj {n : Nat} (M : Nat → Nat → Int) (c : Nat) (hc : c < n) (x : Int) (m : Nat) (hm : m ≤ c) (y : Nat → Int) :
  akh n (bp M c (fun b=>x * M c b+ax m (fun j=>y j * M j b)))=x * akh n M:=by
 have h:=Dp M c hc x 1 (M c) (fun b=>ax m (fun j=>y j * M j b))
 simp only [Int.one_mul] at h
 rw [h,Ke M c hc m y (fun j=>M j),zb]
 rw [oV (n:=m) (fun j hj=>by rw [al0 (bp M c (M j)) c j hc (by omega) (by omega) (fun b _=>by simp only [bp];rw [if_pos trivial,if_neg (by omega)])];simp)]
 omega
def jU (c:Nat) (A:Nat→Nat→Int) (i j:Nat):Int:=akh (c+1) (fun a b=>A (if a=c then i else a) (if b=c then j else b))
theorem Rm (c : Nat) (A : Nat → Nat → Int) (i j : Nat) :
  jU c A i j=A i j * akh c A - ax c (fun l=>ax c (fun k=>A i l * akI c A l k * A k j)):=by
 unfold jU
 rw [Rh]
 simp only [if_true]
 have e0:akh c (fun a b=>A (if a=c then i else a) (if b=c then j else b))=akh c A :=
  ja (fun a b ha hb=>by rw [if_neg (by omega),if_neg (by omega)])
 rw [e0]
 congr 1
 refine eM (fun l hl=>eM (fun k hk=>?_))
 rw [if_neg (show l ≠ c by omega),if_neg (show k ≠ c by omega)]
 congr 2
 unfold akI
 refine ja (fun a b ha hb=>?_)
 show (if a=k then cK l b else A (if a=c then i else a) (if b=c then j else b))=(if a=k then cK l b else A a b)
 rw [if_neg (show a ≠ c by omega),if_neg (show b ≠ c by omega)]
theorem acz {n:Nat} (A:Nat→Nat→Int) (c:Nat) (hc:c < n) (hp:akh c A ≠ 0) (h:∀ i,c≤i→i < n→jU c A i c=0):akh n A=0:=by
 have h1:=acp A c hc (akh c A) c (Nat.le_refl c) (fun l=>- ax c (fun k=>akI c A l k * A k c))
 rw [Kb _ c hc (fun a ha=>?_)] at h1
 ·rcases Int.mul_eq_zero.mp h1.symm with h2 | h2
  ·exact absurd h2 hp
  ·exact h2
 ·simp only [ck, if_true]
  have e:ax c (fun l=>(- ax c (fun k=>akI c A l k * A k c)) * A a l)=- ax c (fun l=>ax c (fun k=>A a l * akI c A l k * A k c)):=by
   rw [← Ds]
   refine eM (fun l _=>?_)
   rw [Int.neg_mul,Int.mul_comm,← ju]
   congr 1
   exact eM (fun k _=>by grind)
  rw [e]
  by_cases hac:a < c
  ·have e2:ax c (fun l=>ax c (fun k=>A a l * akI c A l k * A k c))=akh c A * A a c:=by
    rw [zf]
    rw [eM (g:=fun k=>(if a=k then akh c A else 0) * A k c) (fun k hk=>by
     rw [← J_ A a k hk hac,Int.mul_comm,← ju]
     exact eM (fun l _=>by grind))]
    rw [ux a hac (fun k _ hne=>by rw [if_neg (Ne.symm hne)];simp),if_pos rfl]
   rw [e2];omega
  ·have := h a (by omega) ha
   rw [Rm] at this
   have e3:A a c * akh c A=akh c A * A a c:=Int.mul_comm _ _
   omega
theorem acm (c : Nat) (K : Nat → Nat → Int) (h1 : ∀ b, b < c → K c b = 0) (h2 : ∀ b, b < c → K (c+1) b = 0) :
  akh (c+1+1) K=akh c K * (K c c * K (c+1) (c+1) - K (c+1) c * K c (c+1)):=by
 rw [Rh,Dn K h1]
 have hz:∀ i,i < c→akI (c+1) K c i=0:=by
  intro i hi
  unfold akI
  have e:akh (c+1) (bp K i (cK c))=akh (c+1) (bp (bp K i (cK c)) c (fun b=>K c c * cK c b)):=by
   refine ja (fun a b ha hb=>?_)
   unfold bp
   by_cases h:a=c
   ·subst h
    rw [if_neg (show a ≠ i by omega),if_pos rfl]
    show K a b=K a a * cK a b
    by_cases hb':b=a
    ·subst hb';rw [FJ];omega
    ·rw [h1 b (by omega),za hb'];omega
   ·rw [if_neg h]
  rw [e,Rk _ _ (by omega),al0 _ c i (by omega) (by omega) (by omega) (fun b _=>by simp [bp])]
  simp
 have hc:akI (c+1) K c c=akh c K:=by
  unfold akI
  rw [Dn _ (fun b hb=>by simp only [bp,if_true];exact za (by omega))]
  have:bp K c (cK c) c c=1:=by simp [bp,cK]
  rw [this,Int.one_mul]
  exact ja (fun a b ha _=>by unfold bp;rw [if_neg (by omega)])
 have e:ax (c+1) (fun j=>ax (c+1) (fun i=>K (c+1) j * akI (c+1) K j i * K i (c+1)))=K (c+1) c * akh c K * K c (c+1):=by
  rw [ux c (by omega) (fun j hj hne=>oV (fun i hi=>by rw [h2 j (by omega)];simp))]
  rw [ux c (by omega) (fun i hi hne=>by rw [hz i (by omega)];simp),hc]
 rw [e];grind
theorem acI (c : Nat) (A : Nat → Nat → Int) (hp : akh c A ≠ 0) (i j : Nat) :
  akh c A * jU (c+1) A i j=jU c A c c * jU c A i j - jU c A i c * jU c A c j:=by
 let K:Nat→Nat→Int:=fun a b=>A (if a=c+1 then i else a) (if b=c+1 then j else b)
 have hK:jU (c+1) A i j=akh (c+1+1) K:=rfl
 have Za:akh c K=akh c A:=ja (fun a b ha hb=>by show A _ _=_;rw [if_neg (by omega),if_neg (by omega)])
 let y:Nat→Nat→Int:=fun r k=>- ax c (fun l=>K r l * akI c A l k)
 let R:Nat→Nat→Int:=fun r b=>akh c A * K r b+ax c (fun k=>y r k * K k b)
 have s1:=Rj K c (n:=c+1+1) (by omega) (akh c A) c (Nat.le_refl c) (y c)
 have s2:=Rj (bp K c (R c)) (c+1) (n:=c+1+1) (by omega) (akh c A) c (by omega) (y (c+1))
 have e2:(fun b=>akh c A * bp K c (R c) (c+1) b+ax c (fun j=>y (c+1) j * bp K c (R c) j b))=R (c+1):=by
  funext b
  show _=akh c A * K (c+1) b+ax c (fun k=>y (c+1) k * K k b)
  congr 1
  ·simp only [bp];rw [if_neg (by omega)]
  ·exact eM (fun k hk=>by simp only [bp];rw [if_neg (by omega)])
 rw [e2] at s2
 have hR:∀ r b,R r b=K r b * akh c A - ax c (fun l=>ax c (fun k=>K r l * akI c A l k * K k b)):=by
  intro r b
  show akh c A * K r b+ax c (fun k=>(- ax c (fun l=>K r l * akI c A l k)) * K k b)=_
  have:ax c (fun k=>(- ax c (fun l=>K r l * akI c A l k)) * K k b)=- ax c (fun l=>ax c (fun k=>K r l * akI c A l k * K k b)):=by
   rw [zf,← Ds]
   refine eM (fun k _=>?_)
   rw [Int.neg_mul,Int.mul_comm,← ju]
   congr 1
   exact eM (fun l _=>by grind)
  rw [this,Int.mul_comm];omega
 have Cz:∀ r b,b < c→R r b=0:=by
  intro r b hb
  rw [hR]
  have:ax c (fun l=>ax c (fun k=>K r l * akI c A l k * K k b))=K r b * akh c A:=by
   rw [eM (g:=fun l=>K r l * (if l=b then akh c A else 0)) (fun l hl=>by
    rw [← ach A l b hl hb,← ju]
    refine eM (fun k hk=>?_)
    have:K k b=A k b:=by show A _ _=_;rw [if_neg (by omega),if_neg (by omega)]
    rw [this];grind)]
   rw [ux b hb (fun l _ hne=>by rw [if_neg hne];simp),if_pos rfl]
  omega
 have qX:∀ r b:Nat,jU c A (if r=c+1 then i else r) (if b=c+1 then j else b)=R r b:=by
  intro r b
  rw [Rm,hR]
  congr 1
  refine eM (fun l hl=>eM (fun k hk=>?_))
  show A _ l * akI c A l k * A k _=A _ (if l=c+1 then j else l) * akI c A l k * A (if k=c+1 then i else k) _
  rw [if_neg (show l ≠ c+1 by omega),if_neg (show k ≠ c+1 by omega)]
 have s3:=acm c (bp (bp K c (R c)) (c+1) (R (c+1))) (fun b hb=>by
   simp only [bp];rw [if_neg (by omega),if_pos trivial];exact Cz c b hb) (fun b hb=>by
   simp only [bp];rw [if_pos trivial];exact Cz (c+1) b hb)
 have e3:akh c (bp (bp K c (R c)) (c+1) (R (c+1)))=akh c A:=by
  rw [← Za]
  exact ja (fun a b ha _=>by simp only [bp];rw [if_neg (by omega),if_neg (by omega)])
 have v1:bp (bp K c (R c)) (c+1) (R (c+1)) c=R c:=by funext b;simp only [bp];rw [if_neg (by omega),if_pos trivial]
 have v2:bp (bp K c (R c)) (c+1) (R (c+1)) (c+1)=R (c+1):=by funext b;simp only [bp];rw [if_pos trivial]
 rw [e3,v1,v2,s2] at s3
 have s1':akh (c+1+1) (bp K c (R c))=akh c A * akh (c+1+1) K:=s1
 rw [s1',← hK] at s3
 have h00:=qX c c
 have h01:=qX c (c+1)
 have h10:=qX (c+1) c
 have h11:=qX (c+1) (c+1)
 rw [if_neg (show c ≠ c+1 by omega)] at h00 h01 h10
 rw [if_neg (show c ≠ c+1 by omega)] at h00
 rw [if_pos rfl] at h01 h10 h11
 rw [if_pos rfl] at h11
 rw [← h00,← h01,← h10,← h11] at s3
 have s4:akh c A * (akh c A * jU (c+1) A i j - (jU c A c c * jU c A i j - jU c A i c * jU c A c j))=0:=by grind
 rcases Int.mul_eq_zero.mp s4 with h|h
 ·exact absurd h hp
 ·omega
theorem acA (A:Nat→Nat→Int) (i j:Nat):jU 0 A i j=A i j:=by
 unfold jU;rw [Dn _ (fun b hb=>by omega)];simp [akh]
theorem Kf (c:Nat) (A:Nat→Nat→Int):jU c A c c=akh (c+1) A:=by
 unfold jU
 exact ja (fun a b _ _=>by
  congr 1
  ·split<;>simp_all
  ·split<;>simp_all)
def kE (i m a:Nat):Nat:=if a=i then m else if a=m then i else a
def mZ (a:Int) (c:List Int):Bool:=decide ((c.length:Int)=a) && !(c.any k6)
theorem amW (x:Int):(decide (-200≤x) && decide (x≤200))=!k6 x:=by unfold k6;simp
theorem aeo (e:Nat):Int.tdiv (e:Int) 2=((e / 2:Nat):Int):=rfl
theorem aep (e:Nat):Int.tmod (e:Int) 2=((e % 2:Nat):Int):=rfl
/-- Where the directed edge e begins, and where it ends. -/
def rC (l:List (List Int)) (e:Nat):Int:=rd (ah l ((e / 2:Nat):Int)) ((e % 2:Nat):Int)
def rJ (l:List (List Int)) (e:Nat):Int:=rd (ah l ((e / 2:Nat):Int)) ((1 - e % 2:Nat):Int)
def two (l:List (List Int)):Prop:=∀ x ∈ l,x.length=2
theorem ab1 {a:Int} {l:List (List Int)} (h:mK a l=true):two l:=by
 intro x hx
 simp only [mK,Bool.and_eq_true,List.all_eq_true] at h
 have:=h.2.2.2 x hx
 simp only [oP,Bool.and_eq_true,decide_eq_true_eq] at this
 exact this.1
theorem J7 {a:Int} {l:List (List Int)} (h:mK a l=true):l.length≤10:=by
 simp only [mK,Bool.and_eq_true,decide_eq_true_eq] at h
 exact h.2.2.1
theorem Q8 {a:Int} {l:List (List Int)} (h:mK a l=true):1≤a∧a≤8:=by
 simp only [mK,Bool.and_eq_true,decide_eq_true_eq] at h
 exact ⟨h.1,h.2.1⟩
theorem ab0 {a:Int} {l:List (List Int)} (h:mK a l=true) {x:List Int} (hx:x ∈ l):(0≤rd x 0∧rd x 0≤a - 1)∧(0≤rd x 1∧rd x 1≤a - 1):=by
 have hs:=Q8 h
 simp only [mK,Bool.and_eq_true,List.all_eq_true] at h
 have:=h.2.2.2 x hx
 simp only [oP,sB,Bool.and_eq_true,decide_eq_true_eq] at this
 rw [jH (by omega) (by omega)] at this
 exact this.2
theorem aeu {l:List (List Int)} (h2:two l) (e:Nat) (he:e < 2 * l.length):(ah l ((e / 2:Nat):Int)).length=2:=by
 have hi:e / 2 < l.length:=by omega
 rw [pO l (e / 2) hi]
 exact h2 _ (List.getElem_mem hi)
theorem ab8 (a:Int) (l:List (List Int)) (hl:l.length≤1048576) (h2:two l) (e:Nat) (he:e < 2 * l.length):zE.f a l e=some (rC l e,rJ l e):=by
 have hx:=aeu h2 e he
 unfold zE.f
 rw [aeo,aep,jH (by omega) (by omega),if_pos (by omega),if_pos (by omega),hx]
 unfold rC rJ
 rcases Nat.mod_two_eq_zero_or_one e with h|h
 ·rw [h];rfl
 ·rw [h];rfl
/-- The other direction of e's edge. -/
def opp (e:Nat):Nat:=if e % 2=0 then e+1 else e - 1
/-- May f come behind e. -/
def next (l:List (List Int)) (e f:Nat):Bool:=decide (rJ l e=rC l f) && !decide (f=opp e)
theorem ad_ (n:Nat) (hn:n≤1048576):∀ (d i:Nat),n - i=d→i≤n→Ev (fun k=>ij.l0 k n (List.replicate i (List.replicate n 0)) n i) (List.replicate n (List.replicate n 0)):=by
 intro d
 induction d with
 | zero =>
  intro i hd hi
  obtain rfl:i=n:=by omega
  refine Ev.step (fun k=>by simp only [ij.l0];rfl) ?_
  simp only [Int.lt_irrefl,if_false]
  exact Ev.now _
 | succ d ih =>
  intro i hd hi
  refine Ev.step (fun k=>by simp only [ij.l0];rfl) ?_
  simp only [lI i n (by omega),cD n,Int.toNat_natCast,show n≤35184372088832 by omega,List.length_replicate,show i < 5864062014805 by omega,if_true,wI ((i:Int)+1) (by omega)]
  have h:=ih (i+1) (by omega) (by omega)
  rw [List.replicate_succ'] at h
  exact h
theorem ad' (n:Nat) (hn:n≤1048576):Ev (fun k=>ij.f k n) (List.replicate n (List.replicate n 0)):=ad_ n hn n 0 (by omega) (by omega)
theorem W5 (l:List Int) (h:l.length≤1048576):nW.f l=some l:=by
 unfold nW.f
 rw [if_pos (by omega)]
theorem Ra (l:List Int) (h:l.length≤1048576):uJ.f l=some l:=by
 unfold uJ.f
 simp only [Option.bind_some,List.length_nil,List.nil_append]
 rw [if_pos (by omega)]
/-- The two ends of edge i of a graph, as numbers below n. -/
def endsIn (n:Nat) (l:List (List Int)):Prop:=∀ i,i < l.length→(ah l (i:Int)).length=2∧∃ u v:Nat,rd (ah l (i:Int)) 0=u∧rd (ah l (i:Int)) 1=v∧u < n∧v < n
theorem J6 {a:Int} {l:List (List Int)} (h:mK a l=true):∃ n:Nat,a=n∧1≤n∧n≤8∧endsIn n l:=by
 have hs:=Q8 h
 refine ⟨a.toNat,by omega,by omega,by omega,fun i hi=>?_⟩
 have hm:l[i] ∈ l:=List.getElem_mem hi
 rw [pO l i hi]
 have he:=ab0 h hm
 exact ⟨ab1 h _ hm,(rd l[i] 0).toNat,(rd l[i] 1).toNat,by omega,by omega,by omega,by omega⟩
/-- How often v is an end of the first i edges. -/
def mC (l : List (List Int)) : Nat → Nat → Nat
 | 0,_=>0
 | i+1,v=>mC l i v+(if rd (ah l (i:Int)) 0=(v:Int) then 1 else 0)+(if rd (ah l (i:Int)) 1=(v:Int) then 1 else 0)
theorem Ip (l:List (List Int)) (i v:Nat):mC l i v≤2 * i:=by
 induction i with
 | zero=>simp [mC]
 | succ i ih =>
  unfold mC
  have h1:(if rd (ah l (i:Int)) 0=(v:Int) then 1 else 0)≤1:=by split<;>omega
  have h2:(if rd (ah l (i:Int)) 1=(v:Int) then 1 else 0)≤1:=by split<;>omega
  omega
theorem ab7 (a:Int) (l:List (List Int)) (hl:l.length≤1048576) (h2:two l) (v:Nat):∀ (d i:Nat),l.length - i=d→i≤l.length→Ev (fun k=>fC.l0 k v (mC l i v:Int) i a l) (mC l l.length v:Int):=by
 intro d
 induction d with
 | zero =>
  intro i hd hi
  obtain rfl:i=l.length:=by omega
  refine Ev.step (fun k=>by simp only [fC.l0];rfl) ?_
  simp only [Int.lt_irrefl,if_false]
  exact Ev.now _
 | succ d ih =>
  intro i hd hi
  have hil:i < l.length:=by omega
  have hx:(ah l (i:Int)).length=2:=by rw [pO l i hil];exact h2 _ (List.getElem_mem hil)
  have hdn:=Ip l i v
  have h:=ih (i+1) (by omega) (by omega)
  have hend:∀ z:Nat,z≤2 * i+2→z=mC l (i+1) v→Ev (fun k=>fC.l1 k v (z:Int) i 2 a l) (mC l l.length v:Int):=by
   intro z hz1 hz
   refine Ev.step (fun k=>by simp only [fC.l1];rfl) ?_
   simp only [Int.lt_irrefl,if_false,wI ((i:Int)+1) (by omega)]
   rw [hz]
   exact h
  have hone:∀ z:Nat,z≤2 * i+1→z=mC l i v+(if rd (ah l (i:Int)) 0=(v:Int) then 1 else 0)→Ev (fun k=>fC.l1 k v (z:Int) i 1 a l) (mC l l.length v:Int):=by
   intro z hz1 hz
   refine Ev.step (fun k=>by simp only [fC.l1];rfl) ?_
   simp only [show ((1:Int) < 2) by omega,show ((0:Int)≤1) by omega,cD i,show ((i:Int) < (l.length:Int)) by omega,hx,show ((1:Int) < ((2:Nat):Int)) by omega,if_true,wI ((1:Int)+1) (by omega)]
   by_cases hc:rd (ah l (i:Int)) 1=(v:Int)
   ·simp only [hc, if_true, wI ((z : Int) + 1) (by omega)]
    have:=hend (z+1) (by omega) (by unfold mC;rw [if_pos hc,← hz])
    simpa using this
   ·simp only [hc, if_false]
    have:=hend z (by omega) (by unfold mC;rw [if_neg hc,← hz];rfl)
    simpa using this
  refine Ev.step (fun k=>by simp only [fC.l0];rfl) ?_
  simp only [show ((i:Int) < (l.length:Int)) by omega,if_true]
  refine Ev.step (fun k=>by simp only [fC.l1];rfl) ?_
  simp only [show ((0:Int) < 2) by omega,cD i,show ((i:Int) < (l.length:Int)) by omega,hx,show ((0:Int)≤0) by omega,show ((0:Int) < ((2:Nat):Int)) by omega,if_true,wI ((0:Int)+1) (by omega)]
  by_cases hc:rd (ah l (i:Int)) 0=(v:Int)
  ·simp only [hc, if_true, jH (show -9223372036854775808 ≤ ((mC l i v : Nat) : Int) + 1 by omega) (by omega)]
   have:=hone (mC l i v+1) (by omega) (by rw [if_pos hc])
   simpa using this
  ·simp only [hc, if_false]
   have:=hone (mC l i v) (by omega) (by rw [if_neg hc];rfl)
   simpa using this
theorem ab6 (a:Int) (l:List (List Int)) (hl:l.length≤1048576) (h2:two l) (v:Nat):Ev (fun k=>fC.f k a l v) (mC l l.length v:Int) :=
 ab7 a l hl h2 v l.length 0 (by omega) (by omega)
def fZ (a b z:Int):Int:=if z=mx a b then mn a b else z
def nu (f:Int→Int) (i:Nat) (c:List Int):List Int:=(c.take i).map f ++ c.drop i
theorem Dt (f:Int→Int) (i:Nat) (c:List Int):(nu f i c).length=c.length:=by
 unfold nu
 rw [List.length_append,List.length_map,List.length_take,List.length_drop]
 omega
theorem Kq (f:Int→Int) (i:Nat) (c:List Int) (h:i < c.length):rd (nu f i c) (i:Int)=c[i]:=by
 rw [oX _ _ (by rw [Dt];exact h)]
 unfold nu
 rw [List.getElem_append_right (by rw [List.length_map,List.length_take];omega)]
 simp [List.length_take,Nat.min_eq_left (Nat.le_of_lt h)]
theorem Kr (f:Int→Int) (i:Nat) (c:List Int) (h:i < c.length):nu f (i+1) c=(nu f i c).set i (f c[i]):=by
 have hl:((c.take i).map f).length=i:=by rw [List.length_map,List.length_take];omega
 unfold nu
 apply List.ext_getElem?
 intro j
 rw [List.getElem?_set]
 by_cases hj:i=j
 ·subst hj
  rw [if_pos rfl,if_pos (by rw [List.length_append,hl,List.length_drop];omega)]
  rw [List.getElem?_append_left (by rw [List.length_map,List.length_take];omega),List.getElem?_map,List.getElem?_take,if_pos (by omega),List.getElem?_eq_getElem h]
  rfl
 ·rw [if_neg hj]
  by_cases hlt:j < i
  ·rw [List.getElem?_append_left (by rw [List.length_map, List.length_take]; omega), List.getElem?_append_left (by omega)]
   simp only [List.getElem?_map,List.getElem?_take]
   rw [if_pos (by omega),if_pos hlt]
  ·rw [List.getElem?_append_right (by rw [List.length_map, List.length_take]; omega), List.getElem?_append_right (by omega), hl]
   simp only [List.length_map,List.length_take,List.getElem?_drop]
   congr 1
   omega
theorem RC (f:Int→Int) (i:Nat) (c:List Int) (h:i < c.length) (e:f c[i]=c[i]):nu f (i+1) c=nu f i c:=by
 rw [Kr f i c h,e]
 apply List.ext_getElem
 ·simp
 ·intro j h1 h2
  rw [List.getElem_set]
  by_cases hj:i=j
  ·subst hj
   rw [if_pos rfl]
   have:=Kq f i c h
   rw [oX _ _ (by rw [Dt];exact h)] at this
   exact this.symm
  ·rw [if_neg hj]
def pg (l : List (List Int)) : Nat → Nat → List Int → List Int
 | 0,_,c=>c
 | d+1,i,c=>pg l d (i+1) (c.map (fZ (rd c (rd (ah l (i:Int)) 0)) (rd c (rd (ah l (i:Int)) 1))))
theorem ad9 (a : Int) (l : List (List Int)) (hl : l.length ≤ 1048576) (i : Nat) (hi : i < l.length) (x y : Int) (c : List Int) (hc : c.length ≤ 1048576) (R : List Int)
  (hR:Ev (fun k=>dD.l1 k (c.map (fZ x y)) ((i:Int)+1) a l) R) :
  ∀ (d v:Nat),c.length - v=d→v≤c.length→Ev (fun k=>dD.l2 k (nu (fZ x y) v c) i x y v a l) R:=by
 intro d
 induction d with
 | zero =>
  intro v hd hv
  obtain rfl:v=c.length:=by omega
  refine Ev.step (fun k=>by simp only [dD.l2];rfl) ?_
  simp only [Dt,Int.lt_irrefl,if_false,wI ((i:Int)+1) (by omega)]
  rw [show nu (fZ x y) c.length c=c.map (fZ x y) from by simp [nu]]
  exact hR
 | succ d ih =>
  intro v hd hv
  have yY:v < c.length:=by omega
  have h:=ih (v+1) (by omega) (by omega)
  refine Ev.step (fun k=>by simp only [dD.l2];rfl) ?_
  simp only [Dt,show ((v:Int) < (c.length:Int)) by omega,cD v,if_true,Kq _ v c yY,Int.toNat_natCast,wI ((v:Int)+1) (by omega)]
  by_cases hz:c[v]=mx x y
  ·rw [Kr _ v c yY, show fZ x y c[v] = mn x y from by unfold fZ; exact if_pos hz] at h
   simp only [hz,if_true]
   exact h
  ·rw [RC (fZ x y) v c yY (by unfold fZ; exact if_neg hz)] at h
   simp only [hz,if_false]
   exact h
theorem abU (l : List (List Int)) (hl : l.length ≤ 1048576) (i : Nat) (hi : i < l.length) (x y : Int) (c : List Int) (hc : c.length ≤ 1048576) (R : List Int)
  (hR:Ev (fun k=>cY.l1 k (c.map (fZ x y)) l (l.length:Int) ((i:Int)+1)) R) :
  ∀ (d v:Nat),c.length - v=d→v≤c.length→Ev (fun k=>cY.l2 k (nu (fZ x y) v c) x y l (l.length:Int) i (c.length:Int) v) R:=by
 intro d
 induction d with
 | zero =>
  intro v hd hv
  obtain rfl:v=c.length:=by omega
  refine Ev.step (fun k=>by simp only [cY.l2];rfl) ?_
  simp only [Int.lt_irrefl,if_false,wI ((i:Int)+1) (by omega)]
  rw [show nu (fZ x y) c.length c=c.map (fZ x y) from by simp [nu]]
  exact hR
 | succ d ih =>
  intro v hd hv
  have yY:v < c.length:=by omega
  have h:=ih (v+1) (by omega) (by omega)
  refine Ev.step (fun k=>by simp only [cY.l2];rfl) ?_
  simp only [Dt,show ((v:Int) < (c.length:Int)) by omega,cD v,if_true,Kq _ v c yY,Int.toNat_natCast,wI ((v:Int)+1) (by omega)]
  by_cases hz:c[v]=mx x y
  ·rw [Kr _ v c yY, show fZ x y c[v] = mn x y from by unfold fZ; exact if_pos hz] at h
   simp only [hz,if_true]
   exact h
  ·rw [RC (fZ x y) v c yY (by unfold fZ; exact if_neg hz)] at h
   simp only [hz,if_false]
   exact h
theorem ad8 (n:Nat) (hn:n≤1048576) (a:Int) (l:List (List Int)) (hl:l.length≤1048576) (hE:endsIn n l):∀ (d i:Nat) (c:List Int),l.length - i=d→i≤l.length→c.length=n→Ev (fun k=>dD.l1 k c i a l) (pg l d i c):=by
 intro d
 induction d with
 | zero =>
  intro i c hd hi hc
  obtain rfl:i=l.length:=by omega
  refine Ev.step (fun k=>by simp only [dD.l1];rfl) ?_
  simp only [Int.lt_irrefl,if_false]
  exact Ev.now _
 | succ d ih =>
  intro i c hd hi hc
  have hil:i < l.length:=by omega
  obtain ⟨hx,u,v,hu,hv,hun,gq⟩:=hE i hil
  have h:=ad9 a l hl i hil (rd c u) (rd c v) c (by omega) _ (ih (i+1) (c.map (fZ (rd c u) (rd c v))) (by omega) (by omega) (by rw [List.length_map];exact hc)) c.length 0 (by omega) (by omega)
  rw [show nu (fZ (rd c u) (rd c v)) 0 c=c from by simp [nu]] at h
  rw [show pg l (d+1) i c=pg l d (i+1) (c.map (fZ (rd c (rd (ah l (i:Int)) 0)) (rd c (rd (ah l (i:Int)) 1)))) from rfl,hu,hv]
  refine Ev.step (fun k=>by simp only [dD.l1];rfl) ?_
  simp only [show ((i:Int) < (l.length:Int)) by omega,cD i,hx,hu,hv,hc,show ((0:Int) < ((2:Nat):Int)) by omega,show ((1:Int) < ((2:Nat):Int)) by omega,cD u,cD v,lI u n (by omega),lI v n (by omega),if_true]
  exact h
theorem abT (n:Nat) (hn:n≤1048576) (l:List (List Int)) (hl:l.length≤1048576) (hE:endsIn n l):∀ (d i:Nat) (c:List Int),l.length - i=d→i≤l.length→c.length=n→Ev (fun k=>cY.l1 k c l (l.length:Int) i) (pg l d i c):=by
 intro d
 induction d with
 | zero =>
  intro i c hd hi hc
  obtain rfl:i=l.length:=by omega
  refine Ev.step (fun k=>by simp only [cY.l1];rfl) ?_
  simp only [Int.lt_irrefl,if_false]
  exact Ev.now _
 | succ d ih =>
  intro i c hd hi hc
  have hil:i < l.length:=by omega
  obtain ⟨hx,u,v,hu,hv,hun,gq⟩:=hE i hil
  have h:=abU l hl i hil (rd c u) (rd c v) c (by omega) _ (ih (i+1) (c.map (fZ (rd c u) (rd c v))) (by omega) (by omega) (by rw [List.length_map];exact hc)) c.length 0 (by omega) (by omega)
  rw [show nu (fZ (rd c u) (rd c v)) 0 c=c from by simp [nu],hc] at h
  rw [show pg l (d+1) i c=pg l d (i+1) (c.map (fZ (rd c (rd (ah l (i:Int)) 0)) (rd c (rd (ah l (i:Int)) 1)))) from rfl,hu,hv]
  refine Ev.step (fun k=>by simp only [cY.l1];rfl) ?_
  simp only [show ((i:Int) < (l.length:Int)) by omega,cD i,hx,hu,hv,hc,tO.f,Option.bind_some,show ((0:Int) < ((2:Nat):Int)) by omega,show ((1:Int) < ((2:Nat):Int)) by omega,cD u,cD v,lI u n (by omega),lI v n (by omega),if_true]
  exact h
def upto (i:Nat):List Int:=(List.range i).map Int.ofNat
theorem xE (i:Nat):(upto i).length=i:=by simp [upto]
theorem Sl (i:Nat):upto (i+1)=upto i ++ [(i:Int)]:=by
 unfold upto
 rw [List.range_succ,List.map_append]
 rfl
def jE (n:Nat) (l:List (List Int)):List Int:=pg l l.length 0 (upto n)
theorem ad7 (n:Nat) (hn:n≤1048576) (l:List (List Int)) (hl:l.length≤1048576) (hE:endsIn n l):∀ (d v:Nat),n - v=d→v≤n→Ev (fun k=>dD.l0 k (upto v) v n l) (jE n l):=by
 intro d
 induction d with
 | zero =>
  intro v hd hv
  obtain rfl:v=n:=by omega
  refine Ev.step (fun k=>by simp only [dD.l0];rfl) ?_
  simp only [Int.lt_irrefl,if_false]
  exact ad8 v hn v l hl hE l.length 0 (upto v) (by omega) (by omega) (xE v)
 | succ d ih =>
  intro v hd hv
  have h:=ih (v+1) (by omega) (by omega)
  rw [Sl] at h
  refine Ev.step (fun k=>by simp only [dD.l0];rfl) ?_
  simp only [lI v n (by omega),if_true,xE,show v < 17592186044416 by omega,wI ((v:Int)+1) (by omega)]
  exact h
theorem ad6 (n:Nat) (hn:n≤1048576) (l:List (List Int)) (hl:l.length≤1048576) (hE:endsIn n l):Ev (fun k=>dD.f k n l) (jE n l):=ad7 n hn l hl hE n 0 (by omega) (by omega)
theorem abS (n:Nat) (hn:n≤1048576) (l:List (List Int)) (hl:l.length≤1048576) (hE:endsIn n l):∀ (d v:Nat),n - v=d→v≤n→Ev (fun k=>cY.l0 k (upto v) n v n l) (jE n l):=by
 intro d
 induction d with
 | zero =>
  intro v hd hv
  obtain rfl:v=n:=by omega
  refine Ev.step (fun k=>by simp only [cY.l0];rfl) ?_
  simp only [Int.lt_irrefl,if_false]
  exact abT v hn l hl hE l.length 0 (upto v) (by omega) (by omega) (xE v)
 | succ d ih =>
  intro v hd hv
  have h:=ih (v+1) (by omega) (by omega)
  rw [Sl] at h
  refine Ev.step (fun k=>by simp only [cY.l0];rfl) ?_
  simp only [lI v n (by omega),if_true,xE,show v < 17592186044416 by omega,wI ((v:Int)+1) (by omega)]
  exact h
theorem abR (n:Nat) (hn:n≤1048576) (l:List (List Int)) (hl:l.length≤1048576) (hE:endsIn n l):Ev (fun k=>cY.f k n l) (jE n l):=abS n hn l hl hE n 0 (by omega) (by omega)
/-- Each class has its least vertex as its name. -/
def alS (n:Nat) (c:List Int):Prop:=c.length=n∧∀ v:Nat,v < n→0≤rd c v∧rd c v≤v∧rd c (rd c v)=rd c v
theorem F_ (f:Int→Int) (c:List Int) (v:Nat) (h:v < c.length):rd (c.map f) (v:Int)=f (rd c (v:Int)):=by
 rw [oX _ _ (by rw [List.length_map];exact h),oX _ _ h,List.getElem_map]
theorem W9 (n:Nat):alS n (upto n):=by
 refine ⟨xE n,fun v hv=>?_⟩
 have h:∀ w:Nat,w < n→rd (upto n) (w:Int)=(w:Int):=fun w hw=>by
  rw [oX _ _ (by rw [xE];exact hw)]
  simp [upto]
 rw [h v hv,h v hv]
 omega
theorem W8 {n:Nat} {c:List Int} (h:alS n c) (u v:Nat) (hu:u < n) (hv:v < n):alS n (c.map (fZ (rd c u) (rd c v))):=by
 refine ⟨by rw [List.length_map];exact h.1,fun w hw=>?_⟩
 have hU:=h.2 u hu
 have hV:=h.2 v hv
 have hW:=h.2 w hw
 rw [F_ _ _ w (by rw [h.1];exact hw)]
 generalize hp:rd c (u:Int)=p at *
 generalize hq:rd c (v:Int)=q at *
 generalize hz:rd c (w:Int)=z at *
 have PM:∀ y:Int,0≤y→y < n→rd c y=y→rd (c.map (fZ p q)) y=fZ p q y:=by
  intro y h0 h1 h2
  obtain ⟨k,rfl⟩:∃ k:Nat,y=k:=⟨y.toNat,by omega⟩
  rw [F_ _ _ k (by rw [h.1];omega),h2]
 have hmm:fZ p q (mn p q)=mn p q:=by unfold fZ;split<;>rfl
 by_cases e:z=mx p q
 ·have hm : mn p q ≤ mx p q := by unfold mn mx; split <;> split <;> omega
  have QC:0≤mn p q∧rd c (mn p q)=mn p q:=by
   unfold mn
   split
   ·first|exact ⟨by omega,hU.2.2⟩|exact ⟨by omega,hV.2.2⟩
   ·first|exact ⟨by omega,hV.2.2⟩|exact ⟨by omega,hU.2.2⟩
  rw [show fZ p q z=mn p q from by unfold fZ;exact if_pos e]
  rw [PM _ QC.1 (by omega) QC.2,hmm]
  omega
 ·rw [show fZ p q z = z from by unfold fZ; exact if_neg e]
  rw [PM z hW.1 (by omega) hW.2.2,show fZ p q z=z from by unfold fZ;exact if_neg e]
  omega
theorem W_ {n:Nat} {l:List (List Int)} (hE:endsIn n l):∀ (d i:Nat) (c:List Int),i+d≤l.length→alS n c→alS n (pg l d i c):=by
 intro d
 induction d with
 | zero=>intro i c _ h;exact h
 | succ d ih =>
  intro i c hi h
  obtain ⟨hx,u,v,hu,hv,hun,gq⟩:=hE i (by omega)
  rw [show pg l (d+1) i c=pg l d (i+1) (c.map (fZ (rd c (rd (ah l (i:Int)) 0)) (rd c (rd (ah l (i:Int)) 1)))) from rfl,hu,hv]
  exact ih (i+1) _ (by omega) (W8 h u v hun gq)
theorem EG (n:Nat) (l:List (List Int)) (hE:endsIn n l):alS n (jE n l):=W_ hE l.length 0 _ (by omega) (W9 n)
/-- How many of the vertices v ≥ i bear their class's name. -/
def jF (c : List Int) : Nat → Nat → Nat
 | 0,_=>0
 | d+1,i=>(if rd c (i:Int)=(i:Int) then 1 else 0)+jF c d (i+1)
theorem BJ (c:List Int) (d i:Nat):jF c (d+1) i=(if rd c (i:Int)=(i:Int) then 1 else 0)+jF c d (i+1):=rfl
theorem Xx (c:List Int) (hc:c.length≤1048576):∀ (d i z:Nat),c.length - i=d→i≤c.length→z≤i→Ev (fun k=>iR.l0 k z c (c.length:Int) i) ((z+jF c d i:Nat):Int):=by
 intro d
 induction d with
 | zero =>
  intro i z hd hi hz
  obtain rfl:i=c.length:=by omega
  refine Ev.step (fun k=>by simp only [iR.l0];rfl) ?_
  simp only [Int.lt_irrefl,if_false]
  exact Ev.now _
 | succ d ih =>
  intro i z hd hi hz
  refine Ev.step (fun k=>by simp only [iR.l0];rfl) ?_
  simp only [show ((i:Int) < (c.length:Int)) by omega,cD i,if_true,wI ((i:Int)+1) (by omega),wI ((z:Int)+1) (by omega)]
  by_cases h:rd c (i:Int)=(i:Int)
  ·have h1 := ih (i + 1) (z + 1) (by omega) (by omega) (by omega)
   rw [show jF c (d+1) i=1+jF c d (i+1) from by rw [BJ,if_pos h],show z+(1+jF c d (i+1))=z+1+jF c d (i+1) by omega]
   simp only [h,if_true]
   exact h1
  ·have h1 := ih (i + 1) z (by omega) (by omega) (by omega)
   rw [show jF c (d+1) i=jF c d (i+1) from by rw [BJ,if_neg h,Nat.zero_add]]
   simp only [Ne.symm h,if_false]
   exact h1
theorem Xw (c:List Int) (hc:c.length≤1048576):Ev (fun k=>iR.f k c) ((jF c c.length 0:Nat):Int):=by
 have h:=Xx c hc c.length 0 0 (by omega) (by omega) (by omega)
 rw [Nat.zero_add] at h
 exact h
theorem Xc (c:List Int):∀ (d i:Nat),jF c d i=0↔∀ v:Nat,i≤v→v < i+d→rd c (v:Int) ≠ (v:Int):=by
 intro d
 induction d with
 | zero=>intro i;simp [jF];omega
 | succ d ih =>
  intro i
  rw [show jF c (d+1) i=(if rd c (i:Int)=(i:Int) then 1 else 0)+jF c d (i+1) from rfl]
  by_cases h:rd c (i:Int)=(i:Int)
  ·rw [if_pos h]
   exact ⟨fun e=>by omega,fun e=>(e i (by omega) (by omega) h).elim⟩
  ·rw [if_neg h, Nat.zero_add, ih]
   exact ⟨fun e v h1 h2=>by
    by_cases hv:v=i
    ·subst hv;exact h
    ·exact e v (by omega) (by omega),fun e v h1 h2=>e v (by omega) (by omega)⟩
/-- Is all one part. -/
def ak6 (c:List Int):Bool:=decide (∀ v,v < c.length→rd c ((v:Nat):Int)=rd c 0)
theorem NN {n:Nat} {c:List Int} (hn:1≤n) (h:alS n c):((((jF c c.length 0:Nat):Int)) == 1)=ak6 c:=by
 have h0:rd c 0=0:=by
  have:=h.2 0 (by omega)
  have e:((0:Nat):Int)=0:=rfl
  rw [e] at this
  omega
 obtain ⟨m,hm⟩:∃ m,c.length=m+1:=⟨c.length - 1,by have:=h.1;omega⟩
 rw [Bool.eq_iff_iff,beq_iff_eq]
 unfold ak6
 rw [decide_eq_true_eq,hm]
 rw [show jF c (m+1) 0=1+jF c m 1 from by rw [BJ,if_pos (show rd c ((0:Nat):Int)=((0:Nat):Int) from h0)]]
 have hz:=Xc c m 1
 constructor
 ·intro e v hv
  rw [h0]
  have h1:=hz.1 (by omega)
  have h2:=h.2 v (by have:=h.1;omega)
  by_cases hp:rd c (v:Int)=0
  ·exact hp
  ·exfalso
   refine h1 (rd c (v:Int)).toNat (by omega) (by omega) ?_
   rw [show (((rd c (v:Int)).toNat:Nat):Int)=rd c (v:Int) by omega]
   exact h2.2.2
 ·intro e
  have:jF c m 1=0:=hz.2 (fun v h1 h2 hc=>by
   have:=e v (by omega)
   rw [h0] at this
   omega)
  omega
/-- A row and a square of numbers, by their places. -/
def aG (n:Nat) (g:Nat→Int):List Int:=(List.range n).map g
def bZ (n:Nat) (f:Nat→Nat→Int):List (List Int):=(List.range n).map fun i=>aG n (f i)
theorem fq (n:Nat) (g:Nat→Int):(aG n g).length=n:=by simp [aG]
theorem fo (n:Nat) (f:Nat→Nat→Int):(bZ n f).length=n:=by simp [bZ]
theorem gu {n:Nat} {g:Nat→Int} {v:Nat} (h:v < n):rd (aG n g) (v:Int)=g v:=by
 rw [oX _ _ (by rw [fq];exact h)]
 simp [aG]
theorem nQ {n:Nat} {f:Nat→Nat→Int} {u:Nat} (h:u < n):ah (bZ n f) (u:Int)=aG n (f u):=by
 rw [pO _ _ (by rw [fo];exact h)]
 simp [bZ]
theorem kH {n:Nat} {g h:Nat→Int} (e:∀ j,j < n→g j=h j):aG n g=aG n h:=by
 unfold aG
 apply List.map_congr_left
 intro j hj
 exact e j (List.mem_range.mp hj)
theorem rW {n:Nat} {f h:Nat→Nat→Int} (e:∀ i j,i < n→j < n→f i j=h i j):bZ n f=bZ n h:=by
 unfold bZ
 apply List.map_congr_left
 intro i hi
 exact kH fun j hj=>e i j (List.mem_range.mp hi) hj
theorem qt {n:Nat} (g:Nat→Int) (v:Nat) (x:Int):(aG n g).set v x=aG n (fun j=>if j=v then x else g j):=by
 apply List.ext_getElem
 ·rw [List.length_set,fq,fq]
 intro j h1 h2
 rw [List.getElem_set]
 simp only [aG,List.getElem_map,List.getElem_range]
 by_cases h:v=j
 ·subst h;simp
 ·rw [if_neg h,if_neg (fun e=>h e.symm)]
theorem AR {n:Nat} (f:Nat→Nat→Int) (u:Nat) (g:Nat→Int):(bZ n f).set u (aG n g)=bZ n (fun i j=>if i=u then g j else f i j):=by
 apply List.ext_getElem
 ·rw [List.length_set,fo,fo]
 intro i h1 h2
 rw [List.getElem_set]
 simp only [bZ,List.getElem_map,List.getElem_range]
 by_cases h:u=i
 ·subst h;simp
 ·rw [if_neg h];exact kH fun j _=>by rw [if_neg (fun e=>h e.symm)]
/-- One place written. -/
theorem aeC {n:Nat} (f:Nat→Nat→Int) (u:Nat) (hu:u < n) (v:Nat) (x:Int):(bZ n f).set u ((ah (bZ n f) (u:Int)).set v x)=bZ n (fun i j=>if i=u∧j=v then x else f i j):=by
 rw [nQ hu,qt,AR]
 refine rW fun i j _ _=>?_
 by_cases h:i=u
 ·subst h;simp
 ·simp [h]
theorem Sq (n:Nat):List.replicate n (List.replicate n (0:Int))=bZ n (fun _ _=>0):=by
 have h0:∀ m:Nat,aG m (fun _=>0)=List.replicate m 0:=fun m=>by
  apply List.ext_getElem
  ·simp [aG]
  ·intro i _ _;simp [aG]
 apply List.ext_getElem
 ·simp [bZ]
 ·intro i _ _;simp [bZ,h0]
theorem aeK {n:Nat} {c:List Int} (h:c.length=n):c=aG n (fun w=>rd c (w:Int)):=by
 apply List.ext_getElem
 ·rw [fq];exact h
 ·intro i h1 h2
  simp only [aG,List.getElem_map,List.getElem_range]
  rw [oX _ _ h1]
/-- How many of the first d directed edges lead from u to v. -/
def jP (l : List (List Int)) : Nat → Nat → Nat → Int
 | 0,_,_=>0
 | d+1,u,v=>jP l d u v+(if rC l d=(u:Int)∧rJ l d=(v:Int) then 1 else 0)
theorem Bs (l:List (List Int)) (d u v:Nat):0≤jP l d u v∧jP l d u v≤d:=by
 induction d with
 | zero=>simp [jP]
 | succ d ih =>
  unfold jP
  have h1:(0:Int)≤(if rC l d=(u:Int)∧rJ l d=(v:Int) then 1 else 0)∧(if rC l d=(u:Int)∧rJ l d=(v:Int) then 1 else 0:Int)≤1:=by split<;>omega
  omega
theorem Xz {n:Nat} {l:List (List Int)} (hE:endsIn n l) (d:Nat) (hd:d < 2 * l.length):∃ u v:Nat,rC l d=u∧rJ l d=v∧u < n∧v < n:=by
 obtain ⟨_,u,v,hu,hv,hun,gq⟩:=hE (d / 2) (by omega)
 unfold rC rJ
 rcases Nat.mod_two_eq_zero_or_one d with h|h
 ·rw [h];exact ⟨u,v,hu,hv,hun,gq⟩
 ·rw [h];exact ⟨v,u,hv,hu,gq,hun⟩
theorem NY {n:Nat} {l:List (List Int)} (hE:endsIn n l):two l:=by
 intro x hx
 obtain ⟨i,hi,rfl⟩:=List.mem_iff_getElem.mp hx
 have h:=(hE i hi).1
 rwa [pO l i hi] at h
theorem VO (n:Nat) (hn:n≤8) (a:Int) (l:List (List Int)) (hl:l.length≤10) (hE:endsIn n l):∀ (q d:Nat),2 * l.length - d=q→d≤2 * l.length→Ev (fun k=>eX.l1 k (bZ n (jP l d)) d a l) (bZ n (jP l (2 * l.length))):=by
 intro q
 induction q with
 | zero =>
  intro d hq hd
  obtain rfl:d=2 * l.length:=by omega
  refine Ev.step (fun k=>by simp only [eX.l1];rfl) ?_
  rw [wI (2 * (l.length:Int)) (by omega)]
  simp only [show ¬ (((2 * l.length:Nat):Int) < 2 * (l.length:Int)) by omega,if_false]
  exact Ev.now _
 | succ q ih =>
  intro d hq hd
  have hdl:d < 2 * l.length:=by omega
  obtain ⟨u,v,hu,hv,hun,gq⟩:=Xz hE d hdl
  have hb:=Bs l d u v
  refine Ev.step (fun k=>by simp only [eX.l1];rfl) ?_
  rw [wI (2 * (l.length:Int)) (by omega)]
  simp only [show ((d:Int) < 2 * (l.length:Int)) by omega,if_true,ab8 a l (by omega) (NY hE) d hdl,Option.bind_some,hu,hv,cD u,cD v,fo,lI u n (by omega),nQ hun,fq,lI v n (by omega),gu gq,Int.toNat_natCast]
  rw [wI (jP l d u v+1) (by omega),wI ((d:Int)+1) (by omega)]
  have e:=aeC (jP l d) u hun v (jP l d u v+1)
  rw [nQ hun] at e
  rw [e,show bZ n (fun i j=>if i=u∧j=v then jP l d u v+1 else jP l d i j)=bZ n (jP l (d+1)) from rW fun i j _ _=>by
   rw [jP,hu,hv]
   by_cases h:i=u∧j=v
   ·obtain ⟨rfl,rfl⟩:=h;simp
   ·rw [if_neg h,if_neg (by omega)];omega]
  exact ih (d+1) (by omega) (by omega)
theorem VN (n:Nat) (hn:n≤8) (l:List (List Int)) (hl:l.length≤10) (hE:endsIn n l):∀ (q i:Nat),n - i=q→i≤n→Ev (fun k=>eX.l0 k (List.replicate i (List.replicate n 0)) i n l) (bZ n (jP l (2 * l.length))):=by
 intro q
 induction q with
 | zero =>
  intro i hq hi
  obtain rfl:i=n:=by omega
  refine Ev.step (fun k=>by simp only [eX.l0];rfl) ?_
  simp only [Int.lt_irrefl,if_false]
  rw [Sq]
  exact VO i hn i l hl hE (2 * l.length) 0 (by omega) (by omega)
 | succ q ih =>
  intro i hq hi
  refine Ev.step (fun k=>by simp only [eX.l0];rfl) ?_
  simp only [lI i n (by omega),if_true,cD n,Int.toNat_natCast,show n≤35184372088832 by omega,List.length_replicate,show i < 5864062014805 by omega,wI ((i:Int)+1) (by omega)]
  rw [show List.replicate i (List.replicate n (0:Int)) ++ [List.replicate n 0]=List.replicate (i+1) (List.replicate n 0) from by rw [List.replicate_succ']]
  exact ih (i+1) (by omega) (by omega)
theorem ab3 (n:Nat) (hn:n≤8) (l:List (List Int)) (hl:l.length≤10) (hE:endsIn n l):Ev (fun k=>eX.f k n l) (bZ n (jP l (2 * l.length))):=VN n hn l hl hE n 0 (by omega) (by omega)
/-- The Laplacian behind the first i edges. -/
def bO (l:List (List Int)) (i u v:Nat):Int:=-(jP l (2 * i) u v)+(if u=v then (mC l i u:Int) else 0)
theorem Ru (l:List (List Int)) (i u v:Nat):-(2 * (i:Int))≤bO l i u v∧bO l i u v≤2 * i:=by
 have h1:=Bs l (2 * i) u v
 have h2:=Ip l i u
 unfold bO
 split<;>omega
theorem ace (n : Nat) (hn : n ≤ 8) (l : List (List Int)) (hl : l.length ≤ 10) (hE : endsIn n l) (v : Nat) (hv : v < n) (R : List (List Int))
  (next:Ev (fun k=>dO.l0 k (bZ n (fun r j=>if r≤v then bO l l.length r j else jP l (2 * l.length) r j)) ((v+1:Nat):Int) n l) R) :
  ∀ (q i:Nat),n - i=q→i≤n→Ev (fun k=>dO.l1 k (bZ n (fun r j=>if r < v then bO l l.length r j else if r=v∧j < i then -(jP l (2 * l.length) r j) else jP l (2 * l.length) r j)) v i n l) R:=by
 intro q
 induction q with
 | zero =>
  intro i hq hi
  obtain rfl:i=n:=by omega
  have hd:=Ip l l.length v
  have ha:=Bs l (2 * l.length) v v
  refine Ev.step (fun k=>by simp only [dO.l1];rfl) ?_
  simp only [Int.lt_irrefl,if_false,cD v,if_true,nQ hv,fq,lI v i (by omega),gu hv,Int.toNat_natCast]
  refine Ev.bind (ab6 i l (by omega) (NY hE) v) ?_
  simp only [Nat.lt_irrefl,if_false,true_and,hv,if_true]
  rw [wI (-jP l (2 * l.length) v v+(mC l l.length v:Int)) (by omega),wI ((v:Int)+1) (by omega),qt,AR]
  refine Ev.congr (fun k=>?_) next
  rw [show ((v+1:Nat):Int)=(v:Int)+1 by omega]
  congr 1
  refine rW fun r j hr hj=>?_
  rcases Nat.lt_trichotomy r v with h|h|h
  ·simp only [show r ≠ v by omega,show r < v by omega,show r≤v by omega,if_true,if_false]
  ·subst h
   simp only [Nat.lt_irrefl,Nat.le_refl,true_and,hj,if_true,if_false]
   unfold bO
   by_cases e:j=r
   ·subst e;simp
   ·rw [if_neg e,if_neg (fun e2=>e e2.symm)];omega
  ·simp only [show r ≠ v by omega,show ¬ r < v by omega,show ¬ r≤v by omega,if_false,false_and]
 | succ q ih =>
  intro i hq hi
  have hin:i < n:=by omega
  have ha:=Bs l (2 * l.length) v i
  refine Ev.step (fun k=>by simp only [dO.l1];rfl) ?_
  simp only [lI i n (by omega),if_true,cD i,nQ hv,fq,gu hin,Nat.lt_irrefl,if_false,and_false,Int.toNat_natCast]
  rw [wI (-jP l (2 * l.length) v i) (by omega),wI ((i:Int)+1) (by omega),qt,AR]
  refine Ev.congr (fun k=>?_) (ih (i+1) (by omega) (by omega))
  rw [show ((i+1:Nat):Int)=(i:Int)+1 by omega]
  congr 1
  refine rW fun r j hr hj=>?_
  by_cases h:r=v
  ·subst h
   simp only [Nat.lt_irrefl,if_false,if_true,true_and]
   by_cases e:j=i
   ·subst e;simp
   ·rw [if_neg e]
    by_cases e2:j < i
    ·rw [if_pos e2,if_pos (by omega)]
    ·rw [if_neg e2,if_neg (by omega)]
  ·simp only [h,if_false,false_and]
theorem acd (n:Nat) (hn:n≤8) (l:List (List Int)) (hl:l.length≤10) (hE:endsIn n l):∀ (q v:Nat),n - v=q→v≤n→Ev (fun k=>dO.l0 k (bZ n (fun r j=>if r < v then bO l l.length r j else jP l (2 * l.length) r j)) v n l) (bZ n (bO l l.length)):=by
 intro q
 induction q with
 | zero =>
  intro v hq hv
  obtain rfl:v=n:=by omega
  refine Ev.step (fun k=>by simp only [dO.l0];rfl) ?_
  simp only [Int.lt_irrefl,if_false]
  rw [show bZ v (fun r j=>if r < v then bO l l.length r j else jP l (2 * l.length) r j)=bZ v (bO l l.length) from rW fun r j hr _=>by rw [if_pos hr]]
  exact Ev.now _
 | succ q ih =>
  intro v hq hv
  have gq:v < n:=by omega
  refine Ev.step (fun k=>by simp only [dO.l0];rfl) ?_
  simp only [lI v n (by omega),if_true,cD v,fo]
  have nx:=ih (v+1) (by omega) (by omega)
  have h:=ace n hn l hl hE v gq _ (by simpa only [Nat.lt_succ_iff] using nx) n 0 (by omega) (by omega)
  simp only [Nat.not_lt_zero,and_false,if_false] at h
  exact h
theorem ab_ (n:Nat) (hn:n≤8) (l:List (List Int)) (hl:l.length≤10) (hE:endsIn n l):Ev (fun k=>dO.f k n l) (bZ n (bO l l.length)):=by
 unfold dO.f
 refine Ev.bind (ab3 n hn l hl hE) ?_
 have h:=acd n hn l hl hE n 0 (by omega) (by omega)
 simp only [Nat.not_lt_zero,if_false] at h
 exact h
/-- One edge more, laid upon the Laplacian: both ends' own places up, the places between them down. -/
theorem xq (n : Nat) (l : List (List Int)) (i u v : Nat) (hu : rd (ah l (i : Int)) 0 = u) (hv : rd (ah l (i : Int)) 1 = v) (r j : Nat) :
  bO l (i+1) r j=bO l i r j+(if u=v then 0 else (if r=u∧j=u then 1 else 0) - (if r=u∧j=v then 1 else 0)+(if r=v∧j=v then 1 else 0) - (if r=v∧j=u then 1 else 0)):=by
 have b0:rC l (2 * i)=u:=by unfold rC;rw [show 2 * i / 2=i by omega,show 2 * i % 2=0 by omega];exact hu
 have b1:rJ l (2 * i)=v:=by unfold rJ;rw [show 2 * i / 2=i by omega,show 2 * i % 2=0 by omega];exact hv
 have b2:rC l (2 * i+1)=v:=by unfold rC;rw [show (2 * i+1) / 2=i by omega,show (2 * i+1) % 2=1 by omega];exact hv
 have b3:rJ l (2 * i+1)=u:=by unfold rJ;rw [show (2 * i+1) / 2=i by omega,show (2 * i+1) % 2=1 by omega];exact hu
 unfold bO
 rw [show 2 * (i+1)=2 * i+1+1 by omega,jP,jP,mC,b0,b1,b2,b3,hu,hv]
 clear b0 b1 b2 b3
 have c1:((u:Int)=(r:Int))=(r=u):=propext ⟨by omega,by omega⟩
 have c2:((u:Int)=(j:Int))=(j=u):=propext ⟨by omega,by omega⟩
 have c3:((v:Int)=(r:Int))=(r=v):=propext ⟨by omega,by omega⟩
 have c4:((v:Int)=(j:Int))=(j=v):=propext ⟨by omega,by omega⟩
 simp only [c1,c2,c3,c4]
 clear c1 c2 c3 c4
 rcases Classical.propComplete (r = u) with h1 | h1 <;> rcases Classical.propComplete (j = u) with h2 | h2 <;> rcases Classical.propComplete (r = v) with h3 | h3 <;> rcases Classical.propComplete (j = v) with h4 | h4 <;> rcases Classical.propComplete (r = j) with h5 | h5 <;> rcases Classical.propComplete (u = v) with h6 | h6 <;>
  first
  | (exfalso;simp only [eq_iff_iff,iff_true,iff_false] at h1 h2 h3 h4 h5 h6;omega)
  | (simp only [h1,h2,h3,h4,h5,h6,if_true,if_false,and_true,and_false,and_self];omega)
theorem acP (n:Nat) (hn:n≤8) (l:List (List Int)) (hl:l.length≤10) (hE:endsIn n l):∀ (q i:Nat),l.length - i=q→i≤l.length→Ev (fun k=>cC.l0 k (bZ n (bO l i)) l l.length i) (bZ n (bO l l.length)):=by
 intro q
 induction q with
 | zero =>
  intro i hq hi
  obtain rfl:i=l.length:=by omega
  refine Ev.step (fun k=>by simp only [cC.l0];rfl) ?_
  simp only [Int.lt_irrefl,if_false]
  exact Ev.now _
 | succ q ih =>
  intro i hq hi
  have hil:i < l.length:=by omega
  obtain ⟨h2,u,v,hu,hv,hun,gq⟩:=hE i hil
  have xg:=fun r j=>Ru l i r j
  refine Ev.step (fun k=>by simp only [cC.l0];rfl) ?_
  simp only [show ((i:Int) < (l.length:Int)) by omega,if_true,cD i,h2,show ((0:Int) < ((2:Nat):Int)) by omega,show ((1:Int) < ((2:Nat):Int)) by omega,hu,hv,Int.natCast_inj,wI ((i:Int)+1) (by omega)]
  by_cases e:u=v
  ·simp only [e, if_true]
   have nx:=ih (i+1) (by omega) (by omega)
   rw [show bZ n (bO l (i+1))=bZ n (bO l i) from rW fun r j _ _=>by rw [xq n l i u v hu hv r j,if_pos e];omega] at nx
   exact nx
  ·have e' : ¬ v = u := fun h => e h.symm
   simp only [e,if_false]
   refine Ev.step (fun k=>by simp only [cC.l1];rfl) ?_
   simp only [show ((0:Int) < ((2:Nat):Int)) by omega,if_true,Int.le_refl,h2,hu,fo,cD u,lI u n (by omega),nQ hun,fq,gu hun,Option.bind_some,show wrap64 (1 - 0)=1 from jH (by omega) (by omega),show (0:Int)≤1 by omega,show ((1:Int) < ((2:Nat):Int)) by omega,hv,cD v,lI v n (by omega),Int.toNat_natCast,qt,AR,gu gq,show wrap64 (0+1)=1 from jH (by omega) (by omega),e',if_false]
   rw [jH (show -9223372036854775808≤bO l i u u+1 by have:=xg u u;omega) (by have:=xg u u;omega),jH (show -9223372036854775808≤bO l i u v - 1 by have:=xg u v;omega) (by have:=xg u v;omega)]
   refine Ev.step (fun k=>by simp only [cC.l1];rfl) ?_
   simp only [show ((1:Int) < ((2:Nat):Int)) by omega,if_true,show (0:Int)≤1 by omega,h2,hv,fo,cD v,lI v n (by omega),nQ gq,fq,gu gq,Option.bind_some,show wrap64 (1 - 1)=0 from jH (by omega) (by omega),Int.le_refl,show ((0:Int) < ((2:Nat):Int)) by omega,hu,cD u,lI u n (by omega),Int.toNat_natCast,qt,AR,gu hun,show wrap64 (1+1)=2 from jH (by omega) (by omega),e',e,if_false]
   rw [jH (show -9223372036854775808≤bO l i v v+1 by have:=xg v v;omega) (by have:=xg v v;omega),jH (show -9223372036854775808≤bO l i v u - 1 by have:=xg v u;omega) (by have:=xg v u;omega)]
   refine Ev.step (fun k=>by simp only [cC.l1];rfl) ?_
   simp only [show ¬ ((2:Int) < ((2:Nat):Int)) by omega,if_false,wI ((i:Int)+1) (by omega)]
   refine Ev.congr (fun k=>?_) (ih (i+1) (by omega) (by omega))
   rw [show ((i+1:Nat):Int)=(i:Int)+1 by omega]
   congr 1
   refine rW fun r j _ _=>?_
   rw [xq n l i u v hu hv r j,if_neg e]
   by_cases h1:r=v
   ·subst h1
    by_cases h2:j=u
    ·subst h2;first|(simp [e,fun h:r=j=>e h.symm];done)|(simp [e,fun h:r=j=>e h.symm];omega)
    ·by_cases h3 : j = r
     ·subst h3;first|(simp [h2];done)|(simp [h2];omega)
     ·simp [h2,h3,fun h:r=u=>e h.symm]
   ·by_cases h4 : r = u
    ·subst h4
     by_cases h2:j=v
     ·subst h2;first|(simp [h1,fun h:j=r=>h1 h.symm];done)|(simp [h1,fun h:j=r=>h1 h.symm];omega)
     ·by_cases h3 : j = r
      ·subst h3;first|(simp [h1];done)|(simp [h1,h2];done)|(simp [h1];omega)
      ·simp [h1,h2,h3]
    ·simp [h1,h4]
theorem Ry (n:Nat) (hn:n≤8) (l:List (List Int)) (hl:l.length≤10) (hE:endsIn n l):Ev (fun k=>cC.f k n l) (bZ n (bO l l.length)):=by
 unfold cC.f
 refine Ev.bind (ad' n (by omega)) ?_
 rw [Sq,show bZ n (fun _ _=>(0:Int))=bZ n (bO l 0) from rW fun i j _ _=>by simp [bO,jP,mC]]
 exact acP n hn l hl hE l.length 0 (by omega) (by omega)
theorem WV {c:List Int} (h:c.any k6=false) (w:Nat) (hw:w < c.length):-200≤rd c (w:Int)∧rd c (w:Int)≤200:=by
 rw [oX c w hw]
 have:=List.any_eq_false.mp h _ (List.getElem_mem hw)
 unfold k6 at this
 simp at this
 exact this
theorem am3 {a:Int} {c:List Int} (h:mZ a c=true):(c.length:Int)=a∧c.any k6=false:=by
 unfold mZ at h
 simpa using h
theorem Lg (n:Nat) (g:Nat→Int):aG n g ++ [g n]=aG (n+1) g:=by
 unfold aG;rw [List.range_succ,List.map_append];rfl
theorem am9 (n j:Nat):ax n (cK j)≤1:=by
 by_cases h:j < n
 ·rw [ux j h (fun i _ hne=>za hne),FJ];omega
 ·rw [oV (fun i hi=>za (by omega))];omega
/-- n rows of m numbers, by their places. -/
def oC (n m:Nat) (f:Nat→Nat→Int):List (List Int):=(List.range n).map fun i=>aG m (f i)
theorem DO (n m:Nat) (f:Nat→Nat→Int):(oC n m f).length=n:=by simp [oC]
theorem Sr {n m:Nat} {f h:Nat→Nat→Int} (e:∀ i j,i < n→j < m→f i j=h i j):oC n m f=oC n m h:=by
 unfold oC
 apply List.map_congr_left
 intro i hi
 exact kH fun j hj=>e i j (List.mem_range.mp hi) hj
theorem Ss {n m:Nat} (f:Nat→Nat→Int) (u:Nat) (g:Nat→Int):(oC n m f).set u (aG m g)=oC n m (fun i j=>if i=u then g j else f i j):=by
 apply List.ext_getElem
 ·rw [List.length_set,DO,DO]
 intro i h1 h2
 rw [List.getElem_set]
 simp only [oC,List.getElem_map,List.getElem_range]
 by_cases h:u=i
 ·subst h;simp
 ·rw [if_neg h];exact kH fun j _=>by rw [if_neg (fun e=>h e.symm)]
theorem aeD (n m:Nat) (f:Nat→Nat→Int):oC n m f ++ [aG m (f n)]=oC (n+1) m f:=by
 unfold oC;rw [List.range_succ,List.map_append];rfl
theorem St (n:Nat) (f:Nat→Nat→Int):oC n n f=bZ n f:=rfl
theorem aeb (n m:Nat) (f:Nat→Nat→Int) (i j:Nat) (hi:i < n) (hj:j < n):swp (oC n m f) i j=oC n m (fun r=>f (kE i j r)):=by
 have hg:∀ u,u < n→(oC n m f).getD u []=aG m (f u):=fun u hu=>by
  rw [List.getD_eq_getElem?_getD,List.getElem?_eq_getElem (by rw [DO];exact hu)]
  simp [oC]
 unfold swp
 rw [Int.toNat_natCast,Int.toNat_natCast,hg i hi,hg j hj,Ss,Ss]
 refine Sr fun r c _ _=>?_
 unfold kE
 by_cases h1:r=j
 ·subst h1
  by_cases h2:r=i
  ·subst h2;simp
  ·simp [h2]
 ·by_cases h2 : r = i
  ·subst h2;simp [h1]
  ·simp [h1,h2]
theorem Sf {n:Nat} {f:Nat→Int} (h:∀ i,i < n→0≤f i) (k:Nat) (hk:k < n):f k≤ax n f:=by
 have h1:=J' f k hk
 rw [eM (g:=f) (fun i hi=>by unfold akm;have:=h i hi;omega)] at h1
 unfold akm at h1
 omega
/-- The bound of a determinant by its columns. -/
theorem XE {n:Nat}:∀ (M:Nat→Nat→Int),akm (akh n M)≤d_ n (fun b=>ax n (fun a=>akm (M a b))):=by
 induction n with
 | zero=>intro M;exact Int.le_refl _
 | succ n ih =>
  intro M
  rw [nK]
  refine Int.le_trans (FF _ _) ?_
  have abp:d_ (n+1) (fun b=>ax (n+1) (fun a=>akm (M a b)))=ax (n+1) (fun a=>akm (M a 0)) * d_ n (fun b=>ax (n+1) (fun a=>akm (M a (b+1)))):=by
   have gen:∀ (k:Nat) (f:Nat→Int),d_ (k+1) f=f 0 * d_ k (fun b=>f (b+1)):=by
    intro k f
    induction k with
    | zero=>show 1 * f 0=f 0 * 1;rw [Int.one_mul,Int.mul_one]
    | succ k ihk =>
     show d_ (k+1) f * f (k+1)=f 0 * (d_ k (fun b=>f (b+1)) * f (k+1))
     rw [ihk,Int.mul_assoc]
   exact gen n _
  rw [abp,Int.mul_comm,← ju]
  refine uw fun i hi=>?_
  rw [als,als,Rc,Int.one_mul,Int.mul_comm]
  refine Int.mul_le_mul_of_nonneg_right (Int.le_trans (ih _) (amw (fun b _=>oU fun _ _=>iO _) (fun b _=>?_))) (iO _)
  rw [ze n i hi (fun a=>akm (M a (b+1)))]
  have:=iO (M i (b+1))
  omega
theorem Wa (n:Nat) (M:Nat→Nat→Int):akm (akh n M)≤d_ n (fun a=>ax n (fun b=>akm (M a b))):=by
 have h:=aci (n:=n) M (fun _ _=>0)
 have e:=acu (n:=n) M (fun _ _=>0) 1
 simp only [Int.mul_zero,Int.add_zero] at e
 rw [e]
 unfold kU
 simp only [Rd,Int.add_zero] at h
 refine Int.le_trans (FF _ _) (Int.le_trans (uw (fun k _=>?_)) h)
 rw [Int.one_pow,Int.mul_one]
 exact Int.le_refl _
theorem Nu : ∀ x : Nat, x * x * x ≤ 3 ^ x
 | 0=>by decide
 | 1=>by decide
 | 2=>by decide
 | 3=>by decide
 | n+4=>by
  have ih:=Nu (n+3)
  rw [Nat.pow_succ]
  have h0:3 * (n+4)≤4 * (n+3):=by omega
  have h1:=Nat.mul_le_mul (Nat.mul_le_mul h0 h0) h0
  have key:∀ k x:Nat,k * x * (k * x) * (k * x)=k * k * k * (x * x * x):=fun k x=>by ac_rfl
  rw [key,key] at h1
  have h2:(n+3) * (n+3) * (n+3)≤3 ^ (n+3):=ih
  show (n+4) * (n+4) * (n+4)≤3 ^ (n+3) * 3
  generalize (n+4) * (n+4) * (n+4)=x at h1 ⊢
  generalize (n+3) * (n+3) * (n+3)=y at h1 h2
  generalize 3 ^ (n+3)=z at h2 ⊢
  omega
theorem Nw (g : Nat → Int) : ∀ n : Nat, (∀ i, i < n → 0 ≤ g i) → ∃ P S : Nat, d_ n g = (P : Int) ∧ ax n g = (S : Int) ∧ P * P * P ≤ 3 ^ S
 | 0,_=>⟨1,0,rfl,rfl,by decide⟩
 | n+1,h=>by
  obtain ⟨P,S,e1,e2,e3⟩:=Nw g n (fun i hi=>h i (by omega))
  obtain ⟨x,hx⟩:=Int.eq_ofNat_of_zero_le (h n (by omega))
  refine ⟨P * x,S+x,?_,?_,?_⟩
  ·show d_ n g * g n = _
   rw [e1,hx];simp
  ·show ax n g + g n = _
   rw [e2,hx];simp
  ·rw [Nat.pow_add]
   have h2:=Nat.mul_le_mul e3 (Nu x)
   rw [show P * x * (P * x) * (P * x)=P * P * P * (x * x * x) by ac_rfl]
   exact h2
theorem Ex {n:Nat} (f:Nat→Int) (hf:∀ i,i < n→0≤f i) (c j:Nat) (hc:c≤j) (hj:j < n):ax (c+1) (fun b=>f (if b=c then j else b))≤ax n f:=by
 have mono:∀ d m,m+d≤n→ax m f≤ax (m+d) f:=by
  intro d
  induction d with
  | zero=>intro m _;exact Int.le_refl _
  | succ d ih =>
   intro m hm
   have h1:=ih m (by omega)
   have h2:=hf (m+d) (by omega)
   show ax m f≤ax (m+d) f+f (m+d)
   omega
 have h1:ax (c+1) (fun b=>f (if b=c then j else b))=ax c f+f j:=by
  show ax c _+f (if c=c then j else c)=_
  rw [if_pos rfl,eM (g:=f) (fun i hi=>by rw [if_neg (by omega)])]
 have h2:=mono (j - c) c (by omega)
 rw [show c+(j - c)=j by omega] at h2
 have h3:=mono (n - (j+1)) (j+1) (by omega)
 rw [show j+1+(n - (j+1))=n by omega] at h3
 have h4:ax (j+1) f=ax j f+f j:=rfl
 omega
def vN (n:Nat) (A:Nat→Nat→Int):Int:=ax n (fun a=>ax n (fun b=>akm (A a b)))
theorem Wg {n:Nat} (B:Nat→Nat→Int) (hB:vN n B≤40) (c i j:Nat) (hi:c≤i) (hin:i < n) (hj:c≤j) (hjn:j < n):akm (jU c B i j)≤2300000:=by
 unfold jU
 refine Int.le_trans (Wa _ _) ?_
 have h1:d_ (c+1) (fun a=>ax (c+1) (fun b=>akm (B (if a=c then i else a) (if b=c then j else b))))≤d_ (c+1) (fun a=>ax n (fun b=>akm (B (if a=c then i else a) b))) :=
  amw (fun a _=>oU (fun b _=>iO _)) (fun a _=>Ex (fun b=>akm (B (if a=c then i else a) b)) (fun _ _=>iO _) c j hj hjn)
 refine Int.le_trans h1 ?_
 obtain ⟨P,S,e1,e2,e3⟩:=Nw (fun a=>ax n (fun b=>akm (B (if a=c then i else a) b))) (c+1) (fun a _=>oU (fun b _=>iO _))
 have h2:=Ex (n:=n) (fun a=>ax n (fun b=>akm (B a b))) (fun a _=>oU (fun b _=>iO _)) c i hi hin
 rw [e1]
 rw [e2] at h2
 have hS:S≤40:=by unfold vN at hB;omega
 have h3:P * P * P≤3 ^ 40:=Nat.le_trans e3 (Nat.pow_le_pow_right (by decide) hS)
 rcases Nat.lt_or_ge 2300000 P with h4|h4
 ·exfalso
  have h5:2300001 * 2300001 * 2300001≤P * P * P:=Nat.mul_le_mul (Nat.mul_le_mul h4 h4) h4
  have h6:¬ (2300001 * 2300001 * 2300001≤3 ^ 40):=by decide
  exact h6 (Nat.le_trans h5 h3)
 ·omega
/-- By columns: one of them up to 1600, the others small together. -/
def Xu (n:Nat) (B:Nat→Nat→Int) (k:Nat):Prop:=n≤8∧ax n (fun a=>akm (B a k))≤1600∧ax n (fun b=>if b=k then 0 else ax n (fun a=>akm (B a b)))≤40
def okB (n:Nat) (B:Nat→Nat→Int):Prop:=vN n B≤40∨∃ k,k < n∧Xu n B k
theorem Ny : ∀ x : Nat, 7776 * x * 5 ^ x ≤ 15625 * 6 ^ x
 | 0=>by decide
 | 1=>by decide
 | 2=>by decide
 | 3=>by decide
 | 4=>by decide
 | 5=>by decide
 | n+6=>by
  have ih:=Ny (n+5)
  rw [Nat.pow_succ,Nat.pow_succ 6]
  have h0:5 * (n+6)≤6 * (n+5):=by omega
  have h1:=Nat.mul_le_mul_left 7776 (Nat.mul_le_mul_right (5 ^ (n+5)) h0)
  have e1:7776 * (n+6) * (5 ^ (n+5) * 5)=7776 * (5 * (n+6) * 5 ^ (n+5)):=by ac_rfl
  have e2:7776 * (6 * (n+5) * 5 ^ (n+5))=6 * (7776 * (n+5) * 5 ^ (n+5)):=by ac_rfl
  rw [e1]
  refine Nat.le_trans h1 ?_
  rw [e2]
  refine Nat.le_trans (Nat.mul_le_mul_left 6 ih) ?_
  have e3:6 * (15625 * 6 ^ (n+5))=15625 * (6 ^ (n+5) * 6):=by ac_rfl
  rw [e3]
  exact Nat.le_refl _
theorem Nx (g : Nat → Int) : ∀ n : Nat, (∀ i, i < n → 0 ≤ g i) → ∃ P S : Nat, d_ n g = (P : Int) ∧ ax n g = (S : Int) ∧ P * (7776 ^ n * 5 ^ S) ≤ 15625 ^ n * 6 ^ S
 | 0,_=>⟨1,0,rfl,rfl,by decide⟩
 | n+1,h=>by
  obtain ⟨P,S,e1,e2,e3⟩:=Nx g n (fun i hi=>h i (by omega))
  obtain ⟨x,hx⟩:=Int.eq_ofNat_of_zero_le (h n (by omega))
  refine ⟨P * x,S+x,?_,?_,?_⟩
  ·show d_ n g * g n = _
   rw [e1,hx];simp
  ·show ax n g + g n = _
   rw [e2,hx];simp
  ·have h2 := Nat.mul_le_mul e3 (Ny x)
   rw [Nat.pow_add 5,Nat.pow_add 6,Nat.pow_succ,Nat.pow_succ]
   have f1:P * x * (7776 ^ n * 7776 * (5 ^ S * 5 ^ x))=P * (7776 ^ n * 5 ^ S) * (7776 * x * 5 ^ x):=by ac_rfl
   have f2:15625 ^ n * 15625 * (6 ^ S * 6 ^ x)=15625 ^ n * 6 ^ S * (15625 * 6 ^ x):=by ac_rfl
   rw [f1,f2]
   exact h2
theorem Wj:∀ n:Nat,n < 9→∀ S:Nat,S < 42→15625 ^ n * 6 ^ S≤800000 * (7776 ^ n * 5 ^ S):=by decide
theorem Wi (g:Nat→Int) (n:Nat) (hn:n≤8) (hg:∀ i,i < n→0≤g i) (hs:ax n g≤41):d_ n g≤800000:=by
 obtain ⟨P,S,e1,e2,e3⟩:=Nx g n hg
 have h1:=Nat.le_trans e3 (Wj n (by omega) S (by omega))
 have h2:0 < 7776 ^ n * 5 ^ S:=Nat.mul_pos (Nat.pow_pos (by decide)) (Nat.pow_pos (by decide))
 have h3:=Nat.le_of_mul_le_mul_right h1 h2
 omega
theorem Wh (g:Nat→Int) (k:Nat) (X:Int) (hX:0≤X) (h1:1≤X):∀ n:Nat,(∀ i,i < n→0≤g i)→(∀ i,i < n→i=k→g i≤X)→d_ n g≤(if k < n then X else 1) * d_ n (fun i=>if i=k then 1 else g i):=by
 intro n
 induction n with
 | zero=>intro _ _;show (1:Int)≤(if k < 0 then X else 1) * 1;rw [if_neg (by omega)];decide
 | succ n ih =>
  intro h0 hk
  have h2:=ih (fun i hi=>h0 i (by omega)) (fun i hi=>hk i (by omega))
  have h3:0≤d_ n (fun i=>if i=k then 1 else g i):=Kk fun i hi=>by
   by_cases e:i=k
   ·rw [if_pos e];decide
   ·rw [if_neg e];exact h0 i (by omega)
  show d_ n g * g n≤_ * (d_ n (fun i=>if i=k then 1 else g i) * (if n=k then 1 else g n))
  by_cases e:n=k
  ·rw [if_neg (by omega), Int.one_mul] at h2
   rw [if_pos e,if_pos (by omega),Int.mul_one,Int.mul_comm X]
   exact Int.mul_le_mul h2 (hk n (by omega) e) (h0 n (by omega)) h3
  ·have e2:(if k < n+1 then X else 1)=(if k < n then X else 1):=by
    by_cases e3:k < n
    ·rw [if_pos e3,if_pos (by omega)]
    ·rw [if_neg e3,if_neg (by omega)]
   rw [if_neg e,e2,← Int.mul_assoc]
   exact Int.mul_le_mul_of_nonneg_right h2 (h0 n (by omega))
theorem alM {n:Nat} (B:Nat→Nat→Int) (hB:okB n B) (c i j:Nat) (hi:c≤i) (hin:i < n) (hj:c≤j) (hjn:j < n):akm (jU c B i j)≤2000000000:=by
 rcases hB with hB|⟨k,hk,vG,h1,h2⟩
 ·exact Int.le_trans (Wg B hB c i j hi hin hj hjn) (by decide)
 ·unfold jU
  refine Int.le_trans (XE _) ?_
  have h3:d_ (c+1) (fun b=>ax (c+1) (fun a=>akm (B (if a=c then i else a) (if b=c then j else b))))≤d_ (c+1) (fun b=>ax n (fun a=>akm (B a (if b=c then j else b)))) :=
   amw (fun b _=>oU (fun a _=>iO _)) (fun b _=>Ex (fun a=>akm (B a (if b=c then j else b))) (fun _ _=>iO _) c i hi hin)
  refine Int.le_trans h3 ?_
  have h4:∃ k2:Nat,∀ b,b < c+1→((if b=c then j else b)=k↔b=k2):=by
   by_cases e:k < c
   ·exact ⟨k,fun b hb=>by split<;>omega⟩
   ·by_cases e2 : j = k
    ·exact ⟨c,fun b hb=>by split<;>omega⟩
    ·exact ⟨c+1,fun b hb=>by split<;>omega⟩
  obtain ⟨k2,hk2⟩:=h4
  refine Int.le_trans (Wh _ k2 1600 (by decide) (by decide) (c+1) (fun b _=>oU (fun a _=>iO _)) (fun b hb e=>by rw [(hk2 b hb).2 e];exact h1)) ?_
  have h5:d_ (c+1) (fun b=>if b=k2 then 1 else ax n (fun a=>akm (B a (if b=c then j else b))))≤800000:=by
   have h6:∀ b,0≤(fun b=>if b=k then (0:Int) else ax n (fun a=>akm (B a b))) b:=fun b=>by
    show 0≤if b=k then (0:Int) else _
    split
    ·decide
    ·exact oU (fun a _=>iO _)
   have h7:=Ex (n:=n) _ (fun b _=>h6 b) c j hj hjn
   have h8:ax (c+1) (fun b=>if b=k2 then 0 else ax n (fun a=>akm (B a (if b=c then j else b))))≤40:=by
    refine Int.le_trans (Int.le_of_eq (eM fun b hb=>?_)) (Int.le_trans h7 h2)
    by_cases e:b=k2
    ·rw [if_pos e,if_pos ((hk2 b hb).2 e)]
    ·rw [if_neg e,if_neg (fun e2=>e ((hk2 b hb).1 e2))]
   refine Wi _ (c+1) (by omega) (fun b _=>?_) ?_
   ·by_cases e : b = k2
    ·rw [if_pos e];decide
    ·rw [if_neg e];exact oU (fun a _=>iO _)
   ·refine Int.le_trans (Int.le_of_eq (eM (g := fun b => (if b = k2 then 0 else ax n (fun a => akm (B a (if b = c then j else b)))) + (if b = k2 then 1 else 0)) fun b _ => ?_)) ?_
    ·by_cases e : b = k2
     ·rw [if_pos e,if_pos e,if_pos e];rfl
     ·rw [if_neg e,if_neg e,if_neg e,Int.add_zero]
    ·rw [uv]
     have h11:ax (c+1) (fun b=>if b=k2 then (1:Int) else 0)≤1:=am9 (c+1) k2
     omega
  have h9:(if k2 < c+1 then (1600:Int) else 1)≤1600:=by split<;>decide
  have h10:(0:Int)≤d_ (c+1) (fun b=>if b=k2 then 1 else ax n (fun a=>akm (B a (if b=c then j else b)))):=Kk fun b _=>by
   by_cases e:b=k2
   ·rw [if_pos e];decide
   ·rw [if_neg e];exact oU (fun a _=>iO _)
  exact Int.le_trans (Int.mul_le_mul h9 h5 h10 (by decide)) (by decide)
/-- Where the elimination without fractions stands at the column c. -/
structure BI (n:Nat) (A:Nat→Nat→Int) (c:Nat) (s p:Int) (T:Nat→Nat→Int):Prop where
 ex:∃ B:Nat→Nat→Int,okB n B∧akh n A=s * akh n B∧p=akh c B∧∀ i j,c≤i→i < n→c≤j→j < n→T i j=jU c B i j
 sg:s=1∨s=-1
 p0:p ≠ 0
theorem BI.start {n:Nat} (A:Nat→Nat→Int) (hA:okB n A):BI n A 0 1 1 A :=
 ⟨⟨A,hA,by rw [Int.one_mul],rfl,fun i j _ _ _ _=>(acA A i j).symm⟩,.inl rfl,by decide⟩
theorem BI.none {n:Nat} {A:Nat→Nat→Int} {c:Nat} {s p:Int} {T:Nat→Nat→Int} (h:BI n A c s p T) (hc:c < n) (h0:∀ i,c≤i→i < n→T i c=0):akh n A=0:=by
 obtain ⟨⟨B,hB,hd,hp,hT⟩,_,vI⟩:=h
 rw [hd,acz B c hc (by rw [← hp];exact vI) (fun i hi hin=>by rw [← hT i c hi hin (Nat.le_refl _) hc];exact h0 i hi hin),Int.mul_zero]
theorem BI.last {n:Nat} {A:Nat→Nat→Int} {s p:Int} {T:Nat→Nat→Int} (h:BI n A n s p T):akh n A=s * p:=by
 obtain ⟨⟨B,hB,hd,hp,hT⟩,_,vI⟩:=h
 rw [hd,hp]
theorem K7 {n:Nat} (f:Nat→Int) (i c:Nat) (hi:i < n) (hc:c < n) (hic:i ≠ c):ax n (fun r=>f (kE i c r))=ax n f:=by
 have h:=Rt (n:=n) (f:=fun r=>f (kE i c r) - f r) i c hi hc hic (fun r _ h1 h2=>by simp [kE,h1,h2])
 rw [FL] at h
 simp only [kE,if_true,if_neg (show ¬ (c=i) from fun e=>hic e.symm)] at h
 unfold kE
 omega
theorem BI.swap {n:Nat} {A:Nat→Nat→Int} {c:Nat} {s p:Int} {T:Nat→Nat→Int} (h:BI n A c s p T) (i:Nat) (hci:c < i) (hi:i < n):BI n A c (-s) p (fun r=>T (kE i c r)):=by
 obtain ⟨⟨B,hB,hd,hp,hT⟩,hs,vI⟩:=h
 have Cz:∀ a,a < c→kE i c a=a:=fun a ha=>by unfold kE;rw [if_neg (by omega),if_neg (by omega)]
 refine ⟨⟨fun r=>B (kE i c r),?_,?_,?_,?_⟩,by omega,vI⟩
 ·rcases hB with hB | ⟨k, hk, vG, h1, h2⟩
  ·refine .inl ?_
   unfold vN
   have:=K7 (n:=n) (fun a=>ax n (fun b=>akm (B a b))) i c hi (by omega) (by omega)
   rw [this];exact hB
  ·refine .inr ⟨k, hk, vG, ?_, ?_⟩
   ·have := K7 (n := n) (fun a => akm (B a k)) i c hi (by omega) (by omega)
    rw [this];exact h1
   ·refine Int.le_trans (Int.le_of_eq (eM fun b _ => ?_)) h2
    have:=K7 (n:=n) (fun a=>akm (B a b)) i c hi (by omega) (by omega)
    rw [this]
 ·have he:akh n (fun r=>B (kE i c r))=- akh n B:=by
   rw [← Rl B i c hi (by omega) (by omega)]
   refine ja (fun a b _ _=>?_)
   unfold kE bp
   by_cases h1:a=c
   ·subst h1
    by_cases h2:a=i
    ·omega
    ·simp [h2]
   ·by_cases h2 : a = i
    ·subst h2;simp [h1]
    ·simp [h1,h2]
  rw [he,hd,Int.neg_mul_neg]
 ·rw [hp]
  exact ja (fun a b ha _=>by rw [Cz a ha])
 ·intro r j hr hrn hj hjn
  have nj:c≤kE i c r∧kE i c r < n:=by unfold kE;(repeat' split)<;>omega
  show T (kE i c r) j=_
  rw [hT _ j nj.1 nj.2 hj hjn]
  unfold jU
  refine ja (fun a b ha hb=>?_)
  by_cases h1:a=c
  ·rw [if_pos h1,if_pos h1]
  ·rw [if_neg h1,if_neg h1];show B a _=B (kE i c a) _;rw [Cz a (by omega)]
theorem uV {x b:Int} (h:akm x≤b):-b≤x∧x≤b:=by unfold akm at h;omega
/-- One column: what each cell below gets. -/
theorem BI.step {n : Nat} {A : Nat → Nat → Int} {c : Nat} {s p : Int} {T : Nat → Nat → Int} (h : BI n A c s p T) (hc : c < n) (h0 : T c c ≠ 0) :
  ∃ N : Nat → Nat → Int, (∀ i j, c < i → i < n → c < j → j < n → wrap64 (Int.tdiv (wrap64 (wrap64 (T i j * T c c) - wrap64 (T i c * T c j))) p) = N i j) ∧
   ∀ S:Nat→Nat→Int,(∀ i j,c < i→i < n→c < j→j < n→S i j=N i j)→BI n A (c+1) s (T c c) S:=by
 obtain ⟨⟨B,hB,hd,hp,hT⟩,hs,vI⟩:=h
 refine ⟨jU (c+1) B,?_,?_⟩
 ·intro i j hi hin hj hjn
  have QM:=acI c B (by rw [← hp];exact vI) i j
  rw [← hp,← hT c c (Nat.le_refl _) hc (Nat.le_refl _) hc,← hT i j (by omega) hin (by omega) hjn,← hT i c (by omega) hin (Nat.le_refl _) hc,← hT c j (Nat.le_refl _) hc (by omega) hjn] at QM
  have b1:=uV (alM B hB c c c (Nat.le_refl _) hc (Nat.le_refl _) hc)
  have b2:=uV (alM B hB c i j (by omega) hin (by omega) hjn)
  have b3:=uV (alM B hB c i c (by omega) hin (Nat.le_refl _) hc)
  have b4:=uV (alM B hB c c j (Nat.le_refl _) hc (by omega) hjn)
  have b5:=uV (alM B hB (c+1) i j (by omega) hin (by omega) hjn)
  rw [← hT c c (Nat.le_refl _) hc (Nat.le_refl _) hc] at b1
  rw [← hT i j (by omega) hin (by omega) hjn] at b2
  rw [← hT i c (by omega) hin (Nat.le_refl _) hc] at b3
  rw [← hT c j (Nat.le_refl _) hc (by omega) hjn] at b4
  have m1:=uV (show akm (T i j * T c c)≤2000000000 * 2000000000 by rw [als];exact Int.mul_le_mul (by unfold akm;omega) (by unfold akm;omega) (iO _) (by omega))
  have m2:=uV (show akm (T i c * T c j)≤2000000000 * 2000000000 by rw [als];exact Int.mul_le_mul (by unfold akm;omega) (by unfold akm;omega) (iO _) (by omega))
  rw [jH (n:=T i j * T c c) (by omega) (by omega),jH (n:=T i c * T c j) (by omega) (by omega),jH (n:=T i j * T c c - T i c * T c j) (by omega) (by omega)]
  rw [show T i j * T c c - T i c * T c j=p * jU (c+1) B i j by rw [QM,Int.mul_comm (T i j)],Int.mul_tdiv_cancel_left _ vI]
  exact jH (by omega) (by omega)
 ·intro S hS
  refine ⟨⟨B,hB,hd,?_,fun i j hi hin hj hjn=>hS i j (by omega) hin (by omega) hjn⟩,hs,h0⟩
  rw [hT c c (Nat.le_refl _) hc (Nat.le_refl _) hc,Kf]
theorem BI.pb {n:Nat} {A:Nat→Nat→Int} {c:Nat} {s p:Int} {T:Nat→Nat→Int} (h:BI n A c s p T) (hc:c≤n):-2000000000≤p∧p≤2000000000:=by
 obtain ⟨⟨B,hB,hd,hp,hT⟩,_,vI⟩:=h
 cases c with
 | zero=>rw [hp];show -2000000000≤(1:Int)∧(1:Int)≤2000000000;omega
 | succ c=>rw [hp,← Kf];exact uV (alM B hB c c c (Nat.le_refl _) (by omega) (Nat.le_refl _) (by omega))
def bT (N T:Nat→Nat→Int) (c i m:Nat):Nat→Nat→Int:=fun r q=>if c < q∧(c < r∧r < i∨r=i∧q < m) then N r q else T r q
theorem Wf (n : Nat) (hn : n ≤ 1048576) (N T : Nat → Nat → Int) (c : Nat) (hc : c < n) (s p : Int) (hp : p ≠ 0)
  (hN:∀ i j,c < i→i < n→c < j→j < n→wrap64 (Int.tdiv (wrap64 (wrap64 (T i j * T c c) - wrap64 (T i c * T c j))) p)=N i j) (i:Nat) (hci:c < i) (hi:i < n) (R:Int)
  (next:Ev (fun k=>bw.l2 k (bZ n (bT N T c (i+1) 0)) s p ((i:Int)+1) n c c) R) :
  ∀ (d j:Nat),n - j=d→j≤n→c < j→Ev (fun k=>bw.l3 k (bZ n (bT N T c i j)) s p i j n c c) R:=by
 intro d
 induction d with
 | zero =>
  intro j hd hj _
  obtain rfl:j=n:=by omega
  refine Ev.step (fun q=>by simp only [bw.l3];rfl) ?_
  simp only [fo,Int.lt_irrefl,if_false,wI ((i:Int)+1) (by omega)]
  refine Ev.congr (fun q=>?_) next
  congr 1
  refine rW fun r q hr hq=>?_
  unfold bT
  by_cases h1:c < q∧(c < r∧r < i∨r=i∧q < j)
  ·rw [if_pos h1,if_pos ⟨h1.1,by omega⟩]
  ·rw [if_neg h1,if_neg (by omega)]
 | succ d ih =>
  intro j hd hj ZY
  have hjn:j < n:=by omega
  refine Ev.step (fun q=>by simp only [bw.l3];rfl) ?_
  have e1:bT N T c i j i j=T i j:=by unfold bT;rw [if_neg (by omega)]
  have e2:bT N T c i j c c=T c c:=by unfold bT;rw [if_neg (by omega)]
  have e3:bT N T c i j i c=T i c:=by unfold bT;rw [if_neg (by omega)]
  have e4:bT N T c i j c j=T c j:=by unfold bT;rw [if_neg (by omega)]
  simp only [fo,lI j n (by omega),lI i n (by omega),lI c n (by omega),cD i,cD j,cD c,if_true,if_false,nQ hi,nQ hc,fq,hp,gu hjn,gu hc,e1,e2,e3,e4,hN i j hci hi ZY hjn,Int.toNat_natCast,qt,AR,wI ((j:Int)+1) (by omega)]
  refine Ev.congr (fun q=>?_) (ih (j+1) (by omega) (by omega) (by omega))
  rw [show ((j+1:Nat):Int)=(j:Int)+1 by omega]
  congr 1
  refine rW fun r q hr hq=>?_
  by_cases h1:r=i
  ·subst h1
   rw [if_pos rfl]
   by_cases h2:q=j
   ·subst h2
    rw [if_pos rfl]
    unfold bT;rw [if_pos (by omega)]
   ·rw [if_neg h2]
    unfold bT
    by_cases h3:c < q∧(c < r∧r < r∨r=r∧q < j)
    ·rw [if_pos h3,if_pos (by omega)]
    ·rw [if_neg h3,if_neg (by omega)]
  ·rw [if_neg h1]
   unfold bT
   by_cases h3:c < q∧(c < r∧r < i∨r=i∧q < j)
   ·rw [if_pos h3,if_pos (by omega)]
   ·rw [if_neg h3,if_neg (by omega)]
theorem We (n : Nat) (hn : n ≤ 1048576) (N T : Nat → Nat → Int) (c : Nat) (hc : c < n) (s p : Int) (hp : p ≠ 0)
  (hN:∀ i j,c < i→i < n→c < j→j < n→wrap64 (Int.tdiv (wrap64 (wrap64 (T i j * T c c) - wrap64 (T i c * T c j))) p)=N i j) (R:Int)
  (next:Ev (fun k=>bw.l1 k (bZ n (bT N T c n 0)) s (T c c) n ((c:Int)+1)) R) :
  ∀ (d i:Nat),n - i=d→i≤n→c < i→Ev (fun k=>bw.l2 k (bZ n (bT N T c i 0)) s p i n c c) R:=by
 intro d
 induction d with
 | zero =>
  intro i hd hi _
  obtain rfl:i=n:=by omega
  refine Ev.step (fun q=>by simp only [bw.l2];rfl) ?_
  have e2:bT N T c i 0 c c=T c c:=by unfold bT;rw [if_neg (by omega)]
  simp only [fo,Int.lt_irrefl,if_false,cD c,lI c i (by omega),if_true,nQ hc,fq,gu hc,e2,wI ((c:Int)+1) (by omega)]
  exact next
 | succ d ih =>
  intro i hd hi hci
  have hin:i < n:=by omega
  refine Ev.step (fun q=>by simp only [bw.l2];rfl) ?_
  simp only [fo,lI i n (by omega),if_true,wI ((c:Int)+1) (by omega)]
  have h:=ih (i+1) (by omega) (by omega) (by omega)
  rw [show ((i+1:Nat):Int)=(i:Int)+1 by omega] at h
  have h2:=Wf n hn N T c hc s p hp hN i hci hin R h (n - (c+1)) (c+1) rfl (by omega) (by omega)
  rw [show ((c+1:Nat):Int)=(c:Int)+1 by omega] at h2
  refine Ev.congr (fun q=>?_) h2
  congr 1
  refine rW fun r q hr hq=>?_
  unfold bT
  by_cases h3:c < q∧(c < r∧r < i∨r=i∧q < 0)
  ·rw [if_pos h3,if_pos (by omega)]
  ·rw [if_neg h3,if_neg (by omega)]
def Dv (c:Int) (x:List Int):Option Bool:=if 0≤c then (if c < (x.length:Int) then some (rd x c != 0) else none) else none
theorem ac7 (n c:Nat) (hc:c < n) (g:Nat→Int):Dv (c:Int) (aG n g)=some (g c != 0):=by
 unfold Dv
 rw [if_pos (by omega),if_pos (by rw [fq];omega),gu hc]
theorem abO (k:Nat) (l:List (List Int)) (c:Int):oZ.f k l c=mJ (Dv c) l 0:=rfl
theorem Wb (n : Nat) (T : Nat → Nat → Int) (c : Nat) (hc : c < n) : ∀ (d r z : Nat), n - r = d → r ≤ n →
  (∃ i,r≤i∧i < n∧T i c ≠ 0∧mJ (Dv (c:Int)) ((bZ n T).drop r) z=some ((z+(i - r):Nat):Int)) ∨
  ((∀ i,r≤i→i < n→T i c=0)∧mJ (Dv (c:Int)) ((bZ n T).drop r) z=some (-1)):=by
 intro d
 induction d with
 | zero =>
  intro r z hd hr
  refine .inr ⟨fun i h1 h2=>by omega,?_⟩
  rw [List.drop_eq_nil_of_le (by rw [fo];omega)]
  rfl
 | succ d ih =>
  intro r z hd hr
  have hl:r < (bZ n T).length:=by rw [fo];omega
  have hg:(bZ n T)[r]=aG n (T r):=by simp [bZ]
  rw [List.drop_eq_getElem_cons hl,hg]
  simp only [mJ,ac7 n c hc,Option.bind_some]
  by_cases h0:T r c=0
  ·simp only [h0, bne_self_eq_false, Bool.false_eq_true, if_false]
   rcases ih (r+1) (z+1) (by omega) (by omega) with ⟨i,h1,h2,h3,h4⟩|⟨h1,h2⟩
   ·exact .inl ⟨i,by omega,h2,h3,by rw [h4];congr 2;omega⟩
   ·refine .inr ⟨fun i h3 h4 => ?_, h2⟩
    by_cases h5:i=r
    ·rw [h5];exact h0
    ·exact h1 i (by omega) h4
  ·have hb : (T r c != 0) = true := by simp [h0]
   simp only [hb,if_true]
   exact .inl ⟨r,Nat.le_refl _,by omega,h0,by congr 2;omega⟩
theorem aea (i c r:Nat):kE i c r=kE c i r:=by unfold kE;(repeat' split)<;>omega
theorem Nv (n : Nat) (hn : n ≤ 1048576) (A : Nat → Nat → Int) (c : Nat) (hc : c < n) (ih : ∀ (s p : Int) (T : Nat → Nat → Int), BI n A (c + 1) s p T → Ev (fun k => bw.l1 k (bZ n T) s p n ((c : Int) + 1)) (akh n A))
  (s p:Int) (T:Nat→Nat→Int) (h:BI n A c s p T) (h0:T c c ≠ 0):Ev (fun k=>bw.j2 k (bZ n T) s p n c c) (akh n A):=by
 obtain ⟨N,hN,hS⟩:=BI.step h hc h0
 refine Ev.step (fun q=>by simp only [bw.j2];rfl) ?_
 have h1:=ih s (T c c) (bT N T c n 0) (hS _ (fun i j hi hin hj hjn=>by unfold bT;rw [if_pos ⟨hj,.inl ⟨hi,hin⟩⟩]))
 have h2:=We n hn N T c hc s p h.p0 hN _ h1 (n - (c+1)) (c+1) rfl (by omega) (by omega)
 rw [show ((c+1:Nat):Int)=(c:Int)+1 by omega] at h2
 simp only [wI ((c:Int)+1) (by omega)]
 refine Ev.congr (fun q=>?_) h2
 congr 1
 refine rW fun r q hr hq=>?_
 unfold bT
 rw [if_neg (by omega)]
theorem Wd (n:Nat) (hn:n≤1048576) (A:Nat→Nat→Int):∀ (d c:Nat),n - c=d→c≤n→∀ (s p:Int) (T:Nat→Nat→Int),BI n A c s p T→Ev (fun k=>bw.l1 k (bZ n T) s p n c) (akh n A):=by
 intro d
 induction d with
 | zero =>
  intro c hd hc s p T h
  obtain rfl:c=n:=by omega
  refine Ev.step (fun q=>by simp only [bw.l1];rfl) ?_
  have hb:=BI.pb h (Nat.le_refl _)
  have hl:=BI.last h
  have hw:wrap64 (s * p)=s * p:=by rcases h.sg with e|e<;>rw [e]<;>exact jH (by omega) (by omega)
  simp only [Int.lt_irrefl,if_false,hw]
  rw [hl]
  exact Ev.now _
 | succ d ih =>
  intro c hd hc s p T h
  have vu:c < n:=by omega
  refine Ev.step (fun q=>by simp only [bw.l1,abO];rfl) ?_
  have ih2:∀ (s p:Int) (T:Nat→Nat→Int),BI n A (c+1) s p T→Ev (fun k=>bw.l1 k (bZ n T) s p n ((c:Int)+1)) (akh n A):=fun s p T h=>by
   have:=ih (c+1) (by omega) (by omega) s p T h
   rwa [show ((c+1:Nat):Int)=(c:Int)+1 by omega] at this
  rcases Wb n T c vu (n - c) c 0 rfl hc with ⟨i,h1,h2,h3,h4⟩|⟨h1,h2⟩
  ·simp only [lI c n (by omega), cD c, fo, show ((c : Int) ≤ (n : Int)) by omega, if_true, Int.toNat_natCast]
   simp only [Nat.zero_add] at h4
   rw [h4]
   simp only [Option.bind_some,show ¬ (((i - c:Nat):Int) < 0) by omega,if_false]
   by_cases hic:i=c
   ·subst hic
    simp only [Nat.sub_self,show ¬ (((0:Nat):Int) > 0) by omega,if_false]
    exact Nv n hn A i vu ih2 s p T h h3
   ·have hs : wrap64 (-s) = -s := by rcases h.sg with e | e <;> rw [e] <;> exact jH (by omega) (by omega)
    simp only [show (((i - c:Nat):Int) > 0) by omega,show (c:Int)+((i - c:Nat):Int)=(i:Int) by omega,wI ((i:Int)) (by omega),cD i,lI i n (by omega),if_true,hs]
    have h5:=BI.swap h i (by omega) h2
    have e:swp (bZ n T) c i=bZ n (fun r=>T (kE i c r)):=by
     rw [← St,aeb n n T c i vu h2,← St]
     refine Sr fun r q _ _=>?_
     rw [aea]
    rw [e]
    refine Nv n hn A c vu ih2 (-s) p _ h5 ?_
    show T (kE i c c) c ≠ 0
    rw [show kE i c c=i by unfold kE;rw [if_neg (by omega),if_pos rfl]]
    exact h3
  ·simp only [lI c n (by omega), cD c, fo, show ((c : Int) ≤ (n : Int)) by omega, if_true, Int.toNat_natCast]
   rw [h2,BI.none h vu h1]
   simp only [Option.bind_some,show ((-1:Int) < 0) by omega,if_true]
   exact Ev.now _
theorem Wc (n:Nat) (hn:n≤1048576) (A:Nat→Nat→Int) (hA:okB n A):∀ (d i:Nat),n - i=d→i≤n→Ev (fun k=>bw.l0 k (oC i n A) 1 1 (bZ n A) n i) (akh n A):=by
 intro d
 induction d with
 | zero =>
  intro i hd hi
  obtain rfl:i=n:=by omega
  refine Ev.step (fun q=>by simp only [bw.l0];rfl) ?_
  simp only [Int.lt_irrefl,if_false,DO]
  exact Wd i hn A i 0 (by omega) (by omega) 1 1 A (BI.start A hA)
 | succ d ih =>
  intro i hd hi
  have hin:i < n:=by omega
  refine Ev.step (fun q=>by simp only [bw.l0];rfl) ?_
  simp only [lI i n (by omega),cD i,if_true,fo,nQ hin,W5 (aG n (A i)) (by rw [fq];omega),Option.bind_some,DO,show i < 5864062014805 by omega,aeD,wI ((i:Int)+1) (by omega)]
  have h:=ih (i+1) (by omega) (by omega)
  rwa [show ((i+1:Nat):Int)=(i:Int)+1 by omega] at h
theorem SC (n:Nat) (hn:n≤1048576) (A:Nat→Nat→Int) (hA:okB n A):Ev (fun k=>bw.f k (bZ n A)) (akh n A):=by
 unfold bw.f
 rw [fo]
 exact Wc n hn A hA n 0 (by omega) (by omega)
theorem EK {n:Nat} (hn:1≤n) (A:Nat→Nat→Int) (hA:okB n A):-2000000000≤akh n A∧akh n A≤2000000000:=by
 obtain ⟨m,rfl⟩:∃ m,n=m+1:=⟨n - 1,by omega⟩
 rw [← Kf]
 exact uV (alM A hA m m m (Nat.le_refl _) (by omega) (Nat.le_refl _) (by omega))
def aku : Nat → (Nat → Int) → Int
 | 0,_=>0
 | n+1,f=>aku n f+f n
theorem o_ (n:Nat) (f:Nat→Int):aku (n+1) f=aku n f+f n:=rfl
theorem mq {n:Nat} {f g:Nat→Int} (h:∀ i,i < n→f i=g i):aku n f=aku n g:=by
 induction n with
 | zero=>rfl
 | succ n ih=>rw [o_,o_,ih (fun i hi=>h i (by omega)),h n (by omega)]
theorem rF {n:Nat} {f g:Nat→Int} (h:∀ i,i < n→f i≤g i):aku n f≤aku n g:=by
 induction n with
 | zero=>simp [aku]
 | succ n ih =>
  have h1:=ih (fun i hi=>h i (by omega))
  have h2:=h n (by omega)
  rw [o_,o_]
  omega
theorem V2 {n:Nat} {f:Nat→Int} (h:∀ i,i < n→-20≤f i∧f i≤20):-(20 * (n:Int))≤aku n f∧aku n f≤20 * n:=by
 induction n with
 | zero=>simp [aku]
 | succ n ih =>
  have h1:=ih (fun i hi=>h i (by omega))
  have h2:=h n (by omega)
  rw [o_]
  omega
theorem rE (n:Nat) (f g:Nat→Int):aku n (fun i=>f i+g i)=aku n f+aku n g:=by
 induction n with
 | zero=>rfl
 | succ n ih=>rw [o_,o_,o_,ih];omega
theorem Bw (n:Nat) (f:Nat→Int):aku n (fun i=>-f i)=-aku n f:=by
 induction n with
 | zero=>rfl
 | succ n ih=>rw [o_,o_,ih];omega
theorem Bx (n:Nat):aku n (fun _=>0)=0:=by
 induction n with
 | zero=>rfl
 | succ n ih=>rw [o_,ih];rfl
theorem ak5 {n u:Nat} (hu:u < n) (x:Int):aku n (fun j=>if j=u then x else 0)=x:=by
 induction n with
 | zero=>omega
 | succ n ih =>
  rw [o_]
  by_cases h:n=u
  ·subst h
   rw [if_pos rfl,mq (g:=fun _=>0) (fun i hi=>by rw [if_neg (by omega)]),Bx]
   omega
  ·rw [if_neg h, ih (by omega)]
   omega
theorem FB (p q:Prop) [Decidable p] [Decidable q]:(if p∧q then (1:Int) else 0)=if q∧p then 1 else 0:=by
 by_cases hp:p<;>by_cases hq:q<;>simp [hp,hq]
/-- The Laplacian is the same read either way. -/
theorem acN {n:Nat} {l:List (List Int)} (hE:endsIn n l):∀ i,i≤l.length→∀ r j,bO l i r j=bO l i j r:=by
 intro i
 induction i with
 | zero =>
  intro _ r j
  unfold bO
  by_cases h:r=j
  ·subst h;rfl
  ·rw [if_neg h,if_neg (fun e=>h e.symm)];rfl
 | succ i ih =>
  intro hi r j
  obtain ⟨_,u,v,hu,hv,_,_⟩:=hE i (by omega)
  rw [xq n l i u v hu hv r j,xq n l i u v hu hv j r,ih (by omega) r j]
  by_cases h:u=v
  ·rw [if_pos h,if_pos h]
  ·rw [if_neg h, if_neg h, FB (j = u) (r = u), FB (j = u) (r = v), FB (j = v) (r = v), FB (j = v) (r = u)]
   omega
/-- A row of the Laplacian comes to nothing. -/
theorem acM {n:Nat} {l:List (List Int)} (hE:endsIn n l):∀ i,i≤l.length→∀ r,aku n (fun j=>bO l i r j)=0:=by
 intro i
 induction i with
 | zero =>
  intro _ r
  rw [mq (g:=fun _=>0) (fun j _=>by unfold bO;split<;>rfl),Bx]
 | succ i ih =>
  intro hi r
  obtain ⟨_,u,v,hu,hv,hun,gq⟩:=hE i (by omega)
  rw [mq (g:=fun j=>bO l i r j+((if j=u then (if u=v then 0 else (if r=u then 1 else 0) - (if r=v then 1 else 0)) else 0)+(if j=v then (if u=v then 0 else (if r=v then 1 else 0) - (if r=u then 1 else 0)) else 0))) (fun j _=>by
   rw [xq n l i u v hu hv r j]
   by_cases h:u=v
   ·simp [h]
   ·by_cases h1:r=u<;>by_cases h2:r=v<;>by_cases h3:j=u<;>by_cases h4:j=v<;>simp [h,h1,h2,h3,h4]<;>omega),rE,ih (by omega),rE,ak5 hun,ak5 gq]
  by_cases h:u=v
  ·simp [h]
  ·simp only [if_neg h];omega
theorem Rx {l:List (List Int)} (i u v:Nat) (h:u ≠ v):bO l i u v≤0:=by
 have:=Bs l (2 * i) u v
 unfold bO
 rw [if_neg h]
 omega
/-- What comes to v from outside of S. -/
def akY (L:Nat→Nat→Int) (n:Nat) (S:Nat→Bool) (v:Nat):Int:=aku n (fun w=>if S w=true then 0 else -(L v w))
def lawful (L:Nat→Nat→Int) (c:Nat→Int) (n:Nat) (S:Nat→Bool):Prop:=∀ v,v < n→S v=true→akY L n S v≤c v
theorem Ks {L:Nat→Nat→Int} {n:Nat} (hs:∀ i j,L i j=L j i) (v:Nat) (h0:aku n (fun j=>L v j)=0) (S:Nat→Bool):aku n (fun i=>if S i=true then L i v else 0)=akY L n S v:=by
 have h:aku n (fun i=>(if S i=true then L i v else 0)+-(if S i=true then 0 else -(L v i)))=0:=by
  refine Eq.trans (mq fun i _=>?_) h0
  cases S i with
  | true=>simp [hs i v]
  | false=>simp
 rw [rE,Bw] at h
 unfold akY
 omega
theorem ada {L:Nat→Nat→Int} {n:Nat} (ho:∀ u w,u ≠ w→L u w≤0) {S T:Nat→Bool} (Ap:∀ j,j < n→S j=true→T j=true) {v:Nat} (hv:S v=true):akY L n T v≤akY L n S v:=by
 unfold akY
 refine rF fun w hw=>?_
 cases hT:T w with
 | true =>
  cases hS:S w with
  | true=>simp
  | false =>
   have h1:v ≠ w:=fun e=>by rw [e,hS] at hv;exact absurd hv (by decide)
   have h2:=ho v w h1
   simp only [if_true,Bool.false_eq_true,if_false]
   omega
 | false =>
  cases hS:S w with
  | true=>rw [Ap w hw hS] at hT;exact absurd hT (by decide)
  | false=>exact Int.le_refl _
def iM : Nat → (Nat → Bool) → Nat
 | 0,_=>0
 | n+1,T=>iM n T+(if T n=true then 1 else 0)
theorem alT (n:Nat) (T:Nat→Bool):iM (n+1) T=iM n T+(if T n=true then 1 else 0):=rfl
theorem Xb {n:Nat} {S T:Nat→Bool} (h:∀ j,j < n→S j=T j):iM n S=iM n T:=by
 induction n with
 | zero=>rfl
 | succ n ih=>rw [alT,alT,ih (fun j hj=>h j (by omega)),h n (by omega)]
def oW (T:Nat→Bool) (v:Nat):Nat→Bool:=fun j=>if j=v then false else T j
theorem amj {n v:Nat} {T:Nat→Bool} (hv:v < n) (hT:T v=true):iM n (oW T v)+1=iM n T:=by
 induction n with
 | zero=>omega
 | succ n ih =>
  rw [alT,alT]
  by_cases h:n=v
  ·subst h
   rw [Xb (T:=T) (fun j hj=>by unfold oW;rw [if_neg (by omega)]),hT,show oW T n n=false from if_pos rfl]
   simp
  ·rw [show oW T v n = T n from if_neg h]
   have:=ih (by omega)
   omega
/-- One round of the burning. -/
def jk (L : Nat → Nat → Int) (c : Nat → Int) (n : Nat) : Nat → Nat → (Nat → Bool) → Bool → (Nat → Bool) × Bool
 | 0,_,T,m=>(T,m)
 | d+1,v,T,m=>if T v=true∧c v < akY L n T v then jk L c n d (v+1) (oW T v) true else jk L c n d (v+1) T m
theorem Bt {L : Nat → Nat → Int} {c : Nat → Int} {n : Nat} (ho : ∀ u w, u ≠ w → L u w ≤ 0) : ∀ (d v : Nat) (T : Nat → Bool) (m : Bool), v + d ≤ n →
  (∀ j,(jk L c n d v T m).1 j=true→T j=true)∧(∀ S,lawful L c n S→(∀ j,j < n→S j=true→T j=true)→∀ j,j < n→S j=true→(jk L c n d v T m).1 j=true) ∧
  ((jk L c n d v T m).2=false→m=false∧(jk L c n d v T m).1=T∧∀ j,v≤j→j < v+d→T j=true→akY L n T j≤c j) ∧
  iM n (jk L c n d v T m).1≤iM n T∧((jk L c n d v T m).2=true→m=false→iM n (jk L c n d v T m).1 < iM n T):=by
 intro d
 induction d with
 | zero =>
  intro v T m _
  refine ⟨fun j h=>h,fun S _ h=>h,fun h=>⟨h,rfl,fun j h1 h2=>by omega⟩,Nat.le_refl _,fun h1 h2=>?_⟩
  have h3:m=true:=h1
  rw [h2] at h3
  exact absurd h3 (by decide)
 | succ d ih =>
  intro v T m hd
  by_cases h:T v=true∧c v < akY L n T v
  ·have e : jk L c n (d + 1) v T m = jk L c n d (v + 1) (oW T v) true := if_pos h
   rw [e]
   obtain ⟨i1,i2,i3,i4,i5⟩:=ih (v+1) (oW T v) true (by omega)
   have hc:=amj (show v < n by omega) h.1
   refine ⟨fun j hj=>?_,fun S hS Ap=>i2 S hS (fun j hj yp=>?_),fun hm=>?_,by omega,fun _ _=>by omega⟩
   ·have h1 := i1 j hj
    unfold oW at h1
    by_cases e:j=v
    ·rw [if_pos e] at h1;exact absurd h1 (by decide)
    ·rw [if_neg e] at h1;exact h1
   ·unfold oW
    by_cases e:j=v
    ·subst e
     have h1:=hS j hj yp
     have h2:=ada (n:=n) ho Ap yp
     omega
    ·rw [if_neg e];exact Ap j hj yp
   ·exact absurd (i3 hm).1 (by decide)
  ·have e : jk L c n (d + 1) v T m = jk L c n d (v + 1) T m := if_neg h
   rw [e]
   obtain ⟨i1,i2,i3,i4,i5⟩:=ih (v+1) T m (by omega)
   refine ⟨i1,i2,fun hm=>?_,i4,i5⟩
   obtain ⟨h1,h2,h3⟩:=i3 hm
   refine ⟨h1,h2,fun j yH hj2 hT=>?_⟩
   by_cases e:j=v
   ·subst e
    by_cases h4:akY L n T j≤c j
    ·exact h4
    ·exact absurd ⟨hT,by omega⟩ h
   ·exact h3 j (by omega) (by omega) hT
def mY (L : Nat → Nat → Int) (c : Nat → Int) (n : Nat) : Nat → (Nat → Bool) → Nat → Bool
 | 0,T=>T
 | N+1,T=>if (jk L c n n 0 T false).2=true then mY L c n N (jk L c n n 0 T false).1 else T
theorem Nh {L:Nat→Nat→Int} {c:Nat→Int} {n:Nat} (ho:∀ u w,u ≠ w→L u w≤0) {T:Nat→Bool} (h:iM n T=0):(jk L c n n 0 T false).2=false:=by
 cases e:(jk L c n n 0 T false).2 with
 | false=>rfl
 | true =>
  have:=(Bt (L:=L) (c:=c) (n:=n) ho n 0 T false (by omega)).2.2.2.2 e rfl
  omega
theorem amU {L : Nat → Nat → Int} {c : Nat → Int} {n : Nat} (ho : ∀ u w, u ≠ w → L u w ≤ 0) : ∀ (N : Nat) (T : Nat → Bool), iM n T ≤ N →
  lawful L c n (mY L c n N T)∧(∀ j,mY L c n N T j=true→T j=true)∧∀ S,lawful L c n S→(∀ j,j < n→S j=true→T j=true)→∀ j,j < n→S j=true→mY L c n N T j=true:=by
 intro N
 induction N with
 | zero =>
  intro T h
  obtain ⟨_,_,i3,_,_⟩:=Bt (L:=L) (c:=c) (n:=n) ho n 0 T false (by omega)
  obtain ⟨_,_,h3⟩:=i3 (Nh ho (by omega))
  exact ⟨fun v hv hT=>h3 v (by omega) (by omega) hT,fun j h=>h,fun S _ h=>h⟩
 | succ N ih =>
  intro T h
  obtain ⟨i1,i2,i3,i4,i5⟩:=Bt (L:=L) (c:=c) (n:=n) ho n 0 T false (by omega)
  cases e:(jk L c n n 0 T false).2 with
  | true =>
   have hr:mY L c n (N+1) T=mY L c n N (jk L c n n 0 T false).1:=if_pos e
   rw [hr]
   have:=i5 e rfl
   obtain ⟨j1,j2,j3⟩:=ih (jk L c n n 0 T false).1 (by omega)
   exact ⟨j1,fun j hj=>i1 j (j2 j hj),fun S hS Ap=>j3 S hS (i2 S hS Ap)⟩
  | false =>
   have hr:mY L c n (N+1) T=T:=if_neg (by rw [e];decide)
   rw [hr]
   obtain ⟨_,_,h3⟩:=i3 e
   exact ⟨fun v hv hT=>h3 v (by omega) (by omega) hT,fun j h=>h,fun S _ h=>h⟩
/-- A set as a number. -/
def ak7 : Nat → (Nat → Bool) → Nat
 | 0,_=>0
 | n+1,S=>2 * ak7 n (fun i=>S (i+1))+(S 0).toNat
theorem ac4 (n:Nat):∀ S,ak7 n S < 2 ^ n:=by
 induction n with
 | zero=>intro S;simp [ak7]
 | succ n ih =>
  intro S
  have h:=ih (fun i=>S (i+1))
  have h2:(S 0).toNat≤1:=by cases S 0<;>simp
  rw [ak7,Nat.pow_succ]
  omega
theorem FQ:∀ (n:Nat) (S:Nat→Bool) (i:Nat),(ak7 n S).testBit i=(decide (i < n) && S i):=by
 intro n
 induction n with
 | zero=>intro S i;simp [ak7]
 | succ n ih =>
  intro S i
  have h2:(S 0).toNat≤1:=by cases S 0<;>simp
  cases i with
  | zero =>
   rw [Nat.testBit_zero,ak7,show (2 * ak7 n (fun i=>S (i+1))+(S 0).toNat) % 2=(S 0).toNat by omega]
   cases S 0<;>simp
  | succ i =>
   rw [Nat.testBit_succ,ak7,show (2 * ak7 n (fun i=>S (i+1))+(S 0).toNat) / 2=ak7 n (fun i=>S (i+1)) by omega,ih]
   simp
end Go.Proofs.Ytoebojnhchocaaa.C
/- Set with little white space, by a program. -/
