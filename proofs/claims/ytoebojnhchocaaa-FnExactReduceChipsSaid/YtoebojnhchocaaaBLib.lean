/- Plain lemmas on the Lean functions that FnExactReduceChips reaches, the first half. No condition. -/
import Derived.Test.YtoebojnhchocaaaBWalk
namespace Go.Proofs.Ytoebojnhchocaaa.B
open Go.RowKit Go.Proofs.bC.eg Go.Proofs.bC.iZ Go.Proofs.bC.jr
set_option linter.unusedVariables false
set_option linter.unusedSimpArgs false
theorem wI (n:Int) (h:-9223372036854775808≤n∧n≤9223372036854775807):wrap64 n=n:=IntWalk.wrap64_in n h
theorem cJ (n:Nat):(0:Int)≤(n:Int):=Int.natCast_nonneg n
theorem lI (a b:Nat) (h:a < b):(a:Int) < (b:Int):=Int.ofNat_lt.2 h
theorem jO {n:Int} (h0:-9223372036854775808≤n) (h1:n≤9223372036854775807):wrap64 n=n:=IntWalk.wrap64_in n ⟨h0,h1⟩
theorem fuel {k n:Nat} (h:n < k):∃ m,k=m+1∧n≤m:=⟨k - 1,by omega,by omega⟩
theorem sI (l:List Int) (i:Nat) (h:i < l.length):rd l (i:Int)=l[i]:=by
 simp [rd,List.getD_eq_getElem?_getD,h]
theorem uy (l:List (List Int)) (i:Nat) (h:i < l.length):ag l (i:Int)=l[i]:=by
 simp [ag,List.getD_eq_getElem?_getD,h]
theorem take_set {α:Type} (x l:List α) (i:Nat) (hx:x.length=l.length) (hi:i < l.length) (h:x.take i=l.take i):(x.set i l[i]).take (i+1)=l.take (i+1):=by
 apply List.ext_getElem?
 intro j
 rw [List.getElem?_take,List.getElem?_take]
 by_cases hj:j < i+1
 ·rw [if_pos hj, if_pos hj]
  by_cases hji:j=i
  ·subst hji
   rw [List.getElem?_set_self (by omega),List.getElem?_eq_getElem hi]
  ·rw [List.getElem?_set_ne (by omega)]
   have h2:=congrArg (fun z=>z[j]?) h
   simp only [List.getElem?_take] at h2
   rwa [if_pos (by omega),if_pos (by omega)] at h2
 ·rw [if_neg hj,if_neg hj]
theorem ae5 (l:List Int) (hl:l.length≤35184372088832):∀ (d k i:Nat) (x:List Int),l.length - i=d→d < k→i≤l.length→x.length=l.length→x.take i=l.take i→gB.l0 k l x i=some l:=by
 intro d
 induction d with
 | zero =>
  intro k i x hd hk hi hx ht
  obtain ⟨m,rfl,hm⟩:=fuel hk
  simp only [gB.l0]
  rw [if_neg (by omega)]
  rw [List.take_of_length_le (by omega),List.take_of_length_le (by omega)] at ht
  rw [ht]
 | succ d ih =>
  intro k i x hd hk hi hx ht
  obtain ⟨m,rfl,hm⟩:=fuel hk
  have hil:i < l.length:=by omega
  simp only [gB.l0]
  rw [if_pos (by omega),if_pos (by omega),if_pos (by omega),jO (by omega) (by omega),sI l i hil,Int.toNat_natCast]
  exact ih m (i+1) _ (by omega) (by omega) (by omega) (by simp [hx]) (take_set x l i hx hil ht)
theorem TA (l:List Int) (hl:l.length≤35184372088832):Ev (fun k=>gB.f k l) l:=by
 refine Ev.of (gB.mono l) (k:=l.length+1) ?_
 unfold gB.f
 rw [if_pos (by omega),if_pos (by simpa using hl)]
 exact ae5 l hl l.length _ 0 _ (by omega) (by omega) (by omega) (by simp) (by simp)
theorem ae4 (l:List (List Int)) (hl:l.length≤11728124029610) (hx:∀ x ∈ l,x.length≤35184372088832):∀ (d i:Nat) (x:List (List Int)),l.length - i=d→i≤l.length→x.length=l.length→x.take i=l.take i→Ev (fun k=>iD.l0 k l x i) l:=by
 intro d
 induction d with
 | zero =>
  intro i x hd hi hx ht
  refine Ev.step (fun k=>by simp only [iD.l0];rfl) ?_
  rw [List.take_of_length_le (by omega),List.take_of_length_le (by omega)] at ht
  simp only [show ¬ ((i:Int) < (l.length:Int)) by omega,if_false,ht]
  exact Ev.now l
 | succ d ih =>
  intro i x hd hi hx' ht
  have hil:i < l.length:=by omega
  refine Ev.step (fun k=>by simp only [iD.l0];rfl) ?_
  simp only [show ((i:Int) < (l.length:Int)) by omega,cJ i,show ((i:Int) < (x.length:Int)) by omega,if_true,Int.toNat_natCast,wI ((i:Int)+1) (by omega),uy l i hil]
  refine Ev.bind (TA l[i] (hx _ (List.getElem_mem hil))) ?_
  exact ih (i+1) _ (by omega) (by omega) (by simp [hx']) (take_set x l i hx' hil ht)
theorem ae3 (l:List (List Int)) (hl:l.length≤11728124029610) (hx:∀ x ∈ l,x.length≤35184372088832):Ev (fun k=>iD.f k l) l:=by
 unfold iD.f
 simp only [show (0:Int)≤(l.length:Int) by omega,if_true,Int.toNat_natCast,hl]
 exact ae4 l hl hx l.length 0 _ (by omega) (by omega) (by simp) (by simp)
theorem ae2 (a:Int) (l:List (List Int)) (hl:l.length≤11728124029610) (hx:∀ x ∈ l,x.length≤35184372088832):Ev (fun k=>qj.f k a l) (a,l):=by
 unfold qj.f
 exact Ev.bind (ae3 l hl hx) (Ev.now _)
theorem aeR (l:List (List Int)) (hl:l.length≤maxLen) (hx:∀ x ∈ l,x.length≤maxLen):∀ (d i:Nat) (a:Int),l.length - i=d→i≤l.length→0≤a→a≤1048576→∃ r,Ev (fun k=>iC.l0 k l a i) r∧r≤1048576∧-1≤r∧(0≤r→∀ x ∈ l.drop i,x.length≤1048576):=by
 unfold maxLen at hl hx
 intro d
 induction d with
 | zero =>
  intro i a hd hi h0 h1
  refine ⟨a,Ev.step (fun k=>by simp only [iC.l0];rfl) ?_,h1,by omega,fun _ x hx=>?_⟩
  ·simp only [show ¬ ((i : Int) < (l.length : Int)) by omega, if_false]
   exact Ev.now _
  ·rw [List.drop_of_length_le (by omega)] at hx;simp at hx
 | succ d ih =>
  intro i a hd hi h0 h1
  have hil:i < l.length:=by omega
  have hxl:=hx _ (List.getElem_mem hil)
  have hs:yB.f l[i] a=some (if a - (l[i].length:Int) < 0 then -1 else a - (l[i].length:Int)):=by
   unfold yB.f
   rw [jO (by omega) (by omega)]
   split<;>rfl
  by_cases hn:a - (l[i].length:Int) < 0
  ·rw [if_pos hn] at hs
   refine ⟨-1,Ev.step (fun k=>by simp only [iC.l0];rfl) ?_,by omega,by omega,fun h=>by omega⟩
   simp only [show ((i:Int) < (l.length:Int)) by omega,cJ i,if_true,uy l i hil,hs,Option.bind_some]
   exact Ev.now _
  ·rw [if_neg hn] at hs
   obtain ⟨r,hr,h2,h3,h4⟩:=ih (i+1) (a - (l[i].length:Int)) (by omega) (by omega) (by omega) (by omega)
   refine ⟨r,Ev.step (fun k=>by simp only [iC.l0];rfl) ?_,h2,h3,fun h x hx=>?_⟩
   ·simp only [show ((i : Int) < (l.length : Int)) by omega, cJ i, if_true, uy l i hil, hs, Option.bind_some, hn, if_false, wI ((i : Int) + 1) (by omega)]
    exact hr
   ·rw [List.drop_eq_getElem_cons hil] at hx
    rcases List.mem_cons.1 hx with rfl|hx
    ·omega
    ·exact h4 h x hx
/-- The sizes that the law lets by. -/
theorem aeQ (l:List (List Int)) (a:Int) (ha:0≤a) (zh:a≤1048576) (hl:l.length≤maxLen) (hx:∀ x ∈ l,x.length≤maxLen):∃ r,Ev (fun k=>iC.f k l a) r∧r≤1048576∧-1≤r∧(0≤r→l.length≤1048576∧∀ x ∈ l,x.length≤1048576):=by
 have hl':=hl
 unfold maxLen at hl'
 unfold iC.f
 rw [jO (by omega) (by omega)]
 by_cases hn:a - (l.length:Int) < 0
 ·refine ⟨-1, ?_, by omega, by omega, fun h => by omega⟩
  simp only [hn,if_true]
  exact Ev.now _
 ·obtain ⟨r, hr, h2, h3, h4⟩ := aeR l hl hx l.length 0 (a - (l.length : Int)) (by omega) (by omega) (by omega) (by omega)
  refine ⟨r,?_,h2,h3,fun h=>⟨by omega,by simpa using h4 h⟩⟩
  simp only [hn,if_false]
  exact hr
theorem aeP (s:Int) (l:List (List Int)) (a:Int) (ha:0≤a) (zh:a≤1048576) (hl:l.length≤maxLen) (hx:∀ x ∈ l,x.length≤maxLen):∃ r,Ev (fun k=>qi.f k s l a) r∧r≤1048576∧-1≤r∧(0≤r→l.length≤1048576∧∀ x ∈ l,x.length≤1048576):=by
 obtain ⟨r,hr,h2,h3,h4⟩:=aeQ l a ha zh hl hx
 unfold qi.f
 by_cases hn:r < 0
 ·refine ⟨-1, Ev.bind hr ?_, by omega, by omega, fun h => by omega⟩
  simp only [hn,if_true]
  exact Ev.now _
 ·refine ⟨r, Ev.bind hr ?_, h2, h3, h4⟩
  simp only [hn,if_false]
  exact Ev.now _
/-- Equal lists are told equal. -/
theorem Zq (l:List Int) (hl:l.length≤maxLen):∀ (d i:Nat),l.length - i=d→i≤l.length→Ev (fun k=>fN.l0 k l l i) true:=by
 unfold maxLen at hl
 intro d
 induction d with
 | zero =>
  intro i hd hi
  refine Ev.step (fun k=>by simp only [fN.l0];rfl) ?_
  simp only [show ¬ ((i:Int) < (l.length:Int)) by omega,if_false]
  exact Ev.now _
 | succ d ih =>
  intro i hd hi
  refine Ev.step (fun k=>by simp only [fN.l0];rfl) ?_
  simp only [show ((i:Int) < (l.length:Int)) by omega,cJ i,if_true,wI ((i:Int)+1) (by omega)]
  exact ih (i+1) (by omega) (by omega)
theorem Jz (l:List Int) (hl:l.length≤maxLen):Ev (fun k=>fN.f k l l) true:=by
 unfold fN.f
 simp only [if_true]
 exact Zq l hl l.length 0 (by omega) (by omega)
theorem Zp (l:List (List Int)) (hl:l.length≤maxLen) (hx:∀ x ∈ l,x.length≤maxLen):∀ (d i:Nat),l.length - i=d→i≤l.length→Ev (fun k=>iE.l0 k l l i) true:=by
 unfold maxLen at hl
 intro d
 induction d with
 | zero =>
  intro i hd hi
  refine Ev.step (fun k=>by simp only [iE.l0];rfl) ?_
  simp only [show ¬ ((i:Int) < (l.length:Int)) by omega,if_false]
  exact Ev.now _
 | succ d ih =>
  intro i hd hi
  have hil:i < l.length:=by omega
  refine Ev.step (fun k=>by simp only [iE.l0];rfl) ?_
  simp only [show ((i:Int) < (l.length:Int)) by omega,cJ i,if_true,wI ((i:Int)+1) (by omega),uy l i hil]
  refine Ev.bind (Jz l[i] (hx _ (List.getElem_mem hil))) ?_
  simp only [if_true]
  exact ih (i+1) (by omega) (by omega)
theorem Zo (l:List (List Int)) (hl:l.length≤maxLen) (hx:∀ x ∈ l,x.length≤maxLen):Ev (fun k=>iE.f k l l) true:=by
 unfold iE.f
 simp only [if_true]
 exact Zp l hl hx l.length 0 (by omega) (by omega)
theorem Zn (a:Int) (l:List (List Int)) (hl:l.length≤maxLen) (hx:∀ x ∈ l,x.length≤maxLen):Ev (fun k=>sP.f k a l a l) true:=by
 unfold sP.f
 simp only [if_true]
 refine Ev.bind (Zo l hl hx) ?_
 simp only [if_true]
 exact Ev.now _
/-! ### what a graph is -/
def amk (a n:Int):Bool:=decide (0≤n) && decide (n≤wrap64 (a - 1))
def pH (a:Int) (e:List Int):Bool:=decide (e.length=2) && (amk a (rd e 0) && amk a (rd e 1))
def mC (a:Int) (l:List (List Int)):Bool:=decide (1≤a) && (decide (a≤8) && (decide (l.length≤10) && l.all (pH a)))
theorem Mi (a b c:Int):g_.f a b c=some (decide (b≤a) && decide (a≤c)):=by
 unfold g_.f
 by_cases h:b≤a<;>simp [h]
theorem Gp (a b c:Int):gP.f a b c=some (decide (b≤a) && decide (a≤c)):=by
 unfold gP.f
 by_cases h:b≤a<;>simp [h]
theorem acp (a:Int) (l:List (List Int)) (hl:l.length≤maxLen):∀ (d i:Nat),l.length - i=d→i≤l.length→Ev (fun k=>ir.l0 k l l.length i a l) ((l.drop i).all (pH a) && (decide (1≤a) && (decide (a≤8) && decide (l.length≤10)))):=by
 unfold maxLen at hl
 intro d
 induction d with
 | zero =>
  intro i hd hi
  refine Ev.step (fun k=>by simp only [ir.l0];rfl) ?_
  simp only [show ¬ ((i:Int) < (l.length:Int)) by omega,if_false,Mi,Option.bind_some,List.drop_of_length_le (show l.length≤i by omega),List.all_nil,Bool.true_and]
  by_cases h1:1≤a
  ·by_cases h2 : a ≤ 8
   ·simp only [h1, h2, decide_true, Bool.true_and, if_true]
    exact Ev.congr (fun k=>by congr 1;simp;omega) (Ev.now _)
   ·simp only [h1, h2, decide_true, decide_false, Bool.true_and, Bool.false_and, Bool.false_eq_true, if_false]
    exact Ev.now _
  ·simp only [h1, decide_false, Bool.false_and, Bool.false_eq_true, if_false]
   exact Ev.now _
 | succ d ih =>
  intro i hd hi
  have hil:i < l.length:=by omega
  refine Ev.step (fun k=>by simp only [ir.l0];rfl) ?_
  have zm:(l.drop i).all (pH a)=(pH a l[i] && (l.drop (i+1)).all (pH a)):=by rw [List.drop_eq_getElem_cons hil,List.all_cons]
  rw [zm]
  simp only [show ((i:Int) < (l.length:Int)) by omega,cJ i,if_true,wI ((i:Int)+1) (by omega),uy l i hil,Mi,Option.bind_some]
  unfold pH amk
  by_cases h2:l[i].length=2
  ·simp only [h2, decide_true, Bool.true_and, show ((2 : Nat) : Int) = 2 from rfl, if_true, show (0 : Int) < 2 by omega, show (1 : Int) < 2 by omega]
   by_cases h3:(decide (0≤rd l[i] 0) && decide (rd l[i] 0≤wrap64 (a - 1)))=true
   ·by_cases h4 : (decide (0 ≤ rd l[i] 1) && decide (rd l[i] 1 ≤ wrap64 (a - 1))) = true
    ·simp only [h3, h4, if_true, Bool.true_and]
     exact ih (i+1) (by omega) (by omega)
    ·simp only [Bool.not_eq_true] at h4
     simp only [h3,h4,if_true,Bool.false_and,Bool.and_false,Bool.false_eq_true,if_false]
     exact Ev.now _
   ·simp only [Bool.not_eq_true] at h3
    simp only [h3,Bool.false_and,Bool.false_eq_true,if_false]
    exact Ev.now _
  ·simp only [show ¬ ((l[i].length : Int) = 2) by omega, h2, decide_false, Bool.false_and, if_false]
   exact Ev.now _
theorem aco (a:Int) (l:List (List Int)) (hl:l.length≤maxLen):Ev (fun k=>ir.f k a l) (mC a l):=by
 unfold ir.f
 have h:=acp a l hl l.length 0 (by omega) (by omega)
 have e:((l.drop 0).all (pH a) && (decide (1≤a) && (decide (a≤8) && decide (l.length≤10))))=mC a l:=by
  unfold mC
  rw [List.drop_zero]
  cases l.all (pH a)<;>simp
 rw [e] at h
 exact h
theorem aeG (a:Int) (l:List (List Int)) (hl:l.length≤maxLen):∀ (d i:Nat),l.length - i=d→i≤l.length→Ev (fun k=>eu.l0 k i a l) ((l.drop i).all (pH a)):=by
 unfold maxLen at hl
 intro d
 induction d with
 | zero =>
  intro i hd hi
  refine Ev.step (fun k=>by simp only [eu.l0];rfl) ?_
  simp only [show ¬ ((i:Int) < (l.length:Int)) by omega,if_false,List.drop_of_length_le (show l.length≤i by omega),List.all_nil]
  exact Ev.now _
 | succ d ih =>
  intro i hd hi
  have hil:i < l.length:=by omega
  refine Ev.step (fun k=>by simp only [eu.l0];rfl) ?_
  have zm:(l.drop i).all (pH a)=(pH a l[i] && (l.drop (i+1)).all (pH a)):=by rw [List.drop_eq_getElem_cons hil,List.all_cons]
  rw [zm]
  simp only [show ((i:Int) < (l.length:Int)) by omega,cJ i,if_true,wI ((i:Int)+1) (by omega),uy l i hil,Gp,Option.bind_some]
  unfold pH amk
  by_cases h2:l[i].length=2
  ·simp only [h2, decide_true, Bool.true_and, show ((2 : Nat) : Int) = 2 from rfl, if_true, show (0 : Int) < 2 by omega, show (1 : Int) < 2 by omega]
   by_cases h3:(decide (0≤rd l[i] 0) && decide (rd l[i] 0≤wrap64 (a - 1)))=true
   ·by_cases h4 : (decide (0 ≤ rd l[i] 1) && decide (rd l[i] 1 ≤ wrap64 (a - 1))) = true
    ·simp only [h3, h4, if_true, Bool.true_and]
     exact ih (i+1) (by omega) (by omega)
    ·simp only [Bool.not_eq_true] at h4
     simp only [h3,h4,if_true,Bool.false_and,Bool.and_false,Bool.false_eq_true,if_false]
     exact Ev.now _
   ·simp only [Bool.not_eq_true] at h3
    simp only [h3,Bool.false_and,Bool.false_eq_true,if_false]
    exact Ev.now _
  ·simp only [show ¬ ((l[i].length : Int) = 2) by omega, h2, decide_false, Bool.false_and, if_false]
   exact Ev.now _
theorem aeF (a:Int) (l:List (List Int)) (hl:l.length≤maxLen):Ev (fun k=>eu.f k a l) (mC a l):=by
 unfold eu.f mC
 simp only [Gp,Option.bind_some]
 have hj:∀ b,Ev (fun k=>eu.j0 k b a l) (!b && l.all (pH a)):=by
  intro b
  refine Ev.step (fun k=>by simp only [eu.j0];rfl) ?_
  cases b with
  | true=>simp only [if_true,Bool.not_true,Bool.false_and];exact Ev.now _
  | false =>
   simp only [Bool.false_eq_true,if_false,Bool.not_false,Bool.true_and]
   exact aeG a l hl l.length 0 (by omega) (by omega)
 by_cases h1:1≤a
 ·by_cases h2 : a ≤ 8
  ·simp only [h1, h2, decide_true, Bool.true_and, if_true]
   have h:=hj (decide ((l.length:Int) > 10))
   have e:(!decide ((l.length:Int) > 10))=decide (l.length≤10):=by
    by_cases h:l.length≤10
    ·simp [h];omega
    ·simp [h];omega
   rw [e] at h
   exact h
  ·simp only [h1, h2, decide_true, decide_false, Bool.true_and, Bool.false_and, Bool.false_eq_true, if_false]
   exact hj true
 ·simp only [h1, decide_false, Bool.false_and, Bool.false_eq_true, if_false]
  exact hj true
def ay : Nat → (Nat → Int) → Int
 | 0,_=>0
 | n+1,f=>ay n f+f n
theorem eI {n:Nat} {f g:Nat→Int} (h:∀ i,i < n→f i=g i):ay n f=ay n g:=by
 induction n with
 | zero=>rfl
 | succ n ih=>simp only [ay];rw [ih (fun i hi=>h i (by omega)),h n (by omega)]
theorem pM {n:Nat} {f:Nat→Int} (h:∀ i,i < n→f i=0):ay n f=0:=by
 induction n with
 | zero=>rfl
 | succ n ih=>simp only [ay];rw [ih (fun i hi=>h i (by omega)),h n (by omega)];rfl
theorem uY (n:Nat) (f g:Nat→Int):ay n (fun i=>f i+g i)=ay n f+ay n g:=by
 induction n with
 | zero=>rfl
 | succ n ih=>simp only [ay];rw [ih];omega
theorem jC (n:Nat) (x:Int) (f:Nat→Int):ay n (fun i=>x * f i)=x * ay n f:=by
 induction n with
 | zero=>simp [ay]
 | succ n ih=>simp only [ay];rw [ih,Int.mul_add]
theorem DX (n:Nat) (f:Nat→Int):ay n (fun i=>- f i)=- ay n f:=by
 induction n with
 | zero=>rfl
 | succ n ih=>simp only [ay];rw [ih];omega
theorem Gw (n:Nat) (f g:Nat→Int):ay n (fun i=>f i - g i)=ay n f - ay n g:=by
 induction n with
 | zero=>rfl
 | succ n ih=>simp only [ay];rw [ih];omega
theorem u_ {n:Nat} {f:Nat→Int} (k:Nat) (hk:k < n) (h:∀ i,i < n→i ≠ k→f i=0):ay n f=f k:=by
 induction n with
 | zero=>omega
 | succ n ih =>
  simp only [ay]
  by_cases hkn:k=n
  ·subst hkn
   rw [pM (fun i hi=>h i (by omega) (by omega))];omega
  ·rw [ih (by omega) (fun i hi hne=>h i (by omega) hne),h n (by omega) (by omega)];omega
theorem SF {n:Nat} {f:Nat→Int} (k l:Nat) (hk:k < n) (hl:l < n) (kD:k ≠ l) (h:∀ i,i < n→i ≠ k→i ≠ l→f i=0):ay n f=f k+f l:=by
 have e:ay n f=ay n (fun i=>(if i=k then f k else 0)+(if i=l then f l else 0)):=by
  refine eI (fun i hi=>?_)
  by_cases h1:i=k
  ·subst h1;simp [kD]
  ·by_cases h2 : i = l
   ·subst h2;simp [h1]
   ·simp [h1,h2,h i hi h1 h2]
 rw [e,uY,u_ k hk (fun i _ hne=>by simp [hne]),u_ l hl (fun i _ hne=>by simp [hne])]
 simp
theorem Lh (n:Nat) (f:Nat→Int):ay (n+1) f=f 0+ay n (fun i=>f (i+1)):=by
 induction n with
 | zero=>simp [ay]
 | succ n ih =>
  rw [show ay (n+1+1) f=ay (n+1) f+f (n+1) from rfl,ih]
  simp only [ay];omega
theorem zT (n m:Nat) (f:Nat→Nat→Int):ay n (fun i=>ay m (fun j=>f i j))=ay m (fun j=>ay n (fun i=>f i j)):=by
 induction n with
 | zero=>simp only [ay];rw [pM (fun _ _=>rfl)]
 | succ n ih=>simp only [ay];rw [ih,uY]
theorem adf (n m:Nat) (f:Nat→Int):ay (n+m) f=ay n f+ay m (fun i=>f (n+i)):=by
 induction m with
 | zero=>simp [ay]
 | succ m ih=>rw [← Nat.add_assoc];simp only [ay];rw [ih];omega
theorem SE {n m:Nat} {f:Nat→Int} (h:n≤m) (hz:∀ i,n≤i→i < m→f i=0):ay m f=ay n f:=by
 obtain ⟨d,rfl⟩:=Nat.exists_eq_add_of_le h
 rw [adf,pM (n:=d) (fun i hi=>hz _ (by omega) (by omega))];omega
theorem ade (n : Nat) (f : Nat → Nat → Int) :
  ay (n+1) (fun i=>ay n (fun j=>f i j))=ay (n+1) (fun b=>ay b (fun a=>f b a+f a (b-1))):=by
 induction n with
 | zero=>simp [ay]
 | succ n ih =>
  rw [show ay (n+1+1) (fun b=>ay b (fun a=>f b a+f a (b-1)))=ay (n+1) (fun b=>ay b (fun a=>f b a+f a (b-1)))+ay (n+1) (fun a=>f (n+1) a+f a n) from rfl]
  rw [← ih,uY]
  rw [show ay (n+1+1) (fun i=>ay (n+1) (fun j=>f i j))=ay (n+1) (fun i=>ay (n+1) (fun j=>f i j))+ay (n+1) (fun j=>f (n+1) j) from rfl]
  rw [show (fun i=>ay (n+1) (fun j=>f i j))=(fun i=>ay n (fun j=>f i j)+f i n) from rfl,uY]
  have:ay (n+1) (f (n+1))=ay (n+1) (fun j=>f (n+1) j):=rfl
  omega
def alm (i a:Nat):Nat:=if a < i then a else a+1
def alQ (i:Nat):Int:=if i % 2=0 then 1 else -1
theorem SC (i:Nat):alQ (i+1)=- alQ i:=by
 unfold alQ;by_cases h:i % 2=0
 ·rw [if_pos h,if_neg (by omega)]
 ·rw [if_neg h,if_pos (by omega)];rfl
theorem yc {i a n:Nat} (hi:i < n+1) (ha:a < n):alm i a < n+1:=by unfold alm;split<;>omega
def aH : Nat → (Nat → Nat → Int) → Int
 | 0,_=>1
 | n+1,M=>ay (n+1) (fun i=>alQ i * M i 0 * aH n (fun a b=>M (alm i a) (b+1)))
theorem nM (n:Nat) (M:Nat→Nat→Int):aH (n+1) M=ay (n+1) (fun i=>alQ i * M i 0 * aH n (fun a b=>M (alm i a) (b+1))):=rfl
theorem jg {n:Nat}:∀ {M N:Nat→Nat→Int},(∀ a b,a < n→b < n→M a b=N a b)→aH n M=aH n N:=by
 induction n with
 | zero=>intros;rfl
 | succ n ih =>
  intro M N h
  rw [nM,nM]
  refine eI (fun i hi=>?_)
  rw [h i 0 hi (by omega),ih (fun a b ha hb=>h _ _ (yc hi ha) (by omega))]
def bh (M:Nat→Nat→Int) (i:Nat) (r:Nat→Int):Nat→Nat→Int:=fun a b=>if a=i then r b else M a b
def cu (M:Nat→Nat→Int) (j:Nat) (c:Nat→Int):Nat→Nat→Int:=fun a b=>if b=j then c a else M a b
def nN (i a:Nat):Nat:=if a < i then a else a - 1
theorem Lg {i a:Nat} (h:a ≠ i):alm i (nN i a)=a:=by
 unfold alm nN;by_cases h1:a < i
 ·simp [h1]
 ·rw [if_neg h1,if_neg (by omega)];omega
theorem SD {i a k:Nat} (h:k ≠ i):alm i a=k↔a=nN i k:=by unfold alm nN;split<;>split<;>omega
theorem Gx {i k n:Nat} (hi:i < n+1) (hk:k < n+1) (h:k ≠ i):nN i k < n:=by unfold nN;split<;>omega
theorem zR (i a:Nat):alm i a ≠ i:=by unfold alm;split<;>omega
theorem Lc {M:Nat→Nat→Int} {i k:Nat} {r:Nat→Int} (h:k ≠ i):(fun a b=>bh M k r (alm i a) (b+1))=bh (fun a b=>M (alm i a) (b+1)) (nN i k) (fun b=>r (b+1)):=by
 funext a b
 unfold bh
 by_cases e:alm i a=k
 ·rw [if_pos e,if_pos ((SD h).mp e)]
 ·rw [if_neg e,if_neg (fun h'=>e ((SD h).mpr h'))]
theorem Ld {M:Nat→Nat→Int} {k:Nat} {r:Nat→Int}:(fun a b=>bh M k r (alm k a) (b+1))=(fun a b=>M (alm k a) (b+1)):=by
 funext a b
 unfold bh
 rw [if_neg (zR k a)]
theorem DU {n:Nat}:∀ (M:Nat→Nat→Int) (k:Nat),k < n→∀ (x y:Int) (r s:Nat→Int),aH n (bh M k (fun b=>x * r b+y * s b))=x * aH n (bh M k r)+y * aH n (bh M k s):=by
 induction n with
 | zero=>intro M k hk;omega
 | succ n ih =>
  intro M k hk x y r s
  rw [nM,nM,nM,← jC,← jC,← uY]
  refine eI (fun i hi=>?_)
  by_cases e:k=i
  ·subst e
   rw [Ld,Ld,Ld]
   simp only [bh,if_true]
   generalize aH n _=D
   grind
  ·rw [Lc e, Lc e, Lc e, ih _ _ (Gx hi hk e)]
   simp only [bh,if_neg (Ne.symm e)]
   generalize aH n _=D
   generalize aH n _=E
   grind
theorem Sw {n:Nat} (M:Nat→Nat→Int) (k:Nat) (hk:k < n) (x:Int) (r:Nat→Int):aH n (bh M k (fun b=>x * r b))=x * aH n (bh M k r):=by
 have:=DU M k hk x 0 r r
 simpa using this
theorem Bq {n:Nat} (M:Nat→Nat→Int) (k:Nat) (hk:k < n) (r s:Nat→Int):aH n (bh M k (fun b=>r b+s b))=aH n (bh M k r)+aH n (bh M k s):=by
 have:=DU M k hk 1 1 r s
 simpa using this
theorem zQ (M:Nat→Nat→Int) (k:Nat):bh M k (M k)=M:=by
 funext a b;unfold bh;split
 ·case _ h=>rw [h]
 ·rfl
theorem sD (M:Nat→Nat→Int) {k l:Nat} (h:k ≠ l) (r s:Nat→Int):bh (bh M k r) l s=bh (bh M l s) k r:=by
 funext a b;unfold bh;by_cases e:a=l
 ·subst e;simp [Ne.symm h]
 ·simp [e]
theorem ac5 {n:Nat} (M:Nat→Nat→Int) (k:Nat) (hk:k < n) (h:∀ b,b < n→M k b=0):aH n M=0:=by
 have e:aH n M=aH n (bh M k (fun b=>0 * M k b)):=by
  refine jg (fun a b _ hb=>?_)
  unfold bh;split
  ·case _ h'=>rw [h',h b hb];simp
  ·rfl
 rw [e,Sw _ _ hk];simp
theorem Gr {n:Nat}:∀ (M:Nat→Nat→Int) (k:Nat),k+1 < n→(∀ b,b < n→M k b=M (k+1) b)→aH n M=0:=by
 induction n with
 | zero=>intro M k hk;omega
 | succ n ih =>
  intro M k hk h
  rw [nM,SF k (k+1) (by omega) hk (by omega)]
  ·have e:aH n (fun a b=>M (alm k a) (b+1))=aH n (fun a b=>M (alm (k+1) a) (b+1)):=by
    refine jg (fun a b ha hb=>?_)
    by_cases h1:a=k
    ·subst h1
     have e1:alm a a=a+1:=by unfold alm;split<;>omega
     have e2:alm (a+1) a=a:=by unfold alm;split<;>omega
     rw [e1,e2,h _ (by omega)]
    ·have : alm k a = alm (k+1) a := by unfold alm; split <;> split <;> omega
     rw [this]
   rw [e,SC,h 0 (by omega)]
   generalize aH n _=D
   grind
  ·intro i hi h1 h2
   have:aH n (fun a b=>M (alm i a) (b+1))=0:=by
    by_cases hik:i < k
    ·refine ih _ (k-1) (by omega) (fun b hb => ?_)
     have e1:alm i (k-1)=k:=by unfold alm;split<;>omega
     have e2:alm i (k-1+1)=k+1:=by unfold alm;split<;>omega
     simp only [e1,e2];exact h _ (by omega)
    ·refine ih _ k (by omega) (fun b hb => ?_)
     have e1:alm i k=k:=by unfold alm;split<;>omega
     have e2:alm i (k+1)=k+1:=by unfold alm;split<;>omega
     simp only [e1,e2];exact h _ (by omega)
   rw [this];simp
theorem acV {n:Nat} (M:Nat→Nat→Int) (k:Nat) (hk:k+1 < n) (r s:Nat→Int):aH n (bh (bh M k r) (k+1) s)=- aH n (bh (bh M k s) (k+1) r):=by
 have h0:aH n (bh (bh M k (fun b=>r b+s b)) (k+1) (fun b=>r b+s b))=0 :=
  Gr _ k hk (fun b _=>by simp [bh])
 have hr:aH n (bh (bh M k r) (k+1) r)=0:=Gr _ k hk (fun b _=>by simp [bh])
 have hs:aH n (bh (bh M k s) (k+1) s)=0:=Gr _ k hk (fun b _=>by simp [bh])
 rw [Bq _ _ hk,sD _ (show k ≠ k+1 by omega),sD _ (show k ≠ k+1 by omega),Bq _ _ (by omega),Bq _ _ (by omega)] at h0
 rw [sD _ (show k+1 ≠ k by omega),sD _ (show k+1 ≠ k by omega),sD _ (show k+1 ≠ k by omega),sD _ (show k+1 ≠ k by omega),hr,hs] at h0
 omega
theorem Ss {n:Nat}:∀ (d:Nat) (M:Nat→Nat→Int) (k:Nat),k+1+d < n→(∀ b,b < n→M k b=M (k+1+d) b)→aH n M=0:=by
 intro d
 induction d with
 | zero=>intro M k hk h;exact Gr M k hk h
 | succ d ih =>
  intro M k hk h
  have e:M=bh (bh M (k+1+d) (M (k+1+d))) (k+1+d+1) (M (k+1+d+1)):=by
   rw [zQ,zQ]
  rw [e,acV _ _ (by omega)]
  rw [ih _ k (by omega) (fun b hb=>?_)]
  ·rfl
  ·simp only [bh]
   rw [if_neg (by omega),if_neg (by omega),if_neg (by omega),if_pos trivial]
   exact h b hb
theorem zO {n:Nat} (M:Nat→Nat→Int) (k l:Nat) (hk:k < n) (hl:l < n) (kD:k ≠ l) (h:∀ b,b < n→M k b=M l b):aH n M=0:=by
 rcases Nat.lt_or_gt_of_ne kD with h1|h1
 ·obtain ⟨d, rfl⟩ := Nat.exists_eq_add_of_lt h1
  exact Ss d M k (by omega) (fun b hb=>by rw [h b hb];congr 1;omega)
 ·obtain ⟨d, rfl⟩ := Nat.exists_eq_add_of_lt h1
  exact Ss d M l (by omega) (fun b hb=>by rw [← h b hb];congr 1;omega)
theorem ac4 {n:Nat} (M:Nat→Nat→Int) (k l:Nat) (hk:k < n) (hl:l < n) (kD:k ≠ l) (x:Int):aH n (bh M k (fun b=>M k b+x * M l b))=aH n M:=by
 have h1:=DU M k hk 1 x (M k) (M l)
 have h2:aH n (bh M k (M l))=0:=zO _ k l hk hl kD (fun b _=>by simp [bh,Ne.symm kD])
 rw [h2,zQ] at h1
 simpa using h1
theorem ac6 {n:Nat} (M:Nat→Nat→Int) (l:Nat) (hl:l < n) (x:Nat→Int) (hx:x l=0):aH n (fun a b=>M a b+x a * M l b)=aH n M:=by
 have key:∀ m,m≤n→aH n (fun a b=>if a < m then M a b+x a * M l b else M a b)=aH n M:=by
  intro m
  induction m with
  | zero=>intro _;exact jg (fun a b _ _=>by simp)
  | succ m ih =>
   intro hm
   rw [← ih (by omega)]
   by_cases hml:m=l
   ·subst hml
    refine jg (fun a b _ _=>?_)
    by_cases h1:a < m
    ·rw [if_pos h1,if_pos (by omega)]
    ·by_cases h2 : a = m
     ·subst h2;simp [hx]
     ·rw [if_neg h1,if_neg (by omega)]
   ·rw [← ac4 (fun a b => if a < m then M a b + x a * M l b else M a b) m l (by omega) hl hml (x m)]
    refine jg (fun a b _ _=>?_)
    simp only [bh]
    by_cases h2:a=m
    ·subst h2
     by_cases h3:l < a
     ·simp [h3,hx]
     ·simp [h3]
    ·by_cases h1 : a < m
     ·rw [if_pos (by omega),if_neg h2,if_pos h1]
     ·rw [if_neg (by omega),if_neg h2,if_neg h1]
 rw [← key n (Nat.le_refl n)]
 exact jg (fun a b ha _=>by rw [if_pos ha])
theorem Sy {n:Nat} (M:Nat→Nat→Int) (k l:Nat) (hk:k < n) (hl:l < n) (kD:k ≠ l):aH n (bh (bh M k (M l)) l (M k))=- aH n M:=by
 have h0:aH n (bh (bh M k (fun b=>M k b+M l b)) l (fun b=>M k b+M l b))=0 :=
  zO _ k l hk hl kD (fun b _=>by simp [bh,kD])
 have hr:aH n (bh (bh M k (M k)) l (M k))=0:=zO _ k l hk hl kD (fun b _=>by simp [bh,kD])
 have hs:aH n (bh (bh M k (M l)) l (M l))=0:=zO _ k l hk hl kD (fun b _=>by simp [bh,kD])
 rw [Bq _ _ hl,sD _ kD,sD _ kD,Bq _ _ hk,Bq _ _ hk] at h0
 rw [sD _ (Ne.symm kD),sD _ (Ne.symm kD),sD _ (Ne.symm kD),sD _ (Ne.symm kD),hr,hs,zQ,zQ] at h0
 omega
theorem La {M:Nat→Nat→Int} {i k:Nat} {c:Nat→Int}:(fun a b=>cu M (k+1) c (alm i a) (b+1))=cu (fun a b=>M (alm i a) (b+1)) k (fun a=>c (alm i a)):=by
 funext a b
 unfold cu
 by_cases e:b=k
 ·subst e;simp
 ·simp [e]
theorem Lb {M:Nat→Nat→Int} {i:Nat} {c:Nat→Int}:(fun a b=>cu M 0 c (alm i a) (b+1))=(fun a b=>M (alm i a) (b+1)):=by
 funext a b;unfold cu;simp
theorem DS {n:Nat}:∀ (M:Nat→Nat→Int) (k:Nat),k < n→∀ (x y:Int) (r s:Nat→Int),aH n (cu M k (fun b=>x * r b+y * s b))=x * aH n (cu M k r)+y * aH n (cu M k s):=by
 induction n with
 | zero=>intro M k hk;omega
 | succ n ih =>
  intro M k hk x y r s
  rw [nM,nM,nM,← jC,← jC,← uY]
  refine eI (fun i hi=>?_)
  cases k with
  | zero =>
   rw [Lb,Lb,Lb]
   simp only [cu,if_true]
   generalize aH n _=D
   grind
  | succ k =>
   rw [La,La,La,ih _ _ (by omega)]
   simp only [cu,if_neg (show ¬ 0=k+1 by omega)]
   generalize aH n _=D
   generalize aH n _=E
   grind
theorem ac0 {n:Nat} (M:Nat→Nat→Int) (k:Nat) (hk:k < n) (x:Int) (r:Nat→Int):aH n (cu M k (fun b=>x * r b))=x * aH n (cu M k r):=by
 have:=DS M k hk x 0 r r
 simpa using this
theorem K6 {n:Nat} (M:Nat→Nat→Int) (k:Nat) (hk:k < n) (r s:Nat→Int):aH n (cu M k (fun b=>r b+s b))=aH n (cu M k r)+aH n (cu M k s):=by
 have:=DS M k hk 1 1 r s
 simpa using this
theorem DV (M:Nat→Nat→Int) (k:Nat):cu M k (fun a=>M a k)=M:=by
 funext a b;unfold cu;split
 ·case _ h=>rw [h]
 ·rfl
theorem Br (M:Nat→Nat→Int) {k l:Nat} (h:k ≠ l) (r s:Nat→Int):cu (cu M k r) l s=cu (cu M l s) k r:=by
 funext a b;unfold cu;by_cases e:b=l
 ·subst e;simp [Ne.symm h]
 ·simp [e]
theorem K7 {n:Nat} (M:Nat→Nat→Int) (k:Nat) (hk:k < n) (h:∀ a,a < n→M a k=0):aH n M=0:=by
 have e:aH n M=aH n (cu M k (fun a=>0 * M a k)):=by
  refine jg (fun a b ha _=>?_)
  unfold cu;split
  ·case _ h'=>rw [h',h a ha];simp
  ·rfl
 rw [e,ac0 _ _ hk];simp
theorem Gs {n:Nat}:∀ (M:Nat→Nat→Int) (k:Nat),k+1 < n→(∀ a,a < n→M a k=M a (k+1))→aH n M=0:=by
 induction n with
 | zero=>intro M k hk;omega
 | succ n ih =>
  intro M k hk h
  cases k with
  | succ k =>
   rw [nM]
   refine pM (fun i hi=>?_)
   rw [ih _ k (by omega) (fun a ha=>h _ (yc hi ha))];simp
  | zero =>
   obtain ⟨m,rfl⟩:∃ m,n=m+1:=⟨n - 1,by omega⟩
   rw [nM]
   have e:ay (m+1+1) (fun i=>alQ i * M i 0 * aH (m+1) (fun a b=>M (alm i a) (b+1)))=ay (m+1+1) (fun i=>ay (m+1) (fun j=>alQ i * alQ j * M i 0 * M (alm i j) 0 * aH m (fun a b=>M (alm i (alm j a)) (b+1+1)))):=by
    refine eI (fun i hi=>?_)
    rw [nM,← jC]
    refine eI (fun j hj=>?_)
    rw [h (alm i j) (yc hi hj)]
    generalize aH m _=D
    grind
   rw [e,ade]
   refine pM (fun b hb=>pM (fun a ha=>?_))
   have e1:alm b a=a:=by unfold alm;split<;>omega
   have e2:alm a (b-1)=b:=by unfold alm;split<;>omega
   have e3:∀ c,alm b (alm a c)=alm a (alm (b-1) c):=by intro c;unfold alm;(repeat' split)<;>omega
   have e4:alQ b=- alQ (b-1):=by rw [← SC];congr 1;omega
   simp only [e1,e2,e3,e4]
   generalize aH m _=D
   grind
theorem acY {n:Nat} (M:Nat→Nat→Int) (k:Nat) (hk:k+1 < n) (r s:Nat→Int):aH n (cu (cu M k r) (k+1) s)=- aH n (cu (cu M k s) (k+1) r):=by
 have h0:aH n (cu (cu M k (fun b=>r b+s b)) (k+1) (fun b=>r b+s b))=0 :=
  Gs _ k hk (fun b _=>by simp [cu])
 have hr:aH n (cu (cu M k r) (k+1) r)=0:=Gs _ k hk (fun b _=>by simp [cu])
 have hs:aH n (cu (cu M k s) (k+1) s)=0:=Gs _ k hk (fun b _=>by simp [cu])
 rw [K6 _ _ hk,Br _ (show k ≠ k+1 by omega),Br _ (show k ≠ k+1 by omega),K6 _ _ (by omega),K6 _ _ (by omega)] at h0
 rw [Br _ (show k+1 ≠ k by omega),Br _ (show k+1 ≠ k by omega),Br _ (show k+1 ≠ k by omega),Br _ (show k+1 ≠ k by omega),hr,hs] at h0
 omega
theorem Su {n:Nat}:∀ (d:Nat) (M:Nat→Nat→Int) (k:Nat),k+1+d < n→(∀ b,b < n→M b k=M b (k+1+d))→aH n M=0:=by
 intro d
 induction d with
 | zero=>intro M k hk h;exact Gs M k hk h
 | succ d ih =>
  intro M k hk h
  have e:M=cu (cu M (k+1+d) (fun a=>M a (k+1+d))) (k+1+d+1) (fun a=>M a (k+1+d+1)):=by
   rw [DV,DV]
  rw [e,acY _ _ (by omega)]
  rw [ih _ k (by omega) (fun b hb=>?_)]
  ·rfl
  ·simp only [cu]
   rw [if_neg (by omega),if_neg (by omega),if_neg (by omega),if_pos trivial]
   exact h b hb
theorem K8 {n:Nat} (M:Nat→Nat→Int) (k l:Nat) (hk:k < n) (hl:l < n) (kD:k ≠ l) (h:∀ b,b < n→M b k=M b l):aH n M=0:=by
 rcases Nat.lt_or_gt_of_ne kD with h1|h1
 ·obtain ⟨d, rfl⟩ := Nat.exists_eq_add_of_lt h1
  exact Su d M k (by omega) (fun b hb=>by rw [h b hb];congr 1;omega)
 ·obtain ⟨d, rfl⟩ := Nat.exists_eq_add_of_lt h1
  exact Su d M l (by omega) (fun b hb=>by rw [← h b hb];congr 1;omega)
theorem acX {n:Nat} (M:Nat→Nat→Int) (k l:Nat) (hk:k < n) (hl:l < n) (kD:k ≠ l) (x:Int):aH n (cu M k (fun a=>M a k+x * M a l))=aH n M:=by
 have h1:=DS M k hk 1 x (fun a=>M a k) (fun a=>M a l)
 have h2:aH n (cu M k (fun a=>M a l))=0:=K8 _ k l hk hl kD (fun b _=>by simp [cu,Ne.symm kD])
 rw [h2,DV] at h1
 simpa using h1
theorem ac1 {n:Nat} (M:Nat→Nat→Int) (l:Nat) (hl:l < n) (x:Nat→Int) (hx:x l=0):aH n (fun a b=>M a b+x b * M a l)=aH n M:=by
 have key:∀ m,m≤n→aH n (fun a b=>if b < m then M a b+x b * M a l else M a b)=aH n M:=by
  intro m
  induction m with
  | zero=>intro _;exact jg (fun a b _ _=>by simp)
  | succ m ih =>
   intro hm
   rw [← ih (by omega)]
   by_cases hml:m=l
   ·subst hml
    refine jg (fun a b _ _=>?_)
    by_cases h1:b < m
    ·rw [if_pos h1,if_pos (by omega)]
    ·by_cases h2 : b = m
     ·subst h2;simp [hx]
     ·rw [if_neg h1,if_neg (by omega)]
   ·rw [← acX (fun a b => if b < m then M a b + x b * M a l else M a b) m l (by omega) hl hml (x m)]
    refine jg (fun a b _ _=>?_)
    simp only [cu]
    by_cases h2:b=m
    ·subst h2
     by_cases h3:l < b
     ·simp [h3,hx]
     ·simp [h3]
    ·by_cases h1 : b < m
     ·rw [if_pos (by omega),if_neg h2,if_pos h1]
     ·rw [if_neg (by omega),if_neg h2,if_neg h1]
 rw [← key n (Nat.le_refl n)]
 exact jg (fun a b _ hb=>by rw [if_pos hb])
theorem DT {n:Nat}:∀ (M:Nat→Nat→Int),(∀ b,b < n→M n b=0)→aH (n+1) M=M n n * aH n M:=by
 induction n with
 | zero=>intro M _;simp [aH,ay,alQ]
 | succ n ih =>
  intro M h
  rw [nM (n+1)]
  rw [show ay (n+1+1) (fun i=>alQ i * M i 0 * aH (n+1) (fun a b=>M (alm i a) (b+1)))=ay (n+1) (fun i=>alQ i * M i 0 * aH (n+1) (fun a b=>M (alm i a) (b+1)))+alQ (n+1) * M (n+1) 0 * aH (n+1) (fun a b=>M (alm (n+1) a) (b+1)) from rfl]
  rw [h 0 (by omega)]
  simp only [Int.mul_zero,Int.zero_mul,Int.add_zero]
  rw [nM n M,← jC]
  refine eI (fun i hi=>?_)
  have e:alm i n=n+1:=by unfold alm;split<;>omega
  rw [ih _ (fun b hb=>by rw [e];exact h _ (by omega))]
  rw [e]
  generalize aH n _=D
  grind
theorem ac2 {n:Nat}:∀ (M:Nat→Nat→Int),(∀ a,a < n→M a n=0)→aH (n+1) M=M n n * aH n M:=by
 induction n with
 | zero=>intro M _;simp [aH,ay,alQ]
 | succ n ih =>
  intro M h
  rw [nM (n+1)]
  rw [show ay (n+1+1) (fun i=>alQ i * M i 0 * aH (n+1) (fun a b=>M (alm i a) (b+1)))=ay (n+1) (fun i=>alQ i * M i 0 * aH (n+1) (fun a b=>M (alm i a) (b+1)))+alQ (n+1) * M (n+1) 0 * aH (n+1) (fun a b=>M (alm (n+1) a) (b+1)) from rfl]
  have z:aH (n+1) (fun a b=>M (alm (n+1) a) (b+1))=0:=by
   refine K7 _ n (by omega) (fun a ha=>?_)
   have e:alm (n+1) a=a:=by unfold alm;split<;>omega
   rw [e];exact h _ (by omega)
  rw [z]
  simp only [Int.mul_zero,Int.add_zero]
  rw [nM n M,← jC]
  refine eI (fun i hi=>?_)
  have e:alm i n=n+1:=by unfold alm;split<;>omega
  rw [ih _ (fun a ha=>by exact h _ (yc hi (by omega)))]
  rw [e]
  generalize aH n _=D
  grind
def cL (j b:Nat):Int:=if b=j then 1 else 0
theorem Gu (j:Nat):cL j j=1:=by simp [cL]
theorem zP {j b:Nat} (h:b ≠ j):cL j b=0:=by simp [cL,h]
theorem DW {n:Nat} (x:Nat→Int) (b:Nat) (hb:b < n):ay n (fun j=>x j * cL j b)=x b:=by
 rw [u_ b hb (fun i _ hne=>by rw [zP (Ne.symm hne)];simp),Gu];simp
theorem K9 {n : Nat} (M : Nat → Nat → Int) (i : Nat) (hi : i < n) (m : Nat) (x : Nat → Int) (r : Nat → Nat → Int) :
  aH n (bh M i (fun b=>ay m (fun j=>x j * r j b)))=ay m (fun j=>x j * aH n (bh M i (r j))):=by
 induction m with
 | zero=>exact ac5 _ i hi (fun b _=>by simp [bh,ay])
 | succ m ih =>
  simp only [ay]
  have:=DU M i hi 1 (x m) (fun b=>ay m (fun j=>x j * r j b)) (r m)
  simp only [Int.one_mul] at this
  rw [this,ih]
theorem Gt {n : Nat} (M : Nat → Nat → Int) (i : Nat) (hi : i < n) (m : Nat) (x : Nat → Int) (r : Nat → Nat → Int) :
  aH n (cu M i (fun b=>ay m (fun j=>x j * r j b)))=ay m (fun j=>x j * aH n (cu M i (r j))):=by
 induction m with
 | zero=>exact K7 _ i hi (fun b _=>by simp [cu,ay])
 | succ m ih =>
  simp only [ay]
  have:=DS M i hi 1 (x m) (fun b=>ay m (fun j=>x j * r j b)) (r m)
  simp only [Int.one_mul] at this
  rw [this,ih]
def ia (n:Nat) (M:Nat→Nat→Int) (j i:Nat):Int:=aH n (bh M i (cL j))
theorem K5 {n:Nat} (M:Nat→Nat→Int) (k i:Nat) (hi:i < n) (hk:k < n):ay n (fun j=>M k j * ia n M j i)=if k=i then aH n M else 0:=by
 unfold ia
 rw [← K9 M i hi n (M k) (fun j=>cL j)]
 have e:aH n (bh M i (fun b=>ay n (fun j=>M k j * cL j b)))=aH n (bh M i (M k)):=by
  refine jg (fun a b _ hb=>?_)
  unfold bh;split
  ·exact DW (M k) b hb
  ·rfl
 rw [e]
 by_cases h:k=i
 ·subst h;rw [zQ,if_pos rfl]
 ·rw [if_neg h]
  exact zO _ i k hi hk (Ne.symm h) (fun b _=>by simp [bh,h])
theorem Sq {n:Nat} (M:Nat→Nat→Int) (i j:Nat) (hi:i < n) (hj:j < n):ia n M j i=aH n (cu M j (cL i)):=by
 unfold ia
 have e1:aH n (bh M i (cL j))=aH n (bh (cu M j (cL i)) i (cL j)):=by
  rw [← ac6 (bh M i (cL j)) i hi (fun a=>if a=i then 0 else - M a j) (by simp)]
  refine jg (fun a b ha hb=>?_)
  unfold bh cu
  by_cases h1:a=i
  ·subst h1;simp
  ·by_cases h2 : b = j
   ·subst h2; simp [h1, cL]
    omega
   ·simp [h1,h2,cL]
 have e2:aH n (cu M j (cL i))=aH n (bh (cu M j (cL i)) i (cL j)):=by
  rw [← ac1 (cu M j (cL i)) j hj (fun b=>if b=j then 0 else - M i b) (by simp)]
  refine jg (fun a b ha hb=>?_)
  unfold bh cu
  by_cases h1:b=j
  ·subst h1; by_cases h2 : a = i
   ·subst h2;simp [cL]
   ·simp [h2]
  ·by_cases h2 : a = i
   ·subst h2; simp [h1, cL]
    omega
   ·simp [h1,h2,cL]
 rw [e1,e2]
theorem acS {n:Nat} (M:Nat→Nat→Int) (j l:Nat) (hj:j < n) (hl:l < n):ay n (fun i=>ia n M j i * M i l)=if j=l then aH n M else 0:=by
 have e0:ay n (fun i=>ia n M j i * M i l)=ay n (fun i=>M i l * aH n (cu M j (cL i))) :=
  eI (fun i hi=>by rw [Sq M i j hi hj,Int.mul_comm])
 rw [e0,← Gt M j hj n (fun i=>M i l) (fun i=>cL i)]
 have e:aH n (cu M j (fun b=>ay n (fun i=>M i l * cL i b)))=aH n (cu M j (fun b=>M b l)):=by
  refine jg (fun a b ha _=>?_)
  unfold cu;split
  ·exact DW (fun i=>M i l) a ha
  ·rfl
 rw [e]
 by_cases h:j=l
 ·subst h;rw [DV,if_pos rfl]
 ·rw [if_neg h]
  exact K8 _ j l hj hl h (fun b _=>by simp [cu,Ne.symm h])
theorem St (r : Nat) (K : Nat → Nat → Int) :
  aH (r+1) K=K r r * aH r K - ay r (fun j=>ay r (fun i=>K r j * ia r K j i * K i r)):=by
 have hrow:aH (r+1) K=ay (r+1) (fun j=>K r j * aH (r+1) (bh K r (cL j))):=by
  rw [← K9 K r (by omega) (r+1) (K r) (fun j=>cL j)]
  refine jg (fun a b _ hb=>?_)
  unfold bh;split
  ·case _ h=>exact (by rw [h]:K a b=K r b).trans (DW (K r) b hb).symm
  ·rfl
 rw [hrow]
 rw [show ay (r+1) (fun j=>K r j * aH (r+1) (bh K r (cL j)))=ay r (fun j=>K r j * aH (r+1) (bh K r (cL j)))+K r r * aH (r+1) (bh K r (cL r)) from rfl]
 have abE:aH (r+1) (bh K r (cL r))=aH r K:=by
  rw [DT _ (fun b hb=>by simp [bh,cL];omega)]
  have:bh K r (cL r) r r=1:=by simp [bh,cL]
  rw [this,Int.one_mul]
  exact jg (fun a b ha _=>by unfold bh;rw [if_neg (by omega)])
 have hj:∀ j,j < r→aH (r+1) (bh K r (cL j))=- ay r (fun i=>ia r K j i * K i r):=by
  intro j hj
  have aaO:aH (r+1) (bh K r (cL j))=ay r (fun i=>K i r * aH (r+1) (cu (bh K r (cL j)) r (cL i))):=by
   rw [← Gt (bh K r (cL j)) r (by omega) r (fun i=>K i r) (fun i=>cL i)]
   refine jg (fun a b ha _=>?_)
   unfold cu;split
   ·case _ h =>
    subst h
    by_cases h2:a=b
    ·subst h2
     refine Eq.trans ?_ (pM (f:=fun i=>K i a * cL i a) (fun i hi=>by rw [zP (show a ≠ i by omega)];simp)).symm
     simp [bh,cL];omega
    ·refine Eq.trans ?_ (DW (fun i => K i b) a (by omega)).symm
     simp [bh,h2]
   ·rfl
  rw [aaO,← DX]
  refine eI (fun i hi=>?_)
  have hs:=Sy (cu (bh K r (cL j)) r (cL i)) i r (n:=r+1) (by omega) (by omega) (by omega)
  have hx:aH (r+1) (bh (bh (cu (bh K r (cL j)) r (cL i)) i (cu (bh K r (cL j)) r (cL i) r)) r (cu (bh K r (cL j)) r (cL i) i))=ia r K j i:=by
   rw [ac2]
   ·unfold ia
    have:bh (bh (cu (bh K r (cL j)) r (cL i)) i (cu (bh K r (cL j)) r (cL i) r)) r (cu (bh K r (cL j)) r (cL i) i) r r=1:=by
     simp [bh,cu,cL]
    rw [this,Int.one_mul]
    refine jg (fun a b ha hb=>?_)
    unfold bh cu
    have h1:a ≠ r:=by omega
    have h2:b ≠ r:=by omega
    by_cases h3:a=i
    ·subst h3;simp [h1,h2]
    ·simp [h1,h2,h3]
   ·intro a ha
    have h1:a ≠ r:=by omega
    unfold bh cu
    by_cases h3:a=i
    ·subst h3;simp [h1,cL];omega
    ·simp [h1,h3,cL]
  rw [hx] at hs
  have:aH (r+1) (cu (bh K r (cL j)) r (cL i))=- ia r K j i:=by omega
  rw [this];grind
 rw [abE]
 have e2:ay r (fun j=>K r j * aH (r+1) (bh K r (cL j)))=- ay r (fun j=>ay r (fun i=>K r j * ia r K j i * K i r)):=by
  rw [← DX]
  refine eI (fun j hjr=>?_)
  rw [hj j hjr,Int.mul_neg,← jC]
  congr 1
  exact eI (fun i _=>by grind)
 rw [e2];omega
def kZ (n:Nat) (c:Nat→Int) (u:Int):Int:=ay (n+1) (fun k=>c k * u ^ k)
def amy (c : Nat → Int) : Nat → Int
 | 0=>0
 | k+1=>c k
theorem ac9 (n:Nat) (c:Nat→Int) (u:Int):kZ (n+1) c u=c 0+u * kZ n (fun k=>c (k+1)) u:=by
 unfold kZ
 rw [Lh,← jC]
 congr 1
 ·simp
 ·exact eI (fun i _=>by rw [Int.pow_succ];grind)
theorem adb (n:Nat) (c:Nat→Int) (u:Int):kZ (n+1) (amy c) u=u * kZ n c u:=by
 rw [ac9];show 0+u * kZ n c u=_;omega
theorem ac_ {n m:Nat} (c:Nat→Int) (u:Int) (h:n≤m) (hz:∀ k,n < k→c k=0):kZ m c u=kZ n c u:=by
 unfold kZ
 exact SE (by omega) (fun i hi _=>by rw [hz i (by omega)];simp)
theorem SB (n:Nat) (c d:Nat→Int) (u:Int):kZ n (fun k=>c k+d k) u=kZ n c u+kZ n d u:=by
 unfold kZ;rw [← uY];exact eI (fun i _=>by grind)
theorem Lf (n:Nat) (x:Int) (c:Nat→Int) (u:Int):kZ n (fun k=>x * c k) u=x * kZ n c u:=by
 unfold kZ;rw [← jC];exact eI (fun i _=>by grind)
theorem ada (n m:Nat) (x:Nat→Int) (c:Nat→Nat→Int) (u:Int):kZ n (fun k=>ay m (fun i=>x i * c i k)) u=ay m (fun i=>x i * kZ n (c i) u):=by
 induction m with
 | zero=>simp only [ay];unfold kZ;exact pM (fun _ _=>by simp)
 | succ m ih=>simp only [ay];rw [SB,ih,Lf]
def lS : Nat → (Nat → Nat → Int) → (Nat → Nat → Int) → Nat → Int
 | 0,_,_=>fun k=>if k=0 then 1 else 0
 | n+1,P,Q=>fun k=>ay (n+1) (fun i=>alQ i * (P i 0 * lS n (fun a b=>P (alm i a) (b+1)) (fun a b=>Q (alm i a) (b+1)) k+Q i 0 * amy (lS n (fun a b=>P (alm i a) (b+1)) (fun a b=>Q (alm i a) (b+1))) k))
theorem acU (n:Nat) (P Q:Nat→Nat→Int) (k:Nat):lS (n+1) P Q k=ay (n+1) (fun i=>alQ i * (P i 0 * lS n (fun a b=>P (alm i a) (b+1)) (fun a b=>Q (alm i a) (b+1)) k+Q i 0 * amy (lS n (fun a b=>P (alm i a) (b+1)) (fun a b=>Q (alm i a) (b+1))) k)):=rfl
theorem Sr {n:Nat}:∀ (P Q:Nat→Nat→Int) (k:Nat),n < k→lS n P Q k=0:=by
 induction n with
 | zero=>intro P Q k hk;simp [lS];omega
 | succ n ih =>
  intro P Q k hk
  rw [acU]
  refine pM (fun i hi=>?_)
  rw [ih _ _ k (by omega)]
  obtain ⟨l,rfl⟩:∃ l,k=l+1:=⟨k - 1,by omega⟩
  show alQ i * (P i 0 * 0+Q i 0 * lS n _ _ l)=0
  rw [ih _ _ l (by omega)];simp
theorem ac3 {n:Nat}:∀ (P Q:Nat→Nat→Int) (u:Int),aH n (fun a b=>P a b+u * Q a b)=kZ n (lS n P Q) u:=by
 induction n with
 | zero=>intro P Q u;simp [aH,kZ,ay,lS]
 | succ n ih =>
  intro P Q u
  rw [nM]
  have e:kZ (n+1) (lS (n+1) P Q) u=ay (n+1) (fun i=>alQ i * kZ (n+1) (fun k=>P i 0 * lS n (fun a b=>P (alm i a) (b+1)) (fun a b=>Q (alm i a) (b+1)) k+Q i 0 * amy (lS n (fun a b=>P (alm i a) (b+1)) (fun a b=>Q (alm i a) (b+1))) k) u):=by
   rw [← ada];rfl
  rw [e]
  refine eI (fun i hi=>?_)
  rw [ih,SB,Lf,Lf,adb,ac_ _ _ (Nat.le_succ n) (fun k hk=>Sr _ _ k hk)]
  grind
def ee : Nat → (Nat → Int) → Int
 | 0,_=>1
 | n+1,f=>ee n f * f n
theorem SA {n:Nat} {f g:Nat→Int} (h:∀ i,i < n→f i=g i):ee n f=ee n g:=by
 induction n with
 | zero=>rfl
 | succ n ih=>simp only [ee];rw [ih (fun i hi=>h i (by omega)),h n (by omega)]
theorem Le {n:Nat} {f:Nat→Int} (h:∀ i,i < n→0≤f i):0≤ee n f:=by
 induction n with
 | zero=>simp [ee]
 | succ n ih=>simp only [ee];exact Int.mul_nonneg (ih (fun i hi=>h i (by omega))) (h n (by omega))
theorem Gv {n:Nat} {f g:Nat→Int} (h0:∀ i,i < n→0≤f i) (h:∀ i,i < n→f i≤g i):ee n f≤ee n g:=by
 induction n with
 | zero=>simp [ee]
 | succ n ih =>
  simp only [ee]
  exact Int.mul_le_mul (ih (fun i hi=>h0 i (by omega)) (fun i hi=>h i (by omega))) (h n (by omega)) (h0 n (by omega)) (Le (fun i hi=>Int.le_trans (h0 i (by omega)) (h i (by omega))))
theorem uZ {n:Nat} {f g:Nat→Int} (h:∀ i,i < n→f i≤g i):ay n f≤ay n g:=by
 induction n with
 | zero=>simp [ay]
 | succ n ih=>simp only [ay];have:=ih (fun i hi=>h i (by omega));have:=h n (by omega);omega
theorem pL {n:Nat} {f:Nat→Int} (h:∀ i,i < n→0≤f i):0≤ay n f:=by
 have:=uZ (f:=fun _=>0) h
 rwa [pM (fun _ _=>rfl)] at this
theorem adg {n : Nat} (w R : Nat → Int) (hw : ∀ i, i < n → 0 ≤ w i) (hR : ∀ i, i < n → 0 ≤ R i) :
  ay n (fun i=>w i * ee (n-1) (fun a=>R (alm i a)))≤ee n (fun a=>w a+R a):=by
 induction n with
 | zero=>simp [ay,ee]
 | succ n ih =>
  have ih:=ih (fun i hi=>hw i (by omega)) (fun i hi=>hR i (by omega))
  show ay n (fun i=>w i * ee (n+1-1) (fun a=>R (alm i a)))+w n * ee (n+1-1) (fun a=>R (alm n a))≤ee n (fun a=>w a+R a) * (w n+R n)
  have e1:ay n (fun i=>w i * ee (n+1-1) (fun a=>R (alm i a)))=R n * ay n (fun i=>w i * ee (n-1) (fun a=>R (alm i a))):=by
   rw [← jC]
   refine eI (fun i hi=>?_)
   obtain ⟨m,rfl⟩:∃ m,n=m+1:=⟨n - 1,by omega⟩
   show w i * (ee m _ * R (alm i m))=_
   have:alm i m=m+1:=by unfold alm;split<;>omega
   rw [this]
   show _=R (m+1) * (w i * ee m _)
   grind
  have e2:ee (n+1-1) (fun a=>R (alm n a))=ee n R:=SA (fun a ha=>by
   have:alm n a=a:=by unfold alm;split<;>omega
   rw [this])
  rw [e1,e2]
  have h1:R n * ay n (fun i=>w i * ee (n-1) (fun a=>R (alm i a)))≤R n * ee n (fun a=>w a+R a):=Int.mul_le_mul_of_nonneg_left ih (hR n (by omega))
  have h2:w n * ee n R≤w n * ee n (fun a=>w a+R a):=Int.mul_le_mul_of_nonneg_left (Gv (fun i hi=>hR i (by omega)) (fun i hi=>by have:=hw i (by omega);omega)) (hw n (by omega))
  have h3:ee n (fun a=>w a+R a) * (w n+R n)=w n * ee n (fun a=>w a+R a)+R n * ee n (fun a=>w a+R a):=by grind
  omega
def alh (x:Int):Int:=(x.natAbs:Int)
theorem iQ (x:Int):0≤alh x:=by unfold alh;omega
theorem um (x y:Int):alh (x * y)=alh x * alh y:=by unfold alh;rw [Int.natAbs_mul];simp
theorem Sn (x y:Int):alh (x+y)≤alh x+alh y:=by unfold alh;omega
theorem So (i:Nat):alh (alQ i)=1:=by unfold alQ;split<;>rfl
theorem Sp:alh 0=0:=rfl
theorem Gq (n:Nat) (f:Nat→Int):alh (ay n f)≤ay n (fun i=>alh (f i)):=by
 induction n with
 | zero=>simp [ay,alh]
 | succ n ih=>simp only [ay];have:=Sn (ay n f) (f n);omega
theorem acT {n:Nat}:∀ (P Q:Nat→Nat→Int),ay (n+1) (fun k=>alh (lS n P Q k))≤ee n (fun a=>ay n (fun b=>alh (P a b)+alh (Q a b))):=by
 induction n with
 | zero=>intro P Q;simp [ay,ee,lS,alh]
 | succ n ih =>
  intro P Q
  have key:∀ i,i < n+1→ay (n+1+1) (fun k=>alh (alQ i * (P i 0 * lS n (fun a b=>P (alm i a) (b+1)) (fun a b=>Q (alm i a) (b+1)) k+Q i 0 * amy (lS n (fun a b=>P (alm i a) (b+1)) (fun a b=>Q (alm i a) (b+1))) k)))≤(alh (P i 0)+alh (Q i 0)) * ee n (fun a=>ay n (fun b=>alh (P (alm i a) (b+1))+alh (Q (alm i a) (b+1)))):=by
   intro i hi
   have KH:=ih (fun a b=>P (alm i a) (b+1)) (fun a b=>Q (alm i a) (b+1))
   have htop:=Sr (n:=n) (fun a b=>P (alm i a) (b+1)) (fun a b=>Q (alm i a) (b+1))
   generalize lS n (fun a b=>P (alm i a) (b+1)) (fun a b=>Q (alm i a) (b+1))=d at KH htop ⊢
   have h1:ay (n+1+1) (fun k=>alh (d k))=ay (n+1) (fun k=>alh (d k)):=SE (by omega) (fun k hk _=>by rw [htop k (by omega)];rfl)
   have h2:ay (n+1+1) (fun k=>alh (amy d k))=ay (n+1) (fun k=>alh (d k)):=by
    rw [Lh];simp [amy,Sp]
   have h3:ay (n+1+1) (fun k=>alh (alQ i * (P i 0 * d k+Q i 0 * amy d k)))≤ay (n+1+1) (fun k=>alh (P i 0) * alh (d k)+alh (Q i 0) * alh (amy d k)):=by
    refine uZ (fun k _=>?_)
    rw [um,So,Int.one_mul,← um,← um]
    exact Sn _ _
   rw [uY,jC,jC,h1,h2] at h3
   have h4:=Int.mul_le_mul_of_nonneg_left KH (iQ (P i 0))
   have h5:=Int.mul_le_mul_of_nonneg_left KH (iQ (Q i 0))
   have h6:=Int.add_mul (alh (P i 0)) (alh (Q i 0)) (ee n (fun a=>ay n (fun b=>alh (P (alm i a) (b+1))+alh (Q (alm i a) (b+1)))))
   omega
  have h1:ay (n+1+1) (fun k=>alh (lS (n+1) P Q k))≤ay (n+1+1) (fun k=>ay (n+1) (fun i=>alh (alQ i * (P i 0 * lS n (fun a b=>P (alm i a) (b+1)) (fun a b=>Q (alm i a) (b+1)) k+Q i 0 * amy (lS n (fun a b=>P (alm i a) (b+1)) (fun a b=>Q (alm i a) (b+1))) k)))) :=
   uZ (fun k _=>Gq _ _)
  rw [zT] at h1
  refine Int.le_trans h1 (Int.le_trans (uZ key) ?_)
  have h2:=adg (n:=n+1) (fun i=>alh (P i 0)+alh (Q i 0)) (fun a=>ay n (fun b=>alh (P a (b+1))+alh (Q a (b+1)))) (fun i _=>by have:=iQ (P i 0);have:=iQ (Q i 0);omega) (fun i _=>pL (fun b _=>by have:=iQ (P i (b+1));have:=iQ (Q i (b+1));omega))
  refine Int.le_trans h2 (Int.le_of_eq (SA (fun a _=>?_)))
  rw [Lh]
theorem K4 {n:Nat} (f:Nat→Int) (k:Nat) (hk:k < n):alh (f k)≤ay n (fun i=>alh (f i)):=by
 have h:=uZ (n:=n) (f:=fun i=>if i=k then alh (f k) else 0) (g:=fun i=>alh (f i)) (fun i _=>by
  by_cases e:i=k
  ·simp [e]
  ·simp [e,iQ])
 rw [u_ k hk (fun i _ hne=>by simp [hne])] at h
 simpa using h
theorem am5 (n i:Nat) (hi:i < n+1) (f:Nat→Int):ay (n+1) f=f i+ay n (fun t=>f (alm i t)):=by
 induction n with
 | zero =>
      obtain rfl:i=0:=by omega
      simp [ay]
 | succ n ih =>
  by_cases h:i=n+1
  ·subst h
   have:ay (n+1) (fun t=>f (alm (n+1) t))=ay (n+1) f:=eI (fun t ht=>by
    have:alm (n+1) t=t:=by unfold alm;split<;>omega
    rw [this])
   rw [this];show ay (n+1) f+f (n+1)=_;omega
  ·show ay (n+1) f + f (n+1) = f i + (ay n (fun t => f (alm i t)) + f (alm i n))
   rw [ih (by omega)]
   have:alm i n=n+1:=by unfold alm;split<;>omega
   rw [this];omega
theorem adi (i t:Nat):nN i (alm i t)=t:=by
 unfold nN alm;by_cases h1:t < i
 ·simp [h1]
 ·rw [if_neg h1,if_neg (by omega)];omega
theorem acZ {n : Nat} (M : Nat → Nat → Int) (c : Nat) (hc : c < n) (x : Int) (m : Nat) (hm : m ≤ c) (y : Nat → Int) :
  aH n (cu M c (fun a=>x * M a c+ay m (fun j=>y j * M a j)))=x * aH n M:=by
 have h:=DS M c hc x 1 (fun a=>M a c) (fun a=>ay m (fun j=>y j * M a j))
 simp only [Int.one_mul] at h
 rw [h,Gt M c hc m y (fun j a=>M a j),DV]
 rw [pM (n:=m) (fun j hj=>by rw [K8 (cu M c (fun a=>M a j)) c j hc (by omega) (by omega) (fun b _=>by simp only [cu];rw [if_pos trivial,if_neg (by omega)])];simp)]
 omega
theorem Sv {n : Nat} (M : Nat → Nat → Int) (c : Nat) (hc : c < n) (x : Int) (m : Nat) (hm : m ≤ c) (y : Nat → Int) :
  aH n (bh M c (fun b=>x * M c b+ay m (fun j=>y j * M j b)))=x * aH n M:=by
 have h:=DU M c hc x 1 (M c) (fun b=>ay m (fun j=>y j * M j b))
 simp only [Int.one_mul] at h
 rw [h,K9 M c hc m y (fun j=>M j),zQ]
 rw [pM (n:=m) (fun j hj=>by rw [zO (bh M c (M j)) c j hc (by omega) (by omega) (fun b _=>by simp only [bh];rw [if_pos trivial,if_neg (by omega)])];simp)]
 omega
def alP (c:Nat) (A:Nat→Nat→Int) (i j:Nat):Int:=aH (c+1) (fun a b=>A (if a=c then i else a) (if b=c then j else b))
theorem Sz (c : Nat) (A : Nat → Nat → Int) (i j : Nat) :
  alP c A i j=A i j * aH c A - ay c (fun l=>ay c (fun k=>A i l * ia c A l k * A k j)):=by
 unfold alP
 rw [St]
 simp only [if_true]
 have e0:aH c (fun a b=>A (if a=c then i else a) (if b=c then j else b))=aH c A :=
  jg (fun a b ha hb=>by rw [if_neg (by omega),if_neg (by omega)])
 rw [e0]
 congr 1
 refine eI (fun l hl=>eI (fun k hk=>?_))
 rw [if_neg (show l ≠ c by omega),if_neg (show k ≠ c by omega)]
 congr 2
 unfold ia
 refine jg (fun a b ha hb=>?_)
 show (if a=k then cL l b else A (if a=c then i else a) (if b=c then j else b))=(if a=k then cL l b else A a b)
 rw [if_neg (show a ≠ c by omega),if_neg (show b ≠ c by omega)]
theorem ac7 {n:Nat} (A:Nat→Nat→Int) (c:Nat) (hc:c < n) (hp:aH c A ≠ 0) (h:∀ i,c≤i→i < n→alP c A i c=0):aH n A=0:=by
 have h1:=acZ A c hc (aH c A) c (Nat.le_refl c) (fun l=>- ay c (fun k=>ia c A l k * A k c))
 rw [K7 _ c hc (fun a ha=>?_)] at h1
 ·rcases Int.mul_eq_zero.mp h1.symm with h2 | h2
  ·exact absurd h2 hp
  ·exact h2
 ·simp only [cu, if_true]
  have e:ay c (fun l=>(- ay c (fun k=>ia c A l k * A k c)) * A a l)=- ay c (fun l=>ay c (fun k=>A a l * ia c A l k * A k c)):=by
   rw [← DX]
   refine eI (fun l _=>?_)
   rw [Int.neg_mul,Int.mul_comm,← jC]
   congr 1
   exact eI (fun k _=>by grind)
  rw [e]
  by_cases hac:a < c
  ·have e2:ay c (fun l=>ay c (fun k=>A a l * ia c A l k * A k c))=aH c A * A a c:=by
    rw [zT]
    rw [eI (g:=fun k=>(if a=k then aH c A else 0) * A k c) (fun k hk=>by
     rw [← K5 A a k hk hac,Int.mul_comm,← jC]
     exact eI (fun l _=>by grind))]
    rw [u_ a hac (fun k _ hne=>by rw [if_neg (Ne.symm hne)];simp),if_pos rfl]
   rw [e2];omega
  ·have := h a (by omega) ha
   rw [Sz] at this
   have e3:A a c * aH c A=aH c A * A a c:=Int.mul_comm _ _
   omega
theorem acW (c : Nat) (K : Nat → Nat → Int) (h1 : ∀ b, b < c → K c b = 0) (h2 : ∀ b, b < c → K (c+1) b = 0) :
  aH (c+1+1) K=aH c K * (K c c * K (c+1) (c+1) - K (c+1) c * K c (c+1)):=by
 rw [St,DT K h1]
 have hz:∀ i,i < c→ia (c+1) K c i=0:=by
  intro i hi
  unfold ia
  have e:aH (c+1) (bh K i (cL c))=aH (c+1) (bh (bh K i (cL c)) c (fun b=>K c c * cL c b)):=by
   refine jg (fun a b ha hb=>?_)
   unfold bh
   by_cases h:a=c
   ·subst h
    rw [if_neg (show a ≠ i by omega),if_pos rfl]
    show K a b=K a a * cL a b
    by_cases hb':b=a
    ·subst hb';rw [Gu];omega
    ·rw [h1 b (by omega),zP hb'];omega
   ·rw [if_neg h]
  rw [e,Sw _ _ (by omega),zO _ c i (by omega) (by omega) (by omega) (fun b _=>by simp [bh])]
  simp
 have hc:ia (c+1) K c c=aH c K:=by
  unfold ia
  rw [DT _ (fun b hb=>by simp only [bh,if_true];exact zP (by omega))]
  have:bh K c (cL c) c c=1:=by simp [bh,cL]
  rw [this,Int.one_mul]
  exact jg (fun a b ha _=>by unfold bh;rw [if_neg (by omega)])
 have e:ay (c+1) (fun j=>ay (c+1) (fun i=>K (c+1) j * ia (c+1) K j i * K i (c+1)))=K (c+1) c * aH c K * K c (c+1):=by
  rw [u_ c (by omega) (fun j hj hne=>pM (fun i hi=>by rw [h2 j (by omega)];simp))]
  rw [u_ c (by omega) (fun i hi hne=>by rw [hz i (by omega)];simp),hc]
 rw [e];grind
theorem adh (c : Nat) (A : Nat → Nat → Int) (hp : aH c A ≠ 0) (i j : Nat) :
  aH c A * alP (c+1) A i j=alP c A c c * alP c A i j - alP c A i c * alP c A c j:=by
 let K:Nat→Nat→Int:=fun a b=>A (if a=c+1 then i else a) (if b=c+1 then j else b)
 have hK:alP (c+1) A i j=aH (c+1+1) K:=rfl
 have hKc:aH c K=aH c A:=jg (fun a b ha hb=>by show A _ _=_;rw [if_neg (by omega),if_neg (by omega)])
 let y:Nat→Nat→Int:=fun r k=>- ay c (fun l=>K r l * ia c A l k)
 let R:Nat→Nat→Int:=fun r b=>aH c A * K r b+ay c (fun k=>y r k * K k b)
 have s1:=Sv K c (n:=c+1+1) (by omega) (aH c A) c (Nat.le_refl c) (y c)
 have s2:=Sv (bh K c (R c)) (c+1) (n:=c+1+1) (by omega) (aH c A) c (by omega) (y (c+1))
 have e2:(fun b=>aH c A * bh K c (R c) (c+1) b+ay c (fun j=>y (c+1) j * bh K c (R c) j b))=R (c+1):=by
  funext b
  show _=aH c A * K (c+1) b+ay c (fun k=>y (c+1) k * K k b)
  congr 1
  ·simp only [bh];rw [if_neg (by omega)]
  ·exact eI (fun k hk=>by simp only [bh];rw [if_neg (by omega)])
 rw [e2] at s2
 have hR:∀ r b,R r b=K r b * aH c A - ay c (fun l=>ay c (fun k=>K r l * ia c A l k * K k b)):=by
  intro r b
  show aH c A * K r b+ay c (fun k=>(- ay c (fun l=>K r l * ia c A l k)) * K k b)=_
  have:ay c (fun k=>(- ay c (fun l=>K r l * ia c A l k)) * K k b)=- ay c (fun l=>ay c (fun k=>K r l * ia c A l k * K k b)):=by
   rw [zT,← DX]
   refine eI (fun k _=>?_)
   rw [Int.neg_mul,Int.mul_comm,← jC]
   congr 1
   exact eI (fun l _=>by grind)
  rw [this,Int.mul_comm];omega
 have C8:∀ r b,b < c→R r b=0:=by
  intro r b hb
  rw [hR]
  have:ay c (fun l=>ay c (fun k=>K r l * ia c A l k * K k b))=K r b * aH c A:=by
   rw [eI (g:=fun l=>K r l * (if l=b then aH c A else 0)) (fun l hl=>by
    rw [← acS A l b hl hb,← jC]
    refine eI (fun k hk=>?_)
    have:K k b=A k b:=by show A _ _=_;rw [if_neg (by omega),if_neg (by omega)]
    rw [this];grind)]
   rw [u_ b hb (fun l _ hne=>by rw [if_neg hne];simp),if_pos rfl]
  omega
 have rH:∀ r b:Nat,alP c A (if r=c+1 then i else r) (if b=c+1 then j else b)=R r b:=by
  intro r b
  rw [Sz,hR]
  congr 1
  refine eI (fun l hl=>eI (fun k hk=>?_))
  show A _ l * ia c A l k * A k _=A _ (if l=c+1 then j else l) * ia c A l k * A (if k=c+1 then i else k) _
  rw [if_neg (show l ≠ c+1 by omega),if_neg (show k ≠ c+1 by omega)]
 have s3:=acW c (bh (bh K c (R c)) (c+1) (R (c+1))) (fun b hb=>by
   simp only [bh];rw [if_neg (by omega),if_pos trivial];exact C8 c b hb) (fun b hb=>by
   simp only [bh];rw [if_pos trivial];exact C8 (c+1) b hb)
 have e3:aH c (bh (bh K c (R c)) (c+1) (R (c+1)))=aH c A:=by
  rw [← hKc]
  exact jg (fun a b ha _=>by simp only [bh];rw [if_neg (by omega),if_neg (by omega)])
 have v1:bh (bh K c (R c)) (c+1) (R (c+1)) c=R c:=by funext b;simp only [bh];rw [if_neg (by omega),if_pos trivial]
 have v2:bh (bh K c (R c)) (c+1) (R (c+1)) (c+1)=R (c+1):=by funext b;simp only [bh];rw [if_pos trivial]
 rw [e3,v1,v2,s2] at s3
 have s1':aH (c+1+1) (bh K c (R c))=aH c A * aH (c+1+1) K:=s1
 rw [s1',← hK] at s3
 have h00:=rH c c
 have h01:=rH c (c+1)
 have h10:=rH (c+1) c
 have h11:=rH (c+1) (c+1)
 rw [if_neg (show c ≠ c+1 by omega)] at h00 h01 h10
 rw [if_neg (show c ≠ c+1 by omega)] at h00
 rw [if_pos rfl] at h01 h10 h11
 rw [if_pos rfl] at h11
 rw [← h00,← h01,← h10,← h11] at s3
 have s4:aH c A * (aH c A * alP (c+1) A i j - (alP c A c c * alP c A i j - alP c A i c * alP c A c j))=0:=by grind
 rcases Int.mul_eq_zero.mp s4 with h|h
 ·exact absurd h hp
 ·omega
theorem ac8 (A:Nat→Nat→Int) (i j:Nat):alP 0 A i j=A i j:=by
 unfold alP;rw [DT _ (fun b hb=>by omega)];simp [aH]
theorem K_ (c:Nat) (A:Nat→Nat→Int):alP c A c c=aH (c+1) A:=by
 unfold alP
 exact jg (fun a b _ _=>by
  congr 1
  ·split<;>simp_all
  ·split<;>simp_all)
def kH (i m a:Nat):Nat:=if a=i then m else if a=m then i else a
def vV (a:Int) (c:List Int):Bool:=decide ((c.length:Int)=a) && !(c.any oq)
theorem WW (x:Int):(decide (-200≤x) && decide (x≤200))=!oq x:=by unfold oq;simp
theorem acL (a:Int) (l:List (List Int)) (c:List Int) (hc:c.length≤maxLen):∀ (d i:Nat),c.length - i=d→i≤c.length→Ev (fun k=>fc.l1 k [c] 0 i a l) (if (c.drop i).any oq then 2 else 0):=by
 unfold maxLen at hc
 intro d
 induction d with
 | zero =>
  intro i hd hi
  refine Ev.step (fun k=>by simp only [fc.l1];rfl) ?_
  simp only [show (0:Int)≤0 by omega,show ((0:Int) < (([c]:List (List Int)).length:Int)) by simp,if_true,show ag [c] 0=c from rfl,show ¬ ((i:Int) < (c.length:Int)) by omega,if_false,List.drop_of_length_le (show c.length≤i by omega),List.any_nil,Bool.false_eq_true]
  refine Ev.step (fun k=>by simp only [fc.l0];rfl) ?_
  simp only [wI ((0:Int)+1) (by omega),show ¬ ((0:Int)+1 < (([c]:List (List Int)).length:Int)) by simp,if_false]
  exact Ev.now _
 | succ d ih =>
  intro i hd hi
  have hil:i < c.length:=by omega
  refine Ev.step (fun k=>by simp only [fc.l1];rfl) ?_
  simp only [show (0:Int)≤0 by omega,show ((0:Int) < (([c]:List (List Int)).length:Int)) by simp,if_true,show ag [c] 0=c from rfl,show ((i:Int) < (c.length:Int)) by omega,cJ i,Gp,Option.bind_some,sI c i hil,wI ((i:Int)+1) (by omega),WW]
  rw [List.drop_eq_getElem_cons hil,List.any_cons]
  cases hb:oq c[i] with
  | true=>simp only [Bool.not_true,Bool.false_eq_true,if_false,Bool.true_or,if_true];exact Ev.now _
  | false=>simp only [Bool.not_false,if_true,Bool.false_or];exact ih (i+1) (by omega) (by omega)
theorem acK (a:Int) (l:List (List Int)) (c:List Int) (hl:l.length≤maxLen) (hc:c.length≤maxLen):Ev (fun k=>fc.f k a l [c]) (if mC a l then if vV a c then 0 else 2 else 1):=by
 unfold fc.f
 refine Ev.bind (aeF a l hl) ?_
 cases mC a l with
 | false=>simp only [Bool.false_eq_true,if_false];exact Ev.now _
 | true =>
  simp only [if_true]
  refine Ev.step (fun k=>by simp only [fc.l0];rfl) ?_
  simp only [show ((0:Int) < (([c]:List (List Int)).length:Int)) by simp,show (0:Int)≤0 by omega,if_true,show ag [c] 0=c from rfl]
  unfold vV
  by_cases h:(c.length:Int)=a
  ·simp only [h, if_true, decide_true, Bool.true_and]
   have:=acL a l c hc c.length 0 (by omega) (by omega)
   rw [List.drop_zero] at this
   cases hb:c.any oq with
   | true=>simp only [hb,if_true] at this;simp only [Bool.not_true,Bool.false_eq_true,if_false];exact this
   | false=>simp only [hb,Bool.false_eq_true,if_false] at this;simp only [Bool.not_false,if_true];exact this
  ·simp only [h, if_false, decide_false, Bool.false_and, Bool.false_eq_true]
   exact Ev.now _
def mZ : Nat → Int → List Int
 | 0,_=>[]
 | n+1,a=>a :: mZ n (a+1)
theorem SW (n:Nat) (a:Int):(mZ n a).length=n:=by
 induction n generalizing a with
 | zero=>rfl
 | succ n ih=>simp [mZ,ih]
theorem adG:∀ (d i:Nat) (a:Int) (x:List Int),x.length - i=d→i≤x.length→x.length≤1048576→0≤a→a+d≤4611686018427387904→Ev (fun k=>iy.l0 k x a i) (a+d,x.take i ++ mZ d a):=by
 intro d
 induction d with
 | zero =>
  intro i a x hd hi hl h0 h1
  refine Ev.step (fun k=>by simp only [iy.l0];rfl) ?_
  simp only [show ¬ ((i:Int) < (x.length:Int)) by omega,if_false,mZ,List.append_nil,List.take_of_length_le (show x.length≤i by omega),show a+((0:Nat):Int)=a by omega]
  exact Ev.now _
 | succ d ih =>
  intro i a x hd hi hl h0 h1
  refine Ev.step (fun k=>by simp only [iy.l0];rfl) ?_
  simp only [show ((i:Int) < (x.length:Int)) by omega,cJ i,if_true,wI ((i:Int)+1) (by omega),wI (a+1) (by omega),Int.toNat_natCast]
  have h:=ih (i+1) (a+1) (x.set i a) (by simp;omega) (by simp;omega) (by simp;omega) (by omega) (by omega)
  have e1:(x.set i a).take (i+1) ++ mZ d (a+1)=x.take i ++ mZ (d+1) a:=by
   rw [List.take_succ_eq_append_getElem (by simp;omega),List.getElem_set_self,List.take_set_of_le (Nat.le_refl _),mZ,List.append_assoc]
   rfl
  have e2:a+1+(d:Int)=a+((d+1:Nat):Int):=by omega
  rw [e1,e2] at h
  exact h
theorem Lm (x:List Int) (a:Int) (hl:x.length≤1048576) (h0:0≤a) (h1:a+x.length≤4611686018427387904):Ev (fun k=>iy.f k x a) (a+x.length,mZ x.length a):=by
 have h:=adG x.length 0 a x (by omega) (by omega) hl h0 h1
 unfold iy.f
 simpa using h
theorem aba (x:List Int) (hl:x.length≤1048576):∀ (d i:Nat) (a:Int),x.length - i=d→i≤x.length→x.drop i=mZ d a→0≤a→a+d≤4611686018427387904→Ev (fun k=>jK.l0 k x a i) (a+d):=by
 intro d
 induction d with
 | zero =>
  intro i a hd hi hx h0 h1
  refine Ev.step (fun k=>by simp only [jK.l0];rfl) ?_
  simp only [show ¬ ((i:Int) < (x.length:Int)) by omega,if_false,show a+((0:Nat):Int)=a by omega]
  exact Ev.now _
 | succ d ih =>
  intro i a hd hi hx h0 h1
  have hil:i < x.length:=by omega
  rw [List.drop_eq_getElem_cons hil,mZ] at hx
  injection hx with hx1 hx2
  refine Ev.step (fun k=>by simp only [jK.l0];rfl) ?_
  simp only [show ((i:Int) < (x.length:Int)) by omega,cJ i,if_true,sI x i hil,hx1,wI ((i:Int)+1) (by omega),wI (a+1) (by omega)]
  have h:=ih (i+1) (a+1) (by omega) (by omega) hx2 (by omega) (by omega)
  have e2:a+1+(d:Int)=a+((d+1:Nat):Int):=by omega
  rw [e2] at h
  exact h
theorem aa_ (n:Nat) (a:Int) (hl:n≤1048576) (h0:0≤a) (h1:a+n≤4611686018427387904):Ev (fun k=>jK.f k (mZ n a) a) (a+n) :=
 aba (mZ n a) (by rw [SW];exact hl) n 0 a (by rw [SW];rfl) (by omega) (by simp) h0 h1
def tot : List (List Int) → Nat
 | []=>0
 | x :: xs=>x.length+tot xs
def ye : List (List Int) → Int → List (List Int)
 | [],_=>[]
 | x :: xs,a=>mZ x.length a :: ye xs (a+x.length)
theorem ae6 (xs:List (List Int)) (m:Nat) (h:∀ x ∈ xs,x.length≤m):tot xs≤xs.length * m:=by
 induction xs with
 | nil=>simp [tot]
 | cons x xs ih =>
  have h1:=h x List.mem_cons_self
  have h2:=ih (fun y hy=>h y (List.mem_cons_of_mem _ hy))
  simp only [tot,List.length_cons,Nat.succ_mul]
  omega
theorem ae7 (xs:List (List Int)) (hl:xs.length≤1048576) (h:∀ x ∈ xs,x.length≤1048576):tot xs≤1099511627776:=by
 have h1:=ae6 xs 1048576 h
 have h2:=Nat.mul_le_mul_right 1048576 hl
 omega
theorem adF:∀ (d i:Nat) (a:Int) (x:List (List Int)),x.length - i=d→i≤x.length→x.length≤1048576→(∀ y ∈ x.drop i,y.length≤1048576)→0≤a→a+tot (x.drop i)≤4611686018427387904→Ev (fun k=>nj.l0 k x a i) (a+tot (x.drop i),x.take i ++ ye (x.drop i) a):=by
 intro d
 induction d with
 | zero =>
  intro i a x hd hi hl hx h0 h1
  refine Ev.step (fun k=>by simp only [nj.l0];rfl) ?_
  simp only [show ¬ ((i:Int) < (x.length:Int)) by omega,if_false,List.drop_of_length_le (show x.length≤i by omega),ye,tot,List.append_nil,List.take_of_length_le (show x.length≤i by omega),show a+((0:Nat):Int)=a by omega]
  exact Ev.now _
 | succ d ih =>
  intro i a x hd hi hl hx h0 h1
  have hil:i < x.length:=by omega
  rw [List.drop_eq_getElem_cons hil] at hx h1 ⊢
  simp only [tot] at h1 ⊢
  have hxi:=hx _ List.mem_cons_self
  refine Ev.step (fun k=>by simp only [nj.l0];rfl) ?_
  have hrd:qR x (i:Int)=x[i]:=by simp [qR,List.getD_eq_getElem?_getD,hil]
  simp only [show ((i:Int) < (x.length:Int)) by omega,cJ i,if_true,wI ((i:Int)+1) (by omega),Int.toNat_natCast,hrd]
  refine Ev.bind (Lm x[i] a hxi h0 (by omega)) ?_
  have zm:(x.set i (mZ x[i].length a)).drop (i+1)=x.drop (i+1):=by rw [List.drop_set_of_lt (by omega)]
  have h:=ih (i+1) (a+x[i].length) (x.set i (mZ x[i].length a)) (by simp;omega) (by simp;omega) (by simp;omega) (by rw [zm];exact fun y hy=>hx y (List.mem_cons_of_mem _ hy)) (by omega) (by rw [zm];omega)
  rw [zm] at h
  have e1:(x.set i (mZ x[i].length a)).take (i+1) ++ ye (x.drop (i+1)) (a+x[i].length)=x.take i ++ ye (x[i] :: x.drop (i+1)) a:=by
   rw [List.take_succ_eq_append_getElem (by simp;omega),List.getElem_set_self,List.take_set_of_le (Nat.le_refl _),ye,List.append_assoc]
   rfl
  have e2:a+(x[i].length:Int)+((tot (x.drop (i+1)):Nat):Int)=a+((x[i].length+tot (x.drop (i+1)):Nat):Int):=by omega
  rw [e1,e2] at h
  exact h
theorem adE (x:List (List Int)) (a:Int) (hl:x.length≤1048576) (hx:∀ y ∈ x,y.length≤1048576) (h0:0≤a) (h1:a+tot x≤4611686018427387904):Ev (fun k=>nj.f k x a) (a+tot x,ye x a):=by
 have h:=adF x.length 0 a x (by omega) (by omega) hl (by simpa using hx) h0 (by simpa using h1)
 unfold nj.f
 simpa using h
theorem ae0 (e:Nat):Int.tdiv (e:Int) 2=((e / 2:Nat):Int):=rfl
theorem ae1 (e:Nat):Int.tmod (e:Int) 2=((e % 2:Nat):Int):=rfl
/-- Where the directed edge e begins, and where it ends. -/
def r3 (l:List (List Int)) (e:Nat):Int:=rd (ag l ((e / 2:Nat):Int)) ((e % 2:Nat):Int)
def r_ (l:List (List Int)) (e:Nat):Int:=rd (ag l ((e / 2:Nat):Int)) ((1 - e % 2:Nat):Int)
def two (l:List (List Int)):Prop:=∀ x ∈ l,x.length=2
theorem acC {a:Int} {l:List (List Int)} (h:mC a l=true):two l:=by
 intro x hx
 simp only [mC,Bool.and_eq_true,List.all_eq_true] at h
 have:=h.2.2.2 x hx
 simp only [pH,Bool.and_eq_true,decide_eq_true_eq] at this
 exact this.1
theorem K1 {a:Int} {l:List (List Int)} (h:mC a l=true):l.length≤10:=by
 simp only [mC,Bool.and_eq_true,decide_eq_true_eq] at h
 exact h.2.2.1
theorem Si {a:Int} {l:List (List Int)} (h:mC a l=true):1≤a∧a≤8:=by
 simp only [mC,Bool.and_eq_true,decide_eq_true_eq] at h
 exact ⟨h.1,h.2.1⟩
theorem acB {a:Int} {l:List (List Int)} (h:mC a l=true) {x:List Int} (hx:x ∈ l):(0≤rd x 0∧rd x 0≤a - 1)∧(0≤rd x 1∧rd x 1≤a - 1):=by
 have hs:=Si h
 simp only [mC,Bool.and_eq_true,List.all_eq_true] at h
 have:=h.2.2.2 x hx
 simp only [pH,amk,Bool.and_eq_true,decide_eq_true_eq] at this
 rw [jO (by omega) (by omega)] at this
 exact this.2
theorem ae8 {l:List (List Int)} (h2:two l) (e:Nat) (he:e < 2 * l.length):(ag l ((e / 2:Nat):Int)).length=2:=by
 have hi:e / 2 < l.length:=by omega
 rw [uy l (e / 2) hi]
 exact h2 _ (List.getElem_mem hi)
theorem acJ (a:Int) (l:List (List Int)) (hl:l.length≤1048576) (h2:two l) (e:Nat) (he:e < 2 * l.length):Ag.f a l e=some (r3 l e,r_ l e):=by
 have hx:=ae8 h2 e he
 unfold Ag.f
 rw [ae0,ae1,jO (by omega) (by omega),if_pos (by omega),if_pos (by omega),hx]
 unfold r3 r_
 rcases Nat.mod_two_eq_zero_or_one e with h|h
 ·rw [h];rfl
 ·rw [h];rfl
/-- The other direction of e's edge. -/
def opp (e:Nat):Nat:=if e % 2=0 then e+1 else e - 1
/-- May f come behind e. -/
def next (l:List (List Int)) (e f:Nat):Bool:=decide (r_ l e=r3 l f) && !decide (f=opp e)
theorem aeM (n:Nat) (hn:n≤1048576):∀ (d i:Nat),n - i=d→i≤n→Ev (fun k=>iw.l0 k n (List.replicate i (List.replicate n 0)) n i) (List.replicate n (List.replicate n 0)):=by
 intro d
 induction d with
 | zero =>
  intro i hd hi
  obtain rfl:i=n:=by omega
  refine Ev.step (fun k=>by simp only [iw.l0];rfl) ?_
  simp only [Int.lt_irrefl,if_false]
  exact Ev.now _
 | succ d ih =>
  intro i hd hi
  refine Ev.step (fun k=>by simp only [iw.l0];rfl) ?_
  simp only [lI i n (by omega),cJ n,Int.toNat_natCast,show n≤35184372088832 by omega,List.length_replicate,show i < 5864062014805 by omega,if_true,wI ((i:Int)+1) (by omega)]
  have h:=ih (i+1) (by omega) (by omega)
  rw [List.replicate_succ'] at h
  exact h
theorem aeL (n:Nat) (hn:n≤1048576):Ev (fun k=>iw.f k n) (List.replicate n (List.replicate n 0)):=aeM n hn n 0 (by omega) (by omega)
theorem X8 (l:List Int) (h:l.length≤1048576):oa.f l=some l:=by
 unfold oa.f
 rw [if_pos (by omega)]
theorem Sl (l:List Int) (h:l.length≤1048576):vA.f l=some l:=by
 unfold vA.f
 simp only [Option.bind_some,List.length_nil,List.nil_append]
 rw [if_pos (by omega)]
/-- The two ends of edge i of a graph, as numbers below n. -/
def endsIn (n:Nat) (l:List (List Int)):Prop:=∀ i,i < l.length→(ag l (i:Int)).length=2∧∃ u v:Nat,rd (ag l (i:Int)) 0=u∧rd (ag l (i:Int)) 1=v∧u < n∧v < n
theorem K0 {a:Int} {l:List (List Int)} (h:mC a l=true):∃ n:Nat,a=n∧1≤n∧n≤8∧endsIn n l:=by
 have hs:=Si h
 refine ⟨a.toNat,by omega,by omega,by omega,fun i hi=>?_⟩
 have hm:l[i] ∈ l:=List.getElem_mem hi
 rw [uy l i hi]
 have he:=acB h hm
 exact ⟨acC h _ hm,(rd l[i] 0).toNat,(rd l[i] 1).toNat,by omega,by omega,by omega,by omega⟩
/-- How often v is an end of the first i edges. -/
def mj (l : List (List Int)) : Nat → Nat → Nat
 | 0,_=>0
 | i+1,v=>mj l i v+(if rd (ag l (i:Int)) 0=(v:Int) then 1 else 0)+(if rd (ag l (i:Int)) 1=(v:Int) then 1 else 0)
theorem Jr (l:List (List Int)) (i v:Nat):mj l i v≤2 * i:=by
 induction i with
 | zero=>simp [mj]
 | succ i ih =>
  unfold mj
  have h1:(if rd (ag l (i:Int)) 0=(v:Int) then 1 else 0)≤1:=by split<;>omega
  have h2:(if rd (ag l (i:Int)) 1=(v:Int) then 1 else 0)≤1:=by split<;>omega
  omega
theorem acI (a:Int) (l:List (List Int)) (hl:l.length≤1048576) (h2:two l) (v:Nat):∀ (d i:Nat),l.length - i=d→i≤l.length→Ev (fun k=>fH.l0 k v (mj l i v:Int) i a l) (mj l l.length v:Int):=by
 intro d
 induction d with
 | zero =>
  intro i hd hi
  obtain rfl:i=l.length:=by omega
  refine Ev.step (fun k=>by simp only [fH.l0];rfl) ?_
  simp only [Int.lt_irrefl,if_false]
  exact Ev.now _
 | succ d ih =>
  intro i hd hi
  have hil:i < l.length:=by omega
  have hx:(ag l (i:Int)).length=2:=by rw [uy l i hil];exact h2 _ (List.getElem_mem hil)
  have hdn:=Jr l i v
  have h:=ih (i+1) (by omega) (by omega)
  have hend:∀ z:Nat,z≤2 * i+2→z=mj l (i+1) v→Ev (fun k=>fH.l1 k v (z:Int) i 2 a l) (mj l l.length v:Int):=by
   intro z hz1 hz
   refine Ev.step (fun k=>by simp only [fH.l1];rfl) ?_
   simp only [Int.lt_irrefl,if_false,wI ((i:Int)+1) (by omega)]
   rw [hz]
   exact h
  have hone:∀ z:Nat,z≤2 * i+1→z=mj l i v+(if rd (ag l (i:Int)) 0=(v:Int) then 1 else 0)→Ev (fun k=>fH.l1 k v (z:Int) i 1 a l) (mj l l.length v:Int):=by
   intro z hz1 hz
   refine Ev.step (fun k=>by simp only [fH.l1];rfl) ?_
   simp only [show ((1:Int) < 2) by omega,show ((0:Int)≤1) by omega,cJ i,show ((i:Int) < (l.length:Int)) by omega,hx,show ((1:Int) < ((2:Nat):Int)) by omega,if_true,wI ((1:Int)+1) (by omega)]
   by_cases hc:rd (ag l (i:Int)) 1=(v:Int)
   ·simp only [hc, if_true, wI ((z : Int) + 1) (by omega)]
    have:=hend (z+1) (by omega) (by unfold mj;rw [if_pos hc,← hz])
    simpa using this
   ·simp only [hc, if_false]
    have:=hend z (by omega) (by unfold mj;rw [if_neg hc,← hz];rfl)
    simpa using this
  refine Ev.step (fun k=>by simp only [fH.l0];rfl) ?_
  simp only [show ((i:Int) < (l.length:Int)) by omega,if_true]
  refine Ev.step (fun k=>by simp only [fH.l1];rfl) ?_
  simp only [show ((0:Int) < 2) by omega,cJ i,show ((i:Int) < (l.length:Int)) by omega,hx,show ((0:Int)≤0) by omega,show ((0:Int) < ((2:Nat):Int)) by omega,if_true,wI ((0:Int)+1) (by omega)]
  by_cases hc:rd (ag l (i:Int)) 0=(v:Int)
  ·simp only [hc, if_true, jO (show -9223372036854775808 ≤ ((mj l i v : Nat) : Int) + 1 by omega) (by omega)]
   have:=hone (mj l i v+1) (by omega) (by rw [if_pos hc])
   simpa using this
  ·simp only [hc, if_false]
   have:=hone (mj l i v) (by omega) (by rw [if_neg hc];rfl)
   simpa using this
theorem acH (a:Int) (l:List (List Int)) (hl:l.length≤1048576) (h2:two l) (v:Nat):Ev (fun k=>fH.f k a l v) (mj l l.length v:Int) :=
 acI a l hl h2 v l.length 0 (by omega) (by omega)
def gl (a b z:Int):Int:=if z=mx a b then mn a b else z
def mY (f:Int→Int) (i:Nat) (c:List Int):List Int:=(c.take i).map f ++ c.drop i
theorem DY (f:Int→Int) (i:Nat) (c:List Int):(mY f i c).length=c.length:=by
 unfold mY
 rw [List.length_append,List.length_map,List.length_take,List.length_drop]
 omega
theorem Lk (f:Int→Int) (i:Nat) (c:List Int) (h:i < c.length):rd (mY f i c) (i:Int)=c[i]:=by
 rw [sI _ _ (by rw [DY];exact h)]
 unfold mY
 rw [List.getElem_append_right (by rw [List.length_map,List.length_take];omega)]
 simp [List.length_take,Nat.min_eq_left (Nat.le_of_lt h)]
theorem Ll (f:Int→Int) (i:Nat) (c:List Int) (h:i < c.length):mY f (i+1) c=(mY f i c).set i (f c[i]):=by
 have hl:((c.take i).map f).length=i:=by rw [List.length_map,List.length_take];omega
 unfold mY
 apply List.ext_getElem?
 intro j
 rw [List.getElem?_set]
 by_cases hj:i=j
 ·subst hj
  rw [if_pos rfl,if_pos (by rw [List.length_append,hl,List.length_drop];omega)]
  rw [List.getElem?_append_left (by rw [List.length_map,List.length_take];omega),List.getElem?_map,List.getElem?_take,if_pos (by omega),List.getElem?_eq_getElem h]
  rfl
 ·rw [if_neg hj]
  by_cases hlt:j < i
  ·rw [List.getElem?_append_left (by rw [List.length_map, List.length_take]; omega), List.getElem?_append_left (by omega)]
   simp only [List.getElem?_map,List.getElem?_take]
   rw [if_pos (by omega),if_pos hlt]
  ·rw [List.getElem?_append_right (by rw [List.length_map, List.length_take]; omega), List.getElem?_append_right (by omega), hl]
   simp only [List.length_map,List.length_take,List.getElem?_drop]
   congr 1
   omega
theorem SP (f:Int→Int) (i:Nat) (c:List Int) (h:i < c.length) (e:f c[i]=c[i]):mY f (i+1) c=mY f i c:=by
 rw [Ll f i c h,e]
 apply List.ext_getElem
 ·simp
 ·intro j h1 h2
  rw [List.getElem_set]
  by_cases hj:i=j
  ·subst hj
   rw [if_pos rfl]
   have:=Lk f i c h
   rw [sI _ _ (by rw [DY];exact h)] at this
   exact this.symm
  ·rw [if_neg hj]
def pX (l : List (List Int)) : Nat → Nat → List Int → List Int
 | 0,_,c=>c
 | d+1,i,c=>pX l d (i+1) (c.map (gl (rd c (rd (ag l (i:Int)) 0)) (rd c (rd (ag l (i:Int)) 1))))
theorem aeK (a : Int) (l : List (List Int)) (hl : l.length ≤ 1048576) (i : Nat) (hi : i < l.length) (x y : Int) (c : List Int) (hc : c.length ≤ 1048576) (R : List Int)
  (hR:Ev (fun k=>dA.l1 k (c.map (gl x y)) ((i:Int)+1) a l) R) :
  ∀ (d v:Nat),c.length - v=d→v≤c.length→Ev (fun k=>dA.l2 k (mY (gl x y) v c) i x y v a l) R:=by
 intro d
 induction d with
 | zero =>
  intro v hd hv
  obtain rfl:v=c.length:=by omega
  refine Ev.step (fun k=>by simp only [dA.l2];rfl) ?_
  simp only [DY,Int.lt_irrefl,if_false,wI ((i:Int)+1) (by omega)]
  rw [show mY (gl x y) c.length c=c.map (gl x y) from by simp [mY]]
  exact hR
 | succ d ih =>
  intro v hd hv
  have zH:v < c.length:=by omega
  have h:=ih (v+1) (by omega) (by omega)
  refine Ev.step (fun k=>by simp only [dA.l2];rfl) ?_
  simp only [DY,show ((v:Int) < (c.length:Int)) by omega,cJ v,if_true,Lk _ v c zH,Int.toNat_natCast,wI ((v:Int)+1) (by omega)]
  by_cases hz:c[v]=mx x y
  ·rw [Ll _ v c zH, show gl x y c[v] = mn x y from by unfold gl; exact if_pos hz] at h
   simp only [hz,if_true]
   exact h
  ·rw [SP (gl x y) v c zH (by unfold gl; exact if_neg hz)] at h
   simp only [hz,if_false]
   exact h
theorem acu (l : List (List Int)) (hl : l.length ≤ 1048576) (i : Nat) (hi : i < l.length) (x y : Int) (c : List Int) (hc : c.length ≤ 1048576) (R : List Int)
  (hR:Ev (fun k=>dh.l1 k (c.map (gl x y)) l (l.length:Int) ((i:Int)+1)) R) :
  ∀ (d v:Nat),c.length - v=d→v≤c.length→Ev (fun k=>dh.l2 k (mY (gl x y) v c) x y l (l.length:Int) i (c.length:Int) v) R:=by
 intro d
 induction d with
 | zero =>
  intro v hd hv
  obtain rfl:v=c.length:=by omega
  refine Ev.step (fun k=>by simp only [dh.l2];rfl) ?_
  simp only [Int.lt_irrefl,if_false,wI ((i:Int)+1) (by omega)]
  rw [show mY (gl x y) c.length c=c.map (gl x y) from by simp [mY]]
  exact hR
 | succ d ih =>
  intro v hd hv
  have zH:v < c.length:=by omega
  have h:=ih (v+1) (by omega) (by omega)
  refine Ev.step (fun k=>by simp only [dh.l2];rfl) ?_
  simp only [DY,show ((v:Int) < (c.length:Int)) by omega,cJ v,if_true,Lk _ v c zH,Int.toNat_natCast,wI ((v:Int)+1) (by omega)]
  by_cases hz:c[v]=mx x y
  ·rw [Ll _ v c zH, show gl x y c[v] = mn x y from by unfold gl; exact if_pos hz] at h
   simp only [hz,if_true]
   exact h
  ·rw [SP (gl x y) v c zH (by unfold gl; exact if_neg hz)] at h
   simp only [hz,if_false]
   exact h
theorem aeJ (n:Nat) (hn:n≤1048576) (a:Int) (l:List (List Int)) (hl:l.length≤1048576) (hE:endsIn n l):∀ (d i:Nat) (c:List Int),l.length - i=d→i≤l.length→c.length=n→Ev (fun k=>dA.l1 k c i a l) (pX l d i c):=by
 intro d
 induction d with
 | zero =>
  intro i c hd hi hc
  obtain rfl:i=l.length:=by omega
  refine Ev.step (fun k=>by simp only [dA.l1];rfl) ?_
  simp only [Int.lt_irrefl,if_false]
  exact Ev.now _
 | succ d ih =>
  intro i c hd hi hc
  have hil:i < l.length:=by omega
  obtain ⟨hx,u,v,hu,hv,hun,gG⟩:=hE i hil
  have h:=aeK a l hl i hil (rd c u) (rd c v) c (by omega) _ (ih (i+1) (c.map (gl (rd c u) (rd c v))) (by omega) (by omega) (by rw [List.length_map];exact hc)) c.length 0 (by omega) (by omega)
  rw [show mY (gl (rd c u) (rd c v)) 0 c=c from by simp [mY]] at h
  rw [show pX l (d+1) i c=pX l d (i+1) (c.map (gl (rd c (rd (ag l (i:Int)) 0)) (rd c (rd (ag l (i:Int)) 1)))) from rfl,hu,hv]
  refine Ev.step (fun k=>by simp only [dA.l1];rfl) ?_
  simp only [show ((i:Int) < (l.length:Int)) by omega,cJ i,hx,hu,hv,hc,show ((0:Int) < ((2:Nat):Int)) by omega,show ((1:Int) < ((2:Nat):Int)) by omega,cJ u,cJ v,lI u n (by omega),lI v n (by omega),if_true]
  exact h
theorem acs (n:Nat) (hn:n≤1048576) (l:List (List Int)) (hl:l.length≤1048576) (hE:endsIn n l):∀ (d i:Nat) (c:List Int),l.length - i=d→i≤l.length→c.length=n→Ev (fun k=>dh.l1 k c l (l.length:Int) i) (pX l d i c):=by
 intro d
 induction d with
 | zero =>
  intro i c hd hi hc
  obtain rfl:i=l.length:=by omega
  refine Ev.step (fun k=>by simp only [dh.l1];rfl) ?_
  simp only [Int.lt_irrefl,if_false]
  exact Ev.now _
 | succ d ih =>
  intro i c hd hi hc
  have hil:i < l.length:=by omega
  obtain ⟨hx,u,v,hu,hv,hun,gG⟩:=hE i hil
  have h:=acu l hl i hil (rd c u) (rd c v) c (by omega) _ (ih (i+1) (c.map (gl (rd c u) (rd c v))) (by omega) (by omega) (by rw [List.length_map];exact hc)) c.length 0 (by omega) (by omega)
  rw [show mY (gl (rd c u) (rd c v)) 0 c=c from by simp [mY],hc] at h
  rw [show pX l (d+1) i c=pX l d (i+1) (c.map (gl (rd c (rd (ag l (i:Int)) 0)) (rd c (rd (ag l (i:Int)) 1)))) from rfl,hu,hv]
  refine Ev.step (fun k=>by simp only [dh.l1];rfl) ?_
  simp only [show ((i:Int) < (l.length:Int)) by omega,cJ i,hx,hu,hv,hc,uF.f,Option.bind_some,show ((0:Int) < ((2:Nat):Int)) by omega,show ((1:Int) < ((2:Nat):Int)) by omega,cJ u,cJ v,lI u n (by omega),lI v n (by omega),if_true]
  exact h
def upto (i:Nat):List Int:=(List.range i).map Int.ofNat
theorem yu (i:Nat):(upto i).length=i:=by simp [upto]
theorem TC (i:Nat):upto (i+1)=upto i ++ [(i:Int)]:=by
 unfold upto
 rw [List.range_succ,List.map_append]
 rfl
def jL (n:Nat) (l:List (List Int)):List Int:=pX l l.length 0 (upto n)
theorem aeI (n:Nat) (hn:n≤1048576) (l:List (List Int)) (hl:l.length≤1048576) (hE:endsIn n l):∀ (d v:Nat),n - v=d→v≤n→Ev (fun k=>dA.l0 k (upto v) v n l) (jL n l):=by
 intro d
 induction d with
 | zero =>
  intro v hd hv
  obtain rfl:v=n:=by omega
  refine Ev.step (fun k=>by simp only [dA.l0];rfl) ?_
  simp only [Int.lt_irrefl,if_false]
  exact aeJ v hn v l hl hE l.length 0 (upto v) (by omega) (by omega) (yu v)
 | succ d ih =>
  intro v hd hv
  have h:=ih (v+1) (by omega) (by omega)
  rw [TC] at h
  refine Ev.step (fun k=>by simp only [dA.l0];rfl) ?_
  simp only [lI v n (by omega),if_true,yu,show v < 17592186044416 by omega,wI ((v:Int)+1) (by omega)]
  exact h
theorem aeH (n:Nat) (hn:n≤1048576) (l:List (List Int)) (hl:l.length≤1048576) (hE:endsIn n l):Ev (fun k=>dA.f k n l) (jL n l):=aeI n hn l hl hE n 0 (by omega) (by omega)
theorem acr (n:Nat) (hn:n≤1048576) (l:List (List Int)) (hl:l.length≤1048576) (hE:endsIn n l):∀ (d v:Nat),n - v=d→v≤n→Ev (fun k=>dh.l0 k (upto v) n v n l) (jL n l):=by
 intro d
 induction d with
 | zero =>
  intro v hd hv
  obtain rfl:v=n:=by omega
  refine Ev.step (fun k=>by simp only [dh.l0];rfl) ?_
  simp only [Int.lt_irrefl,if_false]
  exact acs v hn l hl hE l.length 0 (upto v) (by omega) (by omega) (yu v)
 | succ d ih =>
  intro v hd hv
  have h:=ih (v+1) (by omega) (by omega)
  rw [TC] at h
  refine Ev.step (fun k=>by simp only [dh.l0];rfl) ?_
  simp only [lI v n (by omega),if_true,yu,show v < 17592186044416 by omega,wI ((v:Int)+1) (by omega)]
  exact h
theorem acq (n:Nat) (hn:n≤1048576) (l:List (List Int)) (hl:l.length≤1048576) (hE:endsIn n l):Ev (fun k=>dh.f k n l) (jL n l):=acr n hn l hl hE n 0 (by omega) (by omega)
/-- Each class has its least vertex as its name. -/
def yV (n:Nat) (c:List Int):Prop:=c.length=n∧∀ v:Nat,v < n→0≤rd c v∧rd c v≤v∧rd c (rd c v)=rd c v
theorem GW (f:Int→Int) (c:List Int) (v:Nat) (h:v < c.length):rd (c.map f) (v:Int)=f (rd c (v:Int)):=by
 rw [sI _ _ (by rw [List.length_map];exact h),sI _ _ h,List.getElem_map]
theorem Yb (n:Nat):yV n (upto n):=by
 refine ⟨yu n,fun v hv=>?_⟩
 have h:∀ w:Nat,w < n→rd (upto n) (w:Int)=(w:Int):=fun w hw=>by
  rw [sI _ _ (by rw [yu];exact hw)]
  simp [upto]
 rw [h v hv,h v hv]
 omega
theorem Ya {n:Nat} {c:List Int} (h:yV n c) (u v:Nat) (hu:u < n) (hv:v < n):yV n (c.map (gl (rd c u) (rd c v))):=by
 refine ⟨by rw [List.length_map];exact h.1,fun w hw=>?_⟩
 have hU:=h.2 u hu
 have hV:=h.2 v hv
 have hW:=h.2 w hw
 rw [GW _ _ w (by rw [h.1];exact hw)]
 generalize hp:rd c (u:Int)=p at *
 generalize hq:rd c (v:Int)=q at *
 generalize hz:rd c (w:Int)=z at *
 have QO:∀ y:Int,0≤y→y < n→rd c y=y→rd (c.map (gl p q)) y=gl p q y:=by
  intro y h0 h1 h2
  obtain ⟨k,rfl⟩:∃ k:Nat,y=k:=⟨y.toNat,by omega⟩
  rw [GW _ _ k (by rw [h.1];omega),h2]
 have hmm:gl p q (mn p q)=mn p q:=by unfold gl;split<;>rfl
 by_cases e:z=mx p q
 ·have hm : mn p q ≤ mx p q := by unfold mn mx; split <;> split <;> omega
  have RF:0≤mn p q∧rd c (mn p q)=mn p q:=by
   unfold mn
   split
   ·first|exact ⟨by omega,hU.2.2⟩|exact ⟨by omega,hV.2.2⟩
   ·first|exact ⟨by omega,hV.2.2⟩|exact ⟨by omega,hU.2.2⟩
  rw [show gl p q z=mn p q from by unfold gl;exact if_pos e]
  rw [QO _ RF.1 (by omega) RF.2,hmm]
  omega
 ·rw [show gl p q z = z from by unfold gl; exact if_neg e]
  rw [QO z hW.1 (by omega) hW.2.2,show gl p q z=z from by unfold gl;exact if_neg e]
  omega
theorem Yc {n:Nat} {l:List (List Int)} (hE:endsIn n l):∀ (d i:Nat) (c:List Int),i+d≤l.length→yV n c→yV n (pX l d i c):=by
 intro d
 induction d with
 | zero=>intro i c _ h;exact h
 | succ d ih =>
  intro i c hi h
  obtain ⟨hx,u,v,hu,hv,hun,gG⟩:=hE i (by omega)
  rw [show pX l (d+1) i c=pX l d (i+1) (c.map (gl (rd c (rd (ag l (i:Int)) 0)) (rd c (rd (ag l (i:Int)) 1)))) from rfl,hu,hv]
  exact ih (i+1) _ (by omega) (Ya h u v hun gG)
theorem Ft (n:Nat) (l:List (List Int)) (hE:endsIn n l):yV n (jL n l):=Yc hE l.length 0 _ (by omega) (Yb n)
/-- How many of the vertices v ≥ i bear their class's name. -/
def jM (c : List Int) : Nat → Nat → Nat
 | 0,_=>0
 | d+1,i=>(if rd c (i:Int)=(i:Int) then 1 else 0)+jM c d (i+1)
theorem Cr (c:List Int) (d i:Nat):jM c (d+1) i=(if rd c (i:Int)=(i:Int) then 1 else 0)+jM c d (i+1):=rfl
theorem Yv (c:List Int) (hc:c.length≤1048576):∀ (d i z:Nat),c.length - i=d→i≤c.length→z≤i→Ev (fun k=>iV.l0 k z c (c.length:Int) i) ((z+jM c d i:Nat):Int):=by
 intro d
 induction d with
 | zero =>
  intro i z hd hi hz
  obtain rfl:i=c.length:=by omega
  refine Ev.step (fun k=>by simp only [iV.l0];rfl) ?_
  simp only [Int.lt_irrefl,if_false]
  exact Ev.now _
 | succ d ih =>
  intro i z hd hi hz
  refine Ev.step (fun k=>by simp only [iV.l0];rfl) ?_
  simp only [show ((i:Int) < (c.length:Int)) by omega,cJ i,if_true,wI ((i:Int)+1) (by omega),wI ((z:Int)+1) (by omega)]
  by_cases h:rd c (i:Int)=(i:Int)
  ·have h1 := ih (i + 1) (z + 1) (by omega) (by omega) (by omega)
   rw [show jM c (d+1) i=1+jM c d (i+1) from by rw [Cr,if_pos h],show z+(1+jM c d (i+1))=z+1+jM c d (i+1) by omega]
   simp only [h,if_true]
   exact h1
  ·have h1 := ih (i + 1) z (by omega) (by omega) (by omega)
   rw [show jM c (d+1) i=jM c d (i+1) from by rw [Cr,if_neg h,Nat.zero_add]]
   simp only [Ne.symm h,if_false]
   exact h1
theorem Yu (c:List Int) (hc:c.length≤1048576):Ev (fun k=>iV.f k c) ((jM c c.length 0:Nat):Int):=by
 have h:=Yv c hc c.length 0 0 (by omega) (by omega) (by omega)
 rw [Nat.zero_add] at h
 exact h
theorem Yf (c:List Int):∀ (d i:Nat),jM c d i=0↔∀ v:Nat,i≤v→v < i+d→rd c (v:Int) ≠ (v:Int):=by
 intro d
 induction d with
 | zero=>intro i;simp [jM];omega
 | succ d ih =>
  intro i
  rw [show jM c (d+1) i=(if rd c (i:Int)=(i:Int) then 1 else 0)+jM c d (i+1) from rfl]
  by_cases h:rd c (i:Int)=(i:Int)
  ·rw [if_pos h]
   exact ⟨fun e=>by omega,fun e=>(e i (by omega) (by omega) h).elim⟩
  ·rw [if_neg h, Nat.zero_add, ih]
   exact ⟨fun e v h1 h2=>by
    by_cases hv:v=i
    ·subst hv;exact h
    ·exact e v (by omega) (by omega),fun e v h1 h2=>e v (by omega) (by omega)⟩
/-- Is all one part. -/
def qQ (c:List Int):Bool:=decide (∀ v,v < c.length→rd c ((v:Nat):Int)=rd c 0)
theorem OS {n:Nat} {c:List Int} (hn:1≤n) (h:yV n c):((((jM c c.length 0:Nat):Int)) == 1)=qQ c:=by
 have h0:rd c 0=0:=by
  have:=h.2 0 (by omega)
  have e:((0:Nat):Int)=0:=rfl
  rw [e] at this
  omega
 obtain ⟨m,hm⟩:∃ m,c.length=m+1:=⟨c.length - 1,by have:=h.1;omega⟩
 rw [Bool.eq_iff_iff,beq_iff_eq]
 unfold qQ
 rw [decide_eq_true_eq,hm]
 rw [show jM c (m+1) 0=1+jM c m 1 from by rw [Cr,if_pos (show rd c ((0:Nat):Int)=((0:Nat):Int) from h0)]]
 have hz:=Yf c m 1
 constructor
 ·intro e v hv
  rw [h0]
  have h1:=hz.1 (by omega)
  have h2:=h.2 v (by have:=h.1;omega)
  by_cases hp:rd c (v:Int)=0
  ·exact hp
  ·exfalso
   refine h1 (rd c (v:Int)).toNat (by omega) (by omega) ?_
   rw [show (((rd c (v:Int)).toNat:Nat):Int)=rd c (v:Int) by omega]
   exact h2.2.2
 ·intro e
  have:jM c m 1=0:=hz.2 (fun v h1 h2 hc=>by
   have:=e v (by omega)
   rw [h0] at this
   omega)
  omega
/-- A row and a square of numbers, by their places. -/
def aE (n:Nat) (g:Nat→Int):List Int:=(List.range n).map g
def b9 (n:Nat) (f:Nat→Nat→Int):List (List Int):=(List.range n).map fun i=>aE n (f i)
theorem fE (n:Nat) (g:Nat→Int):(aE n g).length=n:=by simp [aE]
theorem fk (n:Nat) (f:Nat→Nat→Int):(b9 n f).length=n:=by simp [b9]
theorem gH {n:Nat} {g:Nat→Int} {v:Nat} (h:v < n):rd (aE n g) (v:Int)=g v:=by
 rw [sI _ _ (by rw [fE];exact h)]
 simp [aE]
theorem nU {n:Nat} {f:Nat→Nat→Int} {u:Nat} (h:u < n):ag (b9 n f) (u:Int)=aE n (f u):=by
 rw [uy _ _ (by rw [fk];exact h)]
 simp [b9]
theorem kJ {n:Nat} {g h:Nat→Int} (e:∀ j,j < n→g j=h j):aE n g=aE n h:=by
 unfold aE
 apply List.map_congr_left
 intro j hj
 exact e j (List.mem_range.mp hj)
theorem sK {n:Nat} {f h:Nat→Nat→Int} (e:∀ i j,i < n→j < n→f i j=h i j):b9 n f=b9 n h:=by
 unfold b9
 apply List.map_congr_left
 intro i hi
 exact kJ fun j hj=>e i j (List.mem_range.mp hi) hj
theorem qT {n:Nat} (g:Nat→Int) (v:Nat) (x:Int):(aE n g).set v x=aE n (fun j=>if j=v then x else g j):=by
 apply List.ext_getElem
 ·rw [List.length_set,fE,fE]
 intro j h1 h2
 rw [List.getElem_set]
 simp only [aE,List.getElem_map,List.getElem_range]
 by_cases h:v=j
 ·subst h;simp
 ·rw [if_neg h,if_neg (fun e=>h e.symm)]
theorem Bx {n:Nat} (f:Nat→Nat→Int) (u:Nat) (g:Nat→Int):(b9 n f).set u (aE n g)=b9 n (fun i j=>if i=u then g j else f i j):=by
 apply List.ext_getElem
 ·rw [List.length_set,fk,fk]
 intro i h1 h2
 rw [List.getElem_set]
 simp only [b9,List.getElem_map,List.getElem_range]
 by_cases h:u=i
 ·subst h;simp
 ·rw [if_neg h];exact kJ fun j _=>by rw [if_neg (fun e=>h e.symm)]
/-- One place written. -/
theorem afa {n:Nat} (f:Nat→Nat→Int) (u:Nat) (hu:u < n) (v:Nat) (x:Int):(b9 n f).set u ((ag (b9 n f) (u:Int)).set v x)=b9 n (fun i j=>if i=u∧j=v then x else f i j):=by
 rw [nU hu,qT,Bx]
 refine sK fun i j _ _=>?_
 by_cases h:i=u
 ·subst h;simp
 ·simp [h]
theorem TG (n:Nat):List.replicate n (List.replicate n (0:Int))=b9 n (fun _ _=>0):=by
 have h0:∀ m:Nat,aE m (fun _=>0)=List.replicate m 0:=fun m=>by
  apply List.ext_getElem
  ·simp [aE]
  ·intro i _ _;simp [aE]
 apply List.ext_getElem
 ·simp [b9]
 ·intro i _ _;simp [b9,h0]
theorem afi {n:Nat} {c:List Int} (h:c.length=n):c=aE n (fun w=>rd c (w:Int)):=by
 apply List.ext_getElem
 ·rw [fE];exact h
 ·intro i h1 h2
  simp only [aE,List.getElem_map,List.getElem_range]
  rw [sI _ _ h1]
/-- How many of the first d directed edges lead from u to v. -/
def jW (l : List (List Int)) : Nat → Nat → Nat → Int
 | 0,_,_=>0
 | d+1,u,v=>jW l d u v+(if r3 l d=(u:Int)∧r_ l d=(v:Int) then 1 else 0)
theorem Cb (l:List (List Int)) (d u v:Nat):0≤jW l d u v∧jW l d u v≤d:=by
 induction d with
 | zero=>simp [jW]
 | succ d ih =>
  unfold jW
  have h1:(0:Int)≤(if r3 l d=(u:Int)∧r_ l d=(v:Int) then 1 else 0)∧(if r3 l d=(u:Int)∧r_ l d=(v:Int) then 1 else 0:Int)≤1:=by split<;>omega
  omega
theorem Yx {n:Nat} {l:List (List Int)} (hE:endsIn n l) (d:Nat) (hd:d < 2 * l.length):∃ u v:Nat,r3 l d=u∧r_ l d=v∧u < n∧v < n:=by
 obtain ⟨_,u,v,hu,hv,hun,gG⟩:=hE (d / 2) (by omega)
 unfold r3 r_
 rcases Nat.mod_two_eq_zero_or_one d with h|h
 ·rw [h];exact ⟨u,v,hu,hv,hun,gG⟩
 ·rw [h];exact ⟨v,u,hv,hu,gG,hun⟩
theorem O1 {n:Nat} {l:List (List Int)} (hE:endsIn n l):two l:=by
 intro x hx
 obtain ⟨i,hi,rfl⟩:=List.mem_iff_getElem.mp hx
 have h:=(hE i hi).1
 rwa [uy l i hi] at h
theorem WR (n:Nat) (hn:n≤8) (a:Int) (l:List (List Int)) (hl:l.length≤10) (hE:endsIn n l):∀ (q d:Nat),2 * l.length - d=q→d≤2 * l.length→Ev (fun k=>eU.l1 k (b9 n (jW l d)) d a l) (b9 n (jW l (2 * l.length))):=by
 intro q
 induction q with
 | zero =>
  intro d hq hd
  obtain rfl:d=2 * l.length:=by omega
  refine Ev.step (fun k=>by simp only [eU.l1];rfl) ?_
  rw [wI (2 * (l.length:Int)) (by omega)]
  simp only [show ¬ (((2 * l.length:Nat):Int) < 2 * (l.length:Int)) by omega,if_false]
  exact Ev.now _
 | succ q ih =>
  intro d hq hd
  have hdl:d < 2 * l.length:=by omega
  obtain ⟨u,v,hu,hv,hun,gG⟩:=Yx hE d hdl
  have hb:=Cb l d u v
  refine Ev.step (fun k=>by simp only [eU.l1];rfl) ?_
  rw [wI (2 * (l.length:Int)) (by omega)]
  simp only [show ((d:Int) < 2 * (l.length:Int)) by omega,if_true,acJ a l (by omega) (O1 hE) d hdl,Option.bind_some,hu,hv,cJ u,cJ v,fk,lI u n (by omega),nU hun,fE,lI v n (by omega),gH gG,Int.toNat_natCast]
  rw [wI (jW l d u v+1) (by omega),wI ((d:Int)+1) (by omega)]
  have e:=afa (jW l d) u hun v (jW l d u v+1)
  rw [nU hun] at e
  rw [e,show b9 n (fun i j=>if i=u∧j=v then jW l d u v+1 else jW l d i j)=b9 n (jW l (d+1)) from sK fun i j _ _=>by
   rw [jW,hu,hv]
   by_cases h:i=u∧j=v
   ·obtain ⟨rfl,rfl⟩:=h;simp
   ·rw [if_neg h,if_neg (by omega)];omega]
  exact ih (d+1) (by omega) (by omega)
theorem WQ (n:Nat) (hn:n≤8) (l:List (List Int)) (hl:l.length≤10) (hE:endsIn n l):∀ (q i:Nat),n - i=q→i≤n→Ev (fun k=>eU.l0 k (List.replicate i (List.replicate n 0)) i n l) (b9 n (jW l (2 * l.length))):=by
 intro q
 induction q with
 | zero =>
  intro i hq hi
  obtain rfl:i=n:=by omega
  refine Ev.step (fun k=>by simp only [eU.l0];rfl) ?_
  simp only [Int.lt_irrefl,if_false]
  rw [TG]
  exact WR i hn i l hl hE (2 * l.length) 0 (by omega) (by omega)
 | succ q ih =>
  intro i hq hi
  refine Ev.step (fun k=>by simp only [eU.l0];rfl) ?_
  simp only [lI i n (by omega),if_true,cJ n,Int.toNat_natCast,show n≤35184372088832 by omega,List.length_replicate,show i < 5864062014805 by omega,wI ((i:Int)+1) (by omega)]
  rw [show List.replicate i (List.replicate n (0:Int)) ++ [List.replicate n 0]=List.replicate (i+1) (List.replicate n 0) from by rw [List.replicate_succ']]
  exact ih (i+1) (by omega) (by omega)
theorem acE (n:Nat) (hn:n≤8) (l:List (List Int)) (hl:l.length≤10) (hE:endsIn n l):Ev (fun k=>eU.f k n l) (b9 n (jW l (2 * l.length))):=WQ n hn l hl hE n 0 (by omega) (by omega)
/-- The Laplacian behind the first i edges. -/
def bP (l:List (List Int)) (i u v:Nat):Int:=-(jW l (2 * i) u v)+(if u=v then (mj l i u:Int) else 0)
theorem SG (l:List (List Int)) (i u v:Nat):-(2 * (i:Int))≤bP l i u v∧bP l i u v≤2 * i:=by
 have h1:=Cb l (2 * i) u v
 have h2:=Jr l i u
 unfold bP
 split<;>omega
theorem acP (n : Nat) (hn : n ≤ 8) (l : List (List Int)) (hl : l.length ≤ 10) (hE : endsIn n l) (v : Nat) (hv : v < n) (R : List (List Int))
  (next:Ev (fun k=>dL.l0 k (b9 n (fun r j=>if r≤v then bP l l.length r j else jW l (2 * l.length) r j)) ((v+1:Nat):Int) n l) R) :
  ∀ (q i:Nat),n - i=q→i≤n→Ev (fun k=>dL.l1 k (b9 n (fun r j=>if r < v then bP l l.length r j else if r=v∧j < i then -(jW l (2 * l.length) r j) else jW l (2 * l.length) r j)) v i n l) R:=by
 intro q
 induction q with
 | zero =>
  intro i hq hi
  obtain rfl:i=n:=by omega
  have hd:=Jr l l.length v
  have ha:=Cb l (2 * l.length) v v
  refine Ev.step (fun k=>by simp only [dL.l1];rfl) ?_
  simp only [Int.lt_irrefl,if_false,cJ v,if_true,nU hv,fE,lI v i (by omega),gH hv,Int.toNat_natCast]
  refine Ev.bind (acH i l (by omega) (O1 hE) v) ?_
  simp only [Nat.lt_irrefl,if_false,true_and,hv,if_true]
  rw [wI (-jW l (2 * l.length) v v+(mj l l.length v:Int)) (by omega),wI ((v:Int)+1) (by omega),qT,Bx]
  refine Ev.congr (fun k=>?_) next
  rw [show ((v+1:Nat):Int)=(v:Int)+1 by omega]
  congr 1
  refine sK fun r j hr hj=>?_
  rcases Nat.lt_trichotomy r v with h|h|h
  ·simp only [show r ≠ v by omega,show r < v by omega,show r≤v by omega,if_true,if_false]
  ·subst h
   simp only [Nat.lt_irrefl,Nat.le_refl,true_and,hj,if_true,if_false]
   unfold bP
   by_cases e:j=r
   ·subst e;simp
   ·rw [if_neg e,if_neg (fun e2=>e e2.symm)];omega
  ·simp only [show r ≠ v by omega,show ¬ r < v by omega,show ¬ r≤v by omega,if_false,false_and]
 | succ q ih =>
  intro i hq hi
  have hin:i < n:=by omega
  have ha:=Cb l (2 * l.length) v i
  refine Ev.step (fun k=>by simp only [dL.l1];rfl) ?_
  simp only [lI i n (by omega),if_true,cJ i,nU hv,fE,gH hin,Nat.lt_irrefl,if_false,and_false,Int.toNat_natCast]
  rw [wI (-jW l (2 * l.length) v i) (by omega),wI ((i:Int)+1) (by omega),qT,Bx]
  refine Ev.congr (fun k=>?_) (ih (i+1) (by omega) (by omega))
  rw [show ((i+1:Nat):Int)=(i:Int)+1 by omega]
  congr 1
  refine sK fun r j hr hj=>?_
  by_cases h:r=v
  ·subst h
   simp only [Nat.lt_irrefl,if_false,if_true,true_and]
   by_cases e:j=i
   ·subst e;simp
   ·rw [if_neg e]
    by_cases e2:j < i
    ·rw [if_pos e2,if_pos (by omega)]
    ·rw [if_neg e2,if_neg (by omega)]
  ·simp only [h,if_false,false_and]
theorem acO (n:Nat) (hn:n≤8) (l:List (List Int)) (hl:l.length≤10) (hE:endsIn n l):∀ (q v:Nat),n - v=q→v≤n→Ev (fun k=>dL.l0 k (b9 n (fun r j=>if r < v then bP l l.length r j else jW l (2 * l.length) r j)) v n l) (b9 n (bP l l.length)):=by
 intro q
 induction q with
 | zero =>
  intro v hq hv
  obtain rfl:v=n:=by omega
  refine Ev.step (fun k=>by simp only [dL.l0];rfl) ?_
  simp only [Int.lt_irrefl,if_false]
  rw [show b9 v (fun r j=>if r < v then bP l l.length r j else jW l (2 * l.length) r j)=b9 v (bP l l.length) from sK fun r j hr _=>by rw [if_pos hr]]
  exact Ev.now _
 | succ q ih =>
  intro v hq hv
  have gG:v < n:=by omega
  refine Ev.step (fun k=>by simp only [dL.l0];rfl) ?_
  simp only [lI v n (by omega),if_true,cJ v,fk]
  have nx:=ih (v+1) (by omega) (by omega)
  have h:=acP n hn l hl hE v gG _ (by simpa only [Nat.lt_succ_iff] using nx) n 0 (by omega) (by omega)
  simp only [Nat.not_lt_zero,and_false,if_false] at h
  exact h
theorem acN (n:Nat) (hn:n≤8) (l:List (List Int)) (hl:l.length≤10) (hE:endsIn n l):Ev (fun k=>dL.f k n l) (b9 n (bP l l.length)):=by
 unfold dL.f
 refine Ev.bind (acE n hn l hl hE) ?_
 have h:=acO n hn l hl hE n 0 (by omega) (by omega)
 simp only [Nat.not_lt_zero,if_false] at h
 exact h
/-- One edge more, laid upon the Laplacian: both ends' own places up, the places between them down. -/
theorem yd (n : Nat) (l : List (List Int)) (i u v : Nat) (hu : rd (ag l (i : Int)) 0 = u) (hv : rd (ag l (i : Int)) 1 = v) (r j : Nat) :
  bP l (i+1) r j=bP l i r j+(if u=v then 0 else (if r=u∧j=u then 1 else 0) - (if r=u∧j=v then 1 else 0)+(if r=v∧j=v then 1 else 0) - (if r=v∧j=u then 1 else 0)):=by
 have b0:r3 l (2 * i)=u:=by unfold r3;rw [show 2 * i / 2=i by omega,show 2 * i % 2=0 by omega];exact hu
 have b1:r_ l (2 * i)=v:=by unfold r_;rw [show 2 * i / 2=i by omega,show 2 * i % 2=0 by omega];exact hv
 have b2:r3 l (2 * i+1)=v:=by unfold r3;rw [show (2 * i+1) / 2=i by omega,show (2 * i+1) % 2=1 by omega];exact hv
 have b3:r_ l (2 * i+1)=u:=by unfold r_;rw [show (2 * i+1) / 2=i by omega,show (2 * i+1) % 2=1 by omega];exact hu
 unfold bP
 rw [show 2 * (i+1)=2 * i+1+1 by omega,jW,jW,mj,b0,b1,b2,b3,hu,hv]
 clear b0 b1 b2 b3
 have c1:((u:Int)=(r:Int))=(r=u):=propext ⟨by omega,by omega⟩
 have c2:((u:Int)=(j:Int))=(j=u):=propext ⟨by omega,by omega⟩
 have c3:((v:Int)=(r:Int))=(r=v):=propext ⟨by omega,by omega⟩
 have c4:((v:Int)=(j:Int))=(j=v):=propext ⟨by omega,by omega⟩
 simp only [c1,c2,c3,c4]
 clear c1 c2 c3 c4
 rcases Classical.propComplete (r = u) with h1 | h1 <;> rcases Classical.propComplete (j = u) with h2 | h2 <;> rcases Classical.propComplete (r = v) with h3 | h3 <;> rcases Classical.propComplete (j = v) with h4 | h4 <;> rcases Classical.propComplete (r = j) with h5 | h5 <;> rcases Classical.propComplete (u = v) with h6 | h6 <;>
  first
  | (exfalso;simp only [eq_iff_iff,iff_true,iff_false] at h1 h2 h3 h4 h5 h6;omega)
  | (simp only [h1,h2,h3,h4,h5,h6,if_true,if_false,and_true,and_false,and_self];omega)
theorem ado (n:Nat) (hn:n≤8) (l:List (List Int)) (hl:l.length≤10) (hE:endsIn n l):∀ (q i:Nat),l.length - i=q→i≤l.length→Ev (fun k=>cD.l0 k (b9 n (bP l i)) l l.length i) (b9 n (bP l l.length)):=by
 intro q
 induction q with
 | zero =>
  intro i hq hi
  obtain rfl:i=l.length:=by omega
  refine Ev.step (fun k=>by simp only [cD.l0];rfl) ?_
  simp only [Int.lt_irrefl,if_false]
  exact Ev.now _
 | succ q ih =>
  intro i hq hi
  have hil:i < l.length:=by omega
  obtain ⟨h2,u,v,hu,hv,hun,gG⟩:=hE i hil
  have amU:=fun r j=>SG l i r j
  refine Ev.step (fun k=>by simp only [cD.l0];rfl) ?_
  simp only [show ((i:Int) < (l.length:Int)) by omega,if_true,cJ i,h2,show ((0:Int) < ((2:Nat):Int)) by omega,show ((1:Int) < ((2:Nat):Int)) by omega,hu,hv,Int.natCast_inj,wI ((i:Int)+1) (by omega)]
  by_cases e:u=v
  ·simp only [e, if_true]
   have nx:=ih (i+1) (by omega) (by omega)
   rw [show b9 n (bP l (i+1))=b9 n (bP l i) from sK fun r j _ _=>by rw [yd n l i u v hu hv r j,if_pos e];omega] at nx
   exact nx
  ·have e' : ¬ v = u := fun h => e h.symm
   simp only [e,if_false]
   refine Ev.step (fun k=>by simp only [cD.l1];rfl) ?_
   simp only [show ((0:Int) < ((2:Nat):Int)) by omega,if_true,Int.le_refl,h2,hu,fk,cJ u,lI u n (by omega),nU hun,fE,gH hun,Option.bind_some,show wrap64 (1 - 0)=1 from jO (by omega) (by omega),show (0:Int)≤1 by omega,show ((1:Int) < ((2:Nat):Int)) by omega,hv,cJ v,lI v n (by omega),Int.toNat_natCast,qT,Bx,gH gG,show wrap64 (0+1)=1 from jO (by omega) (by omega),e',if_false]
   rw [jO (show -9223372036854775808≤bP l i u u+1 by have:=amU u u;omega) (by have:=amU u u;omega),jO (show -9223372036854775808≤bP l i u v - 1 by have:=amU u v;omega) (by have:=amU u v;omega)]
   refine Ev.step (fun k=>by simp only [cD.l1];rfl) ?_
   simp only [show ((1:Int) < ((2:Nat):Int)) by omega,if_true,show (0:Int)≤1 by omega,h2,hv,fk,cJ v,lI v n (by omega),nU gG,fE,gH gG,Option.bind_some,show wrap64 (1 - 1)=0 from jO (by omega) (by omega),Int.le_refl,show ((0:Int) < ((2:Nat):Int)) by omega,hu,cJ u,lI u n (by omega),Int.toNat_natCast,qT,Bx,gH hun,show wrap64 (1+1)=2 from jO (by omega) (by omega),e',e,if_false]
   rw [jO (show -9223372036854775808≤bP l i v v+1 by have:=amU v v;omega) (by have:=amU v v;omega),jO (show -9223372036854775808≤bP l i v u - 1 by have:=amU v u;omega) (by have:=amU v u;omega)]
   refine Ev.step (fun k=>by simp only [cD.l1];rfl) ?_
   simp only [show ¬ ((2:Int) < ((2:Nat):Int)) by omega,if_false,wI ((i:Int)+1) (by omega)]
   refine Ev.congr (fun k=>?_) (ih (i+1) (by omega) (by omega))
   rw [show ((i+1:Nat):Int)=(i:Int)+1 by omega]
   congr 1
   refine sK fun r j _ _=>?_
   rw [yd n l i u v hu hv r j,if_neg e]
   by_cases h1:r=v
   ·subst h1
    by_cases h2:j=u
    ·subst h2;first|(simp [e,fun h:r=j=>e h.symm];done)|(simp [e,fun h:r=j=>e h.symm];omega)
    ·by_cases h3 : j = r
     ·subst h3;first|(simp [h2];done)|(simp [h2];omega)
     ·simp [h2,h3,fun h:r=u=>e h.symm]
   ·by_cases h4 : r = u
    ·subst h4
     by_cases h2:j=v
     ·subst h2;first|(simp [h1,fun h:j=r=>h1 h.symm];done)|(simp [h1,fun h:j=r=>h1 h.symm];omega)
     ·by_cases h3 : j = r
      ·subst h3;first|(simp [h1];done)|(simp [h1,h2];done)|(simp [h1];omega)
      ·simp [h1,h2,h3]
    ·simp [h1,h4]
theorem SK (n:Nat) (hn:n≤8) (l:List (List Int)) (hl:l.length≤10) (hE:endsIn n l):Ev (fun k=>cD.f k n l) (b9 n (bP l l.length)):=by
 unfold cD.f
 refine Ev.bind (aeL n (by omega)) ?_
 rw [TG,show b9 n (fun _ _=>(0:Int))=b9 n (bP l 0) from sK fun i j _ _=>by simp [bP,jW,mj]]
 exact ado n hn l hl hE l.length 0 (by omega) (by omega)
theorem X2 {c:List Int} (h:c.any oq=false) (w:Nat) (hw:w < c.length):-200≤rd c (w:Int)∧rd c (w:Int)≤200:=by
 rw [sI c w hw]
 have:=List.any_eq_false.mp h _ (List.getElem_mem hw)
 unfold oq at this
 simp at this
 exact this
theorem X3 {a:Int} {c:List Int} (h:vV a c=true):(c.length:Int)=a∧c.any oq=false:=by
 unfold vV at h
 simpa using h
theorem Md (n:Nat) (g:Nat→Int):aE n g ++ [g n]=aE (n+1) g:=by
 unfold aE;rw [List.range_succ,List.map_append];rfl
theorem aeC (n j:Nat):ay n (cL j)≤1:=by
 by_cases h:j < n
 ·rw [u_ j h (fun i _ hne=>zP hne),Gu];omega
 ·rw [pM (fun i hi=>zP (by omega))];omega
/-- n rows of m numbers, by their places. -/
def oM (n m:Nat) (f:Nat→Nat→Int):List (List Int):=(List.range n).map fun i=>aE m (f i)
theorem El (n m:Nat) (f:Nat→Nat→Int):(oM n m f).length=n:=by simp [oM]
theorem TH {n m:Nat} {f h:Nat→Nat→Int} (e:∀ i j,i < n→j < m→f i j=h i j):oM n m f=oM n m h:=by
 unfold oM
 apply List.map_congr_left
 intro i hi
 exact kJ fun j hj=>e i j (List.mem_range.mp hi) hj
theorem TI {n m:Nat} (f:Nat→Nat→Int) (u:Nat) (g:Nat→Int):(oM n m f).set u (aE m g)=oM n m (fun i j=>if i=u then g j else f i j):=by
 apply List.ext_getElem
 ·rw [List.length_set,El,El]
 intro i h1 h2
 rw [List.getElem_set]
 simp only [oM,List.getElem_map,List.getElem_range]
 by_cases h:u=i
 ·subst h;simp
 ·rw [if_neg h];exact kJ fun j _=>by rw [if_neg (fun e=>h e.symm)]
theorem afb (n m:Nat) (f:Nat→Nat→Int):oM n m f ++ [aE m (f n)]=oM (n+1) m f:=by
 unfold oM;rw [List.range_succ,List.map_append];rfl
theorem TJ (n:Nat) (f:Nat→Nat→Int):oM n n f=b9 n f:=rfl
theorem aeO (n m:Nat) (f:Nat→Nat→Int) (i j:Nat) (hi:i < n) (hj:j < n):swp (oM n m f) i j=oM n m (fun r=>f (kH i j r)):=by
 have hg:∀ u,u < n→(oM n m f).getD u []=aE m (f u):=fun u hu=>by
  rw [List.getD_eq_getElem?_getD,List.getElem?_eq_getElem (by rw [El];exact hu)]
  simp [oM]
 unfold swp
 rw [Int.toNat_natCast,Int.toNat_natCast,hg i hi,hg j hj,TI,TI]
 refine TH fun r c _ _=>?_
 unfold kH
 by_cases h1:r=j
 ·subst h1
  by_cases h2:r=i
  ·subst h2;simp
  ·simp [h2]
 ·by_cases h2 : r = i
  ·subst h2;simp [h1]
  ·simp [h1,h2]
theorem Tw {n:Nat} {f:Nat→Int} (h:∀ i,i < n→0≤f i) (k:Nat) (hk:k < n):f k≤ay n f:=by
 have h1:=K4 f k hk
 rw [eI (g:=f) (fun i hi=>by unfold alh;have:=h i hi;omega)] at h1
 unfold alh at h1
 omega
/-- The bound of a determinant by its columns. -/
theorem YC {n:Nat}:∀ (M:Nat→Nat→Int),alh (aH n M)≤ee n (fun b=>ay n (fun a=>alh (M a b))):=by
 induction n with
 | zero=>intro M;exact Int.le_refl _
 | succ n ih =>
  intro M
  rw [nM]
  refine Int.le_trans (Gq _ _) ?_
  have abW:ee (n+1) (fun b=>ay (n+1) (fun a=>alh (M a b)))=ay (n+1) (fun a=>alh (M a 0)) * ee n (fun b=>ay (n+1) (fun a=>alh (M a (b+1)))):=by
   have gen:∀ (k:Nat) (f:Nat→Int),ee (k+1) f=f 0 * ee k (fun b=>f (b+1)):=by
    intro k f
    induction k with
    | zero=>show 1 * f 0=f 0 * 1;rw [Int.one_mul,Int.mul_one]
    | succ k ihk =>
     show ee (k+1) f * f (k+1)=f 0 * (ee k (fun b=>f (b+1)) * f (k+1))
     rw [ihk,Int.mul_assoc]
   exact gen n _
  rw [abW,Int.mul_comm,← jC]
  refine uZ fun i hi=>?_
  rw [um,um,So,Int.one_mul,Int.mul_comm]
  refine Int.mul_le_mul_of_nonneg_right (Int.le_trans (ih _) (Gv (fun b _=>pL fun _ _=>iQ _) (fun b _=>?_))) (iQ _)
  rw [am5 n i hi (fun a=>alh (M a (b+1)))]
  have:=iQ (M i (b+1))
  omega
theorem Xf (n:Nat) (M:Nat→Nat→Int):alh (aH n M)≤ee n (fun a=>ay n (fun b=>alh (M a b))):=by
 have h:=acT (n:=n) M (fun _ _=>0)
 have e:=ac3 (n:=n) M (fun _ _=>0) 1
 simp only [Int.mul_zero,Int.add_zero] at e
 rw [e]
 unfold kZ
 simp only [Sp,Int.add_zero] at h
 refine Int.le_trans (Gq _ _) (Int.le_trans (uZ (fun k _=>?_)) h)
 rw [Int.one_pow,Int.mul_one]
 exact Int.le_refl _
theorem Ov : ∀ x : Nat, x * x * x ≤ 3 ^ x
 | 0=>by decide
 | 1=>by decide
 | 2=>by decide
 | 3=>by decide
 | n+4=>by
  have ih:=Ov (n+3)
  rw [Nat.pow_succ]
  have h0:3 * (n+4)≤4 * (n+3):=by omega
  have h1:=Nat.mul_le_mul (Nat.mul_le_mul h0 h0) h0
  have key:∀ k x:Nat,k * x * (k * x) * (k * x)=k * k * k * (x * x * x):=fun k x=>by ac_rfl
  rw [key,key] at h1
  have h2:(n+3) * (n+3) * (n+3)≤3 ^ (n+3):=ih
  show (n+4) * (n+4) * (n+4)≤3 ^ (n+3) * 3
  generalize (n+4) * (n+4) * (n+4)=x at h1 ⊢
  generalize (n+3) * (n+3) * (n+3)=y at h1 h2
  generalize 3 ^ (n+3)=z at h2 ⊢
  omega
theorem Ox (g : Nat → Int) : ∀ n : Nat, (∀ i, i < n → 0 ≤ g i) → ∃ P S : Nat, ee n g = (P : Int) ∧ ay n g = (S : Int) ∧ P * P * P ≤ 3 ^ S
 | 0,_=>⟨1,0,rfl,rfl,by decide⟩
 | n+1,h=>by
  obtain ⟨P,S,e1,e2,e3⟩:=Ox g n (fun i hi=>h i (by omega))
  obtain ⟨x,hx⟩:=Int.eq_ofNat_of_zero_le (h n (by omega))
  refine ⟨P * x,S+x,?_,?_,?_⟩
  ·show ee n g * g n = _
   rw [e1,hx];simp
  ·show ay n g + g n = _
   rw [e2,hx];simp
  ·rw [Nat.pow_add]
   have h2:=Nat.mul_le_mul e3 (Ov x)
   rw [show P * x * (P * x) * (P * x)=P * P * P * (x * x * x) by ac_rfl]
   exact h2
theorem Fh {n:Nat} (f:Nat→Int) (hf:∀ i,i < n→0≤f i) (c j:Nat) (hc:c≤j) (hj:j < n):ay (c+1) (fun b=>f (if b=c then j else b))≤ay n f:=by
 have mono:∀ d m,m+d≤n→ay m f≤ay (m+d) f:=by
  intro d
  induction d with
  | zero=>intro m _;exact Int.le_refl _
  | succ d ih =>
   intro m hm
   have h1:=ih m (by omega)
   have h2:=hf (m+d) (by omega)
   show ay m f≤ay (m+d) f+f (m+d)
   omega
 have h1:ay (c+1) (fun b=>f (if b=c then j else b))=ay c f+f j:=by
  show ay c _+f (if c=c then j else c)=_
  rw [if_pos rfl,eI (g:=f) (fun i hi=>by rw [if_neg (by omega)])]
 have h2:=mono (j - c) c (by omega)
 rw [show c+(j - c)=j by omega] at h2
 have h3:=mono (n - (j+1)) (j+1) (by omega)
 rw [show j+1+(n - (j+1))=n by omega] at h3
 have h4:ay (j+1) f=ay j f+f j:=rfl
 omega
def wN (n:Nat) (A:Nat→Nat→Int):Int:=ay n (fun a=>ay n (fun b=>alh (A a b)))
theorem Xl {n:Nat} (B:Nat→Nat→Int) (hB:wN n B≤40) (c i j:Nat) (hi:c≤i) (hin:i < n) (hj:c≤j) (hjn:j < n):alh (alP c B i j)≤2300000:=by
 unfold alP
 refine Int.le_trans (Xf _ _) ?_
 have h1:ee (c+1) (fun a=>ay (c+1) (fun b=>alh (B (if a=c then i else a) (if b=c then j else b))))≤ee (c+1) (fun a=>ay n (fun b=>alh (B (if a=c then i else a) b))) :=
  Gv (fun a _=>pL (fun b _=>iQ _)) (fun a _=>Fh (fun b=>alh (B (if a=c then i else a) b)) (fun _ _=>iQ _) c j hj hjn)
 refine Int.le_trans h1 ?_
 obtain ⟨P,S,e1,e2,e3⟩:=Ox (fun a=>ay n (fun b=>alh (B (if a=c then i else a) b))) (c+1) (fun a _=>pL (fun b _=>iQ _))
 have h2:=Fh (n:=n) (fun a=>ay n (fun b=>alh (B a b))) (fun a _=>pL (fun b _=>iQ _)) c i hi hin
 rw [e1]
 rw [e2] at h2
 have hS:S≤40:=by unfold wN at hB;omega
 have h3:P * P * P≤3 ^ 40:=Nat.le_trans e3 (Nat.pow_le_pow_right (by decide) hS)
 rcases Nat.lt_or_ge 2300000 P with h4|h4
 ·exfalso
  have h5:2300001 * 2300001 * 2300001≤P * P * P:=Nat.mul_le_mul (Nat.mul_le_mul h4 h4) h4
  have h6:¬ (2300001 * 2300001 * 2300001≤3 ^ 40):=by decide
  exact h6 (Nat.le_trans h5 h3)
 ·omega
/-- By columns: one of them up to 1600, the others small together. -/
def Yr (n:Nat) (B:Nat→Nat→Int) (k:Nat):Prop:=n≤8∧ay n (fun a=>alh (B a k))≤1600∧ay n (fun b=>if b=k then 0 else ay n (fun a=>alh (B a b)))≤40
def okB (n:Nat) (B:Nat→Nat→Int):Prop:=wN n B≤40∨∃ k,k < n∧Yr n B k
theorem Oz : ∀ x : Nat, 7776 * x * 5 ^ x ≤ 15625 * 6 ^ x
 | 0=>by decide
 | 1=>by decide
 | 2=>by decide
 | 3=>by decide
 | 4=>by decide
 | 5=>by decide
 | n+6=>by
  have ih:=Oz (n+5)
  rw [Nat.pow_succ,Nat.pow_succ 6]
  have h0:5 * (n+6)≤6 * (n+5):=by omega
  have h1:=Nat.mul_le_mul_left 7776 (Nat.mul_le_mul_right (5 ^ (n+5)) h0)
  have e1:7776 * (n+6) * (5 ^ (n+5) * 5)=7776 * (5 * (n+6) * 5 ^ (n+5)):=by ac_rfl
  have e2:7776 * (6 * (n+5) * 5 ^ (n+5))=6 * (7776 * (n+5) * 5 ^ (n+5)):=by ac_rfl
  rw [e1]
  refine Nat.le_trans h1 ?_
  rw [e2]
  refine Nat.le_trans (Nat.mul_le_mul_left 6 ih) ?_
  have e3:6 * (15625 * 6 ^ (n+5))=15625 * (6 ^ (n+5) * 6):=by ac_rfl
  rw [e3]
  exact Nat.le_refl _
theorem Oy (g : Nat → Int) : ∀ n : Nat, (∀ i, i < n → 0 ≤ g i) → ∃ P S : Nat, ee n g = (P : Int) ∧ ay n g = (S : Int) ∧ P * (7776 ^ n * 5 ^ S) ≤ 15625 ^ n * 6 ^ S
 | 0,_=>⟨1,0,rfl,rfl,by decide⟩
 | n+1,h=>by
  obtain ⟨P,S,e1,e2,e3⟩:=Oy g n (fun i hi=>h i (by omega))
  obtain ⟨x,hx⟩:=Int.eq_ofNat_of_zero_le (h n (by omega))
  refine ⟨P * x,S+x,?_,?_,?_⟩
  ·show ee n g * g n = _
   rw [e1,hx];simp
  ·show ay n g + g n = _
   rw [e2,hx];simp
  ·have h2 := Nat.mul_le_mul e3 (Oz x)
   rw [Nat.pow_add 5,Nat.pow_add 6,Nat.pow_succ,Nat.pow_succ]
   have f1:P * x * (7776 ^ n * 7776 * (5 ^ S * 5 ^ x))=P * (7776 ^ n * 5 ^ S) * (7776 * x * 5 ^ x):=by ac_rfl
   have f2:15625 ^ n * 15625 * (6 ^ S * 6 ^ x)=15625 ^ n * 6 ^ S * (15625 * 6 ^ x):=by ac_rfl
   rw [f1,f2]
   exact h2
theorem Xo:∀ n:Nat,n < 9→∀ S:Nat,S < 42→15625 ^ n * 6 ^ S≤800000 * (7776 ^ n * 5 ^ S):=by decide
theorem Xn (g:Nat→Int) (n:Nat) (hn:n≤8) (hg:∀ i,i < n→0≤g i) (hs:ay n g≤41):ee n g≤800000:=by
 obtain ⟨P,S,e1,e2,e3⟩:=Oy g n hg
 have h1:=Nat.le_trans e3 (Xo n (by omega) S (by omega))
 have h2:0 < 7776 ^ n * 5 ^ S:=Nat.mul_pos (Nat.pow_pos (by decide)) (Nat.pow_pos (by decide))
 have h3:=Nat.le_of_mul_le_mul_right h1 h2
 omega
theorem Xm (g:Nat→Int) (k:Nat) (X:Int) (hX:0≤X) (h1:1≤X):∀ n:Nat,(∀ i,i < n→0≤g i)→(∀ i,i < n→i=k→g i≤X)→ee n g≤(if k < n then X else 1) * ee n (fun i=>if i=k then 1 else g i):=by
 intro n
 induction n with
 | zero=>intro _ _;show (1:Int)≤(if k < 0 then X else 1) * 1;rw [if_neg (by omega)];decide
 | succ n ih =>
  intro h0 hk
  have h2:=ih (fun i hi=>h0 i (by omega)) (fun i hi=>hk i (by omega))
  have h3:0≤ee n (fun i=>if i=k then 1 else g i):=Le fun i hi=>by
   by_cases e:i=k
   ·rw [if_pos e];decide
   ·rw [if_neg e];exact h0 i (by omega)
  show ee n g * g n≤_ * (ee n (fun i=>if i=k then 1 else g i) * (if n=k then 1 else g n))
  by_cases e:n=k
  ·rw [if_neg (by omega), Int.one_mul] at h2
   rw [if_pos e,if_pos (by omega),Int.mul_one,Int.mul_comm X]
   exact Int.mul_le_mul h2 (hk n (by omega) e) (h0 n (by omega)) h3
  ·have e2:(if k < n+1 then X else 1)=(if k < n then X else 1):=by
    by_cases e3:k < n
    ·rw [if_pos e3,if_pos (by omega)]
    ·rw [if_neg e3,if_neg (by omega)]
   rw [if_neg e,e2,← Int.mul_assoc]
   exact Int.mul_le_mul_of_nonneg_right h2 (h0 n (by omega))
theorem yS {n:Nat} (B:Nat→Nat→Int) (hB:okB n B) (c i j:Nat) (hi:c≤i) (hin:i < n) (hj:c≤j) (hjn:j < n):alh (alP c B i j)≤2000000000:=by
 rcases hB with hB|⟨k,hk,wG,h1,h2⟩
 ·exact Int.le_trans (Xl B hB c i j hi hin hj hjn) (by decide)
 ·unfold alP
  refine Int.le_trans (YC _) ?_
  have h3:ee (c+1) (fun b=>ay (c+1) (fun a=>alh (B (if a=c then i else a) (if b=c then j else b))))≤ee (c+1) (fun b=>ay n (fun a=>alh (B a (if b=c then j else b)))) :=
   Gv (fun b _=>pL (fun a _=>iQ _)) (fun b _=>Fh (fun a=>alh (B a (if b=c then j else b))) (fun _ _=>iQ _) c i hi hin)
  refine Int.le_trans h3 ?_
  have h4:∃ k2:Nat,∀ b,b < c+1→((if b=c then j else b)=k↔b=k2):=by
   by_cases e:k < c
   ·exact ⟨k,fun b hb=>by split<;>omega⟩
   ·by_cases e2 : j = k
    ·exact ⟨c,fun b hb=>by split<;>omega⟩
    ·exact ⟨c+1,fun b hb=>by split<;>omega⟩
  obtain ⟨k2,hk2⟩:=h4
  refine Int.le_trans (Xm _ k2 1600 (by decide) (by decide) (c+1) (fun b _=>pL (fun a _=>iQ _)) (fun b hb e=>by rw [(hk2 b hb).2 e];exact h1)) ?_
  have h5:ee (c+1) (fun b=>if b=k2 then 1 else ay n (fun a=>alh (B a (if b=c then j else b))))≤800000:=by
   have h6:∀ b,0≤(fun b=>if b=k then (0:Int) else ay n (fun a=>alh (B a b))) b:=fun b=>by
    show 0≤if b=k then (0:Int) else _
    split
    ·decide
    ·exact pL (fun a _=>iQ _)
   have h7:=Fh (n:=n) _ (fun b _=>h6 b) c j hj hjn
   have h8:ay (c+1) (fun b=>if b=k2 then 0 else ay n (fun a=>alh (B a (if b=c then j else b))))≤40:=by
    refine Int.le_trans (Int.le_of_eq (eI fun b hb=>?_)) (Int.le_trans h7 h2)
    by_cases e:b=k2
    ·rw [if_pos e,if_pos ((hk2 b hb).2 e)]
    ·rw [if_neg e,if_neg (fun e2=>e ((hk2 b hb).1 e2))]
   refine Xn _ (c+1) (by omega) (fun b _=>?_) ?_
   ·by_cases e : b = k2
    ·rw [if_pos e];decide
    ·rw [if_neg e];exact pL (fun a _=>iQ _)
   ·refine Int.le_trans (Int.le_of_eq (eI (g := fun b => (if b = k2 then 0 else ay n (fun a => alh (B a (if b = c then j else b)))) + (if b = k2 then 1 else 0)) fun b _ => ?_)) ?_
    ·by_cases e : b = k2
     ·rw [if_pos e,if_pos e,if_pos e];rfl
     ·rw [if_neg e,if_neg e,if_neg e,Int.add_zero]
    ·rw [uY]
     have h11:ay (c+1) (fun b=>if b=k2 then (1:Int) else 0)≤1:=aeC (c+1) k2
     omega
  have h9:(if k2 < c+1 then (1600:Int) else 1)≤1600:=by split<;>decide
  have h10:(0:Int)≤ee (c+1) (fun b=>if b=k2 then 1 else ay n (fun a=>alh (B a (if b=c then j else b)))):=Le fun b _=>by
   by_cases e:b=k2
   ·rw [if_pos e];decide
   ·rw [if_neg e];exact pL (fun a _=>iQ _)
  exact Int.le_trans (Int.mul_le_mul h9 h5 h10 (by decide)) (by decide)
/-- Where the elimination without fractions stands at the column c. -/
structure BI (n:Nat) (A:Nat→Nat→Int) (c:Nat) (s p:Int) (T:Nat→Nat→Int):Prop where
 ex:∃ B:Nat→Nat→Int,okB n B∧aH n A=s * aH n B∧p=aH c B∧∀ i j,c≤i→i < n→c≤j→j < n→T i j=alP c B i j
 sg:s=1∨s=-1
 p0:p ≠ 0
theorem BI.start {n:Nat} (A:Nat→Nat→Int) (hA:okB n A):BI n A 0 1 1 A :=
 ⟨⟨A,hA,by rw [Int.one_mul],rfl,fun i j _ _ _ _=>(ac8 A i j).symm⟩,.inl rfl,by decide⟩
theorem BI.none {n:Nat} {A:Nat→Nat→Int} {c:Nat} {s p:Int} {T:Nat→Nat→Int} (h:BI n A c s p T) (hc:c < n) (h0:∀ i,c≤i→i < n→T i c=0):aH n A=0:=by
 obtain ⟨⟨B,hB,hd,hp,hT⟩,_,tW⟩:=h
 rw [hd,ac7 B c hc (by rw [← hp];exact tW) (fun i hi hin=>by rw [← hT i c hi hin (Nat.le_refl _) hc];exact h0 i hi hin),Int.mul_zero]
theorem BI.last {n:Nat} {A:Nat→Nat→Int} {s p:Int} {T:Nat→Nat→Int} (h:BI n A n s p T):aH n A=s * p:=by
 obtain ⟨⟨B,hB,hd,hp,hT⟩,_,tW⟩:=h
 rw [hd,hp]
theorem L5 {n:Nat} (f:Nat→Int) (i c:Nat) (hi:i < n) (hc:c < n) (hic:i ≠ c):ay n (fun r=>f (kH i c r))=ay n f:=by
 have h:=SF (n:=n) (f:=fun r=>f (kH i c r) - f r) i c hi hc hic (fun r _ h1 h2=>by simp [kH,h1,h2])
 rw [Gw] at h
 simp only [kH,if_true,if_neg (show ¬ (c=i) from fun e=>hic e.symm)] at h
 unfold kH
 omega
theorem BI.swap {n:Nat} {A:Nat→Nat→Int} {c:Nat} {s p:Int} {T:Nat→Nat→Int} (h:BI n A c s p T) (i:Nat) (hci:c < i) (hi:i < n):BI n A c (-s) p (fun r=>T (kH i c r)):=by
 obtain ⟨⟨B,hB,hd,hp,hT⟩,hs,tW⟩:=h
 have C8:∀ a,a < c→kH i c a=a:=fun a ha=>by unfold kH;rw [if_neg (by omega),if_neg (by omega)]
 refine ⟨⟨fun r=>B (kH i c r),?_,?_,?_,?_⟩,by omega,tW⟩
 ·rcases hB with hB | ⟨k, hk, wG, h1, h2⟩
  ·refine .inl ?_
   unfold wN
   have:=L5 (n:=n) (fun a=>ay n (fun b=>alh (B a b))) i c hi (by omega) (by omega)
   rw [this];exact hB
  ·refine .inr ⟨k, hk, wG, ?_, ?_⟩
   ·have := L5 (n := n) (fun a => alh (B a k)) i c hi (by omega) (by omega)
    rw [this];exact h1
   ·refine Int.le_trans (Int.le_of_eq (eI fun b _ => ?_)) h2
    have:=L5 (n:=n) (fun a=>alh (B a b)) i c hi (by omega) (by omega)
    rw [this]
 ·have he:aH n (fun r=>B (kH i c r))=- aH n B:=by
   rw [← Sy B i c hi (by omega) (by omega)]
   refine jg (fun a b _ _=>?_)
   unfold kH bh
   by_cases h1:a=c
   ·subst h1
    by_cases h2:a=i
    ·omega
    ·simp [h2]
   ·by_cases h2 : a = i
    ·subst h2;simp [h1]
    ·simp [h1,h2]
  rw [he,hd,Int.neg_mul_neg]
 ·rw [hp]
  exact jg (fun a b ha _=>by rw [C8 a ha])
 ·intro r j hr hrn hj hjn
  have lC:c≤kH i c r∧kH i c r < n:=by unfold kH;(repeat' split)<;>omega
  show T (kH i c r) j=_
  rw [hT _ j lC.1 lC.2 hj hjn]
  unfold alP
  refine jg (fun a b ha hb=>?_)
  by_cases h1:a=c
  ·rw [if_pos h1,if_pos h1]
  ·rw [if_neg h1,if_neg h1];show B a _=B (kH i c a) _;rw [C8 a (by omega)]
theorem vL {x b:Int} (h:alh x≤b):-b≤x∧x≤b:=by unfold alh at h;omega
/-- One column: what each cell below gets. -/
theorem BI.step {n : Nat} {A : Nat → Nat → Int} {c : Nat} {s p : Int} {T : Nat → Nat → Int} (h : BI n A c s p T) (hc : c < n) (h0 : T c c ≠ 0) :
  ∃ N : Nat → Nat → Int, (∀ i j, c < i → i < n → c < j → j < n → wrap64 (Int.tdiv (wrap64 (wrap64 (T i j * T c c) - wrap64 (T i c * T c j))) p) = N i j) ∧
   ∀ S:Nat→Nat→Int,(∀ i j,c < i→i < n→c < j→j < n→S i j=N i j)→BI n A (c+1) s (T c c) S:=by
 obtain ⟨⟨B,hB,hd,hp,hT⟩,hs,tW⟩:=h
 refine ⟨alP (c+1) B,?_,?_⟩
 ·intro i j hi hin hj hjn
  have R2:=adh c B (by rw [← hp];exact tW) i j
  rw [← hp,← hT c c (Nat.le_refl _) hc (Nat.le_refl _) hc,← hT i j (by omega) hin (by omega) hjn,← hT i c (by omega) hin (Nat.le_refl _) hc,← hT c j (Nat.le_refl _) hc (by omega) hjn] at R2
  have b1:=vL (yS B hB c c c (Nat.le_refl _) hc (Nat.le_refl _) hc)
  have b2:=vL (yS B hB c i j (by omega) hin (by omega) hjn)
  have b3:=vL (yS B hB c i c (by omega) hin (Nat.le_refl _) hc)
  have b4:=vL (yS B hB c c j (Nat.le_refl _) hc (by omega) hjn)
  have b5:=vL (yS B hB (c+1) i j (by omega) hin (by omega) hjn)
  rw [← hT c c (Nat.le_refl _) hc (Nat.le_refl _) hc] at b1
  rw [← hT i j (by omega) hin (by omega) hjn] at b2
  rw [← hT i c (by omega) hin (Nat.le_refl _) hc] at b3
  rw [← hT c j (Nat.le_refl _) hc (by omega) hjn] at b4
  have m1:=vL (show alh (T i j * T c c)≤2000000000 * 2000000000 by rw [um];exact Int.mul_le_mul (by unfold alh;omega) (by unfold alh;omega) (iQ _) (by omega))
  have m2:=vL (show alh (T i c * T c j)≤2000000000 * 2000000000 by rw [um];exact Int.mul_le_mul (by unfold alh;omega) (by unfold alh;omega) (iQ _) (by omega))
  rw [jO (n:=T i j * T c c) (by omega) (by omega),jO (n:=T i c * T c j) (by omega) (by omega),jO (n:=T i j * T c c - T i c * T c j) (by omega) (by omega)]
  rw [show T i j * T c c - T i c * T c j=p * alP (c+1) B i j by rw [R2,Int.mul_comm (T i j)],Int.mul_tdiv_cancel_left _ tW]
  exact jO (by omega) (by omega)
 ·intro S hS
  refine ⟨⟨B,hB,hd,?_,fun i j hi hin hj hjn=>hS i j (by omega) hin (by omega) hjn⟩,hs,h0⟩
  rw [hT c c (Nat.le_refl _) hc (Nat.le_refl _) hc,K_]
theorem BI.pb {n:Nat} {A:Nat→Nat→Int} {c:Nat} {s p:Int} {T:Nat→Nat→Int} (h:BI n A c s p T) (hc:c≤n):-2000000000≤p∧p≤2000000000:=by
 obtain ⟨⟨B,hB,hd,hp,hT⟩,_,tW⟩:=h
 cases c with
 | zero=>rw [hp];show -2000000000≤(1:Int)∧(1:Int)≤2000000000;omega
 | succ c=>rw [hp,← K_];exact vL (yS B hB c c c (Nat.le_refl _) (by omega) (Nat.le_refl _) (by omega))
def bT (N T:Nat→Nat→Int) (c i m:Nat):Nat→Nat→Int:=fun r q=>if c < q∧(c < r∧r < i∨r=i∧q < m) then N r q else T r q
theorem Xk (n : Nat) (hn : n ≤ 1048576) (N T : Nat → Nat → Int) (c : Nat) (hc : c < n) (s p : Int) (hp : p ≠ 0)
  (hN:∀ i j,c < i→i < n→c < j→j < n→wrap64 (Int.tdiv (wrap64 (wrap64 (T i j * T c c) - wrap64 (T i c * T c j))) p)=N i j) (i:Nat) (hci:c < i) (hi:i < n) (R:Int)
  (next:Ev (fun k=>bq.l2 k (b9 n (bT N T c (i+1) 0)) s p ((i:Int)+1) n c c) R) :
  ∀ (d j:Nat),n - j=d→j≤n→c < j→Ev (fun k=>bq.l3 k (b9 n (bT N T c i j)) s p i j n c c) R:=by
 intro d
 induction d with
 | zero =>
  intro j hd hj _
  obtain rfl:j=n:=by omega
  refine Ev.step (fun q=>by simp only [bq.l3];rfl) ?_
  simp only [fk,Int.lt_irrefl,if_false,wI ((i:Int)+1) (by omega)]
  refine Ev.congr (fun q=>?_) next
  congr 1
  refine sK fun r q hr hq=>?_
  unfold bT
  by_cases h1:c < q∧(c < r∧r < i∨r=i∧q < j)
  ·rw [if_pos h1,if_pos ⟨h1.1,by omega⟩]
  ·rw [if_neg h1,if_neg (by omega)]
 | succ d ih =>
  intro j hd hj hcj
  have hjn:j < n:=by omega
  refine Ev.step (fun q=>by simp only [bq.l3];rfl) ?_
  have e1:bT N T c i j i j=T i j:=by unfold bT;rw [if_neg (by omega)]
  have e2:bT N T c i j c c=T c c:=by unfold bT;rw [if_neg (by omega)]
  have e3:bT N T c i j i c=T i c:=by unfold bT;rw [if_neg (by omega)]
  have e4:bT N T c i j c j=T c j:=by unfold bT;rw [if_neg (by omega)]
  simp only [fk,lI j n (by omega),lI i n (by omega),lI c n (by omega),cJ i,cJ j,cJ c,if_true,if_false,nU hi,nU hc,fE,hp,gH hjn,gH hc,e1,e2,e3,e4,hN i j hci hi hcj hjn,Int.toNat_natCast,qT,Bx,wI ((j:Int)+1) (by omega)]
  refine Ev.congr (fun q=>?_) (ih (j+1) (by omega) (by omega) (by omega))
  rw [show ((j+1:Nat):Int)=(j:Int)+1 by omega]
  congr 1
  refine sK fun r q hr hq=>?_
  by_cases h1:r=i
  ·subst h1
   rw [if_pos rfl]
   by_cases h2:q=j
   ·subst h2
    rw [if_pos rfl]
    unfold bT;rw [if_pos (by omega)]
   ·rw [if_neg h2]
    unfold bT
    by_cases h3:c < q∧(c < r∧r < r∨r=r∧q < j)
    ·rw [if_pos h3,if_pos (by omega)]
    ·rw [if_neg h3,if_neg (by omega)]
  ·rw [if_neg h1]
   unfold bT
   by_cases h3:c < q∧(c < r∧r < i∨r=i∧q < j)
   ·rw [if_pos h3,if_pos (by omega)]
   ·rw [if_neg h3,if_neg (by omega)]
theorem Xj (n : Nat) (hn : n ≤ 1048576) (N T : Nat → Nat → Int) (c : Nat) (hc : c < n) (s p : Int) (hp : p ≠ 0)
  (hN:∀ i j,c < i→i < n→c < j→j < n→wrap64 (Int.tdiv (wrap64 (wrap64 (T i j * T c c) - wrap64 (T i c * T c j))) p)=N i j) (R:Int)
  (next:Ev (fun k=>bq.l1 k (b9 n (bT N T c n 0)) s (T c c) n ((c:Int)+1)) R) :
  ∀ (d i:Nat),n - i=d→i≤n→c < i→Ev (fun k=>bq.l2 k (b9 n (bT N T c i 0)) s p i n c c) R:=by
 intro d
 induction d with
 | zero =>
  intro i hd hi _
  obtain rfl:i=n:=by omega
  refine Ev.step (fun q=>by simp only [bq.l2];rfl) ?_
  have e2:bT N T c i 0 c c=T c c:=by unfold bT;rw [if_neg (by omega)]
  simp only [fk,Int.lt_irrefl,if_false,cJ c,lI c i (by omega),if_true,nU hc,fE,gH hc,e2,wI ((c:Int)+1) (by omega)]
  exact next
 | succ d ih =>
  intro i hd hi hci
  have hin:i < n:=by omega
  refine Ev.step (fun q=>by simp only [bq.l2];rfl) ?_
  simp only [fk,lI i n (by omega),if_true,wI ((c:Int)+1) (by omega)]
  have h:=ih (i+1) (by omega) (by omega) (by omega)
  rw [show ((i+1:Nat):Int)=(i:Int)+1 by omega] at h
  have h2:=Xk n hn N T c hc s p hp hN i hci hin R h (n - (c+1)) (c+1) rfl (by omega) (by omega)
  rw [show ((c+1:Nat):Int)=(c:Int)+1 by omega] at h2
  refine Ev.congr (fun q=>?_) h2
  congr 1
  refine sK fun r q hr hq=>?_
  unfold bT
  by_cases h3:c < q∧(c < r∧r < i∨r=i∧q < 0)
  ·rw [if_pos h3,if_pos (by omega)]
  ·rw [if_neg h3,if_neg (by omega)]
def anx (c:Int) (x:List Int):Option Bool:=if 0≤c then (if c < (x.length:Int) then some (rd x c != 0) else none) else none
theorem adK (n c:Nat) (hc:c < n) (g:Nat→Int):anx (c:Int) (aE n g)=some (g c != 0):=by
 unfold anx
 rw [if_pos (by omega),if_pos (by rw [fE];omega),gH hc]
theorem acn (k:Nat) (l:List (List Int)) (c:Int):pP.f k l c=nL (anx c) l 0:=rfl
theorem Xg (n : Nat) (T : Nat → Nat → Int) (c : Nat) (hc : c < n) : ∀ (d r z : Nat), n - r = d → r ≤ n →
  (∃ i,r≤i∧i < n∧T i c ≠ 0∧nL (anx (c:Int)) ((b9 n T).drop r) z=some ((z+(i - r):Nat):Int)) ∨
  ((∀ i,r≤i→i < n→T i c=0)∧nL (anx (c:Int)) ((b9 n T).drop r) z=some (-1)):=by
 intro d
 induction d with
 | zero =>
  intro r z hd hr
  refine .inr ⟨fun i h1 h2=>by omega,?_⟩
  rw [List.drop_eq_nil_of_le (by rw [fk];omega)]
  rfl
 | succ d ih =>
  intro r z hd hr
  have hl:r < (b9 n T).length:=by rw [fk];omega
  have hg:(b9 n T)[r]=aE n (T r):=by simp [b9]
  rw [List.drop_eq_getElem_cons hl,hg]
  simp only [nL,adK n c hc,Option.bind_some]
  by_cases h0:T r c=0
  ·simp only [h0, bne_self_eq_false, Bool.false_eq_true, if_false]
   rcases ih (r+1) (z+1) (by omega) (by omega) with ⟨i,h1,h2,h3,h4⟩|⟨h1,h2⟩
   ·exact .inl ⟨i,by omega,h2,h3,by rw [h4];congr 2;omega⟩
   ·refine .inr ⟨fun i h3 h4 => ?_, h2⟩
    by_cases h5:i=r
    ·rw [h5];exact h0
    ·exact h1 i (by omega) h4
  ·have hb : (T r c != 0) = true := by simp [h0]
   simp only [hb,if_true]
   exact .inl ⟨r,Nat.le_refl _,by omega,h0,by congr 2;omega⟩
theorem aeN (i c r:Nat):kH i c r=kH c i r:=by unfold kH;(repeat' split)<;>omega
theorem Ow (n : Nat) (hn : n ≤ 1048576) (A : Nat → Nat → Int) (c : Nat) (hc : c < n) (ih : ∀ (s p : Int) (T : Nat → Nat → Int), BI n A (c + 1) s p T → Ev (fun k => bq.l1 k (b9 n T) s p n ((c : Int) + 1)) (aH n A))
  (s p:Int) (T:Nat→Nat→Int) (h:BI n A c s p T) (h0:T c c ≠ 0):Ev (fun k=>bq.j2 k (b9 n T) s p n c c) (aH n A):=by
 obtain ⟨N,hN,hS⟩:=BI.step h hc h0
 refine Ev.step (fun q=>by simp only [bq.j2];rfl) ?_
 have h1:=ih s (T c c) (bT N T c n 0) (hS _ (fun i j hi hin hj hjn=>by unfold bT;rw [if_pos ⟨hj,.inl ⟨hi,hin⟩⟩]))
 have h2:=Xj n hn N T c hc s p h.p0 hN _ h1 (n - (c+1)) (c+1) rfl (by omega) (by omega)
 rw [show ((c+1:Nat):Int)=(c:Int)+1 by omega] at h2
 simp only [wI ((c:Int)+1) (by omega)]
 refine Ev.congr (fun q=>?_) h2
 congr 1
 refine sK fun r q hr hq=>?_
 unfold bT
 rw [if_neg (by omega)]
theorem Xi (n:Nat) (hn:n≤1048576) (A:Nat→Nat→Int):∀ (d c:Nat),n - c=d→c≤n→∀ (s p:Int) (T:Nat→Nat→Int),BI n A c s p T→Ev (fun k=>bq.l1 k (b9 n T) s p n c) (aH n A):=by
 intro d
 induction d with
 | zero =>
  intro c hd hc s p T h
  obtain rfl:c=n:=by omega
  refine Ev.step (fun q=>by simp only [bq.l1];rfl) ?_
  have hb:=BI.pb h (Nat.le_refl _)
  have hl:=BI.last h
  have hw:wrap64 (s * p)=s * p:=by rcases h.sg with e|e<;>rw [e]<;>exact jO (by omega) (by omega)
  simp only [Int.lt_irrefl,if_false,hw]
  rw [hl]
  exact Ev.now _
 | succ d ih =>
  intro c hd hc s p T h
  have wh:c < n:=by omega
  refine Ev.step (fun q=>by simp only [bq.l1,acn];rfl) ?_
  have ih2:∀ (s p:Int) (T:Nat→Nat→Int),BI n A (c+1) s p T→Ev (fun k=>bq.l1 k (b9 n T) s p n ((c:Int)+1)) (aH n A):=fun s p T h=>by
   have:=ih (c+1) (by omega) (by omega) s p T h
   rwa [show ((c+1:Nat):Int)=(c:Int)+1 by omega] at this
  rcases Xg n T c wh (n - c) c 0 rfl hc with ⟨i,h1,h2,h3,h4⟩|⟨h1,h2⟩
  ·simp only [lI c n (by omega), cJ c, fk, show ((c : Int) ≤ (n : Int)) by omega, if_true, Int.toNat_natCast]
   simp only [Nat.zero_add] at h4
   rw [h4]
   simp only [Option.bind_some,show ¬ (((i - c:Nat):Int) < 0) by omega,if_false]
   by_cases hic:i=c
   ·subst hic
    simp only [Nat.sub_self,show ¬ (((0:Nat):Int) > 0) by omega,if_false]
    exact Ow n hn A i wh ih2 s p T h h3
   ·have hs : wrap64 (-s) = -s := by rcases h.sg with e | e <;> rw [e] <;> exact jO (by omega) (by omega)
    simp only [show (((i - c:Nat):Int) > 0) by omega,show (c:Int)+((i - c:Nat):Int)=(i:Int) by omega,wI ((i:Int)) (by omega),cJ i,lI i n (by omega),if_true,hs]
    have h5:=BI.swap h i (by omega) h2
    have e:swp (b9 n T) c i=b9 n (fun r=>T (kH i c r)):=by
     rw [← TJ,aeO n n T c i wh h2,← TJ]
     refine TH fun r q _ _=>?_
     rw [aeN]
    rw [e]
    refine Ow n hn A c wh ih2 (-s) p _ h5 ?_
    show T (kH i c c) c ≠ 0
    rw [show kH i c c=i by unfold kH;rw [if_neg (by omega),if_pos rfl]]
    exact h3
  ·simp only [lI c n (by omega), cJ c, fk, show ((c : Int) ≤ (n : Int)) by omega, if_true, Int.toNat_natCast]
   rw [h2,BI.none h wh h1]
   simp only [Option.bind_some,show ((-1:Int) < 0) by omega,if_true]
   exact Ev.now _
theorem Xh (n:Nat) (hn:n≤1048576) (A:Nat→Nat→Int) (hA:okB n A):∀ (d i:Nat),n - i=d→i≤n→Ev (fun k=>bq.l0 k (oM i n A) 1 1 (b9 n A) n i) (aH n A):=by
 intro d
 induction d with
 | zero =>
  intro i hd hi
  obtain rfl:i=n:=by omega
  refine Ev.step (fun q=>by simp only [bq.l0];rfl) ?_
  simp only [Int.lt_irrefl,if_false,El]
  exact Xi i hn A i 0 (by omega) (by omega) 1 1 A (BI.start A hA)
 | succ d ih =>
  intro i hd hi
  have hin:i < n:=by omega
  refine Ev.step (fun q=>by simp only [bq.l0];rfl) ?_
  simp only [lI i n (by omega),cJ i,if_true,fk,nU hin,X8 (aE n (A i)) (by rw [fE];omega),Option.bind_some,El,show i < 5864062014805 by omega,afb,wI ((i:Int)+1) (by omega)]
  have h:=ih (i+1) (by omega) (by omega)
  rwa [show ((i+1:Nat):Int)=(i:Int)+1 by omega] at h
theorem TQ (n:Nat) (hn:n≤1048576) (A:Nat→Nat→Int) (hA:okB n A):Ev (fun k=>bq.f k (b9 n A)) (aH n A):=by
 unfold bq.f
 rw [fk]
 exact Xh n hn A hA n 0 (by omega) (by omega)
theorem Fw {n:Nat} (hn:1≤n) (A:Nat→Nat→Int) (hA:okB n A):-2000000000≤aH n A∧aH n A≤2000000000:=by
 obtain ⟨m,rfl⟩:∃ m,n=m+1:=⟨n - 1,by omega⟩
 rw [← K_]
 exact vL (yS A hA m m m (Nat.le_refl _) (by omega) (Nat.le_refl _) (by omega))
def alw : Nat → (Nat → Int) → Int
 | 0,_=>0
 | n+1,f=>alw n f+f n
theorem pW (n:Nat) (f:Nat→Int):alw (n+1) f=alw n f+f n:=rfl
theorem l9 {n:Nat} {f g:Nat→Int} (h:∀ i,i < n→f i=g i):alw n f=alw n g:=by
 induction n with
 | zero=>rfl
 | succ n ih=>rw [pW,pW,ih (fun i hi=>h i (by omega)),h n (by omega)]
theorem r6 {n:Nat} {f g:Nat→Int} (h:∀ i,i < n→f i≤g i):alw n f≤alw n g:=by
 induction n with
 | zero=>simp [alw]
 | succ n ih =>
  have h1:=ih (fun i hi=>h i (by omega))
  have h2:=h n (by omega)
  rw [pW,pW]
  omega
theorem W6 {n:Nat} {f:Nat→Int} (h:∀ i,i < n→-20≤f i∧f i≤20):-(20 * (n:Int))≤alw n f∧alw n f≤20 * n:=by
 induction n with
 | zero=>simp [alw]
 | succ n ih =>
  have h1:=ih (fun i hi=>h i (by omega))
  have h2:=h n (by omega)
  rw [pW]
  omega
theorem r5 (n:Nat) (f g:Nat→Int):alw n (fun i=>f i+g i)=alw n f+alw n g:=by
 induction n with
 | zero=>rfl
 | succ n ih=>rw [pW,pW,pW,ih];omega
theorem Cf (n:Nat) (f:Nat→Int):alw n (fun i=>-f i)=-alw n f:=by
 induction n with
 | zero=>rfl
 | succ n ih=>rw [pW,pW,ih];omega
theorem Cg (n:Nat):alw n (fun _=>0)=0:=by
 induction n with
 | zero=>rfl
 | succ n ih=>rw [pW,ih];rfl
theorem qz {n u:Nat} (hu:u < n) (x:Int):alw n (fun j=>if j=u then x else 0)=x:=by
 induction n with
 | zero=>omega
 | succ n ih =>
  rw [pW]
  by_cases h:n=u
  ·subst h
   rw [if_pos rfl,l9 (g:=fun _=>0) (fun i hi=>by rw [if_neg (by omega)]),Cg]
   omega
  ·rw [if_neg h, ih (by omega)]
   omega
theorem Gk (p q:Prop) [Decidable p] [Decidable q]:(if p∧q then (1:Int) else 0)=if q∧p then 1 else 0:=by
 by_cases hp:p<;>by_cases hq:q<;>simp [hp,hq]
/-- The Laplacian is the same read either way. -/
theorem adm {n:Nat} {l:List (List Int)} (hE:endsIn n l):∀ i,i≤l.length→∀ r j,bP l i r j=bP l i j r:=by
 intro i
 induction i with
 | zero =>
  intro _ r j
  unfold bP
  by_cases h:r=j
  ·subst h;rfl
  ·rw [if_neg h,if_neg (fun e=>h e.symm)];rfl
 | succ i ih =>
  intro hi r j
  obtain ⟨_,u,v,hu,hv,_,_⟩:=hE i (by omega)
  rw [yd n l i u v hu hv r j,yd n l i u v hu hv j r,ih (by omega) r j]
  by_cases h:u=v
  ·rw [if_pos h,if_pos h]
  ·rw [if_neg h, if_neg h, Gk (j = u) (r = u), Gk (j = u) (r = v), Gk (j = v) (r = v), Gk (j = v) (r = u)]
   omega
end Go.Proofs.Ytoebojnhchocaaa.B
/- Set with little white space, by a program. -/
