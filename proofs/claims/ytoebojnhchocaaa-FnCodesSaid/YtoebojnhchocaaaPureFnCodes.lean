/- Plain lemmas on the Lean functions that FnCodes reaches, and its pure statement. No condition. -/
import Derived.Test.YtoebojnhchocaaaGx
namespace Go.Proofs.Ytoebojnhchocaaa.G
open Go.RowKit Go.Proofs.cx.fq Go.Proofs.cx.jX Go.Proofs.cx.lu
set_option linter.unusedVariables false
set_option linter.unusedSimpArgs false
theorem wI (n:Int) (h:-9223372036854775808≤n∧n≤9223372036854775807):wrap64 n=n:=IntWalk.wrap64_in n h
theorem fA (n:Nat):(0:Int)≤(n:Int):=Int.natCast_nonneg n
theorem lI (a b:Nat) (h:a < b):(a:Int) < (b:Int):=Int.ofNat_lt.2 h
theorem nc {n:Int} (h0:-9223372036854775808≤n) (h1:n≤9223372036854775807):wrap64 n=n:=IntWalk.wrap64_in n ⟨h0,h1⟩
theorem mD (l:List Int) (i:Nat) (h:i < l.length):rd l (i:Int)=l[i]:=by
 simp [rd,List.getD_eq_getElem?_getD,h]
theorem kL (l:List (List Int)) (i:Nat) (h:i < l.length):ai l (i:Int)=l[i]:=by
 simp [ai,List.getD_eq_getElem?_getD,h]
/-! ### what a graph is -/
def Au (a n:Int):Bool:=decide (0≤n) && decide (n≤wrap64 (a - 1))
def aoC (a:Int) (e:List Int):Bool:=decide (e.length=2) && (Au a (rd e 0) && Au a (rd e 1))
def gU (a:Int) (l:List (List Int)):Bool:=decide (1≤a) && (decide (a≤8) && (decide (l.length≤10) && l.all (aoC a)))
theorem T2 (a b c:Int):jr.f a b c=some (decide (b≤a) && decide (a≤c)):=by
 unfold jr.f
 by_cases h:b≤a<;>simp [h]
theorem Sy (a b c:Int):jc.f a b c=some (decide (b≤a) && decide (a≤c)):=by
 unfold jc.f
 by_cases h:b≤a<;>simp [h]
theorem acJ (a:Int) (l:List (List Int)) (hl:l.length≤maxLen):∀ (d i:Nat),l.length - i=d→i≤l.length→Ev (fun k=>fj.l0 k l l.length i a l) ((l.drop i).all (aoC a) && (decide (1≤a) && (decide (a≤8) && decide (l.length≤10)))):=by
 unfold maxLen at hl
 intro d
 induction d with
 | zero =>
  intro i hd hi
  refine Ev.step (fun k=>by simp only [fj.l0];rfl) ?_
  simp only [show ¬ ((i:Int) < (l.length:Int)) by omega,if_false,T2,Option.bind_some,List.drop_of_length_le (show l.length≤i by omega),List.all_nil,Bool.true_and]
  by_cases h1:1≤a
  ·by_cases h2 : a ≤ 8
   ·simp only [h1, h2, decide_true, Bool.true_and, if_true]
    exact Ev.congr (fun k=>by congr 1;simp;omega) (Ev.now _)
   ·simp only [h1, h2, decide_true, decide_false, Bool.true_and, Bool.false_and, Bool.false_eq_true, if_false]
    exact Ev.now _
  ·simp only [h1, decide_false, Bool.false_and, Bool.false_eq_true, if_false]
   exact Ev.now _
 | succ d ih =>
  intro i hd hi
  have hil:i < l.length:=by omega
  refine Ev.step (fun k=>by simp only [fj.l0];rfl) ?_
  have JJ:(l.drop i).all (aoC a)=(aoC a l[i] && (l.drop (i+1)).all (aoC a)):=by rw [List.drop_eq_getElem_cons hil,List.all_cons]
  rw [JJ]
  simp only [show ((i:Int) < (l.length:Int)) by omega,fA i,if_true,wI ((i:Int)+1) (by omega),kL l i hil,T2,Option.bind_some]
  unfold aoC Au
  by_cases h2:l[i].length=2
  ·simp only [h2, decide_true, Bool.true_and, show ((2 : Nat) : Int) = 2 from rfl, if_true, show (0 : Int) < 2 by omega, show (1 : Int) < 2 by omega]
   by_cases h3:(decide (0≤rd l[i] 0) && decide (rd l[i] 0≤wrap64 (a - 1)))=true
   ·by_cases h4 : (decide (0 ≤ rd l[i] 1) && decide (rd l[i] 1 ≤ wrap64 (a - 1))) = true
    ·simp only [h3, h4, if_true, Bool.true_and]
     exact ih (i+1) (by omega) (by omega)
    ·simp only [Bool.not_eq_true] at h4
     simp only [h3,h4,if_true,Bool.false_and,Bool.and_false,Bool.false_eq_true,if_false]
     exact Ev.now _
   ·simp only [Bool.not_eq_true] at h3
    simp only [h3,Bool.false_and,Bool.false_eq_true,if_false]
    exact Ev.now _
  ·simp only [show ¬ ((l[i].length : Int) = 2) by omega, h2, decide_false, Bool.false_and, if_false]
   exact Ev.now _
theorem FR (a:Int) (l:List (List Int)) (hl:l.length≤maxLen):Ev (fun k=>fj.f k a l) (gU a l):=by
 unfold fj.f
 have h:=acJ a l hl l.length 0 (by omega) (by omega)
 have e:((l.drop 0).all (aoC a) && (decide (1≤a) && (decide (a≤8) && decide (l.length≤10))))=gU a l:=by
  unfold gU
  rw [List.drop_zero]
  cases l.all (aoC a)<;>simp
 rw [e] at h
 exact h
theorem aeR (a:Int) (l:List (List Int)) (hl:l.length≤maxLen):∀ (d i:Nat),l.length - i=d→i≤l.length→Ev (fun k=>cY.l0 k i a l) ((l.drop i).all (aoC a)):=by
 unfold maxLen at hl
 intro d
 induction d with
 | zero =>
  intro i hd hi
  refine Ev.step (fun k=>by simp only [cY.l0];rfl) ?_
  simp only [show ¬ ((i:Int) < (l.length:Int)) by omega,if_false,List.drop_of_length_le (show l.length≤i by omega),List.all_nil]
  exact Ev.now _
 | succ d ih =>
  intro i hd hi
  have hil:i < l.length:=by omega
  refine Ev.step (fun k=>by simp only [cY.l0];rfl) ?_
  have JJ:(l.drop i).all (aoC a)=(aoC a l[i] && (l.drop (i+1)).all (aoC a)):=by rw [List.drop_eq_getElem_cons hil,List.all_cons]
  rw [JJ]
  simp only [show ((i:Int) < (l.length:Int)) by omega,fA i,if_true,wI ((i:Int)+1) (by omega),kL l i hil,Sy,Option.bind_some]
  unfold aoC Au
  by_cases h2:l[i].length=2
  ·simp only [h2, decide_true, Bool.true_and, show ((2 : Nat) : Int) = 2 from rfl, if_true, show (0 : Int) < 2 by omega, show (1 : Int) < 2 by omega]
   by_cases h3:(decide (0≤rd l[i] 0) && decide (rd l[i] 0≤wrap64 (a - 1)))=true
   ·by_cases h4 : (decide (0 ≤ rd l[i] 1) && decide (rd l[i] 1 ≤ wrap64 (a - 1))) = true
    ·simp only [h3, h4, if_true, Bool.true_and]
     exact ih (i+1) (by omega) (by omega)
    ·simp only [Bool.not_eq_true] at h4
     simp only [h3,h4,if_true,Bool.false_and,Bool.and_false,Bool.false_eq_true,if_false]
     exact Ev.now _
   ·simp only [Bool.not_eq_true] at h3
    simp only [h3,Bool.false_and,Bool.false_eq_true,if_false]
    exact Ev.now _
  ·simp only [show ¬ ((l[i].length : Int) = 2) by omega, h2, decide_false, Bool.false_and, if_false]
   exact Ev.now _
theorem LD (a:Int) (l:List (List Int)) (hl:l.length≤maxLen):Ev (fun k=>cY.f k a l) (gU a l):=by
 unfold cY.f gU
 simp only [Sy,Option.bind_some]
 have hj:∀ b,Ev (fun k=>cY.j0 k b a l) (!b && l.all (aoC a)):=by
  intro b
  refine Ev.step (fun k=>by simp only [cY.j0];rfl) ?_
  cases b with
  | true=>simp only [if_true,Bool.not_true,Bool.false_and];exact Ev.now _
  | false =>
   simp only [Bool.false_eq_true,if_false,Bool.not_false,Bool.true_and]
   exact aeR a l hl l.length 0 (by omega) (by omega)
 by_cases h1:1≤a
 ·by_cases h2 : a ≤ 8
  ·simp only [h1, h2, decide_true, Bool.true_and, if_true]
   have h:=hj (decide ((l.length:Int) > 10))
   have e:(!decide ((l.length:Int) > 10))=decide (l.length≤10):=by
    by_cases h:l.length≤10
    ·simp [h];omega
    ·simp [h];omega
   rw [e] at h
   exact h
  ·simp only [h1, h2, decide_true, decide_false, Bool.true_and, Bool.false_and, Bool.false_eq_true, if_false]
   exact hj true
 ·simp only [h1, decide_false, Bool.false_and, Bool.false_eq_true, if_false]
  exact hj true
def anI : Nat → (Nat → Int) → Int
 | 0,_=>0
 | n+1,f=>anI n f+f n
theorem fy {n:Nat} {f g:Nat→Int} (h:∀ i,i < n→f i=g i):anI n f=anI n g:=by
 induction n with
 | zero=>rfl
 | succ n ih=>simp only [anI];rw [ih (fun i hi=>h i (by omega)),h n (by omega)]
theorem lH {n:Nat} {f:Nat→Int} (h:∀ i,i < n→f i=0):anI n f=0:=by
 induction n with
 | zero=>rfl
 | succ n ih=>simp only [anI];rw [ih (fun i hi=>h i (by omega)),h n (by omega)];rfl
theorem qK (n:Nat) (f g:Nat→Int):anI n (fun i=>f i+g i)=anI n f+anI n g:=by
 induction n with
 | zero=>rfl
 | succ n ih=>simp only [anI];rw [ih];omega
theorem jE (n:Nat) (x:Int) (f:Nat→Int):anI n (fun i=>x * f i)=x * anI n f:=by
 induction n with
 | zero=>simp [anI]
 | succ n ih=>simp only [anI];rw [ih,Int.mul_add]
theorem AW (n:Nat) (f:Nat→Int):anI n (fun i=>- f i)=- anI n f:=by
 induction n with
 | zero=>rfl
 | succ n ih=>simp only [anI];rw [ih];omega
theorem KU (n:Nat) (f g:Nat→Int):anI n (fun i=>f i - g i)=anI n f - anI n g:=by
 induction n with
 | zero=>rfl
 | succ n ih=>simp only [anI];rw [ih];omega
theorem wF {n:Nat} {f:Nat→Int} (k:Nat) (hk:k < n) (h:∀ i,i < n→i ≠ k→f i=0):anI n f=f k:=by
 induction n with
 | zero=>omega
 | succ n ih =>
  simp only [anI]
  by_cases hkn:k=n
  ·subst hkn
   rw [lH (fun i hi=>h i (by omega) (by omega))];omega
  ·rw [ih (by omega) (fun i hi hne=>h i (by omega) hne),h n (by omega) (by omega)];omega
theorem adF {n:Nat} {f:Nat→Int} (k l:Nat) (hk:k < n) (hl:l < n) (mS:k ≠ l) (h:∀ i,i < n→i ≠ k→i ≠ l→f i=0):anI n f=f k+f l:=by
 have e:anI n f=anI n (fun i=>(if i=k then f k else 0)+(if i=l then f l else 0)):=by
  refine fy (fun i hi=>?_)
  by_cases h1:i=k
  ·subst h1;simp [mS]
  ·by_cases h2 : i = l
   ·subst h2;simp [h1]
   ·simp [h1,h2,h i hi h1 h2]
 rw [e,qK,wF k hk (fun i _ hne=>by simp [hne]),wF l hl (fun i _ hne=>by simp [hne])]
 simp
theorem F4 (n:Nat) (f:Nat→Int):anI (n+1) f=f 0+anI n (fun i=>f (i+1)):=by
 induction n with
 | zero=>simp [anI]
 | succ n ih =>
  rw [show anI (n+1+1) f=anI (n+1) f+f (n+1) from rfl,ih]
  simp only [anI];omega
theorem DJ (n m:Nat) (f:Nat→Nat→Int):anI n (fun i=>anI m (fun j=>f i j))=anI m (fun j=>anI n (fun i=>f i j)):=by
 induction n with
 | zero=>simp only [anI];rw [lH (fun _ _=>rfl)]
 | succ n ih=>simp only [anI];rw [ih,qK]
theorem adE (n m:Nat) (f:Nat→Int):anI (n+m) f=anI n f+anI m (fun i=>f (n+i)):=by
 induction m with
 | zero=>simp [anI]
 | succ m ih=>rw [← Nat.add_assoc];simp only [anI];rw [ih];omega
theorem KT {n m:Nat} {f:Nat→Int} (h:n≤m) (hz:∀ i,n≤i→i < m→f i=0):anI m f=anI n f:=by
 obtain ⟨d,rfl⟩:=Nat.exists_eq_add_of_le h
 rw [adE,lH (n:=d) (fun i hi=>hz _ (by omega) (by omega))];omega
def bX (i a:Nat):Nat:=if a < i then a else a+1
def jT (i:Nat):Int:=if i % 2=0 then 1 else -1
theorem adB (i:Nat):jT (i+1)=- jT i:=by
 unfold jT;by_cases h:i % 2=0
 ·rw [if_pos h,if_neg (by omega)]
 ·rw [if_neg h,if_pos (by omega)];rfl
theorem SL {i a n:Nat} (hi:i < n+1) (ha:a < n):bX i a < n+1:=by unfold bX;split<;>omega
def cn : Nat → (Nat → Nat → Int) → Int
 | 0,_=>1
 | n+1,M=>anI (n+1) (fun i=>jT i * M i 0 * cn n (fun a b=>M (bX i a) (b+1)))
theorem qo (n:Nat) (M:Nat→Nat→Int):cn (n+1) M=anI (n+1) (fun i=>jT i * M i 0 * cn n (fun a b=>M (bX i a) (b+1))):=rfl
theorem mC {n:Nat}:∀ {M N:Nat→Nat→Int},(∀ a b,a < n→b < n→M a b=N a b)→cn n M=cn n N:=by
 induction n with
 | zero=>intros;rfl
 | succ n ih =>
  intro M N h
  rw [qo,qo]
  refine fy (fun i hi=>?_)
  rw [h i 0 hi (by omega),ih (fun a b ha hb=>h _ _ (SL hi ha) (by omega))]
def bT (M:Nat→Nat→Int) (i:Nat) (r:Nat→Int):Nat→Nat→Int:=fun a b=>if a=i then r b else M a b
def js (M:Nat→Nat→Int) (j:Nat) (c:Nat→Int):Nat→Nat→Int:=fun a b=>if b=j then c a else M a b
def yD (i a:Nat):Nat:=if a < i then a else a - 1
theorem SK {i a k:Nat} (h:k ≠ i):bX i a=k↔a=yD i k:=by unfold bX yD;split<;>split<;>omega
theorem adH {i k n:Nat} (hi:i < n+1) (hk:k < n+1) (h:k ≠ i):yD i k < n:=by unfold yD;split<;>omega
theorem KS (i a:Nat):bX i a ≠ i:=by unfold bX;split<;>omega
theorem FZ {M:Nat→Nat→Int} {i k:Nat} {r:Nat→Int} (h:k ≠ i):(fun a b=>bT M k r (bX i a) (b+1))=bT (fun a b=>M (bX i a) (b+1)) (yD i k) (fun b=>r (b+1)):=by
 funext a b
 unfold bT
 by_cases e:bX i a=k
 ·rw [if_pos e,if_pos ((SK h).mp e)]
 ·rw [if_neg e,if_neg (fun h'=>e ((SK h).mpr h'))]
theorem F0 {M:Nat→Nat→Int} {k:Nat} {r:Nat→Int}:(fun a b=>bT M k r (bX k a) (b+1))=(fun a b=>M (bX k a) (b+1)):=by
 funext a b
 unfold bT
 rw [if_neg (KS k a)]
theorem FY {n:Nat}:∀ (M:Nat→Nat→Int) (k:Nat),k < n→∀ (x y:Int) (r s:Nat→Int),cn n (bT M k (fun b=>x * r b+y * s b))=x * cn n (bT M k r)+y * cn n (bT M k s):=by
 induction n with
 | zero=>intro M k hk;omega
 | succ n ih =>
  intro M k hk x y r s
  rw [qo,qo,qo,← jE,← jE,← qK]
  refine fy (fun i hi=>?_)
  by_cases e:k=i
  ·subst e
   rw [F0,F0,F0]
   simp only [bT,if_true]
   generalize cn n _=D
   grind
  ·rw [FZ e, FZ e, FZ e, ih _ _ (adH hi hk e)]
   simp only [bT,if_neg (Ne.symm e)]
   generalize cn n _=D
   generalize cn n _=E
   grind
theorem SH {n:Nat} (M:Nat→Nat→Int) (k:Nat) (hk:k < n) (x:Int) (r:Nat→Int):cn n (bT M k (fun b=>x * r b))=x * cn n (bT M k r):=by
 have:=FY M k hk x 0 r r
 simpa using this
theorem AP {n:Nat} (M:Nat→Nat→Int) (k:Nat) (hk:k < n) (r s:Nat→Int):cn n (bT M k (fun b=>r b+s b))=cn n (bT M k r)+cn n (bT M k s):=by
 have:=FY M k hk 1 1 r s
 simpa using this
theorem AU (M:Nat→Nat→Int) (k:Nat):bT M k (M k)=M:=by
 funext a b;unfold bT;split
 ·case _ h=>rw [h]
 ·rfl
theorem rB (M:Nat→Nat→Int) {k l:Nat} (h:k ≠ l) (r s:Nat→Int):bT (bT M k r) l s=bT (bT M l s) k r:=by
 funext a b;unfold bT;by_cases e:a=l
 ·subst e;simp [Ne.symm h]
 ·simp [e]
theorem adt {n:Nat} (M:Nat→Nat→Int) (k:Nat) (hk:k < n) (h:∀ b,b < n→M k b=0):cn n M=0:=by
 have e:cn n M=cn n (bT M k (fun b=>0 * M k b)):=by
  refine mC (fun a b _ hb=>?_)
  unfold bT;split
  ·case _ h'=>rw [h',h b hb];simp
  ·rfl
 rw [e,SH _ _ hk];simp
theorem FX {n:Nat}:∀ (M:Nat→Nat→Int) (k:Nat),k+1 < n→(∀ b,b < n→M k b=M (k+1) b)→cn n M=0:=by
 induction n with
 | zero=>intro M k hk;omega
 | succ n ih =>
  intro M k hk h
  rw [qo,adF k (k+1) (by omega) hk (by omega)]
  ·have e:cn n (fun a b=>M (bX k a) (b+1))=cn n (fun a b=>M (bX (k+1) a) (b+1)):=by
    refine mC (fun a b ha hb=>?_)
    by_cases h1:a=k
    ·subst h1
     have e1:bX a a=a+1:=by unfold bX;split<;>omega
     have e2:bX (a+1) a=a:=by unfold bX;split<;>omega
     rw [e1,e2,h _ (by omega)]
    ·have : bX k a = bX (k+1) a := by unfold bX; split <;> split <;> omega
     rw [this]
   rw [e,adB,h 0 (by omega)]
   generalize cn n _=D
   grind
  ·intro i hi h1 h2
   have:cn n (fun a b=>M (bX i a) (b+1))=0:=by
    by_cases hik:i < k
    ·refine ih _ (k-1) (by omega) (fun b hb => ?_)
     have e1:bX i (k-1)=k:=by unfold bX;split<;>omega
     have e2:bX i (k-1+1)=k+1:=by unfold bX;split<;>omega
     simp only [e1,e2];exact h _ (by omega)
    ·refine ih _ k (by omega) (fun b hb => ?_)
     have e1:bX i k=k:=by unfold bX;split<;>omega
     have e2:bX i (k+1)=k+1:=by unfold bX;split<;>omega
     simp only [e1,e2];exact h _ (by omega)
   rw [this];simp
theorem adm {n:Nat} (M:Nat→Nat→Int) (k:Nat) (hk:k+1 < n) (r s:Nat→Int):cn n (bT (bT M k r) (k+1) s)=- cn n (bT (bT M k s) (k+1) r):=by
 have h0:cn n (bT (bT M k (fun b=>r b+s b)) (k+1) (fun b=>r b+s b))=0 :=
  FX _ k hk (fun b _=>by simp [bT])
 have hr:cn n (bT (bT M k r) (k+1) r)=0:=FX _ k hk (fun b _=>by simp [bT])
 have hs:cn n (bT (bT M k s) (k+1) s)=0:=FX _ k hk (fun b _=>by simp [bT])
 rw [AP _ _ hk,rB _ (show k ≠ k+1 by omega),rB _ (show k ≠ k+1 by omega),AP _ _ (by omega),AP _ _ (by omega)] at h0
 rw [rB _ (show k+1 ≠ k by omega),rB _ (show k+1 ≠ k by omega),rB _ (show k+1 ≠ k by omega),rB _ (show k+1 ≠ k by omega),hr,hs] at h0
 omega
theorem SD {n:Nat}:∀ (d:Nat) (M:Nat→Nat→Int) (k:Nat),k+1+d < n→(∀ b,b < n→M k b=M (k+1+d) b)→cn n M=0:=by
 intro d
 induction d with
 | zero=>intro M k hk h;exact FX M k hk h
 | succ d ih =>
  intro M k hk h
  have e:M=bT (bT M (k+1+d) (M (k+1+d))) (k+1+d+1) (M (k+1+d+1)):=by
   rw [AU,AU]
  rw [e,adm _ _ (by omega)]
  rw [ih _ k (by omega) (fun b hb=>?_)]
  ·rfl
  ·simp only [bT]
   rw [if_neg (by omega),if_neg (by omega),if_neg (by omega),if_pos trivial]
   exact h b hb
theorem DF {n:Nat} (M:Nat→Nat→Int) (k l:Nat) (hk:k < n) (hl:l < n) (mS:k ≠ l) (h:∀ b,b < n→M k b=M l b):cn n M=0:=by
 rcases Nat.lt_or_gt_of_ne mS with h1|h1
 ·obtain ⟨d, rfl⟩ := Nat.exists_eq_add_of_lt h1
  exact SD d M k (by omega) (fun b hb=>by rw [h b hb];congr 1;omega)
 ·obtain ⟨d, rfl⟩ := Nat.exists_eq_add_of_lt h1
  exact SD d M l (by omega) (fun b hb=>by rw [← h b hb];congr 1;omega)
theorem ads {n:Nat} (M:Nat→Nat→Int) (k l:Nat) (hk:k < n) (hl:l < n) (mS:k ≠ l) (x:Int):cn n (bT M k (fun b=>M k b+x * M l b))=cn n M:=by
 have h1:=FY M k hk 1 x (M k) (M l)
 have h2:cn n (bT M k (M l))=0:=DF _ k l hk hl mS (fun b _=>by simp [bT,Ne.symm mS])
 rw [h2,AU] at h1
 simpa using h1
theorem adu {n:Nat} (M:Nat→Nat→Int) (l:Nat) (hl:l < n) (x:Nat→Int) (hx:x l=0):cn n (fun a b=>M a b+x a * M l b)=cn n M:=by
 have key:∀ m,m≤n→cn n (fun a b=>if a < m then M a b+x a * M l b else M a b)=cn n M:=by
  intro m
  induction m with
  | zero=>intro _;exact mC (fun a b _ _=>by simp)
  | succ m ih =>
   intro hm
   rw [← ih (by omega)]
   by_cases hml:m=l
   ·subst hml
    refine mC (fun a b _ _=>?_)
    by_cases h1:a < m
    ·rw [if_pos h1,if_pos (by omega)]
    ·by_cases h2 : a = m
     ·subst h2;simp [hx]
     ·rw [if_neg h1,if_neg (by omega)]
   ·rw [← ads (fun a b => if a < m then M a b + x a * M l b else M a b) m l (by omega) hl hml (x m)]
    refine mC (fun a b _ _=>?_)
    simp only [bT]
    by_cases h2:a=m
    ·subst h2
     by_cases h3:l < a
     ·simp [h3,hx]
     ·simp [h3]
    ·by_cases h1 : a < m
     ·rw [if_pos (by omega),if_neg h2,if_pos h1]
     ·rw [if_neg (by omega),if_neg h2,if_neg h1]
 rw [← key n (Nat.le_refl n)]
 exact mC (fun a b ha _=>by rw [if_pos ha])
theorem adv {n:Nat} (M:Nat→Nat→Int) (k l:Nat) (hk:k < n) (hl:l < n) (mS:k ≠ l):cn n (bT (bT M k (M l)) l (M k))=- cn n M:=by
 have h0:cn n (bT (bT M k (fun b=>M k b+M l b)) l (fun b=>M k b+M l b))=0 :=
  DF _ k l hk hl mS (fun b _=>by simp [bT,mS])
 have hr:cn n (bT (bT M k (M k)) l (M k))=0:=DF _ k l hk hl mS (fun b _=>by simp [bT,mS])
 have hs:cn n (bT (bT M k (M l)) l (M l))=0:=DF _ k l hk hl mS (fun b _=>by simp [bT,mS])
 rw [AP _ _ hl,rB _ mS,rB _ mS,AP _ _ hk,AP _ _ hk] at h0
 rw [rB _ (Ne.symm mS),rB _ (Ne.symm mS),rB _ (Ne.symm mS),rB _ (Ne.symm mS),hr,hs,AU,AU] at h0
 omega
theorem KP {M:Nat→Nat→Int} {i k:Nat} {c:Nat→Int}:(fun a b=>js M (k+1) c (bX i a) (b+1))=js (fun a b=>M (bX i a) (b+1)) k (fun a=>c (bX i a)):=by
 funext a b
 unfold js
 by_cases e:b=k
 ·subst e;simp
 ·simp [e]
theorem KQ {M:Nat→Nat→Int} {i:Nat} {c:Nat→Int}:(fun a b=>js M 0 c (bX i a) (b+1))=(fun a b=>M (bX i a) (b+1)):=by
 funext a b;unfold js;simp
theorem SE {n:Nat}:∀ (M:Nat→Nat→Int) (k:Nat),k < n→∀ (x y:Int) (r s:Nat→Int),cn n (js M k (fun b=>x * r b+y * s b))=x * cn n (js M k r)+y * cn n (js M k s):=by
 induction n with
 | zero=>intro M k hk;omega
 | succ n ih =>
  intro M k hk x y r s
  rw [qo,qo,qo,← jE,← jE,← qK]
  refine fy (fun i hi=>?_)
  cases k with
  | zero =>
   rw [KQ,KQ,KQ]
   simp only [js,if_true]
   generalize cn n _=D
   grind
  | succ k =>
   rw [KP,KP,KP,ih _ _ (by omega)]
   simp only [js,if_neg (show ¬ 0=k+1 by omega)]
   generalize cn n _=D
   generalize cn n _=E
   grind
theorem ado {n:Nat} (M:Nat→Nat→Int) (k:Nat) (hk:k < n) (x:Int) (r:Nat→Int):cn n (js M k (fun b=>x * r b))=x * cn n (js M k r):=by
 have:=SE M k hk x 0 r r
 simpa using this
theorem SF {n:Nat} (M:Nat→Nat→Int) (k:Nat) (hk:k < n) (h:∀ a,a < n→M a k=0):cn n M=0:=by
 have e:cn n M=cn n (js M k (fun a=>0 * M a k)):=by
  refine mC (fun a b ha _=>?_)
  unfold js;split
  ·case _ h'=>rw [h',h a ha];simp
  ·rfl
 rw [e,ado _ _ hk];simp
theorem SG {n:Nat}:∀ (M:Nat→Nat→Int),(∀ b,b < n→M n b=0)→cn (n+1) M=M n n * cn n M:=by
 induction n with
 | zero=>intro M _;simp [cn,anI,jT]
 | succ n ih =>
  intro M h
  rw [qo (n+1)]
  rw [show anI (n+1+1) (fun i=>jT i * M i 0 * cn (n+1) (fun a b=>M (bX i a) (b+1)))=anI (n+1) (fun i=>jT i * M i 0 * cn (n+1) (fun a b=>M (bX i a) (b+1)))+jT (n+1) * M (n+1) 0 * cn (n+1) (fun a b=>M (bX (n+1) a) (b+1)) from rfl]
  rw [h 0 (by omega)]
  simp only [Int.mul_zero,Int.zero_mul,Int.add_zero]
  rw [qo n M,← jE]
  refine fy (fun i hi=>?_)
  have e:bX i n=n+1:=by unfold bX;split<;>omega
  rw [ih _ (fun b hb=>by rw [e];exact h _ (by omega))]
  rw [e]
  generalize cn n _=D
  grind
theorem adq {n:Nat}:∀ (M:Nat→Nat→Int),(∀ a,a < n→M a n=0)→cn (n+1) M=M n n * cn n M:=by
 induction n with
 | zero=>intro M _;simp [cn,anI,jT]
 | succ n ih =>
  intro M h
  rw [qo (n+1)]
  rw [show anI (n+1+1) (fun i=>jT i * M i 0 * cn (n+1) (fun a b=>M (bX i a) (b+1)))=anI (n+1) (fun i=>jT i * M i 0 * cn (n+1) (fun a b=>M (bX i a) (b+1)))+jT (n+1) * M (n+1) 0 * cn (n+1) (fun a b=>M (bX (n+1) a) (b+1)) from rfl]
  have z:cn (n+1) (fun a b=>M (bX (n+1) a) (b+1))=0:=by
   refine SF _ n (by omega) (fun a ha=>?_)
   have e:bX (n+1) a=a:=by unfold bX;split<;>omega
   rw [e];exact h _ (by omega)
  rw [z]
  simp only [Int.mul_zero,Int.add_zero]
  rw [qo n M,← jE]
  refine fy (fun i hi=>?_)
  have e:bX i n=n+1:=by unfold bX;split<;>omega
  rw [ih _ (fun a ha=>by exact h _ (SL hi (by omega)))]
  rw [e]
  generalize cn n _=D
  grind
def cz (j b:Nat):Int:=if b=j then 1 else 0
theorem DG (j:Nat):cz j j=1:=by simp [cz]
theorem wE {j b:Nat} (h:b ≠ j):cz j b=0:=by simp [cz,h]
theorem adr (n:Nat):cn n (fun a b=>cz a b)=1:=by
 induction n with
 | zero=>rfl
 | succ n ih=>rw [SG _ (fun b hb=>wE (by omega)),ih,DG];rfl
theorem F2 {n:Nat} (x:Nat→Int) (b:Nat) (hb:b < n):anI n (fun j=>x j * cz j b)=x b:=by
 rw [wF b hb (fun i _ hne=>by rw [wE (Ne.symm hne)];simp),DG];simp
theorem F3 {n:Nat} (x:Nat→Int) (b:Nat) (hb:b < n):anI n (fun j=>x j * cz b j)=x b:=by
 rw [wF b hb (fun i _ hne=>by rw [wE hne];simp),DG];simp
theorem KO {n : Nat} (M : Nat → Nat → Int) (i : Nat) (hi : i < n) (m : Nat) (x : Nat → Int) (r : Nat → Nat → Int) :
  cn n (bT M i (fun b=>anI m (fun j=>x j * r j b)))=anI m (fun j=>x j * cn n (bT M i (r j))):=by
 induction m with
 | zero=>exact adt _ i hi (fun b _=>by simp [bT,anI])
 | succ m ih =>
  simp only [anI]
  have:=FY M i hi 1 (x m) (fun b=>anI m (fun j=>x j * r j b)) (r m)
  simp only [Int.one_mul] at this
  rw [this,ih]
theorem adp {n : Nat} (M : Nat → Nat → Int) (i : Nat) (hi : i < n) (m : Nat) (x : Nat → Int) (r : Nat → Nat → Int) :
  cn n (js M i (fun b=>anI m (fun j=>x j * r j b)))=anI m (fun j=>x j * cn n (js M i (r j))):=by
 induction m with
 | zero=>exact SF _ i hi (fun b _=>by simp [js,anI])
 | succ m ih =>
  simp only [anI]
  have:=SE M i hi 1 (x m) (fun b=>anI m (fun j=>x j * r j b)) (r m)
  simp only [Int.one_mul] at this
  rw [this,ih]
def qm (n:Nat) (M:Nat→Nat→Int) (j i:Nat):Int:=cn n (bT M i (cz j))
theorem adh {n:Nat} (M:Nat→Nat→Int) (k i:Nat) (hi:i < n) (hk:k < n):anI n (fun j=>M k j * qm n M j i)=if k=i then cn n M else 0:=by
 unfold qm
 rw [← KO M i hi n (M k) (fun j=>cz j)]
 have e:cn n (bT M i (fun b=>anI n (fun j=>M k j * cz j b)))=cn n (bT M i (M k)):=by
  refine mC (fun a b _ hb=>?_)
  unfold bT;split
  ·exact F2 (M k) b hb
  ·rfl
 rw [e]
 by_cases h:k=i
 ·subst h;rw [AU,if_pos rfl]
 ·rw [if_neg h]
  exact DF _ i k hi hk (Ne.symm h) (fun b _=>by simp [bT,h])
theorem adn (r : Nat) (K : Nat → Nat → Int) :
  cn (r+1) K=K r r * cn r K - anI r (fun j=>anI r (fun i=>K r j * qm r K j i * K i r)):=by
 have hrow:cn (r+1) K=anI (r+1) (fun j=>K r j * cn (r+1) (bT K r (cz j))):=by
  rw [← KO K r (by omega) (r+1) (K r) (fun j=>cz j)]
  refine mC (fun a b _ hb=>?_)
  unfold bT;split
  ·case _ h=>exact (by rw [h]:K a b=K r b).trans (F2 (K r) b hb).symm
  ·rfl
 rw [hrow]
 rw [show anI (r+1) (fun j=>K r j * cn (r+1) (bT K r (cz j)))=anI r (fun j=>K r j * cn (r+1) (bT K r (cz j)))+K r r * cn (r+1) (bT K r (cz r)) from rfl]
 have abQ:cn (r+1) (bT K r (cz r))=cn r K:=by
  rw [SG _ (fun b hb=>by simp [bT,cz];omega)]
  have:bT K r (cz r) r r=1:=by simp [bT,cz]
  rw [this,Int.one_mul]
  exact mC (fun a b ha _=>by unfold bT;rw [if_neg (by omega)])
 have hj:∀ j,j < r→cn (r+1) (bT K r (cz j))=- anI r (fun i=>qm r K j i * K i r):=by
  intro j hj
  have aaz:cn (r+1) (bT K r (cz j))=anI r (fun i=>K i r * cn (r+1) (js (bT K r (cz j)) r (cz i))):=by
   rw [← adp (bT K r (cz j)) r (by omega) r (fun i=>K i r) (fun i=>cz i)]
   refine mC (fun a b ha _=>?_)
   unfold js;split
   ·case _ h =>
    subst h
    by_cases h2:a=b
    ·subst h2
     refine Eq.trans ?_ (lH (f:=fun i=>K i a * cz i a) (fun i hi=>by rw [wE (show a ≠ i by omega)];simp)).symm
     simp [bT,cz];omega
    ·refine Eq.trans ?_ (F2 (fun i => K i b) a (by omega)).symm
     simp [bT,h2]
   ·rfl
  rw [aaz,← AW]
  refine fy (fun i hi=>?_)
  have hs:=adv (js (bT K r (cz j)) r (cz i)) i r (n:=r+1) (by omega) (by omega) (by omega)
  have hx:cn (r+1) (bT (bT (js (bT K r (cz j)) r (cz i)) i (js (bT K r (cz j)) r (cz i) r)) r (js (bT K r (cz j)) r (cz i) i))=qm r K j i:=by
   rw [adq]
   ·unfold qm
    have:bT (bT (js (bT K r (cz j)) r (cz i)) i (js (bT K r (cz j)) r (cz i) r)) r (js (bT K r (cz j)) r (cz i) i) r r=1:=by
     simp [bT,js,cz]
    rw [this,Int.one_mul]
    refine mC (fun a b ha hb=>?_)
    unfold bT js
    have h1:a ≠ r:=by omega
    have h2:b ≠ r:=by omega
    by_cases h3:a=i
    ·subst h3;simp [h1,h2]
    ·simp [h1,h2,h3]
   ·intro a ha
    have h1:a ≠ r:=by omega
    unfold bT js
    by_cases h3:a=i
    ·subst h3;simp [h1,cz];omega
    ·simp [h1,h3,cz]
  rw [hx] at hs
  have:cn (r+1) (js (bT K r (cz j)) r (cz i))=- qm r K j i:=by omega
  rw [this];grind
 rw [abQ]
 have e2:anI r (fun j=>K r j * cn (r+1) (bT K r (cz j)))=- anI r (fun j=>anI r (fun i=>K r j * qm r K j i * K i r)):=by
  rw [← AW]
  refine fy (fun j C8=>?_)
  rw [hj j C8,Int.mul_neg,← jE]
  congr 1
  exact fy (fun i _=>by grind)
 rw [e2];omega
theorem adC {n:Nat} {f g:Nat→Int} {p:Int} (h:∀ i,i < n→p ∣ f i - g i):p ∣ anI n f - anI n g:=by
 rw [← KU]
 induction n with
 | zero=>exact ⟨0,by simp [anI]⟩
 | succ n ih=>simp only [anI];exact Int.dvd_add (ih (fun i hi=>h i (by omega))) (h n (by omega))
theorem adx {a b c d p:Int} (h1:p ∣ a - b) (h2:p ∣ c - d):p ∣ a * c - b * d:=by
 obtain ⟨x,hx⟩:=h1
 obtain ⟨y,hy⟩:=h2
 exact ⟨x * c+b * y,by grind⟩
def fO (n:Nat) (c:Nat→Int) (u:Int):Int:=anI (n+1) (fun k=>c k * u ^ k)
def j4 (c : Nat → Int) : Nat → Int
 | 0=>0
 | k+1=>c k
theorem KR (n:Nat) (c:Nat→Int) (u:Int):fO (n+1) c u=c 0+u * fO n (fun k=>c (k+1)) u:=by
 unfold fO
 rw [F4,← jE]
 congr 1
 ·simp
 ·exact fy (fun i _=>by rw [Int.pow_succ];grind)
theorem AR (n:Nat) (c:Nat→Int) (u:Int):fO (n+1) (j4 c) u=u * fO n c u:=by
 rw [KR];show 0+u * fO n c u=_;omega
theorem yC {n m:Nat} (c:Nat→Int) (u:Int) (h:n≤m) (hz:∀ k,n < k→c k=0):fO m c u=fO n c u:=by
 unfold fO
 exact KT (by omega) (fun i hi _=>by rw [hz i (by omega)];simp)
theorem DH (n:Nat) (c d:Nat→Int) (u:Int):fO n (fun k=>c k+d k) u=fO n c u+fO n d u:=by
 unfold fO;rw [← qK];exact fy (fun i _=>by grind)
theorem adz (n:Nat) (c d:Nat→Int) (u:Int):fO n (fun k=>c k - d k) u=fO n c u - fO n d u:=by
 unfold fO;rw [← KU];exact fy (fun i _=>by grind)
theorem DI (n:Nat) (x:Int) (c:Nat→Int) (u:Int):fO n (fun k=>x * c k) u=x * fO n c u:=by
 unfold fO;rw [← jE];exact fy (fun i _=>by grind)
theorem AQ (n m:Nat) (x:Nat→Int) (c:Nat→Nat→Int) (u:Int):fO n (fun k=>anI m (fun i=>x i * c i k)) u=anI m (fun i=>x i * fO n (c i) u):=by
 induction m with
 | zero=>simp only [anI];unfold fO;exact lH (fun _ _=>by simp)
 | succ m ih=>simp only [anI];rw [DH,ih,DI]
theorem adA {n:Nat}:∀ {c:Nat→Int},(∀ u:Int,1≤u→fO n c u=0)→∀ k,k≤n→c k=0:=by
 induction n with
 | zero =>
  intro c h k hk
  obtain rfl:k=0:=by omega
  have:=h 1 (by omega);simpa [fO,anI] using this
 | succ n ih =>
  intro c h k hk
  have h0:c 0=0:=by
   have h1:=h ((c 0).natAbs+1) (by omega)
   rw [KR] at h1
   have hd:((c 0).natAbs+1:Int) ∣ c 0:=⟨- fO n (fun k=>c (k+1)) ((c 0).natAbs+1),by rw [Int.mul_neg];omega⟩
   by_cases hc:c 0=0
   ·exact hc
   ·exfalso
    have:=Int.natAbs_dvd_natAbs.mpr hd
    have:=Nat.le_of_dvd (by omega) this
    omega
  cases k with
  | zero=>exact h0
  | succ k =>
   refine ih (c:=fun k=>c (k+1)) (fun u hu=>?_) k (by omega)
   have:=h u hu
   rw [KR,h0,Int.zero_add] at this
   rcases Int.mul_eq_zero.mp this with h'|h'
   ·omega
   ·exact h'
theorem F1 {n:Nat} {c d:Nat→Int} (h:∀ u:Int,1≤u→fO n c u=fO n d u) (k:Nat) (hk:k≤n):c k=d k:=by
 have:=adA (c:=fun k=>c k - d k) (n:=n) (fun u hu=>by rw [adz,h u hu];omega) k hk
 omega
def fE : Nat → (Nat → Nat → Int) → (Nat → Nat → Int) → Nat → Int
 | 0,_,_=>fun k=>if k=0 then 1 else 0
 | n+1,P,Q=>fun k=>anI (n+1) (fun i=>jT i * (P i 0 * fE n (fun a b=>P (bX i a) (b+1)) (fun a b=>Q (bX i a) (b+1)) k+Q i 0 * j4 (fE n (fun a b=>P (bX i a) (b+1)) (fun a b=>Q (bX i a) (b+1))) k))
theorem KN (n:Nat) (P Q:Nat→Nat→Int) (k:Nat):fE (n+1) P Q k=anI (n+1) (fun i=>jT i * (P i 0 * fE n (fun a b=>P (bX i a) (b+1)) (fun a b=>Q (bX i a) (b+1)) k+Q i 0 * j4 (fE n (fun a b=>P (bX i a) (b+1)) (fun a b=>Q (bX i a) (b+1))) k)):=rfl
theorem tN {n:Nat}:∀ (P Q:Nat→Nat→Int) (k:Nat),n < k→fE n P Q k=0:=by
 induction n with
 | zero=>intro P Q k hk;simp [fE];omega
 | succ n ih =>
  intro P Q k hk
  rw [KN]
  refine lH (fun i hi=>?_)
  rw [ih _ _ k (by omega)]
  obtain ⟨l,rfl⟩:∃ l,k=l+1:=⟨k - 1,by omega⟩
  show jT i * (P i 0 * 0+Q i 0 * fE n _ _ l)=0
  rw [ih _ _ l (by omega)];simp
theorem wD {n:Nat}:∀ (P Q:Nat→Nat→Int) (u:Int),cn n (fun a b=>P a b+u * Q a b)=fO n (fE n P Q) u:=by
 induction n with
 | zero=>intro P Q u;simp [cn,fO,anI,fE]
 | succ n ih =>
  intro P Q u
  rw [qo]
  have e:fO (n+1) (fE (n+1) P Q) u=anI (n+1) (fun i=>jT i * fO (n+1) (fun k=>P i 0 * fE n (fun a b=>P (bX i a) (b+1)) (fun a b=>Q (bX i a) (b+1)) k+Q i 0 * j4 (fE n (fun a b=>P (bX i a) (b+1)) (fun a b=>Q (bX i a) (b+1))) k) u):=by
   rw [← AQ];rfl
  rw [e]
  refine fy (fun i hi=>?_)
  rw [ih,DH,DI,DI,AR,yC _ _ (Nat.le_succ n) (fun k hk=>tN _ _ k hk)]
  grind
def gA : Nat → (Nat → Int) → Int
 | 0,_=>1
 | n+1,f=>gA n f * f n
theorem SI {n:Nat} {f g:Nat→Int} (h:∀ i,i < n→f i=g i):gA n f=gA n g:=by
 induction n with
 | zero=>rfl
 | succ n ih=>simp only [gA];rw [ih (fun i hi=>h i (by omega)),h n (by omega)]
theorem ady {n:Nat} {f:Nat→Int} (h:∀ i,i < n→0≤f i):0≤gA n f:=by
 induction n with
 | zero=>simp [gA]
 | succ n ih=>simp only [gA];exact Int.mul_nonneg (ih (fun i hi=>h i (by omega))) (h n (by omega))
theorem SJ {n:Nat} {f g:Nat→Int} (h0:∀ i,i < n→0≤f i) (h:∀ i,i < n→f i≤g i):gA n f≤gA n g:=by
 induction n with
 | zero=>simp [gA]
 | succ n ih =>
  simp only [gA]
  exact Int.mul_le_mul (ih (fun i hi=>h0 i (by omega)) (fun i hi=>h i (by omega))) (h n (by omega)) (h0 n (by omega)) (ady (fun i hi=>Int.le_trans (h0 i (by omega)) (h i (by omega))))
theorem AV {n:Nat} {f g:Nat→Int} (h:∀ i,i < n→f i≤g i):anI n f≤anI n g:=by
 induction n with
 | zero=>simp [anI]
 | succ n ih=>simp only [anI];have:=ih (fun i hi=>h i (by omega));have:=h n (by omega);omega
theorem SM {n:Nat} {f:Nat→Int} (h:∀ i,i < n→0≤f i):0≤anI n f:=by
 have:=AV (f:=fun _=>0) h
 rwa [lH (fun _ _=>rfl)] at this
theorem adG {n : Nat} (w R : Nat → Int) (hw : ∀ i, i < n → 0 ≤ w i) (hR : ∀ i, i < n → 0 ≤ R i) :
  anI n (fun i=>w i * gA (n-1) (fun a=>R (bX i a)))≤gA n (fun a=>w a+R a):=by
 induction n with
 | zero=>simp [anI,gA]
 | succ n ih =>
  have ih:=ih (fun i hi=>hw i (by omega)) (fun i hi=>hR i (by omega))
  show anI n (fun i=>w i * gA (n+1-1) (fun a=>R (bX i a)))+w n * gA (n+1-1) (fun a=>R (bX n a))≤gA n (fun a=>w a+R a) * (w n+R n)
  have e1:anI n (fun i=>w i * gA (n+1-1) (fun a=>R (bX i a)))=R n * anI n (fun i=>w i * gA (n-1) (fun a=>R (bX i a))):=by
   rw [← jE]
   refine fy (fun i hi=>?_)
   obtain ⟨m,rfl⟩:∃ m,n=m+1:=⟨n - 1,by omega⟩
   show w i * (gA m _ * R (bX i m))=_
   have:bX i m=m+1:=by unfold bX;split<;>omega
   rw [this]
   show _=R (m+1) * (w i * gA m _)
   grind
  have e2:gA (n+1-1) (fun a=>R (bX n a))=gA n R:=SI (fun a ha=>by
   have:bX n a=a:=by unfold bX;split<;>omega
   rw [this])
  rw [e1,e2]
  have h1:R n * anI n (fun i=>w i * gA (n-1) (fun a=>R (bX i a)))≤R n * gA n (fun a=>w a+R a):=Int.mul_le_mul_of_nonneg_left ih (hR n (by omega))
  have h2:w n * gA n R≤w n * gA n (fun a=>w a+R a):=Int.mul_le_mul_of_nonneg_left (SJ (fun i hi=>hR i (by omega)) (fun i hi=>by have:=hw i (by omega);omega)) (hw n (by omega))
  have h3:gA n (fun a=>w a+R a) * (w n+R n)=w n * gA n (fun a=>w a+R a)+R n * gA n (fun a=>w a+R a):=by grind
  omega
def ek (x:Int):Int:=(x.natAbs:Int)
theorem uT (x:Int):0≤ek x:=by unfold ek;omega
theorem KL (x y:Int):ek (x * y)=ek x * ek y:=by unfold ek;rw [Int.natAbs_mul];simp
theorem Sz (x y:Int):ek (x+y)≤ek x+ek y:=by unfold ek;omega
theorem ade (i:Nat):ek (jT i)=1:=by unfold jT;split<;>rfl
theorem adg:ek 0=0:=rfl
theorem adf (n:Nat) (f:Nat→Int):ek (anI n f)≤anI n (fun i=>ek (f i)):=by
 induction n with
 | zero=>simp [anI,ek]
 | succ n ih=>simp only [anI];have:=Sz (anI n f) (f n);omega
theorem adj {n:Nat}:∀ (P Q:Nat→Nat→Int),anI (n+1) (fun k=>ek (fE n P Q k))≤gA n (fun a=>anI n (fun b=>ek (P a b)+ek (Q a b))):=by
 induction n with
 | zero=>intro P Q;simp [anI,gA,fE,ek]
 | succ n ih =>
  intro P Q
  have key:∀ i,i < n+1→anI (n+1+1) (fun k=>ek (jT i * (P i 0 * fE n (fun a b=>P (bX i a) (b+1)) (fun a b=>Q (bX i a) (b+1)) k+Q i 0 * j4 (fE n (fun a b=>P (bX i a) (b+1)) (fun a b=>Q (bX i a) (b+1))) k)))≤(ek (P i 0)+ek (Q i 0)) * gA n (fun a=>anI n (fun b=>ek (P (bX i a) (b+1))+ek (Q (bX i a) (b+1)))):=by
   intro i hi
   have JW:=ih (fun a b=>P (bX i a) (b+1)) (fun a b=>Q (bX i a) (b+1))
   have htop:=tN (n:=n) (fun a b=>P (bX i a) (b+1)) (fun a b=>Q (bX i a) (b+1))
   generalize fE n (fun a b=>P (bX i a) (b+1)) (fun a b=>Q (bX i a) (b+1))=d at JW htop ⊢
   have h1:anI (n+1+1) (fun k=>ek (d k))=anI (n+1) (fun k=>ek (d k)):=KT (by omega) (fun k hk _=>by rw [htop k (by omega)];rfl)
   have h2:anI (n+1+1) (fun k=>ek (j4 d k))=anI (n+1) (fun k=>ek (d k)):=by
    rw [F4];simp [j4,adg]
   have h3:anI (n+1+1) (fun k=>ek (jT i * (P i 0 * d k+Q i 0 * j4 d k)))≤anI (n+1+1) (fun k=>ek (P i 0) * ek (d k)+ek (Q i 0) * ek (j4 d k)):=by
    refine AV (fun k _=>?_)
    rw [KL,ade,Int.one_mul,← KL,← KL]
    exact Sz _ _
   rw [qK,jE,jE,h1,h2] at h3
   have h4:=Int.mul_le_mul_of_nonneg_left JW (uT (P i 0))
   have h5:=Int.mul_le_mul_of_nonneg_left JW (uT (Q i 0))
   have h6:=Int.add_mul (ek (P i 0)) (ek (Q i 0)) (gA n (fun a=>anI n (fun b=>ek (P (bX i a) (b+1))+ek (Q (bX i a) (b+1)))))
   omega
  have h1:anI (n+1+1) (fun k=>ek (fE (n+1) P Q k))≤anI (n+1+1) (fun k=>anI (n+1) (fun i=>ek (jT i * (P i 0 * fE n (fun a b=>P (bX i a) (b+1)) (fun a b=>Q (bX i a) (b+1)) k+Q i 0 * j4 (fE n (fun a b=>P (bX i a) (b+1)) (fun a b=>Q (bX i a) (b+1))) k)))) :=
   AV (fun k _=>adf _ _)
  rw [DJ] at h1
  refine Int.le_trans h1 (Int.le_trans (AV key) ?_)
  have h2:=adG (n:=n+1) (fun i=>ek (P i 0)+ek (Q i 0)) (fun a=>anI n (fun b=>ek (P a (b+1))+ek (Q a (b+1)))) (fun i _=>by have:=uT (P i 0);have:=uT (Q i 0);omega) (fun i _=>SM (fun b _=>by have:=uT (P i (b+1));have:=uT (Q i (b+1));omega))
  refine Int.le_trans h2 (Int.le_of_eq (SI (fun a _=>?_)))
  rw [F4]
theorem adb {n:Nat} (f:Nat→Int) (k:Nat) (hk:k < n):ek (f k)≤anI n (fun i=>ek (f i)):=by
 have h:=AV (n:=n) (f:=fun i=>if i=k then ek (f k) else 0) (g:=fun i=>ek (f i)) (fun i _=>by
  by_cases e:i=k
  ·simp [e]
  ·simp [e,uT])
 rw [wF k hk (fun i _ hne=>by simp [hne])] at h
 simpa using h
theorem adD (n i:Nat) (hi:i < n+1) (f:Nat→Int):anI (n+1) f=f i+anI n (fun t=>f (bX i t)):=by
 induction n with
 | zero =>
      obtain rfl:i=0:=by omega
      simp [anI]
 | succ n ih =>
  by_cases h:i=n+1
  ·subst h
   have:anI (n+1) (fun t=>f (bX (n+1) t))=anI (n+1) f:=fy (fun t ht=>by
    have:bX (n+1) t=t:=by unfold bX;split<;>omega
    rw [this])
   rw [this];show anI (n+1) f+f (n+1)=_;omega
  ·show anI (n+1) f + f (n+1) = f i + (anI n (fun t => f (bX i t)) + f (bX i n))
   rw [ih (by omega)]
   have:bX i n=n+1:=by unfold bX;split<;>omega
   rw [this];omega
theorem adI (i t:Nat):yD i (bX i t)=t:=by
 unfold yD bX;by_cases h1:t < i
 ·simp [h1]
 ·rw [if_neg h1,if_neg (by omega)];omega
def lU:Nat→Int:=fun _=>0
theorem adk {n:Nat}:∀ (P Q:Nat→Nat→Int) (k:Nat),(k:Int) * fE n P Q k=anI n (fun t=>fE n (bT P t lU) Q k):=by
 induction n with
 | zero=>intro P Q k;simp only [fE,anI];split<;>simp_all
 | succ n ih =>
  intro P Q k
  have e:anI (n+1) (fun t=>fE (n+1) (bT P t lU) Q k)=anI (n+1) (fun i=>anI (n+1) (fun t=>jT i * ((bT P t lU) i 0 * fE n (fun a b=>(bT P t lU) (bX i a) (b+1)) (fun a b=>Q (bX i a) (b+1)) k+Q i 0 * j4 (fE n (fun a b=>(bT P t lU) (bX i a) (b+1)) (fun a b=>Q (bX i a) (b+1))) k))):=by
   rw [DJ];exact fy (fun t _=>by rw [KN])
  rw [e,KN,← jE]
  refine fy (fun i hi=>?_)
  rw [adD n i hi]
  have e1:(bT P i lU) i 0=0:=by simp [bT,lU]
  rw [e1,F0]
  have e2:anI n (fun t=>jT i * ((bT P (bX i t) lU) i 0 * fE n (fun a b=>(bT P (bX i t) lU) (bX i a) (b+1)) (fun a b=>Q (bX i a) (b+1)) k+Q i 0 * j4 (fE n (fun a b=>(bT P (bX i t) lU) (bX i a) (b+1)) (fun a b=>Q (bX i a) (b+1))) k))=anI n (fun t=>jT i * (P i 0 * fE n (bT (fun a b=>P (bX i a) (b+1)) t lU) (fun a b=>Q (bX i a) (b+1)) k+Q i 0 * j4 (fE n (bT (fun a b=>P (bX i a) (b+1)) t lU) (fun a b=>Q (bX i a) (b+1))) k)):=by
   refine fy (fun t ht=>?_)
   rw [FZ (KS i t)]
   rw [adI]
   have:bT P (bX i t) lU i 0=P i 0:=by unfold bT;rw [if_neg (Ne.symm (KS i t))]
   rw [this]
   rfl
  rw [e2,jE,qK,jE,jE,← ih]
  generalize (fun a b=>P (bX i a) (b+1))=P' at *
  generalize (fun a b=>Q (bX i a) (b+1))=Q' at *
  cases k with
  | zero =>
   have:anI n (fun t=>j4 (fE n (bT P' t lU) Q') 0)=0:=lH (fun _ _=>rfl)
   rw [this]
   simp [j4]
  | succ k =>
   have:anI n (fun t=>j4 (fE n (bT P' t lU) Q') (k+1))=(k:Int) * fE n P' Q' k:=by
    rw [ih];rfl
   rw [this]
   show _=jT i * (0 * _+Q i 0 * fE n P' Q' k)+_
   show ((k+1:Nat):Int) * (jT i * (P i 0 * fE n P' Q' (k+1)+Q i 0 * fE n P' Q' k))=_
   push_cast
   grind
def k9 (n:Nat) (P Q:Nat→Nat→Int) (j i k:Nat):Int:=fE n (bT P i (cz j)) (bT Q i lU) k
theorem KM (n:Nat) (P Q:Nat→Nat→Int) (u:Int) (j i:Nat):qm n (fun a b=>P a b+u * Q a b) j i=fO n (k9 n P Q j i) u:=by
 unfold qm k9
 show _=fO n (fE n (bT P i (cz j)) (bT Q i lU)) u
 rw [← wD]
 refine mC (fun a b _ _=>?_)
 unfold bT lU;split<;>simp
theorem adl (n:Nat) (P Q:Nat→Nat→Int) (k:Nat) (hk:k≤n):((k+1:Nat):Int) * fE n P Q (k+1)=anI n (fun i=>anI n (fun j=>Q i j * k9 n P Q j i k)):=by
 rw [adk]
 refine fy (fun i hi=>?_)
 have h:∀ u:Int,fO (n+1) (fE n (bT P i lU) Q) u=fO (n+1) (j4 (fun k=>anI n (fun j=>Q i j * k9 n P Q j i k))) u:=by
  intro u
  rw [AR,yC _ _ (Nat.le_succ n) (fun k hk=>tN _ _ k hk),← wD,AQ]
  have e1:cn n (fun a b=>bT P i lU a b+u * Q a b)=cn n (bT (fun a b=>P a b+u * Q a b) i (fun b=>u * Q i b)):=by
   refine mC (fun a b _ _=>?_)
   unfold bT lU;split
   ·case _ h=>simp [h]
   ·rfl
  rw [e1,SH _ _ hi]
  congr 1
  have e2:cn n (bT (fun a b=>P a b+u * Q a b) i (Q i))=cn n (bT (fun a b=>P a b+u * Q a b) i (fun b=>anI n (fun j=>Q i j * cz j b))):=by
   refine mC (fun a b _ hb=>?_)
   unfold bT;split
   ·exact (F2 (Q i) b hb).symm
   ·rfl
  rw [e2,KO _ i hi]
  refine fy (fun j _=>?_)
  rw [← KM];rfl
 have:=F1 (fun u _=>h u) (k+1) (by omega)
 rw [this];rfl
theorem SB (n : Nat) (P Q : Nat → Nat → Int) (k i : Nat) (hk : k < n) (hi : i < n) (m : Nat) (hm : m ≤ n + 1) :
  anI n (fun j=>P k j * k9 n P Q j i m)+j4 (fun m=>anI n (fun j=>Q k j * k9 n P Q j i m)) m=if k=i then fE n P Q m else 0:=by
 have h:∀ u:Int,fO (n+1) (fun m=>anI n (fun j=>P k j * k9 n P Q j i m)+j4 (fun m=>anI n (fun j=>Q k j * k9 n P Q j i m)) m) u=fO (n+1) (fun m=>if k=i then fE n P Q m else 0) u:=by
  intro u
  rw [DH,AR,AQ,AQ,← jE,← qK]
  have h1:=adh (fun a b=>P a b+u * Q a b) k i hi hk
  have h2:anI n (fun j=>(P k j+u * Q k j) * qm n (fun a b=>P a b+u * Q a b) j i)=anI n (fun j=>P k j * fO (n+1) (k9 n P Q j i) u+u * (Q k j * fO n (k9 n P Q j i) u)):=by
   refine fy (fun j _=>?_)
   rw [KM,yC (n:=n) (m:=n+1) (k9 n P Q j i) u (Nat.le_succ n) (fun k hk=>tN _ _ k hk)]
   grind
  rw [← h2,h1]
  by_cases e:k=i
  ·simp only [if_pos e]
   rw [wD,yC (n:=n) (m:=n+1) _ _ (Nat.le_succ n) (fun k hk=>tN _ _ k hk)]
  ·simp only [if_neg e]
   unfold fO;rw [lH (fun _ _=>by simp)]
 exact F1 (fun u _=>h u) m hm
def iX (A:Nat→Nat→Int):Nat→Nat→Int:=fun a b=>- A a b
def cF (n:Nat) (A:Nat→Nat→Int):Nat→Int:=fE n (fun a b=>cz a b) (iX A)
def mW (n : Nat) (A : Nat → Nat → Int) (c : Nat → Int) : Nat → Nat → Nat → Int
 | 0=>fun _ _=>0
 | m+1=>fun k i=>anI n (fun j=>A k j * mW n A c m j i)+(if k=i then c m else 0)
theorem SA (n:Nat) (A:Nat→Nat→Int) (m:Nat):m≤n→∀ k i,k < n→i < n→k9 n (fun a b=>cz a b) (iX A) k i m=mW n A (cF n A) (m+1) k i:=by
 induction m with
 | zero =>
  intro _ k i hk hi
  have h:=SB n (fun a b=>cz a b) (iX A) k i hk hi 0 (by omega)
  have e:anI n (fun j=>cz k j * k9 n (fun a b=>cz a b) (iX A) j i 0)=k9 n (fun a b=>cz a b) (iX A) k i 0:=by
   rw [← F3 (fun j=>k9 n (fun a b=>cz a b) (iX A) j i 0) k hk];exact fy (fun j _=>by grind)
  rw [e] at h
  simp only [mW,j4] at h ⊢
  rw [lH (fun _ _=>by simp)]
  unfold cF;omega
 | succ m ih =>
  intro hm k i hk hi
  have h:=SB n (fun a b=>cz a b) (iX A) k i hk hi (m+1) (by omega)
  have e:anI n (fun j=>cz k j * k9 n (fun a b=>cz a b) (iX A) j i (m+1))=k9 n (fun a b=>cz a b) (iX A) k i (m+1):=by
   rw [← F3 (fun j=>k9 n (fun a b=>cz a b) (iX A) j i (m+1)) k hk];exact fy (fun j _=>by grind)
  rw [e] at h
  have e2:j4 (fun m=>anI n (fun j=>iX A k j * k9 n (fun a b=>cz a b) (iX A) j i m)) (m+1)=- anI n (fun j=>A k j * mW n A (cF n A) (m+1) j i):=by
   show anI n (fun j=>iX A k j * k9 n (fun a b=>cz a b) (iX A) j i m)=_
   rw [← AW]
   refine fy (fun j hj=>?_)
   rw [ih (by omega) j i hj hi];unfold iX;grind
  rw [e2] at h
  show _=anI n (fun j=>A k j * mW n A (cF n A) (m+1) j i)+(if k=i then cF n A (m+1) else 0)
  unfold cF at *;omega
theorem FW (n:Nat) (A:Nat→Nat→Int):cF n A 0=1:=by
 have h:=wD (n:=n) (fun a b=>cz a b) (iX A) 0
 have e:cn n (fun a b=>cz a b+0 * iX A a b)=cn n (fun a b=>cz a b):=mC (fun a b _ _=>by simp)
 rw [e,adr] at h
 unfold fO at h
 rw [F4,lH (fun i _=>by rw [Int.pow_succ];simp)] at h
 unfold cF;simpa using h.symm
theorem SC (n:Nat) (A:Nat→Nat→Int) (m:Nat) (hm:m < n):((m+1:Nat):Int) * cF n A (m+1)=- anI n (fun i=>anI n (fun j=>A i j * mW n A (cF n A) (m+1) j i)):=by
 have h:=adl n (fun a b=>cz a b) (iX A) m (by omega)
 rw [show fE n (fun a b=>cz a b) (iX A) (m+1)=cF n A (m+1) from rfl] at h
 rw [h,← AW]
 refine fy (fun i hi=>?_)
 rw [← AW]
 refine fy (fun j hj=>?_)
 rw [SA n A m (by omega) j i hj hi,show iX A i j=- A i j from rfl];grind
def oK (r : Nat) (A : Nat → Nat → Int) (C : Nat → Int) : Nat → Nat → Int
 | 0=>C
 | k+1=>fun i=>anI r (fun j=>A i j * oK r A C k j)
theorem adw (r:Nat) (A:Nat→Nat→Int) (c C:Nat→Int) (m:Nat):∀ i,i < r→anI r (fun j=>mW r A c (m+1) i j * C j)=anI (m+1) (fun l=>c l * oK r A C (m-l) i):=by
 induction m with
 | zero =>
  intro i hi
  simp only [mW,anI,oK,Nat.sub_zero,Int.zero_add]
  rw [fy (g:=fun j=>(c 0 * C j) * cz i j) (fun j _=>by
   rw [lH (fun _ _=>by simp)];unfold cz;by_cases h:i=j
   ·simp [h]
   ·simp [h,Ne.symm h])]
  rw [F3 (fun j=>c 0 * C j) i hi]
 | succ m ih =>
  intro i hi
  have e1:anI r (fun j=>mW r A c (m+1+1) i j * C j)=anI r (fun j=>anI r (fun l=>A i l * mW r A c (m+1) l j) * C j)+c (m+1) * C i:=by
   rw [← F3 (fun j=>c (m+1) * C j) i hi,← qK]
   refine fy (fun j _=>?_)
   show (anI r (fun l=>A i l * mW r A c (m+1) l j)+(if i=j then c (m+1) else 0)) * C j=_
   unfold cz;by_cases h:i=j
   ·simp only [if_pos h,if_pos h.symm];grind
   ·simp only [if_neg h,if_neg (Ne.symm h)];grind
  have e2:anI r (fun j=>anI r (fun l=>A i l * mW r A c (m+1) l j) * C j)=anI r (fun l=>A i l * anI r (fun j=>mW r A c (m+1) l j * C j)):=by
   rw [fy (g:=fun j=>anI r (fun l=>A i l * (mW r A c (m+1) l j * C j))) (fun j _=>by
    rw [Int.mul_comm,← jE];exact fy (fun l _=>by grind))]
   rw [DJ]
   exact fy (fun l _=>by rw [jE])
  rw [e1,e2]
  rw [fy (g:=fun l=>A i l * anI (m+1) (fun t=>c t * oK r A C (m-t) l)) (fun l hl=>by rw [ih l hl])]
  show _=anI (m+1) (fun l=>c l * oK r A C (m+1-l) i)+c (m+1) * oK r A C (m+1-(m+1)) i
  rw [Nat.sub_self]
  have e3:anI r (fun l=>A i l * anI (m+1) (fun t=>c t * oK r A C (m-t) l))=anI (m+1) (fun l=>c l * oK r A C (m+1-l) i):=by
   rw [fy (g:=fun l=>anI (m+1) (fun t=>c t * (A i l * oK r A C (m-t) l))) (fun l _=>by
    rw [← jE];exact fy (fun t _=>by grind))]
   rw [DJ]
   refine fy (fun t ht=>?_)
   rw [jE]
   have:m+1 - t=(m - t)+1:=by omega
   rw [this];rfl
  rw [e3];rfl
def qL (r : Nat) (A : Nat → Nat → Int) : Nat → Int
 | 0=>1
 | 1=>- A r r
 | k+2=>- anI r (fun i=>A r i * oK r A (fun i=>A i r) k i)
theorem adi (r:Nat) (A:Nat→Nat→Int) (m:Nat) (hm:m≤r+1):cF (r+1) A m=anI (m+1) (fun l=>qL r A (m-l) * cF r A l):=by
 have h:∀ u:Int,fO (r+2) (cF (r+1) A) u=fO (r+2) (fun m=>cF r A m+(- A r r) * j4 (cF r A) m+(-1) * j4 (j4 (fun k=>anI r (fun j=>A r j * anI r (fun i=>A i r * k9 r (fun a b=>cz a b) (iX A) j i k)))) m) u:=by
  intro u
  rw [DH,DH,DI,DI,AR,AR,AR]
  rw [yC (n:=r+1) (m:=r+2) (cF (r+1) A) u (by omega) (fun k hk=>tN _ _ k hk)]
  rw [yC (n:=r) (m:=r+2) (cF r A) u (by omega) (fun k hk=>tN _ _ k hk)]
  rw [yC (n:=r) (m:=r+1) (cF r A) u (by omega) (fun k hk=>tN _ _ k hk)]
  rw [AQ]
  rw [fy (g:=fun j=>A r j * anI r (fun i=>A i r * qm r (fun a b=>cz a b+u * iX A a b) j i)) (fun j _=>by
   rw [AQ];congr 1;exact fy (fun i _=>by rw [KM]))]
  unfold cF
  rw [← wD,← wD,adn]
  have e:anI r (fun j=>anI r (fun i=>(cz r j+u * iX A r j) * qm r (fun a b=>cz a b+u * iX A a b) j i * (cz i r+u * iX A i r)))=u * (u * anI r (fun j=>A r j * anI r (fun i=>A i r * qm r (fun a b=>cz a b+u * iX A a b) j i))):=by
   rw [← jE,← jE]
   refine fy (fun j hj=>?_)
   rw [← jE,← jE,← jE]
   refine fy (fun i hi=>?_)
   rw [wE (show j ≠ r by omega),wE (show r ≠ i by omega)]
   unfold iX;grind
  rw [e,DG]
  unfold iX
  grind
 rw [F1 (fun u _=>h u) m (by omega)]
 cases m with
 | zero=>simp [j4,anI,qL]
 | succ m =>
  cases m with
  | zero=>simp [j4,anI,qL];omega
  | succ m =>
   show cF r A (m+2)+(- A r r) * cF r A (m+1)+(-1) * anI r (fun j=>A r j * anI r (fun i=>A i r * k9 r (fun a b=>cz a b) (iX A) j i m))=anI (m+1) (fun l=>qL r A (m+2-l) * cF r A l)+qL r A (m+2-(m+1)) * cF r A (m+1)+qL r A (m+2-(m+2)) * cF r A (m+2)
   have e1:m+2 - (m+1)=1:=by omega
   have e2:m+2 - (m+2)=0:=by omega
   rw [e1,e2]
   have e3:anI r (fun j=>A r j * anI r (fun i=>A i r * k9 r (fun a b=>cz a b) (iX A) j i m))=- anI (m+1) (fun l=>qL r A (m+2-l) * cF r A l):=by
    rw [fy (g:=fun j=>A r j * anI (m+1) (fun l=>cF r A l * oK r A (fun i=>A i r) (m-l) j)) (fun j hj=>by
     rw [← adw r A (cF r A) (fun i=>A i r) m j hj]
     congr 1
     exact fy (fun i hi=>by rw [SA r A m (by omega) j i hj hi];grind))]
    rw [fy (g:=fun j=>anI (m+1) (fun l=>cF r A l * (A r j * oK r A (fun i=>A i r) (m-l) j))) (fun j _=>by
     rw [← jE];exact fy (fun l _=>by grind))]
    rw [DJ,← AW]
    refine fy (fun l hl=>?_)
    rw [jE]
    have:m+2 - l=(m - l)+2:=by omega
    rw [this]
    show _=-(- anI r (fun i=>A r i * oK r A (fun i=>A i r) (m-l) i) * cF r A l)
    grind
   rw [e3]
   show cF r A (m+2)+(- A r r) * cF r A (m+1)+(-1) * _=_+(- A r r) * cF r A (m+1)+1 * cF r A (m+2)
   grind
def F5 (u:Int) (H:Nat→Nat→Int):Nat→Nat→Int:=fun a b=>cz a b - u * H a b
theorem Tv (e:Nat):Int.tdiv (e:Int) 2=((e / 2:Nat):Int):=rfl
theorem ae7 (e:Nat):Int.tmod (e:Int) 2=((e % 2:Nat):Int):=rfl
/-- Where the directed edge e begins, and where it ends. -/
def nB (l:List (List Int)) (e:Nat):Int:=rd (ai l ((e / 2:Nat):Int)) ((e % 2:Nat):Int)
def nD (l:List (List Int)) (e:Nat):Int:=rd (ai l ((e / 2:Nat):Int)) ((1 - e % 2:Nat):Int)
def two (l:List (List Int)):Prop:=∀ x ∈ l,x.length=2
theorem Su {a:Int} {l:List (List Int)} (h:gU a l=true):two l:=by
 intro x hx
 simp only [gU,Bool.and_eq_true,List.all_eq_true] at h
 have:=h.2.2.2 x hx
 simp only [aoC,Bool.and_eq_true,decide_eq_true_eq] at this
 exact this.1
theorem yz {a:Int} {l:List (List Int)} (h:gU a l=true):l.length≤10:=by
 simp only [gU,Bool.and_eq_true,decide_eq_true_eq] at h
 exact h.2.2.1
theorem St {a:Int} {l:List (List Int)} (h:gU a l=true):1≤a∧a≤8:=by
 simp only [gU,Bool.and_eq_true,decide_eq_true_eq] at h
 exact ⟨h.1,h.2.1⟩
theorem acS {a:Int} {l:List (List Int)} (h:gU a l=true) {x:List Int} (hx:x ∈ l):(0≤rd x 0∧rd x 0≤a - 1)∧(0≤rd x 1∧rd x 1≤a - 1):=by
 have hs:=St h
 simp only [gU,Bool.and_eq_true,List.all_eq_true] at h
 have:=h.2.2.2 x hx
 simp only [aoC,Au,Bool.and_eq_true,decide_eq_true_eq] at this
 rw [nc (by omega) (by omega)] at this
 exact this.2
theorem afd {l:List (List Int)} (h2:two l) (e:Nat) (he:e < 2 * l.length):(ai l ((e / 2:Nat):Int)).length=2:=by
 have hi:e / 2 < l.length:=by omega
 rw [kL l (e / 2) hi]
 exact h2 _ (List.getElem_mem hi)
theorem ac0 (a:Int) (l:List (List Int)) (hl:l.length≤1048576) (h2:two l) (e:Nat) (he:e < 2 * l.length):zF.f a l e=some (nB l e,nD l e):=by
 have hx:=afd h2 e he
 unfold zF.f
 rw [Tv,ae7,nc (by omega) (by omega),if_pos (by omega),if_pos (by omega),hx]
 unfold nB nD
 rcases Nat.mod_two_eq_zero_or_one e with h|h
 ·rw [h];rfl
 ·rw [h];rfl
/-- The other direction of e's edge. -/
def opp (e:Nat):Nat:=if e % 2=0 then e+1 else e - 1
/-- May f come behind e. -/
def next (l:List (List Int)) (e f:Nat):Bool:=decide (nD l e=nB l f) && !decide (f=opp e)
theorem aeS (n:Nat) (hn:n≤1048576):∀ (d i:Nat),n - i=d→i≤n→Ev (fun k=>fo.l0 k n (List.replicate i (List.replicate n 0)) n i) (List.replicate n (List.replicate n 0)):=by
 intro d
 induction d with
 | zero =>
  intro i hd hi
  obtain rfl:i=n:=by omega
  refine Ev.step (fun k=>by simp only [fo.l0];rfl) ?_
  simp only [Int.lt_irrefl,if_false]
  exact Ev.now _
 | succ d ih =>
  intro i hd hi
  refine Ev.step (fun k=>by simp only [fo.l0];rfl) ?_
  simp only [lI i n (by omega),fA n,Int.toNat_natCast,show n≤35184372088832 by omega,List.length_replicate,show i < 5864062014805 by omega,if_true,wI ((i:Int)+1) (by omega)]
  have h:=ih (i+1) (by omega) (by omega)
  rw [List.replicate_succ'] at h
  exact h
theorem LG (n:Nat) (hn:n≤1048576):Ev (fun k=>fo.f k n) (List.replicate n (List.replicate n 0)):=aeS n hn n 0 (by omega) (by omega)
theorem IJ (l:List Int) (h:l.length≤1048576):qZ.f l=some l:=by
 unfold qZ.f
 rw [if_pos (by omega)]
theorem ac1 (l:List Int) (h:l.length≤1048576):mG.f l=some l:=by
 unfold mG.f
 simp only [Option.bind_some,List.length_nil,List.nil_append]
 rw [if_pos (by omega)]
theorem ad4 (a:Int) (l:List (List Int)) (hl:l.length≤1048576) (hx:∀ x ∈ l,x.length≤1048576):∀ (d i:Nat),l.length - i=d→i≤l.length→Ev (fun k=>fT.l0 k l (l.length:Int) i a (l.take i)) (a,l):=by
 intro d
 induction d with
 | zero =>
  intro i hd hi
  obtain rfl:i=l.length:=by omega
  refine Ev.step (fun k=>by simp only [fT.l0];rfl) ?_
  simp only [Int.lt_irrefl,if_false,List.take_length]
  exact Ev.now _
 | succ d ih =>
  intro i hd hi
  have hil:i < l.length:=by omega
  refine Ev.step (fun k=>by simp only [fT.l0];rfl) ?_
  have h:=ih (i+1) (by omega) (by omega)
  rw [List.take_succ_eq_append_getElem hil] at h
  simp only [show ((i:Int) < (l.length:Int)) by omega,fA i,if_true,kL l i hil,IJ _ (hx _ (List.getElem_mem hil)),Option.bind_some,show (l.take i).length < 5864062014805 by (rw [List.length_take];omega),wI ((i:Int)+1) (by omega)]
  exact h
theorem ad3 (a:Int) (l:List (List Int)) (hl:l.length≤1048576) (hx:∀ x ∈ l,x.length≤1048576):Ev (fun k=>fT.f k a l) (a,l):=ad4 a l hl hx l.length 0 (by omega) (by omega)
theorem KF {a:Int} {l:List (List Int)} (h:gU a l=true):l.length≤1048576∧∀ x ∈ l,x.length≤1048576 :=
 ⟨by have:=yz h;omega,fun x hx=>by have:=Su h x hx;omega⟩
/-- The two ends of edge i of a graph, as numbers below n. -/
def endsIn (n:Nat) (l:List (List Int)):Prop:=∀ i,i < l.length→(ai l (i:Int)).length=2∧∃ u v:Nat,rd (ai l (i:Int)) 0=u∧rd (ai l (i:Int)) 1=v∧u < n∧v < n
theorem tM {a:Int} {l:List (List Int)} (h:gU a l=true):∃ n:Nat,a=n∧1≤n∧n≤8∧endsIn n l:=by
 have hs:=St h
 refine ⟨a.toNat,by omega,by omega,by omega,fun i hi=>?_⟩
 have hm:l[i] ∈ l:=List.getElem_mem hi
 rw [kL l i hi]
 have he:=acS h hm
 exact ⟨Su h _ hm,(rd l[i] 0).toNat,(rd l[i] 1).toNat,by omega,by omega,by omega,by omega⟩
theorem aeW {n:Nat} {l:List Int} (hl:l.length=n) (h:∀ x:Nat,x < n→(x:Int) ∈ l):l.Nodup∧∀ y ∈ l,0≤y∧y < n:=by
 have hr:((List.range n).map Int.ofNat).Nodup:=by
  rw [List.Nodup,List.pairwise_map]
  exact List.nodup_range.imp (fun h e=>h (Int.ofNat.inj e))
 have key:∀ y ∈ l,(∀ x:Nat,x < n→(x:Int)=y→(x:Int) ∈ l.erase y)→False:=by
  intro y hy hx
  have hs:((List.range n).map Int.ofNat) ⊆ l.erase y:=by
   intro z hz
   obtain ⟨x,Ki,rfl⟩:=List.mem_map.1 hz
   rw [List.mem_range] at Ki
   by_cases e:(x:Int)=y
   ·exact hx x Ki e
   ·exact (List.mem_erase_of_ne e).2 (h x Ki)
  have h1:=hr.length_le_of_subset hs
  rw [List.length_map,List.length_range,List.length_erase_of_mem hy] at h1
  have:0 < l.length:=List.length_pos_of_mem hy
  omega
 refine ⟨?_,fun y hy=>?_⟩
 ·rw [List.nodup_iff_count]
  intro y
  by_cases hy:y ∈ l
  ·by_cases hc : List.count y l ≤ 1
   ·exact hc
   ·exact (key y hy (fun x hx e=>by
     rw [e]
     have:0 < List.count y (l.erase y):=by rw [List.count_erase_self];omega
     exact List.count_pos_iff.1 this)).elim
  ·rw [List.count_eq_zero_of_not_mem hy];omega
 ·by_cases hb : 0 ≤ y ∧ y < n
  ·exact hb
  ·exact (key y hy (fun x hx e=>by omega)).elim
theorem W4 {n:Nat} {l:List Int} (hl:l.length=n) (hd:l.Nodup) (h:∀ y ∈ l,0≤y∧y < n) (x:Nat) (hx:x < n):(x:Int) ∈ l:=by
 by_cases hm:(x:Int) ∈ l
 ·exact hm
 ·have hs:((x:Int) :: l) ⊆ (List.range n).map Int.ofNat:=by
   intro z hz
   rcases List.mem_cons.1 hz with rfl|hz
   ·exact List.mem_map.2 ⟨x,List.mem_range.2 hx,rfl⟩
   ·have := h z hz
    exact List.mem_map.2 ⟨z.toNat,List.mem_range.2 (by omega),by show ((z.toNat:Nat):Int)=z;omega⟩
  have h1:=(List.nodup_cons.2 ⟨hm,hd⟩).length_le_of_subset hs
  rw [List.length_cons,List.length_map,List.length_range] at h1
  omega
/-- A list of n numbers that has each number less than n. -/
def ql (n:Nat) (l:List Int):Bool:=decide (l.length=n) && (List.range n).all fun x=>decide ((x:Int) ∈ l)
theorem KG (n:Nat) (l:List Int):ql n l=true↔l.length=n∧l.Nodup∧∀ y ∈ l,0≤y∧y < n:=by
 unfold ql
 simp only [Bool.and_eq_true,decide_eq_true_eq,List.all_eq_true,List.mem_range]
 constructor
 ·rintro ⟨h1, h2⟩
  obtain ⟨h3,h4⟩:=aeW h1 h2
  exact ⟨h1,h3,h4⟩
 ·rintro ⟨h1, h2, h3⟩
  exact ⟨h1,fun x hx=>W4 h1 h2 h3 x hx⟩
theorem acN (l:List Int) (hl:l.length≤maxLen) (x:Int):∀ (d i:Nat),l.length - i=d→i≤l.length→∃ r,Ev (fun k=>ju.l0 k l x (l.length:Int) i) r∧(0≤r↔x ∈ l.drop i):=by
 unfold maxLen at hl
 intro d
 induction d with
 | zero =>
  intro i hd hi
  obtain rfl:i=l.length:=by omega
  refine ⟨-1,Ev.step (fun k=>by simp only [ju.l0];rfl) ?_,by simp⟩
  simp only [Int.lt_irrefl,if_false]
  exact Ev.now _
 | succ d ih =>
  intro i hd hi
  have hil:i < l.length:=by omega
  rw [List.drop_eq_getElem_cons hil]
  by_cases hx:x=l[i]
  ·refine ⟨(i : Int), Ev.step (fun k => by simp only [ju.l0]; rfl) ?_, ⟨fun _ => List.mem_cons.2 (.inl hx), fun _ => by omega⟩⟩
   simp only [show ((i:Int) < (l.length:Int)) by omega,fA i,if_true,mD l i hil,hx]
   exact Ev.now _
  ·obtain ⟨r, h1, h2⟩ := ih (i + 1) (by omega) (by omega)
   refine ⟨r,Ev.step (fun k=>by simp only [ju.l0];rfl) ?_,⟨fun h=>List.mem_cons.2 (.inr (h2.1 h)),fun h=>h2.2 ((List.mem_cons.1 h).resolve_left hx)⟩⟩
   simp only [show ((i:Int) < (l.length:Int)) by omega,fA i,if_true,mD l i hil,hx,if_false,wI ((i:Int)+1) (by omega)]
   exact h1
theorem O4 (l:List Int) (hl:l.length≤maxLen) (x:Int):Ev (fun k=>mF.f k l x) (decide (x ∈ l)):=by
 obtain ⟨r,h1,h2⟩:=acN l hl x l.length 0 (by omega) (by omega)
 unfold mF.f
 refine Ev.bind h1 ?_
 rw [List.drop_zero] at h2
 rw [show decide (x ∈ l)=decide (r ≥ 0) from decide_eq_decide.2 h2.symm]
 exact Ev.now _
theorem acV (n:Nat) (hn:n≤1048576) (l:List Int) (hl:l.length≤maxLen):∀ (d i:Nat),n - i=d→i≤n→(∀ x:Nat,x < i→(x:Int) ∈ l)→Ev (fun k=>jq.l0 k l n n i) (ql n l):=by
 intro d
 induction d with
 | zero =>
  intro i hd hi hx
  obtain rfl:i=n:=by omega
  refine Ev.step (fun k=>by simp only [jq.l0];rfl) ?_
  simp only [Int.lt_irrefl,if_false]
  have:ql i l=((l.length:Int) == (i:Int)):=by
   have ha:((List.range i).all fun x=>decide ((x:Int) ∈ l))=true:=by
    simp only [List.all_eq_true,List.mem_range,decide_eq_true_eq]
    exact hx
   unfold ql
   rw [ha,Bool.and_true,Bool.eq_iff_iff]
   simp
   omega
  rw [this]
  exact Ev.now _
 | succ d ih =>
  intro i hd hi hx
  refine Ev.step (fun k=>by simp only [jq.l0];rfl) ?_
  simp only [lI i n (by omega),if_true]
  refine Ev.bind (O4 l hl (i:Int)) ?_
  by_cases hm:(i:Int) ∈ l
  ·simp only [hm, decide_true, if_true, wI ((i : Int) + 1) (by omega)]
   exact ih (i+1) (by omega) (by omega) (fun x So=>by
    by_cases e:x=i
    ·subst e;exact hm
    ·exact hx x (by omega))
  ·simp only [hm, decide_false, Bool.false_eq_true, if_false]
   have:ql n l=false:=by
    rw [Bool.eq_false_iff]
    intro h
    unfold ql at h
    simp only [Bool.and_eq_true,List.all_eq_true,List.mem_range,decide_eq_true_eq] at h
    exact hm (h.2 i (by omega))
   rw [this]
   exact Ev.now _
theorem acU (n:Nat) (hn:n≤1048576) (l:List Int) (hl:l.length≤maxLen):Ev (fun k=>jq.f k l n) (ql n l) :=
 acV n hn l hl n 0 (by omega) (by omega) (fun x h=>by omega)
theorem acZ (a:Int) (l:List (List Int)) (hl:l.length≤1048576) (hx:∀ x ∈ l,x.length≤1048576):∀ (d i:Nat),l.length - i=d→i≤l.length→Ev (fun k=>eO.l0 k i a l a (l.take i)) (a,l):=by
 intro d
 induction d with
 | zero =>
  intro i hd hi
  obtain rfl:i=l.length:=by omega
  refine Ev.step (fun k=>by simp only [eO.l0];rfl) ?_
  simp only [Int.lt_irrefl,if_false,List.take_length]
  exact Ev.now _
 | succ d ih =>
  intro i hd hi
  have hil:i < l.length:=by omega
  refine Ev.step (fun k=>by simp only [eO.l0];rfl) ?_
  have h:=ih (i+1) (by omega) (by omega)
  rw [List.take_succ_eq_append_getElem hil] at h
  simp only [show ((i:Int) < (l.length:Int)) by omega,fA i,if_true,kL l i hil,ac1 _ (hx _ (List.getElem_mem hil)),Option.bind_some,show (l.take i).length < 5864062014805 by (rw [List.length_take];omega),wI ((i:Int)+1) (by omega)]
  exact h
theorem FV (a:Int) (l:List (List Int)) (hl:l.length≤1048576) (hx:∀ x ∈ l,x.length≤1048576):Ev (fun k=>eO.f k a l) (a,l):=acZ a l hl hx l.length 0 (by omega) (by omega)
/-- A list, each element of which is turned in place: the first j have been. -/
def mp {α:Type} (f:α→α) (l:List α) (j:Nat):List α:=(l.take j).map f ++ l.drop j
theorem adS {α:Type} (f:α→α) (l:List α):mp f l 0=l:=by simp [mp]
theorem F_ {α:Type} (f:α→α) (l:List α) (j:Nat):(mp f l j).length=l.length:=by
 simp only [mp,List.length_append,List.length_map,List.length_take,List.length_drop]
 omega
theorem adQ {α:Type} (f:α→α) (l:List α) {j:Nat} (h:l.length≤j):mp f l j=l.map f:=by
 simp [mp,List.take_of_length_le h,List.drop_of_length_le h]
theorem adP {α:Type} (f:α→α) (l:List α) {j:Nat} (h:j < l.length):(mp f l j)[j]'(by rw [F_];exact h)=l[j]:=by
 have hl:((l.take j).map f).length=j:=by rw [List.length_map,List.length_take];omega
 have e:(mp f l j)[j]?=some l[j]:=by
  rw [mp,List.getElem?_append_right (by omega),hl,Nat.sub_self,List.getElem?_drop,Nat.add_zero,List.getElem?_eq_getElem h]
 rw [List.getElem?_eq_getElem (by rw [F_];exact h)] at e
 exact Option.some.inj e
theorem adR {α:Type} (f:α→α) (l:List α) {j:Nat} (h:j < l.length):mp f l (j+1)=(mp f l j).set j (f l[j]):=by
 have hl:((l.take j).map f).length=j:=by rw [List.length_map,List.length_take];omega
 rw [mp,mp,List.set_append_right _ _ (by omega),hl,Nat.sub_self,List.drop_eq_getElem_cons h,List.set_cons_zero,List.take_succ_eq_append_getElem h,List.map_append,List.append_assoc]
 rfl
theorem aep (f:List Int→List Int) (l:List (List Int)) {i:Nat} (h:i < l.length):ai (mp f l i) (i:Int)=l[i]:=by
 rw [kL _ i (by rw [F_];exact h),adP f l h]
theorem afe {e:List Int} (h:e.length=2):e=[rd e 0,rd e 1]:=by
 match e,h with
 | [x,y],_=>rfl
/-- An edge by the new numbers. -/
def aow (p e:List Int):List Int:=[rd p (rd e 0),rd p (rd e 1)]
theorem aew {n:Nat} {l:List (List Int)} (hE:endsIn n l) (i:Nat) (hi:i < l.length):l[i].length=2∧0≤rd l[i] 0∧rd l[i] 0 < n∧0≤rd l[i] 1∧rd l[i] 1 < n:=by
 have h:=hE i hi
 rw [kL l i hi] at h
 obtain ⟨h1,u,v,hu,hv,hun,om⟩:=h
 exact ⟨h1,by omega,by omega,by omega,by omega⟩
theorem aex (a:Int) (n:Nat) (p:List Int) (hp:p.length=n) (l:List (List Int)) (hl:l.length≤1048576) (hE:endsIn n l):∀ (d i:Nat),l.length - i=d→i≤l.length→Ev (fun k=>eM.l0 k (mp (aow p) l i) l.length i p a) (a,l.map (aow p),0):=by
 intro d
 induction d with
 | zero =>
  intro i hd hi
  obtain rfl:i=l.length:=by omega
  refine Ev.step (fun k=>by simp only [eM.l0];rfl) ?_
  simp only [Int.lt_irrefl,if_false,adQ _ l (Nat.le_refl _)]
  exact Ev.now _
 | succ d ih =>
  intro i hd hi
  have hil:i < l.length:=by omega
  obtain ⟨h2,h3,h4,h5,h6⟩:=aew hE i hil
  have h:=ih (i+1) (by omega) (by omega)
  rw [adR _ l hil] at h
  refine Ev.step (fun k=>by simp only [eM.l0];rfl) ?_
  have e:(l[i].set (0:Int).toNat (rd p (rd l[i] 0))).set (1:Int).toNat (rd p (rd l[i] 1))=aow p l[i]:=by
   conv=>lhs;rw [afe h2]
   rfl
  simp only [show ((i:Int) < (l.length:Int)) by omega,fA i,if_true,F_,aep _ l hil,h2,show (0:Int) < ((2:Nat):Int) by omega,show (1:Int) < ((2:Nat):Int) by omega,h3,h5,hp,h4,h6,Option.bind_some,Int.toNat_natCast,List.set_set,e,wI ((i:Int)+1) (by omega)]
  exact h
/-- Of a graph and a map: the code. -/
def wM (a:Int) (l:List (List Int)) (p:List Int):Int:=if gU a l=true then (if ql a.toNat p=true then 0 else 2) else 1
def Gf (a:Int) (l:List (List Int)) (p:List Int):Int × List (List Int) × Int:=if wM a l p=0 then (a,l.map (aow p),0) else (0,[],wM a l p)
theorem acK (a:Int) (l:List (List Int)) (p:List Int) (hl:l.length≤maxLen) (hp:p.length≤maxLen):Ev (fun k=>eM.f k a l p) (Gf a l p):=by
 unfold eM.f Gf
 have hc:Ev (fun k=>aoB.f k a l p a l) (wM a l p):=by
  unfold aoB.f wM
  refine Ev.bind (FR a l hl) ?_
  cases hg:gU a l with
  | false=>simp only [Bool.false_eq_true,if_false];exact Ev.now _
  | true =>
   obtain ⟨n,rfl,h1,h8,hE⟩:=tM hg
   simp only [if_true,Int.toNat_natCast]
   refine Ev.bind (acU n (by omega) p hp) ?_
   rcases Bool.eq_false_or_eq_true (ql n p) with ho|ho
   ·simp only [ho,if_true];exact Ev.now _
   ·simp only [ho,Bool.false_eq_true,if_false];exact Ev.now _
 refine Ev.bind hc ?_
 by_cases h:wM a l p=0
 ·simp only [h, if_true]
  unfold wM at h
  cases hg:gU a l with
  | false=>rw [hg] at h;simp at h
  | true =>
   obtain ⟨n,rfl,h1,h8,hE⟩:=tM hg
   rw [hg] at h
   cases ho:ql n p with
   | false=>rw [Int.toNat_natCast,ho] at h;simp at h
   | true =>
    refine Ev.bind (ad3 n l (KF hg).1 (KF hg).2) ?_
    have h0:=aex n n p ((KG n p).1 ho).1 l (KF hg).1 hE _ 0 rfl (by omega)
    rw [adS] at h0
    exact h0
 ·simp only [h,if_false];exact Ev.now _
/-- A row and a square of numbers, by their places. -/
def dY (n:Nat) (g:Nat→Int):List Int:=(List.range n).map g
def ck (n:Nat) (f:Nat→Nat→Int):List (List Int):=(List.range n).map fun i=>dY n (f i)
theorem kM (n:Nat) (g:Nat→Int):(dY n g).length=n:=by simp [dY]
theorem aom (n:Nat) (f:Nat→Nat→Int):(ck n f).length=n:=by simp [ck]
theorem nI {n:Nat} {g:Nat→Int} {v:Nat} (h:v < n):rd (dY n g) (v:Int)=g v:=by
 rw [mD _ _ (by rw [kM];exact h)]
 simp [dY]
theorem m_ {n:Nat} {f:Nat→Nat→Int} {u:Nat} (h:u < n):ai (ck n f) (u:Int)=dY n (f u):=by
 rw [kL _ _ (by rw [aom];exact h)]
 simp [ck]
theorem apD {n:Nat} {g h:Nat→Int} (e:∀ j,j < n→g j=h j):dY n g=dY n h:=by
 unfold dY
 apply List.map_congr_left
 intro j hj
 exact e j (List.mem_range.mp hj)
theorem aoX {n:Nat} {f h:Nat→Nat→Int} (e:∀ i j,i < n→j < n→f i j=h i j):ck n f=ck n h:=by
 unfold ck
 apply List.map_congr_left
 intro i hi
 exact apD fun j hj=>e i j (List.mem_range.mp hi) hj
theorem Gn {n:Nat} (g:Nat→Int) (v:Nat) (x:Int):(dY n g).set v x=dY n (fun j=>if j=v then x else g j):=by
 apply List.ext_getElem
 ·rw [List.length_set,kM,kM]
 intro j h1 h2
 rw [List.getElem_set]
 simp only [dY,List.getElem_map,List.getElem_range]
 by_cases h:v=j
 ·subst h;simp
 ·rw [if_neg h,if_neg (fun e=>h e.symm)]
theorem LQ {n:Nat} (f:Nat→Nat→Int) (u:Nat) (g:Nat→Int):(ck n f).set u (dY n g)=ck n (fun i j=>if i=u then g j else f i j):=by
 apply List.ext_getElem
 ·rw [List.length_set,aom,aom]
 intro i h1 h2
 rw [List.getElem_set]
 simp only [ck,List.getElem_map,List.getElem_range]
 by_cases h:u=i
 ·subst h;simp
 ·rw [if_neg h];exact apD fun j _=>by rw [if_neg (fun e=>h e.symm)]
/-- One place written. -/
theorem LR {n:Nat} (f:Nat→Nat→Int) (u:Nat) (hu:u < n) (v:Nat) (x:Int):(ck n f).set u ((ai (ck n f) (u:Int)).set v x)=ck n (fun i j=>if i=u∧j=v then x else f i j):=by
 rw [m_ hu,Gn,LQ]
 refine aoX fun i j _ _=>?_
 by_cases h:i=u
 ·subst h;simp
 ·simp [h]
theorem Gm (n:Nat):List.replicate n (List.replicate n (0:Int))=ck n (fun _ _=>0):=by
 have h0:∀ m:Nat,dY m (fun _=>0)=List.replicate m 0:=fun m=>by
  apply List.ext_getElem
  ·simp [dY]
  ·intro i _ _;simp [dY]
 apply List.ext_getElem
 ·simp [ck]
 ·intro i _ _;simp [ck,h0]
/-- How many of the first d directed edges lead from u to v. -/
def cg (l : List (List Int)) : Nat → Nat → Nat → Int
 | 0,_,_=>0
 | d+1,u,v=>cg l d u v+(if nB l d=(u:Int)∧nD l d=(v:Int) then 1 else 0)
theorem EO (l:List (List Int)) (d u v:Nat):0≤cg l d u v∧cg l d u v≤d:=by
 induction d with
 | zero=>simp [cg]
 | succ d ih =>
  unfold cg
  have h1:(0:Int)≤(if nB l d=(u:Int)∧nD l d=(v:Int) then 1 else 0)∧(if nB l d=(u:Int)∧nD l d=(v:Int) then 1 else 0:Int)≤1:=by split<;>omega
  omega
theorem Ci {n:Nat} {l:List (List Int)} (hE:endsIn n l) (d:Nat) (hd:d < 2 * l.length):∃ u v:Nat,nB l d=u∧nD l d=v∧u < n∧v < n:=by
 obtain ⟨_,u,v,hu,hv,hun,om⟩:=hE (d / 2) (by omega)
 unfold nB nD
 rcases Nat.mod_two_eq_zero_or_one d with h|h
 ·rw [h];exact ⟨u,v,hu,hv,hun,om⟩
 ·rw [h];exact ⟨v,u,hv,hu,om,hun⟩
theorem IW {n:Nat} {l:List (List Int)} (hE:endsIn n l):two l:=by
 intro x hx
 obtain ⟨i,hi,rfl⟩:=List.mem_iff_getElem.mp hx
 have h:=(hE i hi).1
 rwa [kL l i hi] at h
theorem W3 (n:Nat) (hn:n≤8) (a:Int) (l:List (List Int)) (hl:l.length≤10) (hE:endsIn n l):∀ (q d:Nat),2 * l.length - d=q→d≤2 * l.length→Ev (fun k=>dO.l1 k (ck n (cg l d)) d a l) (ck n (cg l (2 * l.length))):=by
 intro q
 induction q with
 | zero =>
  intro d hq hd
  obtain rfl:d=2 * l.length:=by omega
  refine Ev.step (fun k=>by simp only [dO.l1];rfl) ?_
  rw [wI (2 * (l.length:Int)) (by omega)]
  simp only [show ¬ (((2 * l.length:Nat):Int) < 2 * (l.length:Int)) by omega,if_false]
  exact Ev.now _
 | succ q ih =>
  intro d hq hd
  have Fh:d < 2 * l.length:=by omega
  obtain ⟨u,v,hu,hv,hun,om⟩:=Ci hE d Fh
  have hb:=EO l d u v
  refine Ev.step (fun k=>by simp only [dO.l1];rfl) ?_
  rw [wI (2 * (l.length:Int)) (by omega)]
  simp only [show ((d:Int) < 2 * (l.length:Int)) by omega,if_true,ac0 a l (by omega) (IW hE) d Fh,Option.bind_some,hu,hv,fA u,fA v,aom,lI u n (by omega),m_ hun,kM,lI v n (by omega),nI om,Int.toNat_natCast]
  rw [wI (cg l d u v+1) (by omega),wI ((d:Int)+1) (by omega)]
  have e:=LR (cg l d) u hun v (cg l d u v+1)
  rw [m_ hun] at e
  rw [e,show ck n (fun i j=>if i=u∧j=v then cg l d u v+1 else cg l d i j)=ck n (cg l (d+1)) from aoX fun i j _ _=>by
   rw [cg,hu,hv]
   by_cases h:i=u∧j=v
   ·obtain ⟨rfl,rfl⟩:=h;simp
   ·rw [if_neg h,if_neg (by omega)];omega]
  exact ih (d+1) (by omega) (by omega)
theorem aqg (n:Nat) (hn:n≤8) (l:List (List Int)) (hl:l.length≤10) (hE:endsIn n l):∀ (q i:Nat),n - i=q→i≤n→Ev (fun k=>dO.l0 k (List.replicate i (List.replicate n 0)) i n l) (ck n (cg l (2 * l.length))):=by
 intro q
 induction q with
 | zero =>
  intro i hq hi
  obtain rfl:i=n:=by omega
  refine Ev.step (fun k=>by simp only [dO.l0];rfl) ?_
  simp only [Int.lt_irrefl,if_false]
  rw [Gm]
  exact W3 i hn i l hl hE (2 * l.length) 0 (by omega) (by omega)
 | succ q ih =>
  intro i hq hi
  refine Ev.step (fun k=>by simp only [dO.l0];rfl) ?_
  simp only [lI i n (by omega),if_true,fA n,Int.toNat_natCast,show n≤35184372088832 by omega,List.length_replicate,show i < 5864062014805 by omega,wI ((i:Int)+1) (by omega)]
  rw [show List.replicate i (List.replicate n (0:Int)) ++ [List.replicate n 0]=List.replicate (i+1) (List.replicate n 0) from by rw [List.replicate_succ']]
  exact ih (i+1) (by omega) (by omega)
theorem KJ (n:Nat) (hn:n≤8) (l:List (List Int)) (hl:l.length≤10) (hE:endsIn n l):Ev (fun k=>dO.f k n l) (ck n (cg l (2 * l.length))):=aqg n hn l hl hE n 0 (by omega) (by omega)
def fc (x y:Int):Prop:=(18446744073709551616:Int) ∣ x - y
theorem o8 (x:Int):fc x x:=⟨0,by omega⟩
theorem Yy {x y:Int} (h:fc x y):fc y x:=by
 obtain ⟨q,h⟩:=h
 exact ⟨-q,by omega⟩
theorem p9 {x y z:Int} (h:fc x y) (h2:fc y z):fc x z:=by
 obtain ⟨q,h⟩:=h
 obtain ⟨r,h2⟩:=h2
 exact ⟨q+r,by omega⟩
theorem qE (x:Int):fc (wrap64 x) x:=by
 unfold fc wrap64
 exact ⟨-((x+9223372036854775808) / 18446744073709551616),by omega⟩
theorem Al {x y z w:Int} (h:fc x y) (h2:fc z w):fc (x+z) (y+w):=by
 obtain ⟨q,h⟩:=h
 obtain ⟨r,h2⟩:=h2
 exact ⟨q+r,by omega⟩
theorem OG {x y:Int} (h:fc x y):fc (-x) (-y):=by
 obtain ⟨q,h⟩:=h
 exact ⟨-q,by omega⟩
theorem Cc {x y z w:Int} (h:fc x y) (h2:fc z w):fc (x * z) (y * w):=adx h h2
theorem Cd {n:Nat} {f g:Nat→Int} (h:∀ i,i < n→fc (f i) (g i)):fc (anI n f) (anI n g):=adC h
theorem aqc (x:Int):-9223372036854775808≤wrap64 x∧wrap64 x≤9223372036854775807:=by unfold wrap64;omega
theorem Yx {x y:Int} (h:fc x y) (hx:-9223372036854775808≤x∧x≤9223372036854775807) (hy:-9223372036854775808≤y∧y≤9223372036854775807):x=y:=by
 obtain ⟨q,h⟩:=h
 omega
theorem aqb {x y:Int} (h:fc x y) (hy:-9223372036854775808≤y∧y≤9223372036854775807):wrap64 x=y:=Yx (p9 (qE x) h) (aqc x) hy
/-- One row of a product, made by program. -/
def mZ (f g : Nat → Nat → Int) (i : Nat) : Nat → Nat → Int
 | 0,_=>0
 | k+1,j=>if f i k=0 then mZ f g i k j else wrap64 (mZ f g i k j+wrap64 (f i k * g k j))
theorem Tm (f g:Nat→Nat→Int) (i j:Nat) (m:Nat):fc (mZ f g i m j) (anI m (fun k=>f i k * g k j)):=by
 induction m with
 | zero=>exact o8 _
 | succ m ih =>
  unfold mZ
  simp only [anI]
  split
  ·case _ h=>rw [h];simpa using ih
  ·exact p9 (qE _) (Al ih (qE _))
def oN (f g:Nat→Nat→Int) (n i k j:Nat):Nat→Nat→Int:=fun r c=>if r < i then mZ f g r n c else if r=i then (if c < j then mZ f g i (k+1) c else mZ f g i k c) else 0
theorem aeH (n : Nat) (hn : n ≤ 1048576) (f g : Nat → Nat → Int) (i k : Nat) (hi : i < n) (hk : k < n) (hf : f i k ≠ 0) (R : List (List Int))
  (next:Ev (fun q=>dI.l1 q (ck n g) (ck n (oN f g n i (k+1) 0)) i (ck n f) n i (dY n (f i)) n ((k:Int)+1)) R) :
  ∀ (d j:Nat),n - j=d→j≤n→Ev (fun q=>dI.l2 q (ck n g) (ck n (oN f g n i k j)) i (f i k) (ck n f) n i (dY n (f i)) n k (dY n (g k)) n j) R:=by
 intro d
 induction d with
 | zero =>
  intro j hd hj
  obtain rfl:j=n:=by omega
  refine Ev.step (fun q=>by simp only [dI.l2];rfl) ?_
  simp only [Int.lt_irrefl,if_false,wI ((k:Int)+1) (by omega)]
  refine Ev.congr (fun q=>?_) next
  congr 1
  refine aoX fun r c hr hc=>?_
  unfold oN
  by_cases h1:r < i
  ·rw [if_pos h1,if_pos h1]
  ·rw [if_neg h1, if_neg h1]
   by_cases h2:r=i
   ·rw [if_pos h2,if_pos h2,if_pos hc,if_neg (by omega)]
   ·rw [if_neg h2,if_neg h2]
 | succ d ih =>
  intro j hd hj
  have hjn:j < n:=by omega
  refine Ev.step (fun q=>by simp only [dI.l2];rfl) ?_
  simp only [lI j n (by omega),fA j,fA i,lI i n (by omega),if_true,kM,aom,m_ hi,nI hjn,Int.toNat_natCast,wI ((j:Int)+1) (by omega)]
  rw [Gn,LQ]
  refine Ev.congr (fun q=>?_) (ih (j+1) (by omega) (by omega))
  rw [show ((j+1:Nat):Int)=(j:Int)+1 by omega]
  congr 1
  refine aoX fun r c hr hc=>?_
  have hij:oN f g n i k j i j=mZ f g i k j:=by
   unfold oN;rw [if_neg (by omega),if_pos rfl,if_neg (by omega)]
  by_cases h2:r=i
  ·subst h2
   rw [if_pos rfl]
   by_cases h3:c=j
   ·subst h3
    rw [if_pos rfl,hij]
    simp only [oN,Nat.lt_irrefl,if_false,if_true,show c < c+1 by omega]
    show _=(if f r k=0 then _ else _)
    rw [if_neg hf]
   ·rw [if_neg h3]
    simp only [oN,Nat.lt_irrefl,if_false,if_true]
    by_cases h4:c < j
    ·rw [if_pos h4,if_pos (by omega)]
    ·rw [if_neg h4,if_neg (by omega)]
  ·rw [if_neg h2]
   unfold oN
   by_cases h1:r < i
   ·rw [if_pos h1,if_pos h1]
   ·rw [if_neg h1,if_neg h1,if_neg h2,if_neg h2]
theorem aeG (n : Nat) (hn : n ≤ 1048576) (f g : Nat → Nat → Int) (i : Nat) (hi : i < n) (R : List (List Int))
  (next:Ev (fun q=>dI.l0 q (ck n g) (ck n (oN f g n (i+1) 0 0)) (ck n f) n ((i:Int)+1)) R) :
  ∀ (d k:Nat),n - k=d→k≤n→Ev (fun q=>dI.l1 q (ck n g) (ck n (oN f g n i k 0)) i (ck n f) n i (dY n (f i)) n k) R:=by
 intro d
 induction d with
 | zero =>
  intro k hd hk
  obtain rfl:k=n:=by omega
  refine Ev.step (fun q=>by simp only [dI.l1];rfl) ?_
  simp only [Int.lt_irrefl,if_false,wI ((i:Int)+1) (by omega)]
  refine Ev.congr (fun q=>?_) next
  congr 1
  refine aoX fun r c hr hc=>?_
  unfold oN
  by_cases h1:r < i
  ·rw [if_pos h1,if_pos (by omega)]
  ·rw [if_neg h1]
   by_cases h2:r=i
   ·subst h2;rw [if_pos rfl,if_neg (by omega),if_pos (by omega)]
   ·rw [if_neg h2, if_neg (by omega)]
    by_cases h3:r=i+1
    ·rw [if_pos h3,if_neg (by omega)];rfl
    ·rw [if_neg h3]
 | succ d ih =>
  intro k hd hk
  have hkn:k < n:=by omega
  refine Ev.step (fun q=>by simp only [dI.l1];rfl) ?_
  simp only [lI k n (by omega),fA k,if_true,kM,aom,nI hkn,m_ hkn,wI ((k:Int)+1) (by omega)]
  have h:=ih (k+1) (by omega) (by omega)
  rw [show ((k+1:Nat):Int)=(k:Int)+1 by omega] at h
  by_cases hf:f i k=0
  ·simp only [hf, if_true]
   refine Ev.congr (fun q=>?_) h
   congr 1
   refine aoX fun r c hr hc=>?_
   unfold oN
   by_cases h1:r < i
   ·rw [if_pos h1,if_pos h1]
   ·rw [if_neg h1, if_neg h1]
    by_cases h2:r=i
    ·rw [if_pos h2, if_pos h2, if_neg (by omega), if_neg (by omega)]
     show _=(if f i k=0 then _ else _)
     rw [if_pos hf]
    ·rw [if_neg h2,if_neg h2]
  ·simp only [hf, if_false]
   exact aeH n hn f g i k hi hkn hf R h n 0 (by omega) (by omega)
theorem aeF (n:Nat) (hn:n≤1048576) (f g:Nat→Nat→Int):∀ (d i:Nat),n - i=d→i≤n→Ev (fun q=>dI.l0 q (ck n g) (ck n (oN f g n i 0 0)) (ck n f) n i) (ck n (fun r c=>mZ f g r n c)):=by
 intro d
 induction d with
 | zero =>
  intro i hd hi
  obtain rfl:i=n:=by omega
  refine Ev.step (fun q=>by simp only [dI.l0];rfl) ?_
  simp only [Int.lt_irrefl,if_false]
  rw [show ck i (oN f g i i 0 0)=ck i (fun r c=>mZ f g r i c) from aoX fun r c hr hc=>by unfold oN;rw [if_pos hr]]
  exact Ev.now _
 | succ d ih =>
  intro i hd hi
  have hin:i < n:=by omega
  refine Ev.step (fun q=>by simp only [dI.l0];rfl) ?_
  simp only [lI i n (by omega),fA i,if_true,aom,m_ hin,kM]
  have h:=ih (i+1) (by omega) (by omega)
  rw [show ((i+1:Nat):Int)=(i:Int)+1 by omega] at h
  exact aeG n hn f g i hin _ h n 0 (by omega) (by omega)
theorem Tl (n:Nat) (hn:n≤1048576) (f g:Nat→Nat→Int):Ev (fun q=>dI.f q (ck n f) (ck n g)) (ck n (fun r c=>mZ f g r n c)):=by
 unfold dI.f
 simp only [aom]
 refine Ev.bind (LG n hn) ?_
 rw [Gm]
 have h:=aeF n hn f g n 0 (by omega) (by omega)
 refine Ev.congr (fun q=>?_) h
 congr 1
 refine aoX fun r c hr hc=>?_
 unfold oN
 rw [if_neg (by omega)]
 split
 ·rw [if_neg (by omega)];rfl
 ·rfl
def apo (h : Nat → Nat → Int) : Nat → Int
 | 0=>0
 | i+1=>wrap64 (apo h i+h i i)
theorem ae8 (h:Nat→Nat→Int) (m:Nat):fc (apo h m) (anI m (fun i=>h i i)):=by
 induction m with
 | zero=>exact o8 _
 | succ m ih=>exact p9 (qE _) (Al ih (o8 _))
theorem ae' (n:Nat) (hn:n≤1048576) (h:Nat→Nat→Int):∀ (d i:Nat),n - i=d→i≤n→Ev (fun q=>iJ.l0 q (apo h i) (ck n h) n i) (apo h n):=by
 intro d
 induction d with
 | zero =>
  intro i hd hi
  obtain rfl:i=n:=by omega
  refine Ev.step (fun q=>by simp only [iJ.l0];rfl) ?_
  simp only [Int.lt_irrefl,if_false]
  exact Ev.now _
 | succ d ih =>
  intro i hd hi
  have hin:i < n:=by omega
  refine Ev.step (fun q=>by simp only [iJ.l0];rfl) ?_
  simp only [lI i n (by omega),fA i,if_true,aom,m_ hin,kM,nI hin,wI ((i:Int)+1) (by omega)]
  have h:=ih (i+1) (by omega) (by omega)
  rw [show ((i+1:Nat):Int)=(i:Int)+1 by omega] at h
  exact h
theorem ae9 (n:Nat) (hn:n≤1048576) (h:Nat→Nat→Int):Ev (fun q=>iJ.f q (ck n h)) (apo h n):=by
 unfold iJ.f
 simp only [aom]
 exact ae' n hn h n 0 (by omega) (by omega)
/-- A list without zeros at its end. -/
def jl (l : List Int) : Nat → List Int
 | 0=>[]
 | n+1=>if rd l n=0 then jl l n else l.take (n+1)
theorem ae_ (l:List Int) (n:Nat):(jl l n).length≤n:=by
 induction n with
 | zero=>simp [jl]
 | succ n ih =>
  unfold jl;split
  ·omega
  ·rw [List.length_take];omega
theorem afa (l:List Int) (n:Nat):∀ i:Nat,rd (jl l n) i=if i < n then rd l i else 0:=by
 induction n with
 | zero=>intro i;simp [jl,rd]
 | succ n ih =>
  intro i
  unfold jl
  split
  ·case _ h =>
   rw [ih]
   by_cases h1:i < n
   ·rw [if_pos h1,if_pos (by omega)]
   ·rw [if_neg h1]
    by_cases h2:i=n
    ·subst h2;rw [if_pos (by omega),h]
    ·rw [if_neg (by omega)]
  ·unfold rd
   simp only [Int.toNat_natCast,List.getD_eq_getElem?_getD,List.getElem?_take]
   split<;>simp_all
theorem afc (l:List Int) (hl:l.length≤1048576):∀ n,n≤l.length→Ev (fun q=>iI.l0 q (l.take n)) (jl l n):=by
 intro n
 induction n with
 | zero =>
  intro _
  refine Ev.step (fun q=>by simp only [iI.l0];rfl) ?_
  simp only [List.take_zero,List.length_nil,show ¬ (((0:Nat):Int) > 0) by omega,if_false,IJ [] (by simp),Option.bind_some,jl]
  exact Ev.now _
 | succ n ih =>
  intro hn
  refine Ev.step (fun q=>by simp only [iI.l0];rfl) ?_
  have hlen:((l.take (n+1)).length:Int)=(n:Int)+1:=by rw [List.length_take];omega
  have hr:rd (l.take (n+1)) n=rd l n:=by
   unfold rd
   simp only [Int.toNat_natCast,List.getD_eq_getElem?_getD,List.getElem?_take]
   rw [if_pos (by omega)]
  simp only [hlen,show (n:Int)+1 - 1=n by omega,wI ((n:Int)) (by omega),show (n:Int)+1 > 0 by omega,fA n,show (n:Int) < (n:Int)+1 by omega,show (n:Int)≤(n:Int)+1 by omega,if_true,hr,Int.toNat_natCast,List.take_take,show min n (n+1)=n by omega]
  rw [show jl l (n+1)=if rd l n=0 then jl l n else l.take (n+1) from rfl]
  by_cases h:rd l n=0
  ·simp only [h, if_true]
   exact ih (by omega)
  ·simp only [h, if_false, IJ (l.take (n + 1)) (by rw [List.length_take]; omega), Option.bind_some]
   exact Ev.now _
theorem afb (l:List Int) (hl:l.length≤1048576):Ev (fun q=>iI.f q l) (jl l l.length):=by
 unfold iI.f
 have h:=afc l hl l.length (Nat.le_refl _)
 rw [List.take_length] at h
 exact h
/-- The rows with one number added in the diagonal. -/
def sj (h:Nat→Nat→Int) (c:Int) (i:Nat):Nat→Nat→Int:=fun r q=>if r=q∧r < i then wrap64 (h r q+c) else h r q
theorem O7 (c:Nat→Int) (n i:Nat) (h:i < n):rd ((List.range n).map c) i=c i:=by
 rw [mD _ _ (by simpa using h)];simp
theorem YY (n : Nat) (hn : n ≤ 1048576) (A h : Nat → Nat → Int) (c : Nat → Int) (m : Nat) (hm : m < n) (R : List Int)
  (next:Ev (fun k=>(dI.f k (ck n A) (ck n (sj h (c m) n))).bind fun t119=>((iJ.f k t119).bind fun t122=>(if ((m+1:Nat):Int)=0 then (none) else (if ((List.range (m+1)).map c).length < 17592186044416 then (dV.l0 k (ck n A) ((List.range (m+1)).map c ++ [wrap64 (Int.tdiv (wrap64 (-t122)) ((m+1:Nat):Int))]) (ck n (sj h (c m) n)) (wrap64 (((m+1:Nat):Int)+1))) else (none))))) R) :
  ∀ (d i:Nat),n - i=d→i≤n→Ev (fun k=>dV.l1 k (ck n A) ((List.range (m+1)).map c) (ck n (sj h (c m) i)) ((m+1:Nat):Int) n i) R:=by
 intro d
 induction d with
 | zero =>
  intro i hd hi
  obtain rfl:i=n:=by omega
  refine Ev.step (fun q=>by simp only [dV.l1];rfl) ?_
  simp only [Int.lt_irrefl,if_false]
  exact next
 | succ d ih =>
  intro i hd hi
  have hin:i < n:=by omega
  refine Ev.step (fun q=>by simp only [dV.l1];rfl) ?_
  simp only [lI i n (by omega),fA i,if_true,aom,m_ hin,kM,nI hin,Int.toNat_natCast,show ((m+1:Nat):Int) - 1=(m:Int) by omega,wI ((m:Int)) (by omega),fA m,List.length_map,List.length_range,show (m:Int) < ((m+1:Nat):Int) by omega,O7 c (m+1) m (by omega),wI ((i:Int)+1) (by omega)]
  rw [Gn,LQ]
  refine Ev.congr (fun q=>?_) (ih (i+1) (by omega) (by omega))
  rw [show ((i+1:Nat):Int)=(i:Int)+1 by omega]
  congr 1
  refine aoX fun r q hr hq=>?_
  unfold sj
  by_cases h1:r=i
  ·subst h1
   rw [if_pos rfl]
   by_cases h2:q=r
   ·subst h2
    rw [if_pos rfl,if_neg (by omega),if_pos ⟨rfl,by omega⟩]
   ·rw [if_neg h2,if_neg (fun e=>h2 e.1.symm),if_neg (fun e=>h2 e.1.symm)]
  ·rw [if_neg h1]
   by_cases h2:r=q∧r < i
   ·rw [if_pos h2,if_pos ⟨h2.1,by omega⟩]
   ·rw [if_neg h2,if_neg (fun e=>h2 ⟨e.1,by omega⟩)]
/-- The numbers of a determinant, as a list. -/
def nZ (n:Nat) (A:Nat→Nat→Int):List Int:=(List.range (n+1)).map (cF n A)
theorem O5 (n:Nat) (A:Nat→Nat→Int):(nZ n A).length=n+1:=by simp [nZ]
theorem YX (n : Nat) (hn : n ≤ 1048575) (A : Nat → Nat → Int) (hb : ∀ k : Nat, 1 ≤ k → k ≤ n → -9223372036854775807 ≤ (k : Int) * cF n A k ∧ (k : Int) * cF n A k ≤ 9223372036854775807) :
  ∀ (d m : Nat), n - m = d → m ≤ n → ∀ h : Nat → Nat → Int, (∀ i j, i < n → j < n → fc (h i j) (mW n A (cF n A) m i j)) →
   Ev (fun k=>dV.l0 k (ck n A) ((List.range (m+1)).map (cF n A)) (ck n h) ((m+1:Nat):Int)) (jl (nZ n A) (n+1)):=by
 intro d
 induction d with
 | zero =>
  intro m hd hm h _
  obtain rfl:m=n:=by omega
  refine Ev.step (fun q=>by simp only [dV.l0];rfl) ?_
  simp only [aom,show ¬ (((m+1:Nat):Int)≤(m:Int)) by omega,if_false]
  refine Ev.bind (a:=jl (nZ m A) (m+1)) ?_ (Ev.now _)
  have h:=afb (nZ m A) (by rw [O5];omega)
  rw [O5] at h
  exact h
 | succ d ih =>
  intro m hd hm h hcg
  have hmn:m < n:=by omega
  refine Ev.step (fun q=>by simp only [dV.l0];rfl) ?_
  simp only [aom,show (((m+1:Nat):Int)≤(n:Int)) by omega,if_true]
  refine Ev.bind (Tl n (by omega) A h) ?_
  simp only [aom]
  have hg:∀ i j,i < n→j < n→fc (sj (fun r c=>mZ A h r n c) (cF n A m) n i j) (mW n A (cF n A) (m+1) i j):=by
   intro i j hi hj
   have h1:fc (mZ A h i n j) (anI n (fun q=>A i q * mW n A (cF n A) m q j)):=p9 (Tm A h i j n) (Cd (fun q hq=>Cc (o8 _) (hcg q j hq hj)))
   show fc (sj _ _ n i j) (anI n (fun q=>A i q * mW n A (cF n A) m q j)+(if i=j then cF n A m else 0))
   unfold sj
   by_cases e:i=j
   ·rw [if_pos ⟨e, hi⟩, if_pos e]
    exact p9 (qE _) (Al h1 (o8 _))
   ·rw [if_neg (fun e2 => e e2.1), if_neg e]
    simpa using h1
  have h0:ck n (fun r c=>mZ A h r n c)=ck n (sj (fun r c=>mZ A h r n c) (cF n A m) 0):=aoX fun r c _ _=>by
   unfold sj;rw [if_neg (by omega)]
  rw [h0]
  refine YY n (by omega) A _ (cF n A) m hmn _ ?_ n 0 (by omega) (by omega)
  refine Ev.bind (Tl n (by omega) A _) ?_
  refine Ev.bind (ae9 n (by omega) _) ?_
  have hfl:=SC n A m hmn
  have PX:=hb (m+1) (by omega) (by omega)
  have htr:fc (-(apo (fun r c=>mZ A (sj (fun r c=>mZ A h r n c) (cF n A m) n) r n c) n)) (((m+1:Nat):Int) * cF n A (m+1)):=by
   rw [hfl]
   refine OG (p9 (ae8 _ n) (Cd (fun i hi=>p9 (Tm _ _ i i n) (Cd (fun j hj=>Cc (o8 _) (hg j i hj hi))))))
  have hw:wrap64 (-(apo (fun r c=>mZ A (sj (fun r c=>mZ A h r n c) (cF n A m) n) r n c) n))=((m+1:Nat):Int) * cF n A (m+1):=aqb htr ⟨by omega,by omega⟩
  have hdiv:Int.tdiv (((m+1:Nat):Int) * cF n A (m+1)) ((m+1:Nat):Int)=cF n A (m+1):=Int.mul_tdiv_cancel_left _ (by omega)
  have hsmall:-9223372036854775808≤cF n A (m+1)∧cF n A (m+1)≤9223372036854775807:=by
   have h1:(1:Int)≤((m+1:Nat):Int):=by omega
   generalize ((m+1:Nat):Int)=t at h1 PX
   generalize cF n A (m+1)=c at PX
   constructor
   ·rcases Int.lt_or_le c 0 with hc | hc
    ·have : t * c ≤ 1 * c := Int.mul_le_mul_of_nonpos_right h1 (by omega)
     omega
    ·omega
   ·rcases Int.lt_or_le c 0 with hc | hc
    ·omega
    ·have : 1 * c ≤ t * c := Int.mul_le_mul_of_nonneg_right h1 hc
     omega
  simp only [show ¬ (((m+1:Nat):Int)=0) by omega,if_false,List.length_map,List.length_range,show m+1 < 17592186044416 by omega,if_true,hw,hdiv,nc hsmall.1 hsmall.2,nc (show -9223372036854775808≤((m+1:Nat):Int)+1 by omega) (by omega)]
  have hn2:=ih (m+1) (by omega) (by omega) _ hg
  refine Ev.congr (fun q=>?_) hn2
  rw [show (List.range (m+1+1)).map (cF n A)=(List.range (m+1)).map (cF n A) ++ [cF n A (m+1)] by rw [List.range_succ,List.map_append];rfl]
  rw [show ((m+1+1:Nat):Int)=((m+1:Nat):Int)+1 by omega]
theorem YW (n : Nat) (hn : n ≤ 1048575) (A : Nat → Nat → Int) (hb : ∀ k : Nat, 1 ≤ k → k ≤ n → -9223372036854775807 ≤ (k : Int) * cF n A k ∧ (k : Int) * cF n A k ≤ 9223372036854775807) :
  Ev (fun k=>dV.f k (ck n A)) (jl (nZ n A) (n+1)):=by
 unfold dV.f
 simp only [aom]
 refine Ev.bind (LG n (by omega)) ?_
 rw [Gm]
 have h:=YX n hn A hb n 0 (by omega) (by omega) (fun _ _=>0) (fun i j _ _=>o8 _)
 refine Ev.congr (fun q=>?_) h
 rw [show (List.range (0+1)).map (cF n A)=[1] by simp [List.range_succ,FW]]
 rfl
theorem LS (n:Nat) (g:Nat→Int):dY n g ++ [g n]=dY (n+1) g:=by
 unfold dY;rw [List.range_succ,List.map_append];rfl
theorem LF (l:List Int) (h:l.length≤1048576):mG.f l=some l:=by
 unfold mG.f
 simp only [Option.bind_some,List.length_nil,List.nil_append,show 0+l.length < 17592186044416 by omega,if_true]
theorem ac3 (l:List Int) (hl:l.length≤1048576):∀ n:Nat,n≤l.length→Ev (fun q=>aog.l0 q l n) (jl l n):=by
 intro n
 induction n with
 | zero =>
  intro _
  refine Ev.step (fun q=>by simp only [aog.l0];rfl) ?_
  simp only [show ¬ (((0:Nat):Int) > 0) by omega,if_false,show (0:Int)≤((0:Nat):Int) by omega,show ((0:Nat):Int)≤(l.length:Int) by omega,if_true,Int.toNat_natCast,List.take_zero,LF [] (by simp),Option.bind_some,jl]
  exact Ev.now _
 | succ n ih =>
  intro hn
  refine Ev.step (fun q=>by simp only [aog.l0];rfl) ?_
  simp only [show ((n+1:Nat):Int) > 0 by omega,show ((n+1:Nat):Int) - 1=n by omega,wI ((n:Int)) (by omega),fA n,show (n:Int) < (l.length:Int) by omega,show (0:Int)≤((n+1:Nat):Int) by omega,show ((n+1:Nat):Int)≤(l.length:Int) by omega,if_true,Int.toNat_natCast]
  rw [show jl l (n+1)=if rd l n=0 then jl l n else l.take (n+1) from rfl]
  by_cases h:rd l n=0
  ·simp only [h, if_true]
   exact ih (by omega)
  ·simp only [h, if_false, LF (l.take (n + 1)) (by rw [List.length_take]; omega), Option.bind_some]
   exact Ev.now _
theorem ac2 (l:List Int) (hl:l.length≤1048576):Ev (fun q=>aog.f q l) (jl l l.length):=ac3 l hl l.length (Nat.le_refl _)
theorem Xf (n : Nat) (hn : n ≤ 1048575) (A : Nat → Nat → Int) (x3 x5 fP : List Int) (C : Nat → Int) (x8 x9 : Int) (r i : Nat) (hr : r < n) (hi : i < r) (h10 : fP.length = i) (R : List Int)
  (next:∀ v,fc v (anI r (fun j=>A i j * C j))→Ev (fun k=>bx.l3 k (ck n A) x3 r x5 (dY r C) x8 x9 (fP ++ [v]) ((i:Int)+1)) R) :
  ∀ (d j:Nat),r - j=d→j≤r→∀ v,fc v (anI j (fun j=>A i j * C j))→Ev (fun k=>bx.l4 k (ck n A) x3 r x5 (dY r C) x8 x9 fP i v j) R:=by
 intro d
 induction d with
 | zero =>
  intro j hd hj v hv
  obtain rfl:j=r:=by omega
  refine Ev.step (fun q=>by simp only [bx.l4];rfl) ?_
  simp only [Int.lt_irrefl,if_false,h10,show i < 17592186044416 by omega,if_true,wI ((i:Int)+1) (by omega)]
  exact next v hv
 | succ d ih =>
  intro j hd hj v hv
  have C8:j < r:=by omega
  refine Ev.step (fun q=>by simp only [bx.l4];rfl) ?_
  simp only [lI j r (by omega),fA j,fA i,aom,lI i n (by omega),if_true,m_ (show i < n by omega),kM,lI j n (by omega),nI (show j < n by omega),nI C8,wI ((j:Int)+1) (by omega)]
  have h:=ih (j+1) (by omega) (by omega) (wrap64 (v+wrap64 (A i j * C j))) (p9 (qE _) (Al hv (qE _)))
  rw [show ((j+1:Nat):Int)=(j:Int)+1 by omega] at h
  exact h
theorem Xe (n : Nat) (hn : n ≤ 1048575) (A : Nat → Nat → Int) (x3 x5 : List Int) (C : Nat → Int) (x8 : Int) (r : Nat) (hr : r < n) (h5 : x5.length < 17592186044416) (R : List Int)
  (next:∀ (v:Int) (C':Nat→Int),fc v (anI r (fun j=>A r j * C j))→(∀ i,i < r→fc (C' i) (anI r (fun j=>A i j * C j)))→Ev (fun k=>bx.l2 k (ck n A) x3 r (x5 ++ [wrap64 (-v)]) (dY r C') (wrap64 (x8+1))) R) :
  ∀ (d i:Nat),r - i=d→i≤r→∀ (v:Int) (C':Nat→Int),fc v (anI i (fun j=>A r j * C j))→(∀ l,l < i→fc (C' l) (anI r (fun j=>A l j * C j)))→Ev (fun k=>bx.l3 k (ck n A) x3 r x5 (dY r C) x8 v (dY i C') i) R:=by
 intro d
 induction d with
 | zero =>
  intro i hd hi v C' hv hC
  obtain rfl:i=r:=by omega
  refine Ev.step (fun q=>by simp only [bx.l3];rfl) ?_
  simp only [Int.lt_irrefl,if_false,h5,if_true]
  exact next v C' hv hC
 | succ d ih =>
  intro i hd hi v C' hv hC
  have C7:i < r:=by omega
  refine Ev.step (fun q=>by simp only [bx.l3];rfl) ?_
  simp only [lI i r (by omega),fA i,fA r,aom,lI r n (by omega),if_true,m_ hr,kM,lI i n (by omega),nI (show i < n by omega),nI C7]
  refine Xf n hn A x3 x5 (dY i C') C x8 _ r i hr C7 (kM _ _) R (fun w hw=>?_) r 0 (by omega) (by omega) 0 (o8 _)
  have h:=ih (i+1) (by omega) (by omega) (wrap64 (v+wrap64 (A r i * C i))) (fun l=>if l < i then C' l else w) (p9 (qE _) (Al hv (qE _))) (fun l hl=>by
   by_cases e:l < i
   ·simp only [if_pos e];exact hC l e
   ·simp only [if_neg e]
    obtain rfl:l=i:=by omega
    exact hw)
  refine Ev.congr (fun q=>?_) h
  rw [show ((i+1:Nat):Int)=(i:Int)+1 by omega,← LS]
  rw [if_neg (Nat.lt_irrefl i)]
  congr 2
  exact apD fun j hj=>by rw [if_pos hj]
theorem Xd (n : Nat) (hn : n ≤ 1048575) (A : Nat → Nat → Int) (x3 : List Int) (r : Nat) (hr : r < n) (R : List Int)
  (next:∀ T:Nat→Int,(∀ j,j < r+2→fc (T j) (qL r A j))→Ev (fun k=>bx.l5 k (ck n A) x3 r (dY (r+2) T) (dY (r+2) (fun _=>0)) 0) R) :
  ∀ (d k:Nat),r - k=d→k≤r→∀ (T C:Nat→Int),(∀ j,j < k+2→fc (T j) (qL r A j))→(∀ i,i < r→fc (C i) (oK r A (fun i=>A i r) k i))→Ev (fun q=>bx.l2 q (ck n A) x3 r (dY (k+2) T) (dY r C) k) R:=by
 intro d
 induction d with
 | zero =>
  intro k hd hk T C hT hC
  obtain rfl:k=r:=by omega
  refine Ev.step (fun q=>by simp only [bx.l2];rfl) ?_
  simp only [Int.lt_irrefl,if_false,wI ((k:Int)+2) (by omega),show (0:Int)≤(k:Int)+2 by omega,show ((k:Int)+2).toNat=k+2 by omega,show k+2≤35184372088832 by omega,if_true]
  rw [show List.replicate (k+2) (0:Int)=dY (k+2) (fun _=>0) by
   apply List.ext_getElem
   ·simp [dY]
   ·intro i _ _;simp [dY]]
  exact next T hT
 | succ d ih =>
  intro k hd hk T C hT hC
  have hkr:k < r:=by omega
  refine Ev.step (fun q=>by simp only [bx.l2];rfl) ?_
  simp only [lI k r (by omega),if_true]
  have h:=Xe n hn A x3 (dY (k+2) T) C k r hr (by rw [kM];omega) R (fun v C' hv hC'=>?_) r 0 (by omega) (by omega) 0 (fun _=>0) (o8 _) (fun l hl=>by omega)
  ·exact h
  ·have h:=ih (k+1) (by omega) (by omega) (fun j=>if j < k+2 then T j else wrap64 (-v)) C' (fun j hj=>by
    by_cases e:j < k+2
    ·simp only [if_pos e];exact hT j e
    ·simp only [if_neg e]
     obtain rfl:j=k+2:=by omega
     show fc _ (-anI r (fun i=>A r i * oK r A (fun i=>A i r) k i))
     exact p9 (qE _) (OG (p9 hv (Cd (fun i hi=>Cc (o8 _) (hC i hi)))))) (fun i hi=>by
    show fc _ (anI r (fun j=>A i j * oK r A (fun i=>A i r) k j))
    exact p9 (hC' i hi) (Cd (fun j hj=>Cc (o8 _) (hC j hj))))
   refine Ev.congr (fun q=>?_) h
   rw [wI ((k:Int)+1) (by omega),show ((k+1:Nat):Int)=(k:Int)+1 by omega,show k+1+2=(k+2)+1 by omega,← LS (k+2) (fun j=>if j < k+2 then T j else wrap64 (-v))]
   simp only [if_neg (Nat.lt_irrefl (k+2))]
   congr 2
   exact apD fun j hj=>by rw [if_pos hj]
theorem Xc (n : Nat) (hn : n ≤ 1048575) (A : Nat → Nat → Int) (x3 x5 : List Int) (r : Nat) (hr : r < n) (R : List Int)
  (next:Ev (fun k=>bx.l2 k (ck n A) x3 r x5 (dY r (fun i=>A i r)) 0) R) :
  ∀ (d i:Nat),r - i=d→i≤r→Ev (fun k=>bx.l1 k (ck n A) x3 r x5 (dY i (fun i=>A i r)) i) R:=by
 intro d
 induction d with
 | zero =>
  intro i hd hi
  obtain rfl:i=r:=by omega
  refine Ev.step (fun q=>by simp only [bx.l1];rfl) ?_
  simp only [Int.lt_irrefl,if_false]
  exact next
 | succ d ih =>
  intro i hd hi
  have C7:i < r:=by omega
  refine Ev.step (fun q=>by simp only [bx.l1];rfl) ?_
  simp only [lI i r (by omega),fA i,fA r,aom,lI i n (by omega),lI r n (by omega),if_true,m_ (show i < n by omega),kM,show i < 17592186044416 by omega,nI hr,wI ((i:Int)+1) (by omega)]
  have h:=ih (i+1) (by omega) (by omega)
  rw [show ((i+1:Nat):Int)=(i:Int)+1 by omega,← LS] at h
  exact h
def BX (r:Nat) (A:Nat→Nat→Int) (m:Nat) (j:Nat):Int:=anI j (fun l=>qL r A (m - l) * cF r A l)
theorem Xh (n : Nat) (hn : n ≤ 1048575) (A : Nat → Nat → Int) (r i : Nat) (hr : r < n) (hi : i < r + 2) (c T : Nat → Int) (hT : ∀ j, j < r + 2 → fc (T j) (qL r A j)) (hc : ∀ l, l ≤ r → fc (c l) (cF r A l)) (R : List Int)
  (next:∀ M:Nat→Int,(∀ m,m≤i→fc (M m) (cF (r+1) A m))→(∀ m,i < m→M m=0)→(∀ m,-9223372036854775808≤M m∧M m≤9223372036854775807)→Ev (fun k=>bx.l5 k (ck n A) (dY (r+1) c) r (dY (r+2) T) (dY (r+2) M) ((i:Int)+1)) R) :
  ∀ (d j:Nat),r+1 - j=d→j≤i+1→j≤r+1→∀ M:Nat→Int,(∀ m,m < i→fc (M m) (cF (r+1) A m))→fc (M i) (BX r A i j)→(∀ m,i < m→M m=0)→(∀ m,-9223372036854775808≤M m∧M m≤9223372036854775807)→Ev (fun k=>bx.l6 k (ck n A) (dY (r+1) c) r (dY (r+2) T) (dY (r+2) M) i j) R:=by
 have fin:∀ j,j≤i+1→(j=i+1∨j=r+1)→BX r A i j=cF (r+1) A i:=by
  intro j AD hj
  rw [adi r A i (by omega)]
  rcases hj with rfl|rfl
  ·rfl
  ·unfold BX
   refine (KT (by omega) (fun l h1 h2=>?_)).symm
   rw [show cF r A l=0 from tN _ _ l (by omega)];simp
 have nx:∀ j,j≤i+1→(j=i+1∨j=r+1)→∀ M:Nat→Int,(∀ m,m < i→fc (M m) (cF (r+1) A m))→fc (M i) (BX r A i j)→(∀ m,i < m→M m=0)→(∀ m,-9223372036854775808≤M m∧M m≤9223372036854775807)→Ev (fun k=>bx.l5 k (ck n A) (dY (r+1) c) r (dY (r+2) T) (dY (r+2) M) ((i:Int)+1)) R:=by
  intro j AD hj M h1 h2 h3 h4
  refine next M (fun m hm=>?_) h3 h4
  by_cases e:m=i
  ·subst e;rw [← fin j AD hj];exact h2
  ·exact h1 m (by omega)
 intro d
 induction d with
 | zero =>
  intro j hd AD hj2 M h1 h2 h3 h4
  obtain rfl:j=r+1:=by omega
  refine Ev.step (fun q=>by simp only [bx.l6];rfl) ?_
  simp only [kM,Int.lt_irrefl,if_false,wI ((i:Int)+1) (by omega)]
  exact nx _ AD (Or.inr rfl) M h1 h2 h3 h4
 | succ d ih =>
  intro j hd AD hj2 M h1 h2 h3 h4
  have C8:j < r+1:=by omega
  refine Ev.step (fun q=>by simp only [bx.l6];rfl) ?_
  by_cases hji:j≤i
  ·simp only [kM, show ((j : Int) < ((r + 1 : Nat) : Int)) by omega, show ((j : Int) ≤ (i : Int)) by omega, fA i, show ((i : Int) < ((r + 2 : Nat) : Int)) by omega, fA j, if_true, show (i : Int) - (j : Int) = ((i - j : Nat) : Int) by omega, nc (show -9223372036854775808 ≤ ((i - j : Nat) : Int) by omega) (by omega), show (0 : Int) ≤ ((i - j : Nat) : Int) by omega, show ((i - j : Nat) : Int) < ((r + 2 : Nat) : Int) by omega, nI hi, nI C8, nI (show i - j < r + 2 by omega), Int.toNat_natCast, wI ((j : Int) + 1) (by omega)]
   rw [Gn]
   have h:=ih (j+1) (by omega) (by omega) (by omega) (fun m=>if m=i then wrap64 (M i+wrap64 (T (i - j) * c j)) else M m) (fun m hm=>by simp only [if_neg (show m ≠ i by omega)];exact h1 m hm) (by
    simp only [if_true]
    show fc _ (BX r A i j+qL r A (i - j) * cF r A j)
    exact p9 (qE _) (Al h2 (p9 (qE _) (Cc (hT _ (by omega)) (hc _ (by omega)))))) (fun m hm=>by simp only [if_neg (show m ≠ i by omega)];exact h3 m hm) (fun m=>by
    by_cases e:m=i
    ·simp only [if_pos e];exact aqc _
    ·simp only [if_neg e];exact h4 m)
   rw [show ((j+1:Nat):Int)=(j:Int)+1 by omega] at h
   exact h
  ·simp only [kM, show ((j : Int) < ((r + 1 : Nat) : Int)) by omega, show ¬ ((j : Int) ≤ (i : Int)) by omega, if_true, if_false, wI ((i : Int) + 1) (by omega)]
   exact nx j AD (Or.inl (by omega)) M h1 h2 h3 h4
theorem Xg (n : Nat) (hn : n ≤ 1048575) (A : Nat → Nat → Int) (r : Nat) (hr : r < n) (c T : Nat → Int) (hT : ∀ j, j < r + 2 → fc (T j) (qL r A j)) (hc : ∀ l, l ≤ r → fc (c l) (cF r A l)) (R : List Int)
  (next:∀ M:Nat→Int,(∀ m,m≤r+1→fc (M m) (cF (r+1) A m))→(∀ m,-9223372036854775808≤M m∧M m≤9223372036854775807)→Ev (fun k=>bx.l0 k (ck n A) (dY (r+2) M) ((r:Int)+1)) R) :
  ∀ (d i:Nat),r+2 - i=d→i≤r+2→∀ M:Nat→Int,(∀ m,m < i→fc (M m) (cF (r+1) A m))→(∀ m,i≤m→M m=0)→(∀ m,-9223372036854775808≤M m∧M m≤9223372036854775807)→Ev (fun k=>bx.l5 k (ck n A) (dY (r+1) c) r (dY (r+2) T) (dY (r+2) M) i) R:=by
 intro d
 induction d with
 | zero =>
  intro i hd hi M h1 h3 h4
  obtain rfl:i=r+2:=by omega
  refine Ev.step (fun q=>by simp only [bx.l5];rfl) ?_
  simp only [kM,Int.lt_irrefl,if_false,wI ((r:Int)+1) (by omega)]
  exact next M (fun m hm=>h1 m (by omega)) h4
 | succ d ih =>
  intro i hd hi M h1 h3 h4
  have C7:i < r+2:=by omega
  refine Ev.step (fun q=>by simp only [bx.l5];rfl) ?_
  simp only [kM,show ((i:Int) < ((r+2:Nat):Int)) by omega,if_true]
  refine Xh n hn A r i hr C7 c T hT hc R (fun M' g1 g3 g4=>?_) (r+1) 0 (by omega) (by omega) (by omega) M h1 (by rw [h3 i (by omega)];exact o8 _) (fun m hm=>h3 m (by omega)) h4
  have h:=ih (i+1) (by omega) (by omega) M' (fun m hm=>g1 m (by omega)) (fun m hm=>g3 m (by omega)) g4
  rw [show ((i+1:Nat):Int)=(i:Int)+1 by omega] at h
  exact h
theorem Xb (n : Nat) (hn : n ≤ 1048574) (A : Nat → Nat → Int) : ∀ (d r : Nat), n - r = d → r ≤ n → ∀ c : Nat → Int, (∀ l, l ≤ r → fc (c l) (cF r A l)) → (∀ m, -9223372036854775808 ≤ c m ∧ c m ≤ 9223372036854775807) →
  Ev (fun k=>bx.l0 k (ck n A) (dY (r+1) c) r) (jl (dY (n+1) (fun l=>wrap64 (cF n A l))) (n+1)):=by
 intro d
 induction d with
 | zero =>
  intro r hd hr c hc hw
  obtain rfl:r=n:=by omega
  refine Ev.step (fun q=>by simp only [bx.l0];rfl) ?_
  simp only [aom,Int.lt_irrefl,if_false]
  refine Ev.bind (a:=jl (dY (r+1) (fun l=>wrap64 (cF r A l))) (r+1)) ?_ (Ev.now _)
  have h:=ac2 (dY (r+1) c) (by rw [kM];omega)
  rw [kM] at h
  rw [show dY (r+1) (fun l=>wrap64 (cF r A l))=dY (r+1) c from apD fun l hl=>(aqb (Yy (hc l (by omega))) (hw l))]
  exact h
 | succ d ih =>
  intro r hd hr c hc hw
  have Dn:r < n:=by omega
  refine Ev.step (fun q=>by simp only [bx.l0];rfl) ?_
  simp only [aom,lI r n (by omega),fA r,if_true,m_ Dn,kM,nI Dn]
  refine Xc n (by omega) A _ _ r Dn _ ?_ r 0 (by omega) (by omega)
  have h:=Xd n (by omega) A (dY (r+1) c) r Dn (jl (dY (n+1) (fun l=>wrap64 (cF n A l))) (n+1)) (fun T hT=>?_) r 0 (by omega) (by omega) (fun j=>if j=0 then 1 else wrap64 (-A r r)) (fun i=>A i r) (fun j hj=>by
   by_cases e:j=0
   ·subst e;simp only [if_true];exact o8 _
   ·obtain rfl : j = 1 := by omega
    simp only [if_neg (show ¬ (1=0) by omega)]
    exact qE _) (fun i _=>o8 _)
  ·exact h
  ·refine Xg n (by omega) A r Dn c T hT hc _ (fun M g1 g4 => ?_) (r + 2) 0 (by omega) (by omega) (fun _ => 0) (fun m hm => by omega) (fun _ _ => rfl) (fun _ => by omega)
   have h:=ih (r+1) (by omega) (by omega) M (fun l hl=>g1 l hl) g4
   rw [show ((r+1:Nat):Int)=(r:Int)+1 by omega] at h
   exact h
theorem Xi (n:Nat) (hn:n≤1048574) (A:Nat→Nat→Int):Ev (fun k=>bx.f k (ck n A)) (jl (dY (n+1) (fun l=>wrap64 (cF n A l))) (n+1)):=by
 unfold bx.f
 exact Xb n hn A n 0 (by omega) (by omega) (fun _=>1) (fun l hl=>by
  obtain rfl:l=0:=by omega
  rw [FW];exact o8 _) (fun _=>by omega)
theorem aeL (n j:Nat):anI n (cz j)≤1:=by
 by_cases h:j < n
 ·rw [wF j h (fun i _ hne=>wE hne),DG];omega
 ·rw [lH (fun i hi=>wE (by omega))];omega
theorem aeM {n:Nat} {f:Nat→Int} (h0:∀ a,a < n→0≤f a) (h1:∀ a,a < n→f a≤1) (h:∀ a b,a < b→b < n→f a=0∨f b=0):anI n f≤1:=by
 induction n with
 | zero=>simp [anI]
 | succ n ih =>
  simp only [anI]
  by_cases e:f n=0
  ·have:=ih (fun a ha=>h0 a (by omega)) (fun a ha=>h1 a (by omega)) (fun a b ha hb=>h a b ha (by omega));omega
  ·rw [lH (fun i hi => (h i n hi (by omega)).resolve_right e)]
   have:=h1 n (by omega);omega
theorem O6 (n:Nat) (A:Nat→Nat→Int) (k:Nat) (h:k≤n):rd (nZ n A) k=cF n A k:=O7 _ _ _ (by omega)
theorem Tw {x p:Int} (h:0≤x):Int.tmod x p=x % p:=Int.tmod_eq_emod_of_nonneg h
theorem acM (n:Nat) (x:Int):anI n (fun v=>if x=(v:Int) then 1 else 0)≤1 :=
 aeM (fun a _=>by split<;>omega) (fun a _=>by split<;>omega) (fun a b ha hb=>by
  by_cases h:x=(a:Int)
  ·exact .inr (by rw [if_neg (by omega)])
  ·exact .inl (by rw [if_neg h]))
theorem afj (n:Nat) (X:Nat→Nat→Int) (u:Int):cn n (F5 u X)=fO n (cF n X) u:=by
 have h:=wD (n:=n) (fun a b=>cz a b) (iX X) u
 unfold cF
 rw [← h]
 refine mC (fun a b _ _=>?_)
 unfold F5 iX
 rw [Int.mul_neg]
 omega
theorem W5 (X:Int):0≤Go.bits .and .u64 X 1073741823∧Go.bits .and .u64 X 1073741823≤1073741823:=by
 have h:(BitVec.ofInt 64 X &&& BitVec.ofInt 64 1073741823).toNat≤1073741823:=by
  rw [BitVec.toNat_and]
  exact Nat.and_le_right
 have e:Go.bits .and .u64 X 1073741823=IntKind.u64.wrap ((BitVec.ofInt 64 X &&& BitVec.ofInt 64 1073741823).toNat:Int):=rfl
 rw [e,IntKind.wrap_u64]
 omega
/-- What the code of a draw holds: bytes. -/
def r8 (s:List Int):Prop:=s.length≤maxLen∧∀ x ∈ s,0≤x∧x≤255
theorem pL {s:List Int} (hs:r8 s) (t h n:Int) (ht:0≤t∧t≤s.length):∃ x t' h',dn.f s t h n=some (x,t',h')∧(0≤t'∧t'≤s.length)∧(n < 1→x=0)∧(1≤n→0≤x∧x < n):=by
 have hm:s.length≤9223372036854775807:=hs.1
 unfold dn.f
 by_cases h1:n < 1
 ·rw [if_pos h1]
  exact ⟨0,t,h,rfl,ht,fun _=>rfl,fun h2=>by omega⟩
 ·rw [if_neg h1]
  generalize (IntKind.u64.wrap ((IntKind.u64.wrap (h * 6364136223846793005))+1442695040888963407))=h'
  obtain ⟨a0,a1⟩:=W5 (h' / 2147483648)
  generalize Go.bits .and .u64 (h' / 2147483648) 1073741823=y at a0 a1 ⊢
  rw [nc (n:=y) (by omega) (by omega)]
  by_cases h2:t < (s.length:Int)
  ·obtain ⟨i, rfl⟩ : ∃ i : Nat, t = i := ⟨t.toNat, by omega⟩
   have hi:i < s.length:=by omega
   have hb:=hs.2 s[i] (List.getElem_mem hi)
   rw [if_pos h2,if_pos ht.1,if_neg (by omega),mD s i hi,nc (n:=s[i]) (by omega) (by omega),nc (n:=y+s[i]) (by omega) (by omega),nc (n:=(i:Int)+1) (by omega) (by omega),Tw (by omega)]
   exact ⟨_,_,_,rfl,⟨by omega,by omega⟩,fun h3=>absurd h3 h1,fun h3=>⟨Int.emod_nonneg _ (by omega),Int.emod_lt_of_pos _ (by omega)⟩⟩
  ·rw [if_neg h2, if_neg (by omega), Tw a0]
   exact ⟨_,_,_,rfl,ht,fun h3=>absurd h3 h1,fun h3=>⟨Int.emod_nonneg _ (by omega),Int.emod_lt_of_pos _ (by omega)⟩⟩
theorem La {s:List Int} (hs:r8 s) (t h:Int) (l:List Int) (hl:0 < l.length) (ht:0≤t∧t≤s.length):∃ x t' h',kR.f s t h l=some (x,t',h')∧(0≤t'∧t'≤s.length)∧x ∈ l:=by
 obtain ⟨x,t',h',e,h1,_,h2⟩:=pL hs t h (l.length:Int) ht
 have h2:=h2 (by omega)
 obtain ⟨i,rfl⟩:∃ i:Nat,x=i:=⟨x.toNat,by omega⟩
 unfold kR.f
 rw [e,Option.bind_some]
 simp only [h2.1,h2.2,if_true]
 refine ⟨_,_,_,rfl,h1,?_⟩
 rw [mD l i (by omega)]
 exact List.getElem_mem _
/-- A drawn graph: few edges, short rows. -/
def qG (m r:Nat) (l:List (List Int)):Prop:=l.length≤m∧∀ x ∈ l,x.length≤r
theorem E5 {m r:Nat} {l:List (List Int)} (h:qG m r l) (hl:l.length < m) (x:List Int) (hx:x.length≤r):qG m r (l ++ [x]) :=
 ⟨by rw [List.length_append];show _+1≤_;omega,fun y hy=>by
  rcases List.mem_append.1 hy with hy|hy
  ·exact h.2 y hy
  ·rw [List.mem_singleton.1 hy];exact hx⟩
theorem Y0 {l:List (List Int)} (h:qG 11 3 l):l.length≤1048576∧∀ x ∈ l,x.length≤1048576:=⟨Nat.le_trans h.1 (by decide),fun x hx=>Nat.le_trans (h.2 x hx) (by decide)⟩
theorem YZ {l:List (List Int)} (h:qG 10 2 l):qG 11 3 l:=⟨Nat.le_trans h.1 (by decide),fun x hx=>Nat.le_trans (h.2 x hx) (by decide)⟩
/-- What a draw of a graph answers. -/
def kf (m r:Nat) (s:List Int) (f:Nat→Option (Int × (List (List Int)) × Int × Int)):Prop:=∃ (a:Int) (l:List (List Int)) (t h:Int),Ev f (a,l,t,h)∧qG m r l∧0≤t∧t≤s.length
theorem kf.aoS {m r:Nat} {s:List Int} {g f:Nat→Option (Int × (List (List Int)) × Int × Int)} (h:∀ k,g (k+1)=f k) (H:kf m r s f):kf m r s g:=by
 obtain ⟨a,l,t,h',e,r⟩:=H
 exact ⟨a,l,t,h',Ev.step h e,r⟩
theorem Pa {s:List Int} (hs:r8 s) (size kE:Int) (h1:1≤size∧size≤8) (he:0≤kE∧kE≤10) (a:Int):∀ (d:Nat) (c t h:Int) (l:List (List Int)),c≤d→0≤c→c≤10→qG 10 2 l→l.length≤10→0≤t∧t≤s.length→kf 10 2 s (fun k=>bV.l1 k size kE c s t h a l):=by
 intro d
 induction d with
 | zero =>
  intro c t h l hc hc0 _ hl mT ht
  refine kf.aoS (fun k=>by simp only [bV.l1];rfl) ?_
  simp only [show ¬ (c > 0) by omega,if_false]
  refine kf.aoS (fun k=>by simp only [bV.j3];rfl) ?_
  simp only [Bool.false_eq_true,if_false]
  exact ⟨a,l,t,h,Ev.now _,hl,ht⟩
 | succ d ih =>
  intro c t h l hc hc0 ahU hl mT ht
  have stop:kf 10 2 s (fun k=>bV.j3 k size kE c false s t h a l):=by
   refine kf.aoS (fun k=>by simp only [bV.j3];rfl) ?_
   simp only [Bool.false_eq_true,if_false]
   exact ⟨a,l,t,h,Ev.now _,hl,ht⟩
  refine kf.aoS (fun k=>by simp only [bV.l1];rfl) ?_
  by_cases jJ:c > 0
  ·simp only [jJ, if_true]
   by_cases hb:(l.length:Int) < kE
   ·simp only [hb, decide_true]
    refine kf.aoS (fun k=>by simp only [bV.j3];rfl) ?_
    obtain ⟨x,t1,g1,e1,b1,_,r1⟩:=pL hs t h size ht
    obtain ⟨y,t2,g2,e2,b2,_,r2⟩:=pL hs t1 g1 size b1
    have hcap:l.length < 5864062014805:=by omega
    have cont:∀ (z:List Int) (t' h':Int),z.length≤2→0≤t'∧t'≤s.length→kf 10 2 s (fun k=>bV.l1 k size kE (c - 1) s t' h' a (l ++ [z])):=fun z t' h' hz ht' =>
     ih (c - 1) t' h' (l ++ [z]) (by omega) (by omega) (by omega) (E5 hl (by omega) z hz) (by rw [List.length_append];show l.length+1≤10;omega) ht'
    simp only [e1,e2,Option.bind_some,hcap,if_true,wI (c - 1) (by omega)]
    by_cases hxy:x=y
    ·obtain ⟨q, t3, g3, e3, b3, _, r3⟩ := pL hs t2 g2 3 b2
     simp only [hxy,if_true,e3,Option.bind_some]
     by_cases hq:q > 0
     ·simp only [hq, if_true, show ¬ (size = 0) by omega, if_false]
      exact cont _ _ _ (by simp) b3
     ·simp only [hq, if_false]
      exact cont _ _ _ (by simp) b3
    ·simp only [hxy, if_false]
     exact cont _ _ _ (by simp) b2
   ·simp only [hb, decide_false]
    exact stop
  ·simp only [jJ, if_false]
   exact stop
theorem Y1 {s:List Int} (hs:r8 s) (size kE:Int) (h1:1≤size∧size≤8) (he:0≤kE∧kE≤10) (j:Bool) (a:Int):∀ (d:Nat) (v t h:Int) (l:List (List Int)),size - v≤d→1≤v→v≤9→qG 10 2 l→l.length≤10→0≤t∧t≤s.length→kf 10 2 s (fun k=>bV.l0 k size kE j v s t h a l):=by
 intro d
 induction d with
 | zero =>
  intro v t h l hv hv1 hv9 hl mT ht
  refine kf.aoS (fun k=>by simp only [bV.l0];rfl) ?_
  simp only [show ¬ (v < size) by omega,if_false]
  refine kf.aoS (fun k=>by simp only [bV.j1];rfl) ?_
  obtain ⟨x,t1,g1,e1,b1,z1,r1⟩:=pL hs t h (kE+1) ht
  simp only [Bool.false_eq_true,if_false,wI (kE+1) (by omega),e1,Option.bind_some]
  have hx:=r1 (by omega)
  exact Pa hs size kE h1 he a 10 x t1 g1 l (by omega) (by omega) (by omega) hl mT b1
 | succ d ih =>
  intro v t h l hv hv1 hv9 hl mT ht
  have stop:kf 10 2 s (fun k=>bV.j1 k size kE j v false s t h a l):=by
   refine kf.aoS (fun k=>by simp only [bV.j1];rfl) ?_
   obtain ⟨x,t1,g1,e1,b1,z1,r1⟩:=pL hs t h (kE+1) ht
   simp only [Bool.false_eq_true,if_false,wI (kE+1) (by omega),e1,Option.bind_some]
   have hx:=r1 (by omega)
   exact Pa hs size kE h1 he a 10 x t1 g1 l (by omega) (by omega) (by omega) hl mT b1
  refine kf.aoS (fun k=>by simp only [bV.l0];rfl) ?_
  by_cases hc:v < size
  ·simp only [hc, if_true]
   cases j with
   | false=>simp only [Bool.false_eq_true,if_false];exact stop
   | true =>
    simp only [if_true]
    by_cases hb:(l.length:Int) < kE
    ·simp only [hb, decide_true]
     refine kf.aoS (fun k=>by simp only [bV.j1];rfl) ?_
     obtain ⟨x,t1,g1,e1,b1,_,r1⟩:=pL hs t h v ht
     obtain ⟨y,t2,g2,e2,b2,_,r2⟩:=pL hs t1 g1 2 b1
     have hcap:l.length < 5864062014805:=by omega
     have cont:∀ (z:List Int),z.length≤2→kf 10 2 s (fun k=>bV.l0 k size kE true (v+1) s t2 g2 a (l ++ [z])):=fun z hz =>
      ih (v+1) t2 g2 (l ++ [z]) (by omega) (by omega) (by omega) (E5 hl (by omega) z hz) (by rw [List.length_append];show l.length+1≤10;omega) b2
     simp only [e1,e2,Option.bind_some,hcap,if_true,wI (v+1) (by omega)]
     by_cases hy:y=0
     ·simp only [hy,if_true];exact cont _ (by simp)
     ·simp only [hy,if_false];exact cont _ (by simp)
    ·simp only [hb,decide_false];exact stop
  ·simp only [hc,if_false];exact stop
theorem O_ {s:List Int} (hs:r8 s) (size kE t h:Int) (h1:1≤size∧size≤8) (he:0≤kE∧kE≤10) (ht:0≤t∧t≤s.length):kf 10 2 s (fun k=>bV.f k s t h size kE):=by
 obtain ⟨x,t1,g1,e1,b1,_,_⟩:=pL hs t h 3 ht
 unfold bV.f
 simp only [e1,Option.bind_some]
 exact Y1 hs size kE h1 he _ size 8 1 t1 g1 [] (by omega) (by omega) (by omega) ⟨by simp,fun x hx=>by cases hx⟩ (by simp) b1
def DK:List ByteArray:=(vE.f).getD []
theorem adV:vE.f=some DK:=rfl
theorem adW:DK.length=14:=by kernel_rfl
theorem adT:((List.range 14).all fun i:Nat=>match ng.f 64 (eB ByteArray.empty DK (i:Int)) with|some r=>decide (r.2.1.length≤10) && r.2.1.all (fun x=>decide (x.length≤2))|none=>false)=true:=by kernel_rfl
theorem adU (i:Nat) (hi:i < 14):∃ (a:Int) (l:List (List Int)) (b:Bool),Ev (fun k=>ng.f k (eB ByteArray.empty DK (i:Int))) (a,l,b)∧qG 10 2 l:=by
 have h:=List.all_eq_true.1 adT i (List.mem_range.2 hi)
 cases e:ng.f 64 (eB ByteArray.empty DK (i:Int)) with
 | none=>rw [e] at h;cases h
 | some r =>
  rw [e] at h
  simp only [Bool.and_eq_true,decide_eq_true_eq,List.all_eq_true] at h
  exact ⟨r.1,r.2.1,r.2.2,Ev.of (fun k=>ng.mono _ k) e,⟨h.1,h.2⟩⟩
theorem Y2 {s:List Int} (hs:r8 s) (t h:Int) (ht:0≤t∧t≤s.length):∃ (a:Int) (l:List (List Int)) (t' h':Int),Ev (fun k=>qx.f k s t h) (a,l,t',h')∧qG 10 2 l∧0≤t'∧t'≤s.length:=by
 obtain ⟨x,t1,g1,e1,b1,_,_⟩:=pL hs t h 4 ht
 unfold qx.f
 by_cases hx:x=0
 ·obtain ⟨i, t2, g2, e2, b2, _, r2⟩ := pL hs t1 g1 14 b1
  have r2:=r2 (by omega)
  obtain ⟨q,rfl⟩:∃ q:Nat,i=q:=⟨i.toNat,by omega⟩
  obtain ⟨a,l,b,en,hl⟩:=adU q (by omega)
  refine ⟨a,l,t2,g2,?_,hl,b2⟩
  simp only [e1,Option.bind_some,hx,if_true,adV,adW,show ((14:Nat):Int)=14 from rfl,e2,r2.1,r2.2]
  exact Ev.bind en (Ev.now _)
 ·obtain ⟨y, t2, g2, e2, b2, _, r2⟩ := pL hs t1 g1 8 b1
  have r2:=r2 (by omega)
  have hw:wrap64 (1+y)=1+y:=nc (by omega) (by omega)
  obtain ⟨z,t3,g3,e3,b3,r3⟩:=La hs t2 g2 [1,2,3,3,4,4,5,6,wrap64 (1+y)] (by simp) b2
  obtain ⟨m,t4,g4,e4,b4,r4⟩:=La hs t3 g3 [2,4,6,6,8,10] (by simp) b3
  have hz:1≤z∧z≤8:=by
   rw [hw] at r3
   simp only [List.mem_cons,List.not_mem_nil,or_false] at r3
   omega
  have hm:0≤m∧m≤10:=by
   simp only [List.mem_cons,List.not_mem_nil,or_false] at r4
   omega
  obtain ⟨a,l,t5,g5,ed,hl,b5⟩:=O_ hs z m t4 g4 hz hm b4
  refine ⟨a,l,t5,g5,?_,hl,b5⟩
  simp only [e1,Option.bind_some,hx,if_false,e2,e3,e4]
  exact Ev.bind ed (Ev.now _)
theorem W9 (s:List Int) (t h a:Int) (ht:0≤t∧t≤s.length):∀ (d:Nat) (l:List (List Int)),11 - l.length≤d→qG 11 3 l→kf 11 3 s (fun k=>fQ.l0 k s t h a l):=by
 intro d
 induction d with
 | zero =>
  intro l hd hl
  refine kf.aoS (fun k=>by simp only [fQ.l0];rfl) ?_
  simp only [show ¬ ((l.length:Int)≤10) by omega,if_false]
  exact ⟨a,l,t,h,Ev.now _,hl,ht⟩
 | succ d ih =>
  intro l hd hl
  refine kf.aoS (fun k=>by simp only [fQ.l0];rfl) ?_
  by_cases hc:(l.length:Int)≤10
  ·simp only [hc, if_true, show l.length < 5864062014805 by omega]
   exact ih _ (by rw [List.length_append];show 11 - (l.length+1)≤d;omega) (E5 hl (by omega) _ (by simp))
  ·simp only [hc, if_false]
   exact ⟨a,l,t,h,Ev.now _,hl,ht⟩
theorem W8 {s:List Int} (hs:r8 s) (t h a:Int) (l:List (List Int)) (hl:qG 10 2 l) (ht:0≤t∧t≤s.length):kf 11 3 s (fun k=>fQ.f k s t h a l):=by
 have hd:qG 11 3 l:=YZ hl
 have hl1:=hl.1
 obtain ⟨x,t1,g1,e1,b1,_,r1⟩:=pL hs t h 40 ht
 obtain ⟨c1,c2⟩:=Y0 hd
 unfold fQ.f
 simp only [e1,Option.bind_some]
 by_cases h0:x=0
 ·obtain ⟨z, t2, g2, e2, b2, _⟩ := La hs t1 g1 [0, 9, wrap64 (a - 1)] (by simp) b1
  simp only [h0,if_true,e2,Option.bind_some]
  exact ⟨_,_,_,_,Ev.now _,hd,b2⟩
 ·simp only [h0, if_false]
  by_cases h1:x=1
  ·simp only [h1, if_true]
   refine ⟨a,l ++ [[0,a]],t1,g1,Ev.bind (FV a l c1 c2) ?_,E5 hd (by omega) _ (by simp),b1⟩
   simp only [show l.length < 5864062014805 by omega,if_true]
   exact Ev.now _
  ·simp only [h1, if_false]
   by_cases h2:x=2
   ·simp only [h2, if_true]
    by_cases hn:(l.length:Int) > 0
    ·obtain ⟨i, t2, g2, e2, b2, _, r2⟩ := pL hs t1 g1 (l.length : Int) b1
     have r2:=r2 (by omega)
     obtain ⟨q,rfl⟩:∃ q:Nat,i=q:=⟨i.toNat,by omega⟩
     have hq:q < l.length:=by omega
     have hx:=hl.2 l[q] (List.getElem_mem hq)
     refine ⟨a,l.set q (ai l (q:Int) ++ [0]),t2,g2,Ev.bind (FV a l c1 c2) ?_,⟨by rw [List.length_set];omega,fun y hy=>?_⟩,b2⟩
     ·simp only [hn, if_true, e2, Option.bind_some, r2.1, r2.2, show (ai l (q : Int)).length < 17592186044416 by rw [kL l q hq]; omega, Int.toNat_natCast]
      exact Ev.now _
     ·rcases List.mem_or_eq_of_mem_set hy with hy | hy
      ·exact hd.2 y hy
      ·rw [hy,List.length_append,kL l q hq];show _+1≤3;omega
    ·refine ⟨a, l, t1, g1, Ev.bind (FV a l c1 c2) ?_, hd, b1⟩
     simp only [hn,if_false]
     exact Ev.now _
   ·simp only [h2, if_false]
    by_cases h3:x=3
    ·simp only [h3, if_true]
     obtain ⟨a',l',t2,g2,e2,hl',b2⟩:=W9 s t1 g1 a b1 11 l (by omega) hd
     exact ⟨a',l',t2,g2,Ev.bind (FV a l c1 c2) e2,hl',b2⟩
    ·simp only [h3, if_false]
     exact ⟨a,l,t1,g1,Ev.now _,hd,b1⟩
theorem ZU (s z:List Int):∀ (d i:Nat) (t h:Int),s.length - i=d→i≤s.length→s.length≤maxLen→∃ h',Ev (fun k=>eT.l0 k s i z t h) (z,t,h'):=by
 intro d
 induction d with
 | zero =>
  intro i t h hd hi _
  refine ⟨h,Ev.step (fun k=>by simp only [eT.l0];rfl) ?_⟩
  simp only [show ¬ ((i:Int) < (s.length:Int)) by omega,if_false]
  exact Ev.now _
 | succ d ih =>
  intro i t h hd hi hm
  by_cases h4:(i:Int) < 4096
  ·obtain ⟨h', e⟩ := ih (i + 1) t (IntKind.u64.wrap ((IntKind.u64.wrap ((IntKind.u64.wrap (h * 1099511628211)) + (IntKind.u64.wrap (rd s (i : Int))))) + 109)) (by omega) (by omega) hm
   refine ⟨h',Ev.step (fun k=>by simp only [eT.l0];rfl) ?_⟩
   rw [show ((i+1:Nat):Int)=(i:Int)+1 by omega] at e
   simp only [show ((i:Int) < (s.length:Int)) by omega,if_true,h4,fA i,wI ((i:Int)+1) (by omega)]
   exact e
  ·refine ⟨h, Ev.step (fun k => by simp only [eT.l0]; rfl) ?_⟩
   simp only [show ((i:Int) < (s.length:Int)) by omega,if_true,h4,if_false]
   exact Ev.now _
theorem Pt {s:List Int} (hs:r8 s):∃ h,Ev (fun k=>eT.f k s) (s,0,h):=by
 unfold eT.f
 exact ZU s s s.length 0 0 _ (by omega) (by omega) hs.1
theorem Tt {s:List Int} (hs:r8 s) (t h:Int) (ht:0≤t∧t≤s.length):kf 11 3 s (fun k=>jO.f k s t h):=by
 obtain ⟨a,l,t1,h1,e1,d1,b1⟩:=Y2 hs t h ht
 obtain ⟨a2,l2,t2,h2,e2,d2,b2⟩:=W8 hs t1 h1 a l d1 b1
 exact ⟨a2,l2,t2,h2,Ev.bind e1 (Ev.bind e2 (Ev.now _)),d2,b2⟩
theorem adM (l:List Int) (hl:l.length≤1048576):∀ (d i:Nat),l.length - i=d→i≤l.length→Ev (fun k=>ef.l0 k l l i) true:=by
 intro d
 induction d with
 | zero =>
  intro i hd hi
  refine Ev.step (fun k=>by simp only [ef.l0];rfl) ?_
  simp only [show ¬ ((i:Int) < (l.length:Int)) by omega,if_false]
  exact Ev.now _
 | succ d ih =>
  intro i hd hi
  refine Ev.step (fun k=>by simp only [ef.l0];rfl) ?_
  simp only [show ((i:Int) < (l.length:Int)) by omega,fA i,if_true,wI ((i:Int)+1) (by omega)]
  exact ih (i+1) (by omega) (by omega)
theorem F8 (l:List Int) (hl:l.length≤1048576):Ev (fun k=>ef.f k l l) true:=by
 unfold ef.f
 simp only [if_true]
 exact adM l hl l.length 0 (by omega) (by omega)
theorem Xv {s:List Int} (hm:s.length≤maxLen) (hb:∀ x ∈ s,(Lit.int .u8 x).wf=true):r8 s:=⟨hm,fun x hx=>by
 have h:=hb x hx
 simp [Lit.wf,IntKind.min,IntKind.max,IntKind.signed,IntKind.bits] at h
 omega⟩
/-- Rows that stay, added to rows that none takes. -/
theorem YV {n:Nat} (M X:Nat→Nat→Int) (hX:∀ a l,a < n→l < n→X a l ≠ 0→∀ r,r < n→X l r=0):∀ j,j≤n→cn n (fun a b=>M a b+anI j (fun l=>X a l * M l b))=cn n M:=by
 intro j
 induction j with
 | zero =>
  intro _
  exact mC fun a b _ _=>by show M a b+0=M a b;omega
 | succ j ih =>
  intro hj
  have hjj:X j j=0:=by
   by_cases h:X j j=0
   ·exact h
   ·exact hX j j (by omega) (by omega) h j (by omega)
  rw [← ih (by omega),← adu (fun a b=>M a b+anI j (fun l=>X a l * M l b)) j (by omega) (fun a=>X a j) hjj]
  refine mC fun a b ha hb=>?_
  show M a b+(anI j (fun l=>X a l * M l b)+X a j * M j b)=M a b+anI j (fun l=>X a l * M l b)+X a j * (M j b+anI j (fun l=>X j l * M l b))
  by_cases h:X a j=0
  ·rw [h,Int.zero_mul,Int.zero_mul];omega
  ·rw [lH (f := fun l => X j l * M l b) (fun l hl => by rw [hX a j ha (by omega) h l (by omega), Int.zero_mul]), Int.add_zero]
   omega
theorem aed (n:Nat) (f:Nat→Int):gA (n+1) f=gA n f * f n:=rfl
theorem aec (n:Nat) (K:Int):gA n (fun _=>K)=K ^ n:=by
 induction n with
 | zero=>rw [Int.pow_zero];rfl
 | succ n ih=>rw [aed,ih,Int.pow_succ]
/-- What a matrix's coefficients come to, all together, behind operations on rows. -/
theorem YS {n : Nat} (A X : Nat → Nat → Int) (hX : ∀ a l, a < n → l < n → X a l ≠ 0 → ∀ r, r < n → X l r = 0) (w : Nat → Int)
  (hw:∀ a,a < n→anI n (fun b=>ek (cz a b+anI n (fun l=>X a l * cz l b))+ek (A a b+anI n (fun l=>X a l * A l b)))≤w a) :
  anI (n+1) (fun k=>ek (cF n A k))≤gA n w:=by
 have hdc:∀ k,k≤n→cF n A k=fE n (fun a b=>cz a b+anI n (fun l=>X a l * cz l b)) (fun a b=>-(A a b+anI n (fun l=>X a l * A l b))) k:=by
  intro k hk
  refine F1 (n:=n) (fun u _=>?_) k hk
  rw [← afj,← wD,← YV (F5 u A) X hX n (Nat.le_refl _)]
  refine mC fun a b _ _=>?_
  unfold F5
  rw [show (fun l=>X a l * (cz l b - u * A l b))=fun l=>X a l * cz l b - u * (X a l * A l b) from by
   funext l
   rw [Int.mul_sub,← Int.mul_assoc,Int.mul_comm (X a l) u,Int.mul_assoc],KU,jE,Int.mul_neg,Int.mul_add]
  omega
 rw [fy (g:=fun k=>ek (fE n (fun a b=>cz a b+anI n (fun l=>X a l * cz l b)) (fun a b=>-(A a b+anI n (fun l=>X a l * A l b))) k)) (fun k hk=>by rw [hdc k (by omega)])]
 refine Int.le_trans (adj _ _) (SJ (fun a _=>SM fun b _=>?_) (fun a ha=>?_))
 ·have h1 := uT (cz a b + anI n (fun l => X a l * cz l b))
  have h2:=uT (-(A a b+anI n (fun l=>X a l * A l b)))
  omega
 ·refine Int.le_trans (AV fun b _ => ?_) (hw a ha)
  rw [show ek (-(A a b+anI n (fun l=>X a l * A l b)))=ek (A a b+anI n (fun l=>X a l * A l b)) from by unfold ek;omega]
  exact Int.le_refl _
theorem WT (a b:Nat):ek (cz a b)=cz a b:=by unfold cz ek;split<;>rfl
theorem acT {n:Nat} {l:List (List Int)} (h1:1≤n) (h8:n≤8) (hl:l.length≤10) (hE:endsIn n l):gU (n:Int) l=true:=by
 unfold gU
 simp only [Bool.and_eq_true,decide_eq_true_eq,List.all_eq_true]
 refine ⟨by omega,by omega,hl,fun x hx=>?_⟩
 obtain ⟨i,hi,rfl⟩:=List.getElem_of_mem hx
 obtain ⟨h2,u,v,hu,hv,hun,om⟩:=hE i hi
 rw [kL l i hi] at h2 hu hv
 unfold aoC Au
 rw [hu,hv,wI ((n:Int) - 1) (by omega)]
 simp only [Bool.and_eq_true,decide_eq_true_eq]
 omega
/-! ### codes by orders, and the least one -/
def qD (A:List (List Int)) (o:List Int) (i m:Nat):List Int:=(List.range m).map fun j:Nat=>rd (ai A (rd o (i:Int))) (rd o (j:Int))
def kZ (A : List (List Int)) (o : List Int) : Nat → List Int
 | 0=>[(A.length:Int)]
 | i+1=>kZ A o i ++ qD A o i (i+1)
def gx (A:List (List Int)) (o:List Int):List Int:=kZ A o o.length
theorem Oz (A:List (List Int)) (o:List Int) (i m:Nat):qD A o i (m+1)=qD A o i m ++ [rd (ai A (rd o (i:Int))) (rd o (m:Int))]:=by
 unfold qD
 rw [List.range_succ,List.map_append]
 rfl
theorem Cb (A:List (List Int)) (o:List Int) (i m:Nat):(qD A o i m).length=m:=by unfold qD;rw [List.length_map,List.length_range]
theorem Ca (A:List (List Int)) (o p:List Int):∀ i,(kZ A o i).length=(kZ A p i).length∧(i≤8→(kZ A o i).length≤1+9 * i):=by
 intro i
 induction i with
 | zero=>exact ⟨rfl,fun _=>by simp [kZ]⟩
 | succ i ih =>
  unfold kZ
  rw [List.length_append,List.length_append,Cb,Cb,ih.1]
  refine ⟨rfl,fun h=>?_⟩
  have:=ih.2 (by omega)
  rw [ih.1] at this
  omega
/-- Rows of one length, and an order of their places. -/
def ao8 (A:List (List Int)) (o:List Int):Prop:=(∀ u:Nat,u < A.length→(ai A (u:Int)).length=A.length)∧(∀ i:Nat,i < o.length→∃ u:Nat,rd o (i:Int)=u∧u < A.length)∧o.length≤8
theorem ac5 {A:List (List Int)} {o:List Int} (h:ao8 A o) (i:Nat) (hi:i < o.length) (R:List Int) (next:Ev (fun k=>dx.l0 k A o (kZ A o (i+1)) ((i:Int)+1)) R):∀ (d j:Nat),i+1 - j=d→j≤i+1→Ev (fun k=>dx.l1 k A o (kZ A o i ++ qD A o i j) i j) R:=by
 obtain ⟨hA,ho,hl⟩:=h
 obtain ⟨u,hu,Ke⟩:=ho i hi
 intro d
 induction d with
 | zero =>
  intro j hd hj
  obtain rfl:j=i+1:=by omega
  refine Ev.step (fun k=>by simp only [dx.l1];rfl) ?_
  simp only [show ¬ (((i+1:Nat):Int)≤(i:Int)) by omega,if_false,wI ((i:Int)+1) (by omega)]
  exact next
 | succ d ih =>
  intro j hd hj
  obtain ⟨v,hv,hvl⟩:=ho j (by omega)
  have hn:=ih (j+1) (by omega) (by omega)
  have hlen:=(Ca A o o i).2 (by omega)
  rw [Oz,← List.append_assoc,show ((j+1:Nat):Int)=(j:Int)+1 by omega,hu,hv] at hn
  refine Ev.step (fun k=>by simp only [dx.l1];rfl) ?_
  simp only [show ((j:Int)≤(i:Int)) by omega,fA i,show ((i:Int) < (o.length:Int)) by omega,hu,fA u,show ((u:Int) < (A.length:Int)) by omega,fA j,show ((j:Int) < (o.length:Int)) by omega,hv,fA v,hA u Ke,show ((v:Int) < (A.length:Int)) by omega,show (kZ A o i ++ qD A o i j).length < 17592186044416 by (rw [List.length_append,Cb];omega),if_true,wI ((j:Int)+1) (by omega)]
  exact hn
theorem ac4 {A:List (List Int)} {o:List Int} (h:ao8 A o):∀ (d i:Nat),o.length - i=d→i≤o.length→Ev (fun k=>dx.l0 k A o (kZ A o i) i) (gx A o):=by
 intro d
 induction d with
 | zero =>
  intro i hd hi
  obtain rfl:i=o.length:=by omega
  refine Ev.step (fun k=>by simp only [dx.l0];rfl) ?_
  simp only [Int.lt_irrefl,if_false]
  exact Ev.now _
 | succ d ih =>
  intro i hd hi
  have hn:=ih (i+1) (by omega) (by omega)
  rw [show ((i+1:Nat):Int)=(i:Int)+1 by omega] at hn
  refine Ev.step (fun k=>by simp only [dx.l0];rfl) ?_
  simp only [show ((i:Int) < (o.length:Int)) by omega,if_true]
  have e:=ac5 h i (by omega) _ hn (i+1) 0 (by omega) (by omega)
  rw [show qD A o i 0=[] from rfl,List.append_nil] at e
  exact e
theorem KK {A:List (List Int)} {o:List Int} (h:ao8 A o):Ev (fun k=>dx.f k A o) (gx A o):=ac4 h o.length 0 (by omega) (by omega)
theorem YI {A:List (List Int)} {o:List Int} (h:ao8 A o) (i:Nat) (hi:i < o.length) (R:List Int) (next:Ev (fun k=>dD.l0 k o (kZ A o (i+1)) A o (o.length:Int) ((i:Int)+1)) R):∀ (d j:Nat),i+1 - j=d→j≤i+1→Ev (fun k=>dD.l1 k o (kZ A o i ++ qD A o i j) A (rd o (i:Int)) o (o.length:Int) i (o.take (i+1)) ((i+1:Nat):Int) j) R:=by
 obtain ⟨hA,ho,hl⟩:=h
 obtain ⟨u,hu,Ke⟩:=ho i hi
 have htl:(o.take (i+1)).length=i+1:=by rw [List.length_take];omega
 intro d
 induction d with
 | zero =>
  intro j hd hj
  obtain rfl:j=i+1:=by omega
  refine Ev.step (fun k=>by simp only [dD.l1];rfl) ?_
  simp only [Int.lt_irrefl,if_false,wI ((i:Int)+1) (by omega)]
  exact next
 | succ d ih =>
  intro j hd hj
  obtain ⟨v,hv,hvl⟩:=ho j (by omega)
  have hvt:rd (o.take (i+1)) (j:Int)=v:=by
   rw [mD _ j (by omega),List.getElem_take,← mD o j (by omega)]
   exact hv
  have hn:=ih (j+1) (by omega) (by omega)
  have hlen:=(Ca A o o i).2 (by omega)
  rw [Oz,← List.append_assoc,show ((j+1:Nat):Int)=(j:Int)+1 by omega,hu,hv] at hn
  rw [hu]
  refine Ev.step (fun k=>by simp only [dD.l1];rfl) ?_
  simp only [show ((j:Int) < ((i+1:Nat):Int)) by omega,fA j,htl,fA u,show ((u:Int) < (A.length:Int)) by omega,hvt,fA v,hA u Ke,show ((v:Int) < (A.length:Int)) by omega,show (kZ A o i ++ qD A o i j).length < 17592186044416 by (rw [List.length_append,Cb];omega),if_true,wI ((j:Int)+1) (by omega)]
  exact hn
theorem YH {A:List (List Int)} {o:List Int} (h:ao8 A o):∀ (d i:Nat),o.length - i=d→i≤o.length→Ev (fun k=>dD.l0 k o (kZ A o i) A o (o.length:Int) i) (gx A o):=by
 intro d
 induction d with
 | zero =>
  intro i hd hi
  obtain rfl:i=o.length:=by omega
  refine Ev.step (fun k=>by simp only [dD.l0];rfl) ?_
  simp only [Int.lt_irrefl,if_false]
  exact Ev.now _
 | succ d ih =>
  intro i hd hi
  have hl:=h.2.2
  have hn:=ih (i+1) (by omega) (by omega)
  rw [show ((i+1:Nat):Int)=(i:Int)+1 by omega] at hn
  have e:=YI h i (by omega) _ hn (i+1) 0 (by omega) (by omega)
  rw [show qD A o i 0=[] from rfl,List.append_nil] at e
  refine Ev.step (fun k=>by simp only [dD.l0];rfl) ?_
  simp only [show ((i:Int) < (o.length:Int)) by omega,fA i,wI ((i:Int)+1) (by omega),show (0:Int)≤(i:Int)+1 by omega,show ((i:Int)+1≤(o.length:Int)) by omega,show ((i:Int)+1).toNat=i+1 by omega,show ((o.take (i+1)).length:Int)=((i+1:Nat):Int) by (rw [List.length_take];omega),if_true]
  exact e
/-- Which of two lists comes first. -/
def lexB : List Int → List Int → Bool
 | [],_=>false
 | _ :: _,[]=>false
 | x :: a,y :: b=>if x=y then lexB a b else decide (x < y)
theorem SR:∀ a,lexB a a=false:=by
 intro a
 induction a with
 | nil=>rfl
 | cons x a ih=>unfold lexB;rw [if_pos rfl];exact ih
theorem adK:∀ a b:List Int,a.length=b.length→lexB a b=false→lexB b a=false→a=b:=by
 intro a
 induction a with
 | nil=>intro b h _ _;exact (List.eq_nil_of_length_eq_zero h.symm).symm
 | cons x a ih =>
  intro b h h1 h2
  cases b with
  | nil=>simp at h
  | cons y b =>
   unfold lexB at h1 h2
   by_cases e:x=y
   ·subst e
    rw [if_pos rfl] at h1 h2
    rw [ih b (by simpa using h) h1 h2]
   ·rw [if_neg e] at h1
    rw [if_neg (fun h=>e h.symm)] at h2
    have h1:=of_decide_eq_false h1
    have h2:=of_decide_eq_false h2
    omega
theorem adL:∀ a b c:List Int,lexB a b=true→lexB b c=true→lexB a c=true:=by
 intro a
 induction a with
 | nil=>intro b c h;simp [lexB] at h
 | cons x a ih =>
  intro b c h1 h2
  cases b with
  | nil=>simp [lexB] at h1
  | cons y b =>
   cases c with
   | nil=>simp [lexB] at h2
   | cons z c =>
    unfold lexB at h1 h2 ⊢
    by_cases e:x=y
    ·subst e
     rw [if_pos rfl] at h1
     by_cases e2:x=z
     ·subst e2
      rw [if_pos rfl] at h2 ⊢
      exact ih b c h1 h2
     ·rw [if_neg e2] at h2 ⊢;exact h2
    ·rw [if_neg e] at h1
     have h1:=of_decide_eq_true h1
     by_cases e2:y=z
     ·subst e2
      rw [if_neg e]
      exact decide_eq_true h1
     ·rw [if_neg e2] at h2
      have h2:=of_decide_eq_true h2
      rw [if_neg (by omega)]
      exact decide_eq_true (by omega)
theorem ac7 {a b:List Int} (h:a.length=b.length) (hl:a.length≤1048576):∀ (d i:Nat),a.length - i=d→i≤a.length→Ev (fun k=>iP.l0 k a b i) (lexB (a.drop i) (b.drop i)):=by
 intro d
 induction d with
 | zero =>
  intro i hd hi
  obtain rfl:i=a.length:=by omega
  refine Ev.step (fun k=>by simp only [iP.l0];rfl) ?_
  simp only [Int.lt_irrefl,if_false,List.drop_length]
  exact Ev.now _
 | succ d ih =>
  intro i hd hi
  have h1:i < a.length:=by omega
  have h2:i < b.length:=by omega
  have hn:=ih (i+1) (by omega) (by omega)
  refine Ev.step (fun k=>by simp only [iP.l0];rfl) ?_
  rw [List.drop_eq_getElem_cons h1,List.drop_eq_getElem_cons h2]
  unfold lexB
  simp only [show ((i:Int) < (a.length:Int)) by omega,fA i,show ((i:Int) < (b.length:Int)) by omega,mD a i h1,mD b i h2,if_true,wI ((i:Int)+1) (by omega)]
  by_cases e:a[i]=b[i]
  ·simp only [e,if_true];exact hn
  ·simp only [e,if_false];exact Ev.now _
theorem ac6 {a b:List Int} (h:a.length=b.length) (hl:a.length≤1048576):Ev (fun k=>iP.f k a b) (lexB a b):=ac7 h hl a.length 0 (by omega) (by omega)
/-- All orders. -/
def oI (x:Int) (o:List Int) (m:Nat):List (List Int):=(List.range m).map fun p=>o.take p ++ (x :: o.drop p)
def dK : Nat → List (List Int)
 | 0=>[[]]
 | k+1=>(dK k).flatMap fun o=>oI (k:Int) o (o.length+1)
theorem uV:∀ (n:Nat) (o:List Int),o ∈ dK n↔(o.length=n∧∀ x:Nat,x < n→(x:Int) ∈ o):=by
 intro n
 induction n with
 | zero =>
  intro o
  constructor
  ·intro h
   have e:o=[]:=by simpa [dK] using h
   subst e
   exact ⟨rfl,fun x hx=>absurd hx (by omega)⟩
  ·intro h
   rw [List.eq_nil_of_length_eq_zero h.1]
   exact List.mem_singleton.2 rfl
 | succ n ih =>
  intro o
  constructor
  ·intro h
   unfold dK oI at h
   rw [List.mem_flatMap] at h
   obtain ⟨p,hp,h2⟩:=h
   rw [List.mem_map] at h2
   obtain ⟨q,hq,rfl⟩:=h2
   have hq:=List.mem_range.1 hq
   obtain ⟨h3,h4⟩:=(ih p).1 hp
   refine ⟨by rw [List.length_append,List.length_cons,List.length_take,List.length_drop];omega,fun x hx=>?_⟩
   by_cases e:x=n
   ·rw [e];exact List.mem_append_right _ (List.mem_cons_self ..)
   ·have h5 := h4 x (by omega)
    rw [← List.take_append_drop q p] at h5
    rcases List.mem_append.1 h5 with h6|h6
    ·exact List.mem_append_left _ h6
    ·exact List.mem_append_right _ (List.mem_cons_of_mem _ h6)
  ·intro h
   obtain ⟨h1,h2⟩:=h
   obtain ⟨s,t,e⟩:=List.append_of_mem (h2 n (by omega))
   have h3:s ++ t ∈ dK n:=(ih _).2 ⟨by rw [e,List.length_append,List.length_cons] at h1;rw [List.length_append];omega,fun x hx=>by
    have h4:=h2 x (by omega)
    rw [e] at h4
    rcases List.mem_append.1 h4 with h5|h5
    ·exact List.mem_append_left _ h5
    ·rcases List.mem_cons.1 h5 with h6 | h6
     ·omega
     ·exact List.mem_append_right _ h6⟩
   unfold dK oI
   refine List.mem_flatMap.2 ⟨s ++ t,h3,List.mem_map.2 ⟨s.length,List.mem_range.2 (by rw [List.length_append];omega),?_⟩⟩
   rw [List.take_left,List.drop_left,e]
theorem KW (n:Nat) (o:List Int):o ∈ dK n↔ql n o=true:=by
 rw [uV]
 unfold ql
 simp only [Bool.and_eq_true,decide_eq_true_eq,List.all_eq_true,List.mem_range]
theorem KE (x:Int) (o:List Int) (m:Nat):(oI x o m).length=m:=by unfold oI;rw [List.length_map,List.length_range]
theorem Pp (f:List Int→List (List Int)) (m:Nat):∀ L:List (List Int),(∀ o ∈ L,(f o).length≤m)→(L.flatMap f).length≤L.length * m:=by
 intro L
 induction L with
 | nil=>intro _;simp
 | cons o L ih =>
  intro h
  rw [List.flatMap_cons,List.length_append,List.length_cons,Nat.succ_mul]
  have h1:=h o (List.mem_cons_self ..)
  have h2:=ih fun o ho=>h o (List.mem_cons_of_mem _ ho)
  omega
theorem ap_:∀ n,n≤6→(dK n).length≤8 ^ n:=by
 intro n
 induction n with
 | zero=>intro _;exact Nat.le_refl _
 | succ n ih =>
  intro hn
  unfold dK
  refine Nat.le_trans (Pp _ 8 _ fun o ho=>?_) ?_
  ·rw [KE,((uV n o).1 ho).1];omega
  ·rw [Nat.pow_succ];exact Nat.mul_le_mul_right _ (ih (by omega))
theorem S7 {n:Nat} (h:n≤6):8 ^ n≤262144:=Nat.le_trans (Nat.pow_le_pow_right (by decide) h) (by decide)
theorem ada (n : Int) (L : List (List Int)) (hL : L.length ≤ 262144) (k0 : Nat) (hk : k0 < 6) (B : List (List Int)) (hB : B.length ≤ 2097152) (i : Nat) (hi : i < L.length) (o : List Int) (ho : L[i] = o) (Dh : o.length = k0) (R : List (List Int))
  (next:Ev (fun k=>dr.l1 k n L k0 (B ++ oI (k0:Int) o (k0+1)) ((i:Int)+1)) R):∀ (d j:Nat),k0+1 - j=d→j≤k0+1→Ev (fun k=>dr.l2 k n L k0 (B ++ oI (k0:Int) o j) i j) R:=by
 have hrow:ai L (i:Int)=o:=by rw [kL L i hi];exact ho
 intro d
 induction d with
 | zero =>
  intro j hd hj
  obtain rfl:j=k0+1:=by omega
  refine Ev.step (fun k=>by simp only [dr.l2];rfl) ?_
  simp only [fA i,show ((i:Int) < (L.length:Int)) by omega,hrow,Dh,show ¬ (((k0+1:Nat):Int)≤(k0:Int)) by omega,if_true,if_false,wI ((i:Int)+1) (by omega)]
  exact next
 | succ d ih =>
  intro j hd hj
  have hn:=ih (j+1) (by omega) (by omega)
  rw [show oI (k0:Int) o (j+1)=oI (k0:Int) o j ++ [o.take j ++ ([(k0:Int)] ++ o.drop j)] from by unfold oI;rw [List.range_succ,List.map_append];rfl,← List.append_assoc,show ((j+1:Nat):Int)=(j:Int)+1 by omega] at hn
  have h1:([(k0:Int)]:List Int).length+(o.drop j).length < 17592186044416:=by rw [List.length_drop];simp;omega
  have h2:(o.take j).length+([(k0:Int)] ++ o.drop j).length < 17592186044416:=by rw [List.length_append,List.length_drop,List.length_take];simp;omega
  have h3:(B ++ oI (k0:Int) o j).length < 5864062014805:=by rw [List.length_append,KE];omega
  have h4:=LF (o.take j) (by rw [List.length_take];omega)
  refine Ev.step (fun k=>by simp only [dr.l2];rfl) ?_
  simp only [fA i,show ((i:Int) < (L.length:Int)) by omega,hrow,Dh,show ((j:Int)≤(k0:Int)) by omega,fA j,Int.toNat_natCast,Option.bind_some,h1,h2,h3,h4,if_true,wI ((j:Int)+1) (by omega)]
  exact hn
theorem ac_ (n:Int) (L:List (List Int)) (hL:L.length≤262144) (k0:Nat) (hk:k0 < 6) (hall:∀ o ∈ L,o.length=k0) (R:List (List Int)) (next:Ev (fun k=>dr.l0 k n (L.flatMap fun o=>oI (k0:Int) o (o.length+1)) ((k0:Int)+1)) R):∀ (d i:Nat),L.length - i=d→i≤L.length→Ev (fun k=>dr.l1 k n L k0 ((L.take i).flatMap fun o=>oI (k0:Int) o (o.length+1)) i) R:=by
 intro d
 induction d with
 | zero =>
  intro i hd hi
  obtain rfl:i=L.length:=by omega
  refine Ev.step (fun k=>by simp only [dr.l1];rfl) ?_
  simp only [Int.lt_irrefl,if_false,List.take_length,wI ((k0:Int)+1) (by omega)]
  exact next
 | succ d ih =>
  intro i hd hi
  have hil:i < L.length:=by omega
  have hn:=ih (i+1) (by omega) (by omega)
  have Dh:=hall L[i] (List.getElem_mem hil)
  rw [List.take_succ_eq_append_getElem hil,List.flatMap_append,List.flatMap_cons,List.flatMap_nil,List.append_nil,Dh,show ((i+1:Nat):Int)=(i:Int)+1 by omega] at hn
  have hB:((L.take i).flatMap fun o=>oI (k0:Int) o (o.length+1)).length≤2097152:=by
   have h1:=Pp (fun o=>oI (k0:Int) o (o.length+1)) 8 (L.take i) fun o ho=>by
    rw [KE,hall o (List.mem_of_mem_take ho)];omega
   rw [List.length_take] at h1
   omega
  refine Ev.step (fun k=>by simp only [dr.l1];rfl) ?_
  simp only [show ((i:Int) < (L.length:Int)) by omega,if_true]
  have e:=ada n L hL k0 hk _ hB i hil _ rfl Dh R hn (k0+1) 0 (by omega) (by omega)
  rw [show oI (k0:Int) L[i] 0=[] from rfl,List.append_nil] at e
  exact e
theorem ac9 (n:Nat) (hn:n≤6):∀ (d k0:Nat),n - k0=d→k0≤n→Ev (fun k=>dr.l0 k n (dK k0) k0) (dK n):=by
 intro d
 induction d with
 | zero =>
  intro k0 hd hk
  obtain rfl:k0=n:=by omega
  refine Ev.step (fun k=>by simp only [dr.l0];rfl) ?_
  simp only [Int.lt_irrefl,if_false]
  exact Ev.now _
 | succ d ih =>
  intro k0 hd hk
  have h:=ih (k0+1) (by omega) (by omega)
  rw [show ((k0+1:Nat):Int)=(k0:Int)+1 by omega] at h
  refine Ev.step (fun k=>by simp only [dr.l0];rfl) ?_
  simp only [lI k0 n (by omega),if_true]
  have hL:(dK k0).length≤262144:=Nat.le_trans (ap_ k0 (by omega)) (S7 (by omega))
  exact ac_ n (dK k0) hL k0 (by omega) (fun o ho=>((uV k0 o).1 ho).1) _ h (dK k0).length 0 (by omega) (by omega)
theorem ac8 (n:Nat) (hn:n≤6):Ev (fun k=>dr.f k n) (dK n):=ac9 n hn n 0 (by omega) (by omega)
/-- The least code of rows: that of an order, and none is less. -/
def ug (A:List (List Int)) (n:Nat) (r:List Int):Prop:=(∃ o,o ∈ dK n∧r=gx A o)∧∀ o,o ∈ dK n→lexB (gx A o) r=false
theorem E3 {A:List (List Int)} {n:Nat} {o p:List Int} (ho:o ∈ dK n) (hp:p ∈ dK n):(gx A o).length=(gx A p).length:=by
 unfold gx
 rw [((uV n o).1 ho).1,((uV n p).1 hp).1]
 exact (Ca A o p n).1
theorem SQ {A:List (List Int)} {n:Nat} {r s:List Int} (hr:ug A n r) (hs:ug A n s):r=s:=by
 obtain ⟨⟨o,ho,rfl⟩,h1⟩:=hr
 obtain ⟨⟨p,hp,rfl⟩,h2⟩:=hs
 exact adK _ _ (E3 ho hp) (h2 o ho) (h1 p hp)
/-- A step of the search: the least of what was seen. -/
def rj (A:List (List Int)) (n:Nat) (S:List Int→Prop) (r:List Int):Prop:=(∃ o,o ∈ dK n∧r=gx A o)∧∀ o,S o→lexB (gx A o) r=false
theorem Tn {A:List (List Int)} {n:Nat} {S:List Int→Prop} {r:List Int} (h:rj A n S r) (o:List Int) (ho:o ∈ dK n):rj A n (fun p=>S p∨p=o) (if lexB (gx A o) r=true then gx A o else r):=by
 obtain ⟨h1,h2⟩:=h
 by_cases c:lexB (gx A o) r=true
 ·rw [if_pos c]
  refine ⟨⟨o,ho,rfl⟩,fun p hp=>?_⟩
  rcases hp with hp|rfl
  ·cases e:lexB (gx A p) (gx A o) with
   | false=>rfl
   | true=>have:=adL _ _ _ e c;rw [h2 p hp] at this;cases this
  ·exact SR _
 ·rw [if_neg c]
  refine ⟨h1,fun p hp=>?_⟩
  rcases hp with hp|rfl
  ·exact h2 p hp
  ·simpa using c
theorem aeO {A:List (List Int)} {n:Nat} (hn:n≤6) (hA:∀ o,o ∈ dK n→ao8 A o):∀ (d i:Nat) (r:List Int),(dK n).length - i=d→i≤(dK n).length→rj A n (fun o=>o ∈ (dK n).take i) r→∃ s,Ev (fun k=>eU.l0 k (dK n) A r i) (s,0)∧ug A n s:=by
 have hL:(dK n).length≤262144:=Nat.le_trans (ap_ n hn) (S7 hn)
 intro d
 induction d with
 | zero =>
  intro i r hd hi h
  obtain rfl:i=(dK n).length:=by omega
  rw [List.take_length] at h
  refine ⟨r,?_,h⟩
  refine Ev.step (fun k=>by simp only [eU.l0];rfl) ?_
  simp only [Int.lt_irrefl,if_false]
  exact Ev.now _
 | succ d ih =>
  intro i r hd hi h
  have hil:i < (dK n).length:=by omega
  have ho:(dK n)[i] ∈ dK n:=List.getElem_mem hil
  have h2:=Tn h _ ho
  have h3:rj A n (fun o=>o ∈ (dK n).take (i+1)) (if lexB (gx A (dK n)[i]) r=true then gx A (dK n)[i] else r):=⟨h2.1,fun p hp=>h2.2 p (by
   rw [List.take_succ_eq_append_getElem hil] at hp
   rcases List.mem_append.1 hp with h4|h4
   ·exact Or.inl h4
   ·exact Or.inr (List.mem_singleton.1 h4))⟩
  obtain ⟨s,hs,hl⟩:=ih (i+1) _ (by omega) (by omega) h3
  refine ⟨s,?_,hl⟩
  obtain ⟨p,hp,rfl⟩:=h.1
  have hlen:(gx A (dK n)[i]).length=(gx A p).length:=E3 ho hp
  have hb:(gx A (dK n)[i]).length≤1048576:=by
   have h5:=(Ca A (dK n)[i] (dK n)[i] (dK n)[i].length).2 (hA _ ho).2.2
   have h6:=(hA _ ho).2.2
   unfold gx
   omega
  rw [show ((i+1:Nat):Int)=(i:Int)+1 by omega] at hs
  refine Ev.step (fun k=>by simp only [eU.l0];rfl) ?_
  simp only [show ((i:Int) < ((dK n).length:Int)) by omega,fA i,kL _ i hil,if_true,wI ((i:Int)+1) (by omega)]
  refine Ev.bind (KK (hA _ ho)) (Ev.bind (ac6 hlen hb) ?_)
  cases c:lexB (gx A (dK n)[i]) (gx A p) with
  | true=>rw [c] at hs;simp only [if_true] at hs ⊢;exact hs
  | false=>rw [c] at hs;simp only [Bool.false_eq_true,if_false] at hs ⊢;exact hs
theorem ER (l:List (List Int)) (i:Nat):nB l (2 * i+1)=nD l (2 * i)∧nD l (2 * i+1)=nB l (2 * i)∧rd (ai l (i:Int)) 0=nB l (2 * i)∧rd (ai l (i:Int)) 1=nD l (2 * i):=by
 unfold nB nD
 rw [show (2 * i+1) / 2=i by omega,show (2 * i+1) % 2=1 by omega,show 2 * i / 2=i by omega,show 2 * i % 2=0 by omega]
 exact ⟨rfl,rfl,rfl,rfl⟩
theorem acI (n:Nat) (l:List (List Int)) (hl:l.length≤10) (hE:endsIn n l):∀ (d i:Nat),l.length - i=d→i≤l.length→Ev (fun k=>ee.l0 k (ck n (cg l (2 * i))) l (l.length:Int) i) (ck n (cg l (2 * l.length))):=by
 have h2:=IW hE
 intro d
 induction d with
 | zero =>
  intro i hd hi
  obtain rfl:i=l.length:=by omega
  refine Ev.step (fun k=>by simp only [ee.l0];rfl) ?_
  simp only [Int.lt_irrefl,if_false]
  exact Ev.now _
 | succ d ih =>
  intro i hd hi
  have hil:i < l.length:=by omega
  have hn:=ih (i+1) (by omega) (by omega)
  obtain ⟨u,v,hu,hv,hun,om⟩:=Ci hE (2 * i) (by omega)
  obtain ⟨b1,b2,b3,b4⟩:=ER l i
  rw [hu] at b2 b3
  rw [hv] at b1 b4
  have hrow:(ai l (i:Int)).length=2:=by rw [kL l i hil];exact h2 _ (List.getElem_mem hil)
  have q1:=EO l (2 * i) u v
  have q2:=EO l (2 * i) v u
  have e:=LR (cg l (2 * i)) u hun v (cg l (2 * i) u v+1)
  rw [m_ hun] at e
  have e2:=LR (fun a b=>if a=u∧b=v then cg l (2 * i) u v+1 else cg l (2 * i) a b) v om u ((if v=u∧u=v then cg l (2 * i) u v+1 else cg l (2 * i) v u)+1)
  rw [m_ om] at e2
  have e3:ck n (fun a b=>if a=v∧b=u then (if v=u∧u=v then cg l (2 * i) u v+1 else cg l (2 * i) v u)+1 else (if a=u∧b=v then cg l (2 * i) u v+1 else cg l (2 * i) a b))=ck n (cg l (2 * (i+1))):=aoX fun a b _ _=>by
   rw [show 2 * (i+1)=2 * i+1+1 by omega,cg,cg,hu,hv,b1,b2]
   by_cases h3:a=v∧b=u
   ·obtain ⟨rfl, rfl⟩ := h3
    rw [if_pos ⟨rfl,rfl⟩,if_pos (show (a:Int)=(a:Int)∧(b:Int)=(b:Int) from ⟨rfl,rfl⟩)]
    by_cases h4:a=b
    ·subst h4
     rw [if_pos ⟨rfl,rfl⟩,if_pos (show (a:Int)=(a:Int)∧(a:Int)=(a:Int) from ⟨rfl,rfl⟩)]
    ·rw [if_neg (fun h=>h4 h.1),if_neg (fun h=>h4 (by omega))];omega
   ·rw [if_neg h3, if_neg (show ¬ ((v : Int) = (a : Int) ∧ (u : Int) = (b : Int)) from fun h => h3 ⟨by omega, by omega⟩)]
    by_cases h4:a=u∧b=v
    ·obtain ⟨rfl, rfl⟩ := h4
     rw [if_pos ⟨rfl,rfl⟩,if_pos (show (a:Int)=(a:Int)∧(b:Int)=(b:Int) from ⟨rfl,rfl⟩)];omega
    ·rw [if_neg h4,if_neg (show ¬ ((u:Int)=(a:Int)∧(v:Int)=(b:Int)) from fun h=>h4 ⟨by omega,by omega⟩)];omega
  rw [← e3,← e2,show ((i+1:Nat):Int)=(i:Int)+1 by omega] at hn
  refine Ev.step (fun k=>by simp only [ee.l0];rfl) ?_
  have r1:rd (dY n (fun b=>if v=u∧b=v then cg l (2 * i) u v+1 else cg l (2 * i) v b)) (u:Int)=if v=u∧u=v then cg l (2 * i) u v+1 else cg l (2 * i) v u:=nI hun
  have w1:wrap64 (cg l (2 * i) u v+1)=cg l (2 * i) u v+1:=nc (by omega) (by omega)
  have w2:wrap64 ((if v=u∧u=v then cg l (2 * i) u v+1 else cg l (2 * i) v u)+1)=(if v=u∧u=v then cg l (2 * i) u v+1 else cg l (2 * i) v u)+1:=by
   by_cases h3:v=u∧u=v
   ·rw [if_pos h3];exact nc (by omega) (by omega)
   ·rw [if_neg h3];exact nc (by omega) (by omega)
  have u0:(0:Int)≤(u:Int):=by omega
  have u1:(u:Int) < (n:Int):=by omega
  have v0:(0:Int)≤(v:Int):=by omega
  have v1:(v:Int) < (n:Int):=by omega
  simp only [show ((i:Int) < (l.length:Int)) by omega,fA i,hrow,show (0:Int) < ((2:Nat):Int) by decide,show (1:Int) < ((2:Nat):Int) by decide,b3,b4,u0,v0,aom,u1,v1,m_ hun,m_ om,kM,nI om,Int.toNat_natCast,Option.bind_some,if_true,e,w1,r1,w2,wI ((i:Int)+1) (by omega)]
  exact hn
theorem Sr (n:Nat) (hn:n≤8) (l:List (List Int)) (hl:l.length≤10) (hE:endsIn n l):Ev (fun k=>ee.f k n l) (ck n (cg l (2 * l.length))):=by
 unfold ee.f
 refine Ev.bind (LG n (by omega)) ?_
 rw [Gm]
 exact acI n l hl hE l.length 0 (by omega) (by omega)
theorem aeE (n:Nat) (x:Int) (c:Prop) [Decidable c]:anI n (fun b=>if c∧x=(b:Int) then (1:Int) else 0)≤1:=by
 by_cases h:c
 ·refine Int.le_trans (Int.le_of_eq (fy fun b _ => ?_)) (acM n x)
  by_cases h2:x=(b:Int)
  ·rw [if_pos ⟨h,h2⟩,if_pos h2]
  ·rw [if_neg (fun h3=>h2 h3.2),if_neg h2]
 ·rw [lH fun b _=>if_neg fun h3=>h h3.1];decide
theorem W0 (n:Nat) (l:List (List Int)) (u:Nat):∀ d:Nat,anI n (cg l d u)≤d:=by
 intro d
 induction d with
 | zero=>rw [lH (f:=cg l 0 u) fun b _=>rfl];omega
 | succ d ih =>
  have h:=aeE n (nD l d) (nB l d=(u:Int))
  rw [show cg l (d+1) u=fun b=>cg l d u b+(if nB l d=(u:Int)∧nD l d=(b:Int) then 1 else 0) from rfl,qK]
  omega
theorem Tr {n:Nat} (hn:n≤8) {l:List (List Int)} (hl:l.length≤10) (k:Nat):-1000000000000≤cF n (cg l (2 * l.length)) k∧cF n (cg l (2 * l.length)) k≤1000000000000:=by
 by_cases hk:k < n+1
 ·have h1:=YS (n:=n) (cg l (2 * l.length)) (fun _ _=>0) (fun a l' _ _ h=>absurd rfl h) (fun _=>21) (fun a _=>by
   have e:anI n (fun b=>ek (cz a b+anI n (fun l'=>(0:Int) * cz l' b))+ek (cg l (2 * l.length) a b+anI n (fun l'=>(0:Int) * cg l (2 * l.length) l' b)))=anI n (cz a)+anI n (cg l (2 * l.length) a):=by
    rw [← qK]
    refine fy fun b _=>?_
    rw [lH fun i _=>Int.zero_mul _,lH fun i _=>Int.zero_mul _,Int.add_zero,Int.add_zero,WT]
    have:=(EO l (2 * l.length) a b).1
    unfold ek
    omega
   rw [e]
   have h2:=aeL n a
   have h3:=W0 n l a (2 * l.length)
   omega)
  have h2:=adb (n:=n+1) (cF n (cg l (2 * l.length))) k hk
  have h3:gA n (fun _=>(21:Int))≤37822859361:=by
   rw [aec]
   rcases (by omega:n=0∨n=1∨n=2∨n=3∨n=4∨n=5∨n=6∨n=7∨n=8) with h|h|h|h|h|h|h|h|h<;>rw [h]<;>decide
  have h4:=Int.le_trans h2 (Int.le_trans h1 h3)
  unfold ek at h4
  omega
 ·unfold cF
  rw [tN _ _ k (by omega)]
  decide
def ao1 (a:Int) (l:List (List Int)):List Int × Int:=if gU a l then (jl (nZ a.toNat (cg l (2 * l.length))) (a.toNat+1),0) else ([],1)
theorem acL (a:Int) (l:List (List Int)) (hl:l.length≤maxLen):Ev (fun k=>nh.f k a l) (ao1 a l):=by
 unfold nh.f ao1
 refine Ev.bind (FR a l hl) ?_
 cases h:gU a l with
 | false=>simp only [Bool.false_eq_true,if_false];exact Ev.now _
 | true =>
  obtain ⟨n,rfl,_,hn,hE⟩:=tM h
  have mT:=yz h
  simp only [if_true,Int.toNat_natCast]
  have e:Ev (fun k=>oR.f k n l) (jl (nZ n (cg l (2 * l.length))) (n+1)):=by
   unfold oR.f
   refine Ev.bind (Sr n hn l mT hE) (Ev.bind (YW n (by omega) _ fun k h1 h2=>?_) (Ev.now _))
   have h3:=Tr (n:=n) hn mT k
   have h4:(k:Int) * cF n (cg l (2 * l.length)) k≤(k:Int) * 1000000000000:=Int.mul_le_mul_of_nonneg_left h3.2 (by omega)
   have h5:(k:Int) * -1000000000000≤(k:Int) * cF n (cg l (2 * l.length)) k:=Int.mul_le_mul_of_nonneg_left h3.1 (by omega)
   omega
  exact Ev.bind e (Ev.now _)
theorem aeQ (a:Int) (l:List (List Int)) (hl:l.length≤maxLen):Ev (fun k=>mH.f k a l) (ao1 a l):=by
 unfold mH.f ao1
 refine Ev.bind (LD a l hl) ?_
 cases h:gU a l with
 | false=>simp only [Bool.false_eq_true,if_false];exact Ev.now _
 | true =>
  obtain ⟨n,rfl,_,hn,hE⟩:=tM h
  have mT:=yz h
  simp only [if_true,Int.toNat_natCast]
  have e:Ev (fun k=>oT.f k n l) (jl (nZ n (cg l (2 * l.length))) (n+1)):=by
   unfold oT.f
   have h2:=Xi n (by omega) (cg l (2 * l.length))
   rw [show dY (n+1) (fun m=>wrap64 (cF n (cg l (2 * l.length)) m))=nZ n (cg l (2 * l.length)) from apD fun k _=>by
    have h3:=Tr (n:=n) hn mT k
    exact nc (by omega) (by omega)] at h2
   exact Ev.bind (KJ n hn l mT hE) (Ev.bind h2 (Ev.now _))
  exact Ev.bind e (Ev.now _)
theorem OK (x y:Int):ao9.f x y=some (if x < y then -1 else if x > y then 1 else 0):=by
 unfold ao9.f aoy.f
 simp only [Option.bind_some,bne_self_eq_false,Bool.false_eq_true,if_false]
 by_cases h:x < y
 ·simp only [h,if_true]
 ·by_cases h2 : x > y
  ·simp only [h,h2,if_false,if_true]
  ·simp only [h,h2,if_false]
theorem YQ {a b:List Int} (h:a.length=b.length) (hl:a.length≤1048576):∀ (d i:Nat),a.length - i=d→i≤a.length→∃ q:Int,Ev (fun k=>ja.l0 k a b a (a.length:Int) i) q∧(q < 0↔lexB (a.drop i) (b.drop i)=true):=by
 intro d
 induction d with
 | zero =>
  intro i hd hi
  obtain rfl:i=a.length:=by omega
  refine ⟨0,?_,by rw [List.drop_length];exact ⟨fun h=>absurd h (by decide),fun h=>by simp [lexB] at h⟩⟩
  refine Ev.step (fun k=>by simp only [ja.l0];rfl) ?_
  simp only [Int.lt_irrefl,if_false,h]
  exact Ev.now _
 | succ d ih =>
  intro i hd hi
  have h1:i < a.length:=by omega
  have h2:i < b.length:=by omega
  obtain ⟨q,hq,yc⟩:=ih (i+1) (by omega) (by omega)
  rw [List.drop_eq_getElem_cons h1,List.drop_eq_getElem_cons h2]
  by_cases e:a[i]=b[i]
  ·refine ⟨q, ?_, by unfold lexB; rw [if_pos e]; exact yc⟩
   refine Ev.step (fun k=>by simp only [ja.l0];rfl) ?_
   simp only [show ((i:Int) < (a.length:Int)) by omega,fA i,show ¬ ((i:Int) ≥ (b.length:Int)) by omega,show ((i:Int) < (b.length:Int)) by omega,mD a i h1,mD b i h2,OK,e,Int.lt_irrefl,if_true,if_false,Option.bind_some,gt_iff_lt,wI ((i:Int)+1) (by omega)]
   exact hq
  ·refine ⟨if a[i] < b[i] then -1 else 1, ?_, ?_⟩
   ·refine Ev.step (fun k => by simp only [ja.l0]; rfl) ?_
    have e2:(if a[i] < b[i] then (-1:Int) else if a[i] > b[i] then 1 else 0)=if a[i] < b[i] then -1 else 1:=by
     by_cases c:a[i] < b[i]
     ·rw [if_pos c,if_pos c]
     ·rw [if_neg c,if_neg c,if_pos (by omega)]
    have e3:¬ ((if a[i] < b[i] then (-1:Int) else 1)=0):=by split<;>decide
    simp only [show ((i:Int) < (a.length:Int)) by omega,fA i,show ¬ ((i:Int) ≥ (b.length:Int)) by omega,show ((i:Int) < (b.length:Int)) by omega,mD a i h1,mD b i h2,OK,e2,if_true,if_false,Option.bind_some,e3]
    exact Ev.now _
   ·unfold lexB
    rw [if_neg e]
    by_cases c:a[i] < b[i]
    ·rw [if_pos c];exact ⟨fun _=>decide_eq_true c,fun _=>by decide⟩
    ·rw [if_neg c];exact ⟨fun h=>absurd h (by decide),fun h=>absurd (of_decide_eq_true h) c⟩
theorem YP {a b:List Int} (h:a.length=b.length) (hl:a.length≤1048576):∃ q:Int,Ev (fun k=>ja.f k a b) q∧(q < 0↔lexB a b=true):=YQ h hl a.length 0 (by omega) (by omega)
theorem yG {n:Nat} {o:List Int} (ho:o ∈ dK n):o.length=n∧o.Nodup∧∀ y ∈ o,0≤y∧y < n:=(KG n o).1 ((KW n o).1 ho)
theorem E4 {n:Nat} (hn:n≤8) (f:Nat→Nat→Int) {o:List Int} (ho:o ∈ dK n):ao8 (ck n f) o:=by
 obtain ⟨h1,_,h3⟩:=yG ho
 refine ⟨fun u hu=>?_,fun i hi=>?_,by omega⟩
 ·rw [aom] at hu ⊢
  rw [m_ hu,kM]
 ·have h4 := h3 o[i] (List.getElem_mem hi)
  rw [mD o i hi,aom]
  exact ⟨o[i].toNat,by omega,by omega⟩
theorem IU {n:Nat} (hn:n≤8) {l:List (List Int)} (hl:l.length≤10) (hE:endsIn n l) {o:List Int} (ho:o ∈ dK n):Ev (fun k=>dD.f k n l o) (gx (ck n (cg l (2 * l.length))) o):=by
 unfold dD.f
 refine Ev.bind (Sr n hn l hl hE) ?_
 have h:=YH (E4 hn (cg l (2 * l.length)) ho) o.length 0 (by omega) (by omega)
 rw [show kZ (ck n (cg l (2 * l.length))) o 0=[(n:Int)] by unfold kZ;rw [aom]] at h
 exact h
def kH (n:Nat):List Int:=(List.range n).map fun i:Nat=>(i:Int)
theorem uR (n:Nat):kH n ∈ dK n:=by
 rw [uV]
 refine ⟨by unfold kH;rw [List.length_map,List.length_range],fun x hx=>?_⟩
 unfold kH
 exact List.mem_map.2 ⟨x,List.mem_range.2 hx,rfl⟩
theorem Sp (n:Nat):kH (n+1)=kH n ++ [(n:Int)]:=by unfold kH;rw [List.range_succ,List.map_append];rfl
theorem ZV (n:Nat) (hn:n≤8):∀ (d i:Nat),n - i=d→i≤n→Ev (fun k=>gP.l0 k (kH i) n i) (kH n):=by
 intro d
 induction d with
 | zero =>
  intro i hd hi
  obtain rfl:i=n:=by omega
  refine Ev.step (fun k=>by simp only [gP.l0];rfl) ?_
  simp only [Int.lt_irrefl,if_false]
  exact Ev.now _
 | succ d ih =>
  intro i hd hi
  have h:=ih (i+1) (by omega) (by omega)
  rw [Sp,show ((i+1:Nat):Int)=(i:Int)+1 by omega] at h
  refine Ev.step (fun k=>by simp only [gP.l0];rfl) ?_
  simp only [lI i n (by omega),if_true,show (kH i).length < 17592186044416 by (unfold kH;rw [List.length_map,List.length_range];omega),wI ((i:Int)+1) (by omega)]
  exact h
theorem Pu (n:Nat) (hn:n≤8) (l:List (List Int)):Ev (fun k=>gP.f k n l) (kH n):=ZV n hn n 0 (by omega) (by omega)
theorem IV {n:Nat} (hn:n≤8) {A:List (List Int)} {o:List Int} (ho:o ∈ dK n):(gx A o).length≤73:=by
 have h1:=(yG ho).1
 have h2:=(Ca A o o o.length).2 (by omega)
 unfold gx
 omega
theorem DT {A:List (List Int)} {n:Nat} {S T:List Int→Prop} {r:List Int} (h:rj A n S r) (hT:∀ p,T p→S p):rj A n T r:=⟨h.1,fun p hp=>h.2 p (hT p hp)⟩
/-- The search from an order that is begun. -/
theorem ZS {n:Nat} (hn:n≤6) {l:List (List Int)} (hl:l.length≤10) (hE:endsIn n l):∀ (d:Nat) (o b:List Int) (S:List Int→Prop),n - o.length=d→o.length≤n→o.Nodup→(∀ y ∈ o,0≤y∧y < (n:Int))→rj (ck n (cg l (2 * l.length))) n S b→∃ b',Ev (fun k=>dG.l0 k n l b o) b'∧rj (ck n (cg l (2 * l.length))) n (fun p=>S p∨(p ∈ dK n∧o <+: p)) b':=by
 intro d
 induction d with
 | zero =>
  intro o b S hd ho Fw hr hS
  have hlen:o.length=n:=by omega
  have hmem:o ∈ dK n:=(KW n o).2 ((KG n o).2 ⟨hlen,Fw,hr⟩)
  obtain ⟨p,hp,rfl⟩:=hS.1
  have pz:=IV (n:=n) (by omega) (A:=ck n (cg l (2 * l.length))) hmem
  obtain ⟨q,hq,yc⟩:=YP (E3 (A:=ck n (cg l (2 * l.length))) hmem hp) (by omega)
  have h2:=Tn hS o hmem
  refine ⟨_,?_,DT h2 fun r hr=>?_⟩
  ·refine Ev.step (fun k => by simp only [dG.l0]; rfl) ?_
   simp only [hlen,if_true]
   refine Ev.bind (IU (by omega) hl hE hmem) (Ev.bind hq ?_)
   by_cases c:q < 0
   ·simp only [c,yc.1 c,if_true];exact Ev.now _
   ·simp only [c,show ¬ (lexB (gx (ck n (cg l (2 * l.length))) o) (gx (ck n (cg l (2 * l.length))) p)=true) from fun h=>c (yc.2 h),if_false];exact Ev.now _
  ·rcases hr with hr | ⟨h3, h4⟩
   ·exact Or.inl hr
   ·exact Or.inr (h4.eq_of_length (by rw [hlen,(yG h3).1])).symm
 | succ d ih =>
  intro o b S hd ho Fw hr hS
  have hlt:o.length < n:=by omega
  have inner:∀ (e v:Nat) (b:List Int),n - v=e→v≤n→rj (ck n (cg l (2 * l.length))) n (fun p=>S p∨(p ∈ dK n∧∃ x:Nat,x < v∧o ++ [(x:Int)] <+: p)) b→∃ b',Ev (fun k=>dG.l1 k n l b o v) b'∧rj (ck n (cg l (2 * l.length))) n (fun p=>S p∨(p ∈ dK n∧∃ x:Nat,x < n∧o ++ [(x:Int)] <+: p)) b':=by
   intro e
   induction e with
   | zero =>
    intro v b he hv h
    obtain rfl:v=n:=by omega
    refine ⟨b,?_,h⟩
    refine Ev.step (fun k=>by simp only [dG.l1];rfl) ?_
    simp only [Int.lt_irrefl,if_false]
    exact Ev.now _
   | succ e Sq =>
    intro v b he hv h
    have hc:=O4 o (by
                   have:o.length≤6:=by omega
                   exact Nat.le_trans this (by decide)) (v:Int)
    by_cases hm:(v:Int) ∈ o
    ·have h2:rj (ck n (cg l (2 * l.length))) n (fun p=>S p∨(p ∈ dK n∧∃ x:Nat,x < v+1∧o ++ [(x:Int)] <+: p)) b:=DT h fun p hp=>by
      rcases hp with hp|⟨h3,x,hx,h4⟩
      ·exact Or.inl hp
      ·by_cases Kj : x < v
       ·exact Or.inr ⟨h3,x,Kj,h4⟩
       ·obtain rfl : x = v := by omega
        obtain ⟨t,ht⟩:=h4
        have h5:=(yG h3).2.1
        rw [← ht,List.append_assoc] at h5
        exact absurd rfl ((List.nodup_append.1 h5).2.2 (x:Int) hm (x:Int) (by simp))
     obtain ⟨b',hb,hs⟩:=Sq (v+1) b (by omega) (by omega) h2
     refine ⟨b',?_,hs⟩
     rw [show ((v+1:Nat):Int)=(v:Int)+1 by omega] at hb
     refine Ev.step (fun k=>by simp only [dG.l1];rfl) ?_
     simp only [lI v n (by omega),if_true]
     refine Ev.bind hc ?_
     simp only [hm,decide_true,if_true,wI ((v:Int)+1) (by omega)]
     exact hb
    ·obtain ⟨b1, mm, hs1⟩ := ih (o ++ [(v : Int)]) b _ (by rw [List.length_append]; simp; omega) (by rw [List.length_append]; simp; omega)
      (List.nodup_append.2 ⟨Fw,by simp,fun x hx y hy=>by
       rw [List.mem_singleton.1 hy]
       intro e
       exact hm (e ▸ hx)⟩) (fun y hy=>by
       rcases List.mem_append.1 hy with h3|h3
       ·exact hr y h3
       ·rw [List.mem_singleton.1 h3];omega) h
     have h2:rj (ck n (cg l (2 * l.length))) n (fun p=>S p∨(p ∈ dK n∧∃ x:Nat,x < v+1∧o ++ [(x:Int)] <+: p)) b1:=DT hs1 fun p hp=>by
      rcases hp with hp|⟨h3,x,hx,h4⟩
      ·exact Or.inl (Or.inl hp)
      ·by_cases Kj : x < v
       ·exact Or.inl (Or.inr ⟨h3,x,Kj,h4⟩)
       ·obtain rfl : x = v := by omega
        exact Or.inr ⟨h3,h4⟩
     obtain ⟨b',hb,hs⟩:=Sq (v+1) b1 (by omega) (by omega) h2
     refine ⟨b',?_,hs⟩
     rw [show ((v+1:Nat):Int)=(v:Int)+1 by omega] at hb
     refine Ev.step (fun k=>by simp only [dG.l1];rfl) ?_
     simp only [lI v n (by omega),if_true]
     refine Ev.bind hc ?_
     simp only [hm,decide_false,Bool.false_eq_true,if_false,show o.length < 17592186044416 by omega,if_true,wI ((v:Int)+1) (by omega)]
     exact Ev.bind mm hb
  obtain ⟨b',hb,hs⟩:=inner n 0 b (by omega) (by omega) (DT hS fun p hp=>by
   rcases hp with hp|⟨_,x,hx,_⟩
   ·exact hp
   ·omega)
  refine ⟨b',?_,DT hs fun p hp=>?_⟩
  ·refine Ev.step (fun k => by simp only [dG.l0]; rfl) ?_
   simp only [show ¬ ((o.length:Int)=(n:Int)) by omega,if_false]
   exact hb
  ·rcases hp with hp | ⟨h3, t, ht⟩
   ·exact Or.inl hp
   ·obtain ⟨h4, _, h6⟩ := yG h3
    cases t with
    | nil=>rw [List.append_nil] at ht;rw [ht] at hlt;omega
    | cons y t =>
     have h7:=h6 y (by rw [← ht];simp)
     obtain ⟨x,rfl⟩:∃ x:Nat,y=x:=⟨y.toNat,by omega⟩
     exact Or.inr ⟨h3,x,by omega,t,by rw [List.append_assoc];exact ht⟩
/-- The least code, by both. -/
theorem SP (a:Int) (l:List (List Int)) (hl:l.length≤maxLen):∃ (r:List Int) (c:Int),Ev (fun k=>dG.f k a l) (r,c)∧Ev (fun k=>eU.f k a l) (r,c)∧r.length≤73∧(c ≠ 0→r=[])∧(c=0→∃ n:Nat,a=n∧1≤n∧n≤6∧gU a l=true∧endsIn n l∧ug (ck n (cg l (2 * l.length))) n r)∧(gU a l=true→a≤6→c=0):=by
 have hi:=FR a l hl
 have hs:=LD a l hl
 cases hg:gU a l with
 | false =>
  rw [hg] at hi hs
  refine ⟨[],1,?_,?_,by simp,fun _=>rfl,fun h=>absurd h (by decide),fun h=>by cases h⟩
  ·unfold dG.f
   refine Ev.bind hi ?_
   simp only [Bool.false_eq_true,if_false];exact Ev.now _
  ·unfold eU.f
   refine Ev.bind hs ?_
   simp only [Bool.false_eq_true,if_false];exact Ev.now _
 | true =>
  rw [hg] at hi hs
  obtain ⟨n,rfl,sy,tJ,hE⟩:=tM hg
  have mT:=yz hg
  by_cases h6:(n:Int) > 6
  ·refine ⟨[], 3, ?_, ?_, by simp, fun _ => rfl, fun h => absurd h (by decide), fun _ h => absurd h (by omega)⟩
   ·unfold dG.f
    refine Ev.bind hi ?_
    simp only [h6,if_true];exact Ev.now _
   ·unfold eU.f
    refine Ev.bind hs ?_
    simp only [h6,if_true];exact Ev.now _
  ·have hn : n ≤ 6 := by omega
   obtain ⟨r,hr,hro⟩:=ZS hn mT hE n [] (gx (ck n (cg l (2 * l.length))) (kH n)) (fun _=>False) (by simp) (by simp) List.nodup_nil (fun y hy=>by simp at hy) ⟨⟨kH n,uR n,rfl⟩,fun _ h=>h.elim⟩
   have hrl:ug (ck n (cg l (2 * l.length))) n r:=⟨hro.1,fun o ho=>hro.2 o (Or.inr ⟨ho,List.nil_prefix⟩)⟩
   have hne:0 < (dK n).length:=List.length_pos_of_mem (uR n)
   have h0:(dK n)[0] ∈ dK n:=List.getElem_mem hne
   obtain ⟨s,hs2,hsl⟩:=aeO hn (fun o ho=>E4 (by omega) (cg l (2 * l.length)) ho) ((dK n).length - 1) 1 (gx (ck n (cg l (2 * l.length))) (dK n)[0]) (by omega) (by omega) ⟨⟨_,h0,rfl⟩,fun o ho=>by
    have e:o=(dK n)[0]:=by
     rw [List.take_one,List.head?_eq_getElem?,List.getElem?_eq_getElem hne] at ho
     simpa using ho
    rw [e]
    exact SR _⟩
   obtain rfl:=SQ hrl hsl
   obtain ⟨p,hp,hpe⟩:=hrl.1
   refine ⟨r,0,?_,?_,by rw [hpe];exact IV (by omega) hp,fun h=>absurd rfl h,fun _=>⟨n,rfl,sy,hn,rfl,hE,hrl⟩,fun _ _=>rfl⟩
   ·unfold dG.f
    refine Ev.bind hi ?_
    simp only [h6,if_true,if_false]
    exact Ev.bind (Pu n (by omega) l) (Ev.bind (IU (by omega) mT hE (uR n)) (Ev.bind hr (Ev.now _)))
   ·unfold eU.f
    refine Ev.bind hs ?_
    simp only [h6,if_true,if_false]
    refine Ev.bind (ac8 n hn) (Ev.bind (KJ n (by omega) l mT hE) ?_)
    have hrow:ai (dK n) 0=(dK n)[0]:=kL (dK n) 0 hne
    simp only [show (0:Int) < ((dK n).length:Int) by omega,if_true,hrow]
    exact Ev.bind (KK (E4 (by omega) (cg l (2 * l.length)) h0)) hs2
theorem YT {n:Nat} (hn:1≤n) (A:Nat→Nat→Int):cF n A 1=-anI n (fun i=>A i i):=by
 have h:=SC n A 0 (by omega)
 rw [show ((0+1:Nat):Int) * cF n A (0+1)=cF n A 1 from Int.one_mul _] at h
 rw [h]
 congr 1
 refine fy fun i hi=>?_
 have e:∀ j,mW n A (cF n A) (0+1) j i=if j=i then 1 else 0:=fun j=>by
  show anI n (fun q=>A j q * 0)+(if j=i then cF n A 0 else 0)=_
  rw [lH fun q _=>Int.mul_zero _,FW,Int.zero_add]
 rw [wF i hi (fun j _ hne=>by rw [e,if_neg hne,Int.mul_zero]),e,if_pos rfl,Int.mul_one]
def qM (l : List (List Int)) : Nat → Nat
 | 0=>0
 | i+1=>qM l i+(if rd (ai l (i:Int)) 0=rd (ai l (i:Int)) 1 then 1 else 0)
theorem SS (l:List (List Int)):∀ i,qM l i≤i:=by
 intro i
 induction i with
 | zero=>exact Nat.le_refl _
 | succ i ih=>unfold qM;split<;>omega
theorem O9 (n u v:Nat) (hu:u < n):anI n (fun a=>if (u:Int)=(a:Int)∧(v:Int)=(a:Int) then (1:Int) else 0)=if u=v then 1 else 0:=by
 by_cases h:u=v
 ·subst h
  rw [wF u hu (fun a _ hne=>if_neg fun h=>hne (by omega)),if_pos ⟨rfl,rfl⟩,if_pos rfl]
 ·rw [lH (fun a _=>if_neg fun h2=>h (by omega)),if_neg h]
theorem aqf {n:Nat} {l:List (List Int)} (hE:endsIn n l):∀ i,i≤l.length→anI n (fun v=>cg l (2 * i) v v)=2 * (qM l i:Int):=by
 intro i
 induction i with
 | zero=>intro _;rw [lH (f:=fun v=>cg l (2 * 0) v v) fun v _=>rfl];rfl
 | succ i ih =>
  intro hi
  obtain ⟨u,v,hu,hv,hun,om⟩:=Ci hE (2 * i) (by omega)
  obtain ⟨b1,b2,b3,b4⟩:=ER l i
  rw [hu] at b2 b3
  rw [hv] at b1 b4
  have e:(fun a:Nat=>cg l (2 * (i+1)) a a)=fun a=>cg l (2 * i) a a+(if (u:Int)=(a:Int)∧(v:Int)=(a:Int) then (1:Int) else 0)+(if (v:Int)=(a:Int)∧(u:Int)=(a:Int) then (1:Int) else 0):=by
   funext a
   rw [show 2 * (i+1)=2 * i+1+1 by omega,cg,cg,hu,hv,b1,b2]
  rw [e,qK,qK,ih (by omega),O9 n u v hun,O9 n v u om]
  show _=2 * ((qM l i+(if rd (ai l (i:Int)) 0=rd (ai l (i:Int)) 1 then 1 else 0):Nat):Int)
  rw [b3,b4]
  by_cases h:u=v
  ·rw [if_pos h,if_pos h.symm,if_pos (by omega)];omega
  ·rw [if_neg h,if_neg (fun h2=>h h2.symm),if_neg (by omega)];omega
theorem Yp (A:List (List Int)) (o:List Int):∀ i,2 * (kZ A o i).length=2+i * (i+1):=by
 intro i
 induction i with
 | zero=>rfl
 | succ i ih =>
  unfold kZ
  rw [List.length_append,Cb,Nat.mul_add,ih]
  have e:(i+1) * (i+1+1)=i * (i+1)+2 * (i+1):=by rw [← Nat.add_mul,Nat.mul_comm (i+2)]
  omega
theorem aeN (n:Nat) (hn:n≤8) (l:List (List Int)) (hl:l.length≤10) (hE:endsIn n l):∀ (d i:Nat),n - i=d→i≤n→Ev (fun k=>gw.l0 k (kH i) i n l) (gx (ck n (cg l (2 * l.length))) (kH n),0):=by
 intro d
 induction d with
 | zero =>
  intro i hd hi
  obtain rfl:i=n:=by omega
  refine Ev.step (fun k=>by simp only [gw.l0];rfl) ?_
  simp only [Int.lt_irrefl,if_false]
  exact Ev.bind (KJ i hn l hl hE) (Ev.bind (KK (E4 hn (cg l (2 * l.length)) (uR i))) (Ev.now _))
 | succ d ih =>
  intro i hd hi
  have h:=ih (i+1) (by omega) (by omega)
  rw [Sp,show ((i+1:Nat):Int)=(i:Int)+1 by omega] at h
  refine Ev.step (fun k=>by simp only [gw.l0];rfl) ?_
  simp only [lI i n (by omega),if_true,show (kH i).length < 17592186044416 by (unfold kH;rw [List.length_map,List.length_range];omega),wI ((i:Int)+1) (by omega)]
  exact h
def si (a:Int) (l:List (List Int)):List Int × Int:=if gU a l then (gx (ck a.toNat (cg l (2 * l.length))) (kH a.toNat),0) else ([],1)
theorem MW (a:Int) (l:List (List Int)) (hl:l.length≤maxLen):Ev (fun k=>lf.f k a l) (si a l)∧Ev (fun k=>gw.f k a l) (si a l):=by
 have hi:=FR a l hl
 have hs:=LD a l hl
 unfold si lf.f gw.f
 cases hg:gU a l with
 | false =>
  rw [hg] at hi hs
  refine ⟨Ev.bind hi ?_,Ev.bind hs ?_⟩<;>simp only [Bool.false_eq_true,if_false]<;>exact Ev.now _
 | true =>
  rw [hg] at hi hs
  obtain ⟨n,rfl,sy,tJ,hE⟩:=tM hg
  have mT:=yz hg
  refine ⟨Ev.bind hi ?_,Ev.bind hs ?_⟩
  ·simp only [if_true, Int.toNat_natCast]
   exact Ev.bind (Pu n tJ l) (Ev.bind (IU tJ mT hE (uR n)) (Ev.now _))
  ·simp only [if_true, Int.toNat_natCast]
   exact aeN n tJ l mT hE n 0 (by omega) (by omega)
theorem YJ (a:Int) (l:List (List Int)):(si a l).1.length≤73:=by
 unfold si
 cases hg:gU a l with
 | false=>simp
 | true =>
  obtain ⟨n,rfl,sy,tJ,hE⟩:=tM hg
  simp only [if_true,Int.toNat_natCast]
  exact IV tJ (uR n)
theorem aeP (a:Int) (l:List (List Int)):(ao1 a l).1.length≤1048576:=by
 unfold ao1
 cases hg:gU a l with
 | false=>simp
 | true =>
  obtain ⟨n,rfl,sy,tJ,hE⟩:=tM hg
  simp only [if_true,Int.toNat_natCast]
  have:=ae_ (nZ n (cg l (2 * l.length))) (n+1)
  omega
/-- The order from behind. -/
def iE (n i:Nat):List Int:=(List.range i).map fun v:Nat=>(n:Int) - 1 - (v:Int)
theorem Gj (n v:Nat) (hv:v < n):rd (iE n n) (v:Int)=(n:Int) - 1 - (v:Int):=by
 have hl:v < (iE n n).length:=by unfold iE;rw [List.length_map,List.length_range];exact hv
 rw [mD _ v hl]
 simp [iE]
theorem aeJ (n:Nat):iE n n ∈ dK n:=by
 rw [uV]
 refine ⟨by unfold iE;rw [List.length_map,List.length_range],fun x hx=>?_⟩
 unfold iE
 exact List.mem_map.2 ⟨n - 1 - x,List.mem_range.2 (by omega),by omega⟩
theorem KV {n:Nat} {o:List Int} (ho:o ∈ dK n):(o.map fun y=>(n:Int) - 1 - y) ∈ dK n:=by
 obtain ⟨h1,h2⟩:=(uV n o).1 ho
 rw [uV]
 refine ⟨by rw [List.length_map];exact h1,fun x hx=>List.mem_map.2 ⟨((n - 1 - x:Nat):Int),h2 _ (by omega),by omega⟩⟩
theorem aet {n:Nat} {l:List (List Int)} (hE:endsIn n l) (d:Nat) (hd:d < 2 * l.length):nB (l.map (aow (iE n n))) d=(n:Int) - 1 - nB l d∧nD (l.map (aow (iE n n))) d=(n:Int) - 1 - nD l d:=by
 have hk:d / 2 < l.length:=by omega
 have hk2:d / 2 < (l.map (aow (iE n n))).length:=by rw [List.length_map];exact hk
 obtain ⟨u,v,hu,hv,hun,om⟩:=Ci hE (2 * (d / 2)) (by omega)
 obtain ⟨b1,b2,b3,b4⟩:=ER l (d / 2)
 rw [hu] at b3
 rw [hv] at b4
 rw [kL l _ hk] at b3 b4
 have e:ai (l.map (aow (iE n n))) ((d / 2:Nat):Int)=[(n:Int) - 1 - (u:Int),(n:Int) - 1 - (v:Int)]:=by
  rw [kL _ _ hk2,List.getElem_map]
  unfold aow
  rw [b3,b4,Gj n u hun,Gj n v om]
 unfold nB nD
 rw [e,kL l _ hk]
 rcases (by omega:d % 2=0∨d % 2=1) with h|h<;>rw [h]
 ·exact ⟨by show (n:Int) - 1 - (u:Int)=(n:Int) - 1 - rd l[d / 2] ((0:Nat):Int);rw [show rd l[d / 2] ((0:Nat):Int)=u from b3],by show (n:Int) - 1 - (v:Int)=(n:Int) - 1 - rd l[d / 2] ((1:Nat):Int);rw [show rd l[d / 2] ((1:Nat):Int)=v from b4]⟩
 ·exact ⟨by show (n:Int) - 1 - (v:Int)=(n:Int) - 1 - rd l[d / 2] ((1:Nat):Int);rw [show rd l[d / 2] ((1:Nat):Int)=v from b4],by show (n:Int) - 1 - (u:Int)=(n:Int) - 1 - rd l[d / 2] ((0:Nat):Int);rw [show rd l[d / 2] ((0:Nat):Int)=u from b3]⟩
theorem aes {n:Nat} {l:List (List Int)} (hE:endsIn n l) (u v:Nat) (hu:u < n) (hv:v < n):∀ d,d≤2 * l.length→cg (l.map (aow (iE n n))) d (n - 1 - u) (n - 1 - v)=cg l d u v:=by
 intro d
 induction d with
 | zero=>intro _;rfl
 | succ d ih =>
  intro hd
  obtain ⟨e1,e2⟩:=aet hE d (by omega)
  show cg _ d _ _+(if _ then 1 else 0)=cg l d u v+(if _ then 1 else 0)
  rw [ih (by omega),e1,e2]
  congr 1
  by_cases h:nB l d=(u:Int)∧nD l d=(v:Int)
  ·rw [if_pos h,if_pos ⟨by omega,by omega⟩]
  ·rw [if_neg h,if_neg (fun h2=>h ⟨by omega,by omega⟩)]
theorem Tk {n:Nat} {l:List (List Int)} (hE:endsIn n l) {o:List Int} (ho:o ∈ dK n):gx (ck n (cg (l.map (aow (iE n n))) (2 * (l.map (aow (iE n n))).length))) (o.map fun y=>(n:Int) - 1 - y)=gx (ck n (cg l (2 * l.length))) o:=by
 obtain ⟨h1,_,h3⟩:=yG ho
 have hrd:∀ i:Nat,i < o.length→∃ u:Nat,u < n∧rd o (i:Int)=u∧rd (o.map fun y=>(n:Int) - 1 - y) (i:Int)=((n - 1 - u:Nat):Int):=fun i hi=>by
  have h4:=h3 o[i] (List.getElem_mem hi)
  refine ⟨o[i].toNat,by omega,by rw [mD o i hi];omega,?_⟩
  rw [mD _ i (by rw [List.length_map];exact hi),List.getElem_map]
  omega
 unfold gx
 rw [List.length_map,List.length_map]
 have key:∀ i,i≤o.length→kZ (ck n (cg (l.map (aow (iE n n))) (2 * l.length))) (o.map fun y=>(n:Int) - 1 - y) i=kZ (ck n (cg l (2 * l.length))) o i:=by
  intro i
  induction i with
  | zero=>intro _;unfold kZ;rw [aom,aom]
  | succ i ih =>
   intro hi
   unfold kZ
   rw [ih (by omega)]
   congr 1
   unfold qD
   refine List.map_congr_left fun j hj=>?_
   have hj:=List.mem_range.1 hj
   obtain ⟨u,hu,e1,e2⟩:=hrd i (by omega)
   obtain ⟨v,hv,e3,e4⟩:=hrd j (by omega)
   rw [e1,e2,e3,e4,m_ hu,m_ (by omega:n - 1 - u < n),nI hv,nI (by omega:n - 1 - v < n)]
   exact aes hE u v hu hv _ (Nat.le_refl _)
 exact key o.length (Nat.le_refl _)
theorem aev {n:Nat} {l:List (List Int)} (hE:endsIn n l) {r:List Int} (h:ug (ck n (cg l (2 * l.length))) n r):ug (ck n (cg (l.map (aow (iE n n))) (2 * (l.map (aow (iE n n))).length))) n r:=by
 obtain ⟨⟨o,ho,e⟩,h2⟩:=h
 refine ⟨⟨_,KV ho,by rw [Tk hE ho];exact e⟩,fun p hp=>?_⟩
 have h3:=Tk hE (KV hp)
 rw [List.map_map,show ((fun y=>(n:Int) - 1 - y) ∘ fun y=>(n:Int) - 1 - y)=id from funext fun y=>by show (n:Int) - 1 - ((n:Int) - 1 - y)=y;omega,List.map_id] at h3
 rw [h3]
 exact h2 _ (KV hp)
theorem aeu {n:Nat} {l:List (List Int)} (hE:endsIn n l):endsIn n (l.map (aow (iE n n))):=by
 intro i hi
 have hi2:i < l.length:=by rw [List.length_map] at hi;exact hi
 obtain ⟨u,v,hu,hv,hun,om⟩:=Ci hE (2 * i) (by omega)
 obtain ⟨b1,b2,b3,b4⟩:=ER l i
 rw [hu,kL l i hi2] at b3
 rw [hv,kL l i hi2] at b4
 have e:ai (l.map (aow (iE n n))) (i:Int)=[(n:Int) - 1 - (u:Int),(n:Int) - 1 - (v:Int)]:=by
  rw [kL _ _ hi,List.getElem_map]
  unfold aow
  rw [b3,b4,Gj n u hun,Gj n v om]
 rw [e]
 refine ⟨rfl,n - 1 - u,n - 1 - v,?_,?_,by omega,by omega⟩
 ·show (n:Int) - 1 - (u:Int)=_;omega
 ·show (n:Int) - 1 - (v:Int)=_;omega
theorem YO (n:Nat) (sy:1≤n) (hn:n≤6) (l:List (List Int)) (hg:gU (n:Int) l=true) (hE:endsIn n l) (r:List Int) (hr:ug (ck n (cg l (2 * l.length))) n r) (hrl:r.length≤73) (hl:l.length≤maxLen):∀ (d i:Nat),n - i=d→i≤n→Ev (fun k=>anR.l2 k r (iE n i) i n l) true:=by
 intro d
 induction d with
 | zero =>
  intro i hd hi
  obtain rfl:i=n:=by omega
  have mT:=yz hg
  refine Ev.step (fun k=>by simp only [anR.l2];rfl) ?_
  simp only [Int.lt_irrefl,if_false]
  have aci:ql i (iE i i)=true:=(KW i _).1 (aeJ i)
  have h1:=acK (i:Int) l (iE i i) hl (by unfold iE;rw [List.length_map,List.length_range];exact Nat.le_trans hn (by decide))
  have e1:Gf (i:Int) l (iE i i)=((i:Int),l.map (aow (iE i i)),0):=by
   have e2:wM (i:Int) l (iE i i)=0:=by unfold wM;rw [if_pos hg,Int.toNat_natCast,if_pos aci]
   unfold Gf
   rw [if_pos e2]
  rw [e1] at h1
  have Z4:=aeu hE
  have hlm:(l.map (aow (iE i i))).length=l.length:=List.length_map _
  have hg':gU (i:Int) (l.map (aow (iE i i)))=true:=acT sy (by omega) (by omega) Z4
  obtain ⟨s,c,q1,_,_,_,q5,q6⟩:=SP (i:Int) (l.map (aow (iE i i))) (by omega)
  have hc:c=0:=q6 hg' (by omega)
  subst hc
  obtain ⟨m,hm,_,_,_,_,hs⟩:=q5 rfl
  obtain rfl:i=m:=by omega
  obtain rfl:=SQ (aev hE hr) hs
  refine Ev.bind h1 (Ev.bind q1 ?_)
  simp only [if_true]
  exact Ev.bind (F8 r (by omega)) (Ev.now _)
 | succ d ih =>
  intro i hd hi
  have h:=ih (i+1) (by omega) (by omega)
  rw [show iE n (i+1)=iE n i ++ [(n:Int) - 1 - (i:Int)] from by unfold iE;rw [List.range_succ,List.map_append];rfl,show ((i+1:Nat):Int)=(i:Int)+1 by omega] at h
  refine Ev.step (fun k=>by simp only [anR.l2];rfl) ?_
  simp only [lI i n (by omega),if_true,show (iE n i).length < 17592186044416 by (unfold iE;rw [List.length_map,List.length_range];omega),wI ((n:Int) - 1) (by omega),wI ((n:Int) - 1 - (i:Int)) (by omega),wI ((i:Int)+1) (by omega)]
  exact h
theorem YN (r p:List Int) (hlen:p.length=r.length) (hpl:p.length≤73) (a:Int) (l:List (List Int)) (hj:Ev (fun k=>anR.j8 k r a l) true):∀ (d i:Nat),p.length - i=d→i≤p.length→lexB (p.drop i) (r.drop i)=false→Ev (fun k=>anR.l1 k r p i a l) true:=by
 intro d
 induction d with
 | zero =>
  intro i hd hi _
  obtain rfl:i=p.length:=by omega
  refine Ev.step (fun k=>by simp only [anR.l1];rfl) ?_
  simp only [Int.lt_irrefl,if_false]
  exact hj
 | succ d ih =>
  intro i hd hi h
  have h1:i < p.length:=by omega
  have h2:i < r.length:=by omega
  rw [List.drop_eq_getElem_cons h1,List.drop_eq_getElem_cons h2] at h
  unfold lexB at h
  refine Ev.step (fun k=>by simp only [anR.l1];rfl) ?_
  simp only [show ((i:Int) < (p.length:Int)) by omega,fA i,show ((i:Int) < (r.length:Int)) by omega,mD p i h1,mD r i h2,if_true,wI ((i:Int)+1) (by omega)]
  by_cases e:p[i]=r[i]
  ·rw [if_pos e] at h
   simp only [e,if_true]
   exact ih (i+1) (by omega) (by omega) h
  ·rw [if_neg e] at h
   have h:=of_decide_eq_false h
   simp only [e,if_false,show ¬ (r[i] > p[i]) by omega]
   exact hj
/-- The last part: the least code against the plain one, and behind a renumbering. -/
theorem YL (a:Int) (l:List (List Int)) (hl:l.length≤maxLen) (r:List Int) (c:Int) (hrl:r.length≤73) (h0:c ≠ 0→r=[]) (h1:c=0→∃ n:Nat,a=n∧1≤n∧n≤6∧gU a l=true∧endsIn n l∧ug (ck n (cg l (2 * l.length))) n r):Ev (fun k=>anR.j5 k r c a l) true:=by
 refine Ev.step (fun k=>by simp only [anR.j5];rfl) ?_
 by_cases hc:c=0
 ·obtain ⟨n, rfl, sy, hn, hg, hE, hr⟩ := h1 hc
  simp only [hc,if_true]
  have q:=(MW (n:Int) l hl).1
  have e:si (n:Int) l=(gx (ck n (cg l (2 * l.length))) (kH n),0):=by unfold si;rw [if_pos hg,Int.toNat_natCast]
  rw [e] at q
  refine Ev.bind q ?_
  simp only [if_true]
  obtain ⟨o,ho,hre⟩:=hr.1
  have hlen:(gx (ck n (cg l (2 * l.length))) (kH n)).length=r.length:=by rw [hre];exact E3 (uR n) ho
  refine Ev.step (fun k=>by simp only [anR.j6];rfl) ?_
  simp only [hlen,bne_self_eq_false,Bool.false_eq_true,if_false]
  refine YN r _ hlen (by omega) n l ?_ _ 0 (by rfl) (by omega) (hr.2 _ (uR n))
  refine Ev.step (fun k=>by simp only [anR.j8];rfl) ?_
  exact YO n sy hn l hg hE r hr hrl hl n 0 (by omega) (by omega)
 ·simp only [hc, if_false, h0 hc]
  exact Ev.now _
theorem YM (r:List Int) (c:Int) (S:List Int) (a:Int) (l:List (List Int)) (b:Int) (m:List (List Int)) (hm:m.length≤10) (h2:two m) (hS:1≤S.length) (s0:rd S 0=1) (s1:1 < S.length→rd S 1=-(2 * (qM m m.length:Int))) (s2:S.length≤1→qM m m.length=0) (hj:Ev (fun k=>anR.j5 k r c a l) true):∀ (d i:Nat),m.length - i=d→i≤m.length→Ev (fun k=>anR.l0 k r c S (qM m i) i a l b m) true:=by
 intro d
 induction d with
 | zero =>
  intro i hd hi
  obtain rfl:i=m.length:=by omega
  have hle:=SS m m.length
  refine Ev.step (fun k=>by simp only [anR.l0];rfl) ?_
  simp only [Int.lt_irrefl,if_false]
  by_cases h:1 < S.length
  ·have s1 := s1 h
   simp only [show ((S.length:Int) > 1) by omega,show ((1:Int) < (S.length:Int)) by omega,show ¬ ((S.length:Int)=0) by omega,show ((0:Int) < (S.length:Int)) by omega,s0,s1,Int.neg_neg,if_true,if_false]
   exact hj
  ·have s2 := s2 (by omega)
   simp only [show ¬ ((S.length:Int) > 1) by omega,show ¬ ((S.length:Int)=0) by omega,show ((0:Int) < (S.length:Int)) by omega,s0,s2,if_true,if_false,show wrap64 (2 * ((0:Nat):Int))=0 from nc (by decide) (by decide)]
   exact hj
 | succ d ih =>
  intro i hd hi
  have hil:i < m.length:=by omega
  have h:=ih (i+1) (by omega) (by omega)
  have hle:=SS m i
  have hrow:(ai m (i:Int)).length=2:=by rw [kL m i hil];exact h2 _ (List.getElem_mem hil)
  refine Ev.step (fun k=>by simp only [anR.l0];rfl) ?_
  rw [show qM m (i+1)=qM m i+(if rd (ai m (i:Int)) 0=rd (ai m (i:Int)) 1 then 1 else 0) from rfl,show ((i+1:Nat):Int)=(i:Int)+1 by omega] at h
  simp only [show ((i:Int) < (m.length:Int)) by omega,fA i,hrow,show (0:Int) < ((2:Nat):Int) by decide,show (1:Int) < ((2:Nat):Int) by decide,if_true,wI ((i:Int)+1) (by omega)]
  by_cases e:rd (ai m (i:Int)) 0=rd (ai m (i:Int)) 1
  ·rw [if_pos e, show ((qM m i + 1 : Nat) : Int) = (qM m i : Int) + 1 by omega] at h
   simp only [e,if_true,wI ((qM m i:Int)+1) (by omega)]
   exact h
  ·rw [if_neg e, Nat.add_zero] at h
   simp only [e,if_false]
   exact h
/-- What the law asks of a spectrum. -/
theorem YK (r:List Int) (c:Int) (a:Int) (l:List (List Int)) (b:Int) (m:List (List Int)) (hj:Ev (fun k=>anR.j5 k r c a l) true):Ev (fun k=>anR.j3 k r c (ao1 b m).1 (ao1 b m).2 false a l b m) true:=by
 refine Ev.step (fun k=>by simp only [anR.j3];rfl) ?_
 simp only [Bool.false_eq_true,if_false]
 unfold ao1
 cases hg:gU b m with
 | false=>simp only [Bool.false_eq_true,if_false,show ¬ ((1:Int)=0) by decide];exact hj
 | true =>
  obtain ⟨n,rfl,sy,tJ,hE⟩:=tM hg
  simp only [if_true,Int.toNat_natCast]
  have ht:=afa (nZ n (cg m (2 * m.length))) (n+1)
  have h0:=ht 0
  have h1:=ht 1
  rw [if_pos (by omega),O6 n _ 0 (by omega),FW] at h0
  rw [if_pos (by omega),O6 n _ 1 (by omega),YT sy,aqf hE m.length (Nat.le_refl _)] at h1
  have hlen:1≤(jl (nZ n (cg m (2 * m.length))) (n+1)).length:=by
   cases e:jl (nZ n (cg m (2 * m.length))) (n+1) with
   | nil=>rw [e] at h0;exact absurd h0 (by decide)
   | cons x t=>simp
  refine YM r c _ a l n m (yz hg) (IW hE) hlen h0 (fun _=>h1) (fun h2=>?_) hj m.length 0 (by omega) (by omega)
  have h3:rd (jl (nZ n (cg m (2 * m.length))) (n+1)) ((1:Nat):Int)=0:=by
   unfold rd
   simp [List.getElem?_eq_none (show (jl (nZ n (cg m (2 * m.length))) (n+1)).length≤1 from h2)]
  have h4:=h1.symm.trans h3
  omega
theorem Y3 {s:List Int} (hs:r8 s):∃ (a:Int) (l:List (List Int)),Ev (fun k=>lO.f k s) (a,l)∧l.length≤11:=by
 obtain ⟨h0,e0⟩:=Pt hs
 obtain ⟨a,l,t1,h1,e1,d1,b1⟩:=Tt hs 0 h0 ⟨by omega,by omega⟩
 by_cases h6:a=6
 ·obtain ⟨x, t2, h2, e2, b2, _, _⟩ := pL hs t1 h1 4 b1
  by_cases hx:x > 0
  ·obtain ⟨a', l', t3, h3, e3, d3, _⟩ := O_ hs 4 6 t2 h2 ⟨by omega, by omega⟩ ⟨by omega, by omega⟩ b2
   refine ⟨a',l',?_,Nat.le_trans d3.1 (by omega)⟩
   unfold lO.f
   refine Ev.bind e0 (Ev.bind e1 ?_)
   simp only [h6,if_true,e2,Option.bind_some,hx]
   exact Ev.bind e3 (Ev.now _)
  ·refine ⟨6, l, ?_, d1.1⟩
   unfold lO.f
   refine Ev.bind e0 (Ev.bind e1 ?_)
   simp only [h6,if_true,e2,Option.bind_some,hx,if_false]
   exact Ev.now _
 ·refine ⟨a, l, ?_, d1.1⟩
  unfold lO.f
  refine Ev.bind e0 (Ev.bind e1 ?_)
  simp only [h6,if_false]
  exact Ev.now _
end Go.Proofs.Ytoebojnhchocaaa.G
namespace Go.Proofs.Ytoebojnhchocaaa.Pure
open Go.RowKit Go.Proofs.cx.fq Go.Proofs.cx.jX Go.Proofs.cx.lu Go.Proofs.Ytoebojnhchocaaa.G
theorem UT:anR.Pure:=by
 intro s hm _ hb
 have hs:=Xv hm hb
 refine Ev.rounds (r:=true) ?_
 unfold anR.f rP.f
 simp only [Option.bind_some]
 by_cases PR:(s.length:Int) > 4096
 ·simp only [PR,decide_true,if_true];exact Ev.now _
 ·simp only [PR, decide_false, Bool.false_eq_true, if_false]
  obtain ⟨a,l,ed,abP⟩:=Y3 hs
  obtain ⟨h0,e0⟩:=Pt hs
  obtain ⟨b,m,t1,h1,e1,d1,_⟩:=Tt hs 0 h0 ⟨by omega,by omega⟩
  have ec:Ev (fun k=>aoF.f k s) (b,m):=Ev.bind e0 (Ev.bind e1 (Ev.now _))
  have es:Ev (fun k=>ow.f k s) (b,m):=Ev.bind e0 (Ev.bind e1 (Ev.now _))
  have hl:l.length≤maxLen:=Nat.le_trans abP (by decide)
  have hm2:m.length≤maxLen:=Nat.le_trans d1.1 (by decide)
  obtain ⟨r,c,q1,q2,q3,q4,q5,_⟩:=SP a l hl
  refine Ev.bind ed (Ev.bind q1 (Ev.bind q2 ?_))
  simp only [if_true]
  refine Ev.bind (F8 r (by omega)) ?_
  refine Ev.step (fun k=>by simp only [anR.j0];rfl) ?_
  simp only [Bool.not_true,Bool.false_eq_true,if_false]
  obtain ⟨c1,c2⟩:=MW b m hm2
  refine Ev.bind ec (Ev.bind c1 (Ev.bind c2 ?_))
  simp only [if_true]
  refine Ev.bind (F8 _ (Nat.le_trans (YJ b m) (by decide))) ?_
  refine Ev.step (fun k=>by simp only [anR.j1];rfl) ?_
  simp only [Bool.not_true,Bool.false_eq_true,if_false]
  refine Ev.bind es (Ev.bind (acL b m hm2) (Ev.bind (aeQ b m hm2) ?_))
  simp only [if_true]
  refine Ev.bind (F8 _ (aeP b m)) ?_
  refine Ev.step (fun k=>by simp only [anR.j2];rfl) ?_
  simp only [Bool.not_true,Bool.false_eq_true,if_false]
  have last:=YK r c a l b m (YL a l hl r c q3 q4 q5)
  by_cases hc:(si b m).2=0
  ·simp only [hc, if_true]
   have hg:gU b m=true:=by
    cases h:gU b m with
    | true=>rfl
    | false=>unfold si at hc;rw [h] at hc;simp at hc
   obtain ⟨n,rfl,sy,tJ,hE⟩:=tM hg
   have e:(si (n:Int) m).1=gx (ck n (cg m (2 * m.length))) (kH n):=by unfold si;rw [if_pos hg,Int.toNat_natCast]
   have hlen:=Yp (ck n (cg m (2 * m.length))) (kH n) n
   have hid:(kH n).length=n:=(yG (uR n)).1
   have e2:(gx (ck n (cg m (2 * m.length))) (kH n)).length=n * (n+1) / 2+1:=by unfold gx;rw [hid];omega
   have iU:n * (n+1)≤8 * 9:=Nat.mul_le_mul tJ (by omega)
   have e3:wrap64 (wrap64 (Int.tdiv (wrap64 ((n:Int) * wrap64 ((n:Int)+1))) 2)+1)=((n * (n+1) / 2+1:Nat):Int):=by
    rw [nc (n:=(n:Int)+1) (by omega) (by omega),show (n:Int) * ((n:Int)+1)=((n * (n+1):Nat):Int) by simp,nc (n:=((n * (n+1):Nat):Int)) (by omega) (by omega),Tv,nc (n:=((n * (n+1) / 2:Nat):Int)) (by omega) (by omega),nc (by omega) (by omega)]
    omega
   rw [e,e2,e3,bne_self_eq_false]
   exact last
  ·simp only [hc, if_false]
   exact last
end Go.Proofs.Ytoebojnhchocaaa.Pure
/- Set with little white space, by a program. -/
