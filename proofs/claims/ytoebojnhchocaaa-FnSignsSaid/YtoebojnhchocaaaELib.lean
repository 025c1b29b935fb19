/- Plain lemmas on the Lean functions that FnSigns reaches, the first half. No condition. -/
import Derived.Test.YtoebojnhchocaaaEx
namespace Go.Proofs.Ytoebojnhchocaaa.E
open Go.RowKit Go.Proofs.bY.apf Go.Proofs.bY.ko Go.Proofs.bY.kN
set_option linter.unusedVariables false
set_option linter.unusedSimpArgs false
theorem wI (n:Int) (h:-9223372036854775808≤n∧n≤9223372036854775807):wrap64 n=n:=IntWalk.wrap64_in n h
theorem gb (n:Nat):(0:Int)≤(n:Int):=Int.natCast_nonneg n
theorem lI (a b:Nat) (h:a < b):(a:Int) < (b:Int):=Int.ofNat_lt.2 h
theorem iz {n:Int} (h0:-9223372036854775808≤n) (h1:n≤9223372036854775807):wrap64 n=n:=IntWalk.wrap64_in n ⟨h0,h1⟩
theorem oZ (l:List Int) (i:Nat) (h:i < l.length):rd l (i:Int)=l[i]:=by
 simp [rd,List.getD_eq_getElem?_getD,h]
theorem lO (l:List (List Int)) (i:Nat) (h:i < l.length):av l (i:Int)=l[i]:=by
 simp [av,List.getD_eq_getElem?_getD,h]
/-! ### what a graph is -/
def BL (a n:Int):Bool:=decide (0≤n) && decide (n≤wrap64 (a - 1))
def pK (a:Int) (e:List Int):Bool:=decide (e.length=2) && (BL a (rd e 0) && BL a (rd e 1))
def iO (a:Int) (l:List (List Int)):Bool:=decide (1≤a) && (decide (a≤8) && (decide (l.length≤10) && l.all (pK a)))
theorem Io (a b c:Int):ir.f a b c=some (decide (b≤a) && decide (a≤c)):=by
 unfold ir.f
 by_cases h:b≤a<;>simp [h]
theorem Mb (a b c:Int):jm.f a b c=some (decide (b≤a) && decide (a≤c)):=by
 unfold jm.f
 by_cases h:b≤a<;>simp [h]
theorem ade (a:Int) (l:List (List Int)) (hl:l.length≤maxLen):∀ (d i:Nat),l.length - i=d→i≤l.length→Ev (fun k=>jG.l0 k l l.length i a l) ((l.drop i).all (pK a) && (decide (1≤a) && (decide (a≤8) && decide (l.length≤10)))):=by
 unfold maxLen at hl
 intro d
 induction d with
 | zero =>
  intro i hd hi
  refine Ev.step (fun k=>by simp only [jG.l0];rfl) ?_
  simp only [show ¬ ((i:Int) < (l.length:Int)) by omega,if_false,Io,Option.bind_some,List.drop_of_length_le (show l.length≤i by omega),List.all_nil,Bool.true_and]
  by_cases h1:1≤a
  ·by_cases h2 : a ≤ 8
   ·simp only [h1, h2, decide_true, Bool.true_and, if_true]
    exact Ev.congr (fun k=>by congr 1;simp;omega) (Ev.now _)
   ·simp only [h1, h2, decide_true, decide_false, Bool.true_and, Bool.false_and, Bool.false_eq_true, if_false]
    exact Ev.now _
  ·simp only [h1, decide_false, Bool.false_and, Bool.false_eq_true, if_false]
   exact Ev.now _
 | succ d ih =>
  intro i hd hi
  have hil:i < l.length:=by omega
  refine Ev.step (fun k=>by simp only [jG.l0];rfl) ?_
  have Ew:(l.drop i).all (pK a)=(pK a l[i] && (l.drop (i+1)).all (pK a)):=by rw [List.drop_eq_getElem_cons hil,List.all_cons]
  rw [Ew]
  simp only [show ((i:Int) < (l.length:Int)) by omega,gb i,if_true,wI ((i:Int)+1) (by omega),lO l i hil,Io,Option.bind_some]
  unfold pK BL
  by_cases h2:l[i].length=2
  ·simp only [h2, decide_true, Bool.true_and, show ((2 : Nat) : Int) = 2 from rfl, if_true, show (0 : Int) < 2 by omega, show (1 : Int) < 2 by omega]
   by_cases h3:(decide (0≤rd l[i] 0) && decide (rd l[i] 0≤wrap64 (a - 1)))=true
   ·by_cases h4 : (decide (0 ≤ rd l[i] 1) && decide (rd l[i] 1 ≤ wrap64 (a - 1))) = true
    ·simp only [h3, h4, if_true, Bool.true_and]
     exact ih (i+1) (by omega) (by omega)
    ·simp only [Bool.not_eq_true] at h4
     simp only [h3,h4,if_true,Bool.false_and,Bool.and_false,Bool.false_eq_true,if_false]
     exact Ev.now _
   ·simp only [Bool.not_eq_true] at h3
    simp only [h3,Bool.false_and,Bool.false_eq_true,if_false]
    exact Ev.now _
  ·simp only [show ¬ ((l[i].length : Int) = 2) by omega, h2, decide_false, Bool.false_and, if_false]
   exact Ev.now _
theorem Hy (a:Int) (l:List (List Int)) (hl:l.length≤maxLen):Ev (fun k=>jG.f k a l) (iO a l):=by
 unfold jG.f
 have h:=ade a l hl l.length 0 (by omega) (by omega)
 have e:((l.drop 0).all (pK a) && (decide (1≤a) && (decide (a≤8) && decide (l.length≤10))))=iO a l:=by
  unfold iO
  rw [List.drop_zero]
  cases l.all (pK a)<;>simp
 rw [e] at h
 exact h
theorem afn (a:Int) (l:List (List Int)) (hl:l.length≤maxLen):∀ (d i:Nat),l.length - i=d→i≤l.length→Ev (fun k=>eO.l0 k i a l) ((l.drop i).all (pK a)):=by
 unfold maxLen at hl
 intro d
 induction d with
 | zero =>
  intro i hd hi
  refine Ev.step (fun k=>by simp only [eO.l0];rfl) ?_
  simp only [show ¬ ((i:Int) < (l.length:Int)) by omega,if_false,List.drop_of_length_le (show l.length≤i by omega),List.all_nil]
  exact Ev.now _
 | succ d ih =>
  intro i hd hi
  have hil:i < l.length:=by omega
  refine Ev.step (fun k=>by simp only [eO.l0];rfl) ?_
  have Ew:(l.drop i).all (pK a)=(pK a l[i] && (l.drop (i+1)).all (pK a)):=by rw [List.drop_eq_getElem_cons hil,List.all_cons]
  rw [Ew]
  simp only [show ((i:Int) < (l.length:Int)) by omega,gb i,if_true,wI ((i:Int)+1) (by omega),lO l i hil,Mb,Option.bind_some]
  unfold pK BL
  by_cases h2:l[i].length=2
  ·simp only [h2, decide_true, Bool.true_and, show ((2 : Nat) : Int) = 2 from rfl, if_true, show (0 : Int) < 2 by omega, show (1 : Int) < 2 by omega]
   by_cases h3:(decide (0≤rd l[i] 0) && decide (rd l[i] 0≤wrap64 (a - 1)))=true
   ·by_cases h4 : (decide (0 ≤ rd l[i] 1) && decide (rd l[i] 1 ≤ wrap64 (a - 1))) = true
    ·simp only [h3, h4, if_true, Bool.true_and]
     exact ih (i+1) (by omega) (by omega)
    ·simp only [Bool.not_eq_true] at h4
     simp only [h3,h4,if_true,Bool.false_and,Bool.and_false,Bool.false_eq_true,if_false]
     exact Ev.now _
   ·simp only [Bool.not_eq_true] at h3
    simp only [h3,Bool.false_and,Bool.false_eq_true,if_false]
    exact Ev.now _
  ·simp only [show ¬ ((l[i].length : Int) = 2) by omega, h2, decide_false, Bool.false_and, if_false]
   exact Ev.now _
theorem afm (a:Int) (l:List (List Int)) (hl:l.length≤maxLen):Ev (fun k=>eO.f k a l) (iO a l):=by
 unfold eO.f iO
 simp only [Mb,Option.bind_some]
 have hj:∀ b,Ev (fun k=>eO.j0 k b a l) (!b && l.all (pK a)):=by
  intro b
  refine Ev.step (fun k=>by simp only [eO.j0];rfl) ?_
  cases b with
  | true=>simp only [if_true,Bool.not_true,Bool.false_and];exact Ev.now _
  | false =>
   simp only [Bool.false_eq_true,if_false,Bool.not_false,Bool.true_and]
   exact afn a l hl l.length 0 (by omega) (by omega)
 by_cases h1:1≤a
 ·by_cases h2 : a ≤ 8
  ·simp only [h1, h2, decide_true, Bool.true_and, if_true]
   have h:=hj (decide ((l.length:Int) > 10))
   have e:(!decide ((l.length:Int) > 10))=decide (l.length≤10):=by
    by_cases h:l.length≤10
    ·simp [h];omega
    ·simp [h];omega
   rw [e] at h
   exact h
  ·simp only [h1, h2, decide_true, decide_false, Bool.true_and, Bool.false_and, Bool.false_eq_true, if_false]
   exact hj true
 ·simp only [h1, decide_false, Bool.false_and, Bool.false_eq_true, if_false]
  exact hj true
def ay : Nat → (Nat → Int) → Int
 | 0,_=>0
 | n+1,f=>ay n f+f n
theorem eL {n:Nat} {f g:Nat→Int} (h:∀ i,i < n→f i=g i):ay n f=ay n g:=by
 induction n with
 | zero=>rfl
 | succ n ih=>simp only [ay];rw [ih (fun i hi=>h i (by omega)),h n (by omega)]
theorem jE {n:Nat} {f:Nat→Int} (h:∀ i,i < n→f i=0):ay n f=0:=by
 induction n with
 | zero=>rfl
 | succ n ih=>simp only [ay];rw [ih (fun i hi=>h i (by omega)),h n (by omega)];rfl
theorem k7 (n:Nat) (f g:Nat→Int):ay n (fun i=>f i+g i)=ay n f+ay n g:=by
 induction n with
 | zero=>rfl
 | succ n ih=>simp only [ay];rw [ih];omega
theorem jg (n:Nat) (x:Int) (f:Nat→Int):ay n (fun i=>x * f i)=x * ay n f:=by
 induction n with
 | zero=>simp [ay]
 | succ n ih=>simp only [ay];rw [ih,Int.mul_add]
theorem Cy (n:Nat) (f:Nat→Int):ay n (fun i=>- f i)=- ay n f:=by
 induction n with
 | zero=>rfl
 | succ n ih=>simp only [ay];rw [ih];omega
theorem wz (n:Nat) (f g:Nat→Int):ay n (fun i=>f i - g i)=ay n f - ay n g:=by
 induction n with
 | zero=>rfl
 | succ n ih=>simp only [ay];rw [ih];omega
theorem mS {n:Nat} {f:Nat→Int} (k:Nat) (hk:k < n) (h:∀ i,i < n→i ≠ k→f i=0):ay n f=f k:=by
 induction n with
 | zero=>omega
 | succ n ih =>
  simp only [ay]
  by_cases hkn:k=n
  ·subst hkn
   rw [jE (fun i hi=>h i (by omega) (by omega))];omega
  ·rw [ih (by omega) (fun i hi hne=>h i (by omega) hne),h n (by omega) (by omega)];omega
theorem ad7 {n:Nat} {f:Nat→Int} (k l:Nat) (hk:k < n) (hl:l < n) (iW:k ≠ l) (h:∀ i,i < n→i ≠ k→i ≠ l→f i=0):ay n f=f k+f l:=by
 have e:ay n f=ay n (fun i=>(if i=k then f k else 0)+(if i=l then f l else 0)):=by
  refine eL (fun i hi=>?_)
  by_cases h1:i=k
  ·subst h1;simp [iW]
  ·by_cases h2 : i = l
   ·subst h2;simp [h1]
   ·simp [h1,h2,h i hi h1 h2]
 rw [e,k7,mS k hk (fun i _ hne=>by simp [hne]),mS l hl (fun i _ hne=>by simp [hne])]
 simp
theorem Cz (n:Nat) (f:Nat→Int):ay (n+1) f=f 0+ay n (fun i=>f (i+1)):=by
 induction n with
 | zero=>simp [ay]
 | succ n ih =>
  rw [show ay (n+1+1) f=ay (n+1) f+f (n+1) from rfl,ih]
  simp only [ay];omega
theorem yS (n m:Nat) (f:Nat→Nat→Int):ay n (fun i=>ay m (fun j=>f i j))=ay m (fun j=>ay n (fun i=>f i j)):=by
 induction n with
 | zero=>simp only [ay];rw [jE (fun _ _=>rfl)]
 | succ n ih=>simp only [ay];rw [ih,k7]
theorem E9 (n m:Nat) (f:Nat→Int):ay (n+m) f=ay n f+ay m (fun i=>f (n+i)):=by
 induction m with
 | zero=>simp [ay]
 | succ m ih=>rw [← Nat.add_assoc];simp only [ay];rw [ih];omega
theorem Cx {n m:Nat} {f:Nat→Int} (h:n≤m) (hz:∀ i,n≤i→i < m→f i=0):ay m f=ay n f:=by
 obtain ⟨d,rfl⟩:=Nat.exists_eq_add_of_le h
 rw [E9,jE (n:=d) (fun i hi=>hz _ (by omega) (by omega))];omega
theorem ad5 (n : Nat) (f : Nat → Nat → Int) :
  ay (n+1) (fun i=>ay n (fun j=>f i j))=ay (n+1) (fun b=>ay b (fun a=>f b a+f a (b-1))):=by
 induction n with
 | zero=>simp [ay]
 | succ n ih =>
  rw [show ay (n+1+1) (fun b=>ay b (fun a=>f b a+f a (b-1)))=ay (n+1) (fun b=>ay b (fun a=>f b a+f a (b-1)))+ay (n+1) (fun a=>f (n+1) a+f a n) from rfl]
  rw [← ih,k7]
  rw [show ay (n+1+1) (fun i=>ay (n+1) (fun j=>f i j))=ay (n+1) (fun i=>ay (n+1) (fun j=>f i j))+ay (n+1) (fun j=>f (n+1) j) from rfl]
  rw [show (fun i=>ay (n+1) (fun j=>f i j))=(fun i=>ay n (fun j=>f i j)+f i n) from rfl,k7]
  have:ay (n+1) (f (n+1))=ay (n+1) (fun j=>f (n+1) j):=rfl
  omega
def bK (i a:Nat):Nat:=if a < i then a else a+1
def jN (i:Nat):Int:=if i % 2=0 then 1 else -1
theorem Td (i:Nat):jN (i+1)=- jN i:=by
 unfold jN;by_cases h:i % 2=0
 ·rw [if_pos h,if_neg (by omega)]
 ·rw [if_neg h,if_pos (by omega)];rfl
theorem HN {i a n:Nat} (hi:i < n+1) (ha:a < n):bK i a < n+1:=by unfold bK;split<;>omega
def bn : Nat → (Nat → Nat → Int) → Int
 | 0,_=>1
 | n+1,M=>ay (n+1) (fun i=>jN i * M i 0 * bn n (fun a b=>M (bK i a) (b+1)))
theorem ov (n:Nat) (M:Nat→Nat→Int):bn (n+1) M=ay (n+1) (fun i=>jN i * M i 0 * bn n (fun a b=>M (bK i a) (b+1))):=rfl
theorem gy {n:Nat}:∀ {M N:Nat→Nat→Int},(∀ a b,a < n→b < n→M a b=N a b)→bn n M=bn n N:=by
 induction n with
 | zero=>intros;rfl
 | succ n ih =>
  intro M N h
  rw [ov,ov]
  refine eL (fun i hi=>?_)
  rw [h i 0 hi (by omega),ih (fun a b ha hb=>h _ _ (HN hi ha) (by omega))]
def bO (M:Nat→Nat→Int) (i:Nat) (r:Nat→Int):Nat→Nat→Int:=fun a b=>if a=i then r b else M a b
def dx (M:Nat→Nat→Int) (j:Nat) (c:Nat→Int):Nat→Nat→Int:=fun a b=>if b=j then c a else M a b
def AH (i a:Nat):Nat:=if a < i then a else a - 1
theorem Te {i a k:Nat} (h:k ≠ i):bK i a=k↔a=AH i k:=by unfold bK AH;split<;>split<;>omega
theorem ad9 {i k n:Nat} (hi:i < n+1) (hk:k < n+1) (h:k ≠ i):AH i k < n:=by unfold AH;split<;>omega
theorem Mj (i a:Nat):bK i a ≠ i:=by unfold bK;split<;>omega
theorem HJ {M:Nat→Nat→Int} {i k:Nat} {r:Nat→Int} (h:k ≠ i):(fun a b=>bO M k r (bK i a) (b+1))=bO (fun a b=>M (bK i a) (b+1)) (AH i k) (fun b=>r (b+1)):=by
 funext a b
 unfold bO
 by_cases e:bK i a=k
 ·rw [if_pos e,if_pos ((Te h).mp e)]
 ·rw [if_neg e,if_neg (fun h'=>e ((Te h).mpr h'))]
theorem aq1 {M:Nat→Nat→Int} {k:Nat} {r:Nat→Int}:(fun a b=>bO M k r (bK k a) (b+1))=(fun a b=>M (bK k a) (b+1)):=by
 funext a b
 unfold bO
 rw [if_neg (Mj k a)]
theorem aq0 {n:Nat}:∀ (M:Nat→Nat→Int) (k:Nat),k < n→∀ (x y:Int) (r s:Nat→Int),bn n (bO M k (fun b=>x * r b+y * s b))=x * bn n (bO M k r)+y * bn n (bO M k s):=by
 induction n with
 | zero=>intro M k hk;omega
 | succ n ih =>
  intro M k hk x y r s
  rw [ov,ov,ov,← jg,← jg,← k7]
  refine eL (fun i hi=>?_)
  by_cases e:k=i
  ·subst e
   rw [aq1,aq1,aq1]
   simp only [bO,if_true]
   generalize bn n _=D
   grind
  ·rw [HJ e, HJ e, HJ e, ih _ _ (ad9 hi hk e)]
   simp only [bO,if_neg (Ne.symm e)]
   generalize bn n _=D
   generalize bn n _=E
   grind
theorem Mf {n:Nat} (M:Nat→Nat→Int) (k:Nat) (hk:k < n) (x:Int) (r:Nat→Int):bn n (bO M k (fun b=>x * r b))=x * bn n (bO M k r):=by
 have:=aq0 M k hk x 0 r r
 simpa using this
theorem Ct {n:Nat} (M:Nat→Nat→Int) (k:Nat) (hk:k < n) (r s:Nat→Int):bn n (bO M k (fun b=>r b+s b))=bn n (bO M k r)+bn n (bO M k s):=by
 have:=aq0 M k hk 1 1 r s
 simpa using this
theorem Cw (M:Nat→Nat→Int) (k:Nat):bO M k (M k)=M:=by
 funext a b;unfold bO;split
 ·case _ h=>rw [h]
 ·rfl
theorem tC (M:Nat→Nat→Int) {k l:Nat} (h:k ≠ l) (r s:Nat→Int):bO (bO M k r) l s=bO (bO M l s) k r:=by
 funext a b;unfold bO;by_cases e:a=l
 ·subst e;simp [Ne.symm h]
 ·simp [e]
theorem adX {n:Nat} (M:Nat→Nat→Int) (k:Nat) (hk:k < n) (h:∀ b,b < n→M k b=0):bn n M=0:=by
 have e:bn n M=bn n (bO M k (fun b=>0 * M k b)):=by
  refine gy (fun a b _ hb=>?_)
  unfold bO;split
  ·case _ h'=>rw [h',h b hb];simp
  ·rfl
 rw [e,Mf _ _ hk];simp
theorem HE {n:Nat}:∀ (M:Nat→Nat→Int) (k:Nat),k+1 < n→(∀ b,b < n→M k b=M (k+1) b)→bn n M=0:=by
 induction n with
 | zero=>intro M k hk;omega
 | succ n ih =>
  intro M k hk h
  rw [ov,ad7 k (k+1) (by omega) hk (by omega)]
  ·have e:bn n (fun a b=>M (bK k a) (b+1))=bn n (fun a b=>M (bK (k+1) a) (b+1)):=by
    refine gy (fun a b ha hb=>?_)
    by_cases h1:a=k
    ·subst h1
     have e1:bK a a=a+1:=by unfold bK;split<;>omega
     have e2:bK (a+1) a=a:=by unfold bK;split<;>omega
     rw [e1,e2,h _ (by omega)]
    ·have : bK k a = bK (k+1) a := by unfold bK; split <;> split <;> omega
     rw [this]
   rw [e,Td,h 0 (by omega)]
   generalize bn n _=D
   grind
  ·intro i hi h1 h2
   have:bn n (fun a b=>M (bK i a) (b+1))=0:=by
    by_cases hik:i < k
    ·refine ih _ (k-1) (by omega) (fun b hb => ?_)
     have e1:bK i (k-1)=k:=by unfold bK;split<;>omega
     have e2:bK i (k-1+1)=k+1:=by unfold bK;split<;>omega
     simp only [e1,e2];exact h _ (by omega)
    ·refine ih _ k (by omega) (fun b hb => ?_)
     have e1:bK i k=k:=by unfold bK;split<;>omega
     have e2:bK i (k+1)=k+1:=by unfold bK;split<;>omega
     simp only [e1,e2];exact h _ (by omega)
   rw [this];simp
theorem adO {n:Nat} (M:Nat→Nat→Int) (k:Nat) (hk:k+1 < n) (r s:Nat→Int):bn n (bO (bO M k r) (k+1) s)=- bn n (bO (bO M k s) (k+1) r):=by
 have h0:bn n (bO (bO M k (fun b=>r b+s b)) (k+1) (fun b=>r b+s b))=0 :=
  HE _ k hk (fun b _=>by simp [bO])
 have hr:bn n (bO (bO M k r) (k+1) r)=0:=HE _ k hk (fun b _=>by simp [bO])
 have hs:bn n (bO (bO M k s) (k+1) s)=0:=HE _ k hk (fun b _=>by simp [bO])
 rw [Ct _ _ hk,tC _ (show k ≠ k+1 by omega),tC _ (show k ≠ k+1 by omega),Ct _ _ (by omega),Ct _ _ (by omega)] at h0
 rw [tC _ (show k+1 ≠ k by omega),tC _ (show k+1 ≠ k by omega),tC _ (show k+1 ≠ k by omega),tC _ (show k+1 ≠ k by omega),hr,hs] at h0
 omega
theorem S5 {n:Nat}:∀ (d:Nat) (M:Nat→Nat→Int) (k:Nat),k+1+d < n→(∀ b,b < n→M k b=M (k+1+d) b)→bn n M=0:=by
 intro d
 induction d with
 | zero=>intro M k hk h;exact HE M k hk h
 | succ d ih =>
  intro M k hk h
  have e:M=bO (bO M (k+1+d) (M (k+1+d))) (k+1+d+1) (M (k+1+d+1)):=by
   rw [Cw,Cw]
  rw [e,adO _ _ (by omega)]
  rw [ih _ k (by omega) (fun b hb=>?_)]
  ·rfl
  ·simp only [bO]
   rw [if_neg (by omega),if_neg (by omega),if_neg (by omega),if_pos trivial]
   exact h b hb
theorem E7 {n:Nat} (M:Nat→Nat→Int) (k l:Nat) (hk:k < n) (hl:l < n) (iW:k ≠ l) (h:∀ b,b < n→M k b=M l b):bn n M=0:=by
 rcases Nat.lt_or_gt_of_ne iW with h1|h1
 ·obtain ⟨d, rfl⟩ := Nat.exists_eq_add_of_lt h1
  exact S5 d M k (by omega) (fun b hb=>by rw [h b hb];congr 1;omega)
 ·obtain ⟨d, rfl⟩ := Nat.exists_eq_add_of_lt h1
  exact S5 d M l (by omega) (fun b hb=>by rw [← h b hb];congr 1;omega)
theorem S_ {n:Nat} (M:Nat→Nat→Int) (k l:Nat) (hk:k < n) (hl:l < n) (iW:k ≠ l) (x:Int):bn n (bO M k (fun b=>M k b+x * M l b))=bn n M:=by
 have h1:=aq0 M k hk 1 x (M k) (M l)
 have h2:bn n (bO M k (M l))=0:=E7 _ k l hk hl iW (fun b _=>by simp [bO,Ne.symm iW])
 rw [h2,Cw] at h1
 simpa using h1
theorem adY {n:Nat} (M:Nat→Nat→Int) (l:Nat) (hl:l < n) (x:Nat→Int) (hx:x l=0):bn n (fun a b=>M a b+x a * M l b)=bn n M:=by
 have key:∀ m,m≤n→bn n (fun a b=>if a < m then M a b+x a * M l b else M a b)=bn n M:=by
  intro m
  induction m with
  | zero=>intro _;exact gy (fun a b _ _=>by simp)
  | succ m ih =>
   intro hm
   rw [← ih (by omega)]
   by_cases hml:m=l
   ·subst hml
    refine gy (fun a b _ _=>?_)
    by_cases h1:a < m
    ·rw [if_pos h1,if_pos (by omega)]
    ·by_cases h2 : a = m
     ·subst h2;simp [hx]
     ·rw [if_neg h1,if_neg (by omega)]
   ·rw [← S_ (fun a b => if a < m then M a b + x a * M l b else M a b) m l (by omega) hl hml (x m)]
    refine gy (fun a b _ _=>?_)
    simp only [bO]
    by_cases h2:a=m
    ·subst h2
     by_cases h3:l < a
     ·simp [h3,hx]
     ·simp [h3]
    ·by_cases h1 : a < m
     ·rw [if_pos (by omega),if_neg h2,if_pos h1]
     ·rw [if_neg (by omega),if_neg h2,if_neg h1]
 rw [← key n (Nat.le_refl n)]
 exact gy (fun a b ha _=>by rw [if_pos ha])
theorem Ta {n:Nat} (M:Nat→Nat→Int) (k l:Nat) (hk:k < n) (hl:l < n) (iW:k ≠ l):bn n (bO (bO M k (M l)) l (M k))=- bn n M:=by
 have h0:bn n (bO (bO M k (fun b=>M k b+M l b)) l (fun b=>M k b+M l b))=0 :=
  E7 _ k l hk hl iW (fun b _=>by simp [bO,iW])
 have hr:bn n (bO (bO M k (M k)) l (M k))=0:=E7 _ k l hk hl iW (fun b _=>by simp [bO,iW])
 have hs:bn n (bO (bO M k (M l)) l (M l))=0:=E7 _ k l hk hl iW (fun b _=>by simp [bO,iW])
 rw [Ct _ _ hl,tC _ iW,tC _ iW,Ct _ _ hk,Ct _ _ hk] at h0
 rw [tC _ (Ne.symm iW),tC _ (Ne.symm iW),tC _ (Ne.symm iW),tC _ (Ne.symm iW),hr,hs,Cw,Cw] at h0
 omega
theorem Mh {M:Nat→Nat→Int} {i k:Nat} {c:Nat→Int}:(fun a b=>dx M (k+1) c (bK i a) (b+1))=dx (fun a b=>M (bK i a) (b+1)) k (fun a=>c (bK i a)):=by
 funext a b
 unfold dx
 by_cases e:b=k
 ·subst e;simp
 ·simp [e]
theorem Mi {M:Nat→Nat→Int} {i:Nat} {c:Nat→Int}:(fun a b=>dx M 0 c (bK i a) (b+1))=(fun a b=>M (bK i a) (b+1)):=by
 funext a b;unfold dx;simp
theorem aqZ {n:Nat}:∀ (M:Nat→Nat→Int) (k:Nat),k < n→∀ (x y:Int) (r s:Nat→Int),bn n (dx M k (fun b=>x * r b+y * s b))=x * bn n (dx M k r)+y * bn n (dx M k s):=by
 induction n with
 | zero=>intro M k hk;omega
 | succ n ih =>
  intro M k hk x y r s
  rw [ov,ov,ov,← jg,← jg,← k7]
  refine eL (fun i hi=>?_)
  cases k with
  | zero =>
   rw [Mi,Mi,Mi]
   simp only [dx,if_true]
   generalize bn n _=D
   grind
  | succ k =>
   rw [Mh,Mh,Mh,ih _ _ (by omega)]
   simp only [dx,if_neg (show ¬ 0=k+1 by omega)]
   generalize bn n _=D
   generalize bn n _=E
   grind
theorem S7 {n:Nat} (M:Nat→Nat→Int) (k:Nat) (hk:k < n) (x:Int) (r:Nat→Int):bn n (dx M k (fun b=>x * r b))=x * bn n (dx M k r):=by
 have:=aqZ M k hk x 0 r r
 simpa using this
theorem Cs {n:Nat} (M:Nat→Nat→Int) (k:Nat) (hk:k < n) (r s:Nat→Int):bn n (dx M k (fun b=>r b+s b))=bn n (dx M k r)+bn n (dx M k s):=by
 have:=aqZ M k hk 1 1 r s
 simpa using this
theorem E8 (M:Nat→Nat→Int) (k:Nat):dx M k (fun a=>M a k)=M:=by
 funext a b;unfold dx;split
 ·case _ h=>rw [h]
 ·rfl
theorem tv (M:Nat→Nat→Int) {k l:Nat} (h:k ≠ l) (r s:Nat→Int):dx (dx M k r) l s=dx (dx M l s) k r:=by
 funext a b;unfold dx;by_cases e:b=l
 ·subst e;simp [Ne.symm h]
 ·simp [e]
theorem S8 {n:Nat} (M:Nat→Nat→Int) (k:Nat) (hk:k < n) (h:∀ a,a < n→M a k=0):bn n M=0:=by
 have e:bn n M=bn n (dx M k (fun a=>0 * M a k)):=by
  refine gy (fun a b ha _=>?_)
  unfold dx;split
  ·case _ h'=>rw [h',h a ha];simp
  ·rfl
 rw [e,S7 _ _ hk];simp
theorem HF {n:Nat}:∀ (M:Nat→Nat→Int) (k:Nat),k+1 < n→(∀ a,a < n→M a k=M a (k+1))→bn n M=0:=by
 induction n with
 | zero=>intro M k hk;omega
 | succ n ih =>
  intro M k hk h
  cases k with
  | succ k =>
   rw [ov]
   refine jE (fun i hi=>?_)
   rw [ih _ k (by omega) (fun a ha=>h _ (HN hi ha))];simp
  | zero =>
   obtain ⟨m,rfl⟩:∃ m,n=m+1:=⟨n - 1,by omega⟩
   rw [ov]
   have e:ay (m+1+1) (fun i=>jN i * M i 0 * bn (m+1) (fun a b=>M (bK i a) (b+1)))=ay (m+1+1) (fun i=>ay (m+1) (fun j=>jN i * jN j * M i 0 * M (bK i j) 0 * bn m (fun a b=>M (bK i (bK j a)) (b+1+1)))):=by
    refine eL (fun i hi=>?_)
    rw [ov,← jg]
    refine eL (fun j hj=>?_)
    rw [h (bK i j) (HN hi hj)]
    generalize bn m _=D
    grind
   rw [e,ad5]
   refine jE (fun b hb=>jE (fun a ha=>?_))
   have e1:bK b a=a:=by unfold bK;split<;>omega
   have e2:bK a (b-1)=b:=by unfold bK;split<;>omega
   have e3:∀ c,bK b (bK a c)=bK a (bK (b-1) c):=by intro c;unfold bK;(repeat' split)<;>omega
   have e4:jN b=- jN (b-1):=by rw [← Td];congr 1;omega
   simp only [e1,e2,e3,e4]
   generalize bn m _=D
   grind
theorem adR {n:Nat} (M:Nat→Nat→Int) (k:Nat) (hk:k+1 < n) (r s:Nat→Int):bn n (dx (dx M k r) (k+1) s)=- bn n (dx (dx M k s) (k+1) r):=by
 have h0:bn n (dx (dx M k (fun b=>r b+s b)) (k+1) (fun b=>r b+s b))=0 :=
  HF _ k hk (fun b _=>by simp [dx])
 have hr:bn n (dx (dx M k r) (k+1) r)=0:=HF _ k hk (fun b _=>by simp [dx])
 have hs:bn n (dx (dx M k s) (k+1) s)=0:=HF _ k hk (fun b _=>by simp [dx])
 rw [Cs _ _ hk,tv _ (show k ≠ k+1 by omega),tv _ (show k ≠ k+1 by omega),Cs _ _ (by omega),Cs _ _ (by omega)] at h0
 rw [tv _ (show k+1 ≠ k by omega),tv _ (show k+1 ≠ k by omega),tv _ (show k+1 ≠ k by omega),tv _ (show k+1 ≠ k by omega),hr,hs] at h0
 omega
theorem S6 {n:Nat}:∀ (d:Nat) (M:Nat→Nat→Int) (k:Nat),k+1+d < n→(∀ b,b < n→M b k=M b (k+1+d))→bn n M=0:=by
 intro d
 induction d with
 | zero=>intro M k hk h;exact HF M k hk h
 | succ d ih =>
  intro M k hk h
  have e:M=dx (dx M (k+1+d) (fun a=>M a (k+1+d))) (k+1+d+1) (fun a=>M a (k+1+d+1)):=by
   rw [E8,E8]
  rw [e,adR _ _ (by omega)]
  rw [ih _ k (by omega) (fun b hb=>?_)]
  ·rfl
  ·simp only [dx]
   rw [if_neg (by omega),if_neg (by omega),if_neg (by omega),if_pos trivial]
   exact h b hb
theorem HH {n:Nat} (M:Nat→Nat→Int) (k l:Nat) (hk:k < n) (hl:l < n) (iW:k ≠ l) (h:∀ b,b < n→M b k=M b l):bn n M=0:=by
 rcases Nat.lt_or_gt_of_ne iW with h1|h1
 ·obtain ⟨d, rfl⟩ := Nat.exists_eq_add_of_lt h1
  exact S6 d M k (by omega) (fun b hb=>by rw [h b hb];congr 1;omega)
 ·obtain ⟨d, rfl⟩ := Nat.exists_eq_add_of_lt h1
  exact S6 d M l (by omega) (fun b hb=>by rw [← h b hb];congr 1;omega)
theorem adQ {n:Nat} (M:Nat→Nat→Int) (k l:Nat) (hk:k < n) (hl:l < n) (iW:k ≠ l) (x:Int):bn n (dx M k (fun a=>M a k+x * M a l))=bn n M:=by
 have h1:=aqZ M k hk 1 x (fun a=>M a k) (fun a=>M a l)
 have h2:bn n (dx M k (fun a=>M a l))=0:=HH _ k l hk hl iW (fun b _=>by simp [dx,Ne.symm iW])
 rw [h2,E8] at h1
 simpa using h1
theorem adU {n:Nat} (M:Nat→Nat→Int) (l:Nat) (hl:l < n) (x:Nat→Int) (hx:x l=0):bn n (fun a b=>M a b+x b * M a l)=bn n M:=by
 have key:∀ m,m≤n→bn n (fun a b=>if b < m then M a b+x b * M a l else M a b)=bn n M:=by
  intro m
  induction m with
  | zero=>intro _;exact gy (fun a b _ _=>by simp)
  | succ m ih =>
   intro hm
   rw [← ih (by omega)]
   by_cases hml:m=l
   ·subst hml
    refine gy (fun a b _ _=>?_)
    by_cases h1:b < m
    ·rw [if_pos h1,if_pos (by omega)]
    ·by_cases h2 : b = m
     ·subst h2;simp [hx]
     ·rw [if_neg h1,if_neg (by omega)]
   ·rw [← adQ (fun a b => if b < m then M a b + x b * M a l else M a b) m l (by omega) hl hml (x m)]
    refine gy (fun a b _ _=>?_)
    simp only [dx]
    by_cases h2:b=m
    ·subst h2
     by_cases h3:l < b
     ·simp [h3,hx]
     ·simp [h3]
    ·by_cases h1 : b < m
     ·rw [if_pos (by omega),if_neg h2,if_pos h1]
     ·rw [if_neg (by omega),if_neg h2,if_neg h1]
 rw [← key n (Nat.le_refl n)]
 exact gy (fun a b _ hb=>by rw [if_pos hb])
theorem adT {n:Nat} (M:Nat→Nat→Int) (k l:Nat) (hk:k < n) (hl:l < n) (iW:k ≠ l):bn n (dx (dx M k (fun a=>M a l)) l (fun a=>M a k))=- bn n M:=by
 have h0:bn n (dx (dx M k (fun b=>M b k+M b l)) l (fun b=>M b k+M b l))=0 :=
  HH _ k l hk hl iW (fun b _=>by simp [dx,iW])
 have hr:bn n (dx (dx M k (fun b=>M b k)) l (fun b=>M b k))=0:=HH _ k l hk hl iW (fun b _=>by simp [dx,iW])
 have hs:bn n (dx (dx M k (fun b=>M b l)) l (fun b=>M b l))=0:=HH _ k l hk hl iW (fun b _=>by simp [dx,iW])
 rw [Cs _ _ hl,tv _ iW,tv _ iW,Cs _ _ hk,Cs _ _ hk] at h0
 rw [tv _ (Ne.symm iW),tv _ (Ne.symm iW),tv _ (Ne.symm iW),tv _ (Ne.symm iW),hr,hs,E8,E8] at h0
 omega
theorem S9 {n:Nat}:∀ (M:Nat→Nat→Int),(∀ b,b < n→M n b=0)→bn (n+1) M=M n n * bn n M:=by
 induction n with
 | zero=>intro M _;simp [bn,ay,jN]
 | succ n ih =>
  intro M h
  rw [ov (n+1)]
  rw [show ay (n+1+1) (fun i=>jN i * M i 0 * bn (n+1) (fun a b=>M (bK i a) (b+1)))=ay (n+1) (fun i=>jN i * M i 0 * bn (n+1) (fun a b=>M (bK i a) (b+1)))+jN (n+1) * M (n+1) 0 * bn (n+1) (fun a b=>M (bK (n+1) a) (b+1)) from rfl]
  rw [h 0 (by omega)]
  simp only [Int.mul_zero,Int.zero_mul,Int.add_zero]
  rw [ov n M,← jg]
  refine eL (fun i hi=>?_)
  have e:bK i n=n+1:=by unfold bK;split<;>omega
  rw [ih _ (fun b hb=>by rw [e];exact h _ (by omega))]
  rw [e]
  generalize bn n _=D
  grind
theorem adV {n:Nat}:∀ (M:Nat→Nat→Int),(∀ a,a < n→M a n=0)→bn (n+1) M=M n n * bn n M:=by
 induction n with
 | zero=>intro M _;simp [bn,ay,jN]
 | succ n ih =>
  intro M h
  rw [ov (n+1)]
  rw [show ay (n+1+1) (fun i=>jN i * M i 0 * bn (n+1) (fun a b=>M (bK i a) (b+1)))=ay (n+1) (fun i=>jN i * M i 0 * bn (n+1) (fun a b=>M (bK i a) (b+1)))+jN (n+1) * M (n+1) 0 * bn (n+1) (fun a b=>M (bK (n+1) a) (b+1)) from rfl]
  have z:bn (n+1) (fun a b=>M (bK (n+1) a) (b+1))=0:=by
   refine S8 _ n (by omega) (fun a ha=>?_)
   have e:bK (n+1) a=a:=by unfold bK;split<;>omega
   rw [e];exact h _ (by omega)
  rw [z]
  simp only [Int.mul_zero,Int.add_zero]
  rw [ov n M,← jg]
  refine eL (fun i hi=>?_)
  have e:bK i n=n+1:=by unfold bK;split<;>omega
  rw [ih _ (fun a ha=>by exact h _ (HN hi (by omega)))]
  rw [e]
  generalize bn n _=D
  grind
def aW (j b:Nat):Int:=if b=j then 1 else 0
theorem uV (j:Nat):aW j j=1:=by simp [aW]
theorem qY {j b:Nat} (h:b ≠ j):aW j b=0:=by simp [aW,h]
theorem adW (n:Nat):bn n (fun a b=>aW a b)=1:=by
 induction n with
 | zero=>rfl
 | succ n ih=>rw [S9 _ (fun b hb=>qY (by omega)),ih,uV];rfl
theorem aq3 {n:Nat} (x:Nat→Int) (b:Nat) (hb:b < n):ay n (fun j=>x j * aW j b)=x b:=by
 rw [mS b hb (fun i _ hne=>by rw [qY (Ne.symm hne)];simp),uV];simp
theorem aq4 {n:Nat} (x:Nat→Int) (b:Nat) (hb:b < n):ay n (fun j=>x j * aW b j)=x b:=by
 rw [mS b hb (fun i _ hne=>by rw [qY hne];simp),uV];simp
theorem Mg {n : Nat} (M : Nat → Nat → Int) (i : Nat) (hi : i < n) (m : Nat) (x : Nat → Int) (r : Nat → Nat → Int) :
  bn n (bO M i (fun b=>ay m (fun j=>x j * r j b)))=ay m (fun j=>x j * bn n (bO M i (r j))):=by
 induction m with
 | zero=>exact adX _ i hi (fun b _=>by simp [bO,ay])
 | succ m ih =>
  simp only [ay]
  have:=aq0 M i hi 1 (x m) (fun b=>ay m (fun j=>x j * r j b)) (r m)
  simp only [Int.one_mul] at this
  rw [this,ih]
theorem adS {n : Nat} (M : Nat → Nat → Int) (i : Nat) (hi : i < n) (m : Nat) (x : Nat → Int) (r : Nat → Nat → Int) :
  bn n (dx M i (fun b=>ay m (fun j=>x j * r j b)))=ay m (fun j=>x j * bn n (dx M i (r j))):=by
 induction m with
 | zero=>exact S8 _ i hi (fun b _=>by simp [dx,ay])
 | succ m ih =>
  simp only [ay]
  have:=aqZ M i hi 1 (x m) (fun b=>ay m (fun j=>x j * r j b)) (r m)
  simp only [Int.one_mul] at this
  rw [this,ih]
def rK (n:Nat) (M:Nat→Nat→Int) (j i:Nat):Int:=bn n (bO M i (aW j))
theorem adJ {n:Nat} (M:Nat→Nat→Int) (k i:Nat) (hi:i < n) (hk:k < n):ay n (fun j=>M k j * rK n M j i)=if k=i then bn n M else 0:=by
 unfold rK
 rw [← Mg M i hi n (M k) (fun j=>aW j)]
 have e:bn n (bO M i (fun b=>ay n (fun j=>M k j * aW j b)))=bn n (bO M i (M k)):=by
  refine gy (fun a b _ hb=>?_)
  unfold bO;split
  ·exact aq3 (M k) b hb
  ·rfl
 rw [e]
 by_cases h:k=i
 ·subst h;rw [Cw,if_pos rfl]
 ·rw [if_neg h]
  exact E7 _ i k hi hk (Ne.symm h) (fun b _=>by simp [bO,h])
theorem adP (r : Nat) (K : Nat → Nat → Int) :
  bn (r+1) K=K r r * bn r K - ay r (fun j=>ay r (fun i=>K r j * rK r K j i * K i r)):=by
 have hrow:bn (r+1) K=ay (r+1) (fun j=>K r j * bn (r+1) (bO K r (aW j))):=by
  rw [← Mg K r (by omega) (r+1) (K r) (fun j=>aW j)]
  refine gy (fun a b _ hb=>?_)
  unfold bO;split
  ·case _ h=>exact (by rw [h]:K a b=K r b).trans (aq3 (K r) b hb).symm
  ·rfl
 rw [hrow]
 rw [show ay (r+1) (fun j=>K r j * bn (r+1) (bO K r (aW j)))=ay r (fun j=>K r j * bn (r+1) (bO K r (aW j)))+K r r * bn (r+1) (bO K r (aW r)) from rfl]
 have abW:bn (r+1) (bO K r (aW r))=bn r K:=by
  rw [S9 _ (fun b hb=>by simp [bO,aW];omega)]
  have:bO K r (aW r) r r=1:=by simp [bO,aW]
  rw [this,Int.one_mul]
  exact gy (fun a b ha _=>by unfold bO;rw [if_neg (by omega)])
 have hj:∀ j,j < r→bn (r+1) (bO K r (aW j))=- ay r (fun i=>rK r K j i * K i r):=by
  intro j hj
  have aan:bn (r+1) (bO K r (aW j))=ay r (fun i=>K i r * bn (r+1) (dx (bO K r (aW j)) r (aW i))):=by
   rw [← adS (bO K r (aW j)) r (by omega) r (fun i=>K i r) (fun i=>aW i)]
   refine gy (fun a b ha _=>?_)
   unfold dx;split
   ·case _ h =>
    subst h
    by_cases h2:a=b
    ·subst h2
     refine Eq.trans ?_ (jE (f:=fun i=>K i a * aW i a) (fun i hi=>by rw [qY (show a ≠ i by omega)];simp)).symm
     simp [bO,aW];omega
    ·refine Eq.trans ?_ (aq3 (fun i => K i b) a (by omega)).symm
     simp [bO,h2]
   ·rfl
  rw [aan,← Cy]
  refine eL (fun i hi=>?_)
  have hs:=Ta (dx (bO K r (aW j)) r (aW i)) i r (n:=r+1) (by omega) (by omega) (by omega)
  have hx:bn (r+1) (bO (bO (dx (bO K r (aW j)) r (aW i)) i (dx (bO K r (aW j)) r (aW i) r)) r (dx (bO K r (aW j)) r (aW i) i))=rK r K j i:=by
   rw [adV]
   ·unfold rK
    have:bO (bO (dx (bO K r (aW j)) r (aW i)) i (dx (bO K r (aW j)) r (aW i) r)) r (dx (bO K r (aW j)) r (aW i) i) r r=1:=by
     simp [bO,dx,aW]
    rw [this,Int.one_mul]
    refine gy (fun a b ha hb=>?_)
    unfold bO dx
    have h1:a ≠ r:=by omega
    have h2:b ≠ r:=by omega
    by_cases h3:a=i
    ·subst h3;simp [h1,h2]
    ·simp [h1,h2,h3]
   ·intro a ha
    have h1:a ≠ r:=by omega
    unfold bO dx
    by_cases h3:a=i
    ·subst h3;simp [h1,aW];omega
    ·simp [h1,h3,aW]
  rw [hx] at hs
  have:bn (r+1) (dx (bO K r (aW j)) r (aW i))=- rK r K j i:=by omega
  rw [this];grind
 rw [abW]
 have e2:ay r (fun j=>K r j * bn (r+1) (bO K r (aW j)))=- ay r (fun j=>ay r (fun i=>K r j * rK r K j i * K i r)):=by
  rw [← Cy]
  refine eL (fun j EJ=>?_)
  rw [hj j EJ,Int.mul_neg,← jg]
  congr 1
  exact eL (fun i _=>by grind)
 rw [e2];omega
theorem ad4 {n:Nat} {f g:Nat→Int} {p:Int} (h:∀ i,i < n→p ∣ f i - g i):p ∣ ay n f - ay n g:=by
 rw [← wz]
 induction n with
 | zero=>exact ⟨0,by simp [ay]⟩
 | succ n ih=>simp only [ay];exact Int.dvd_add (ih (fun i hi=>h i (by omega))) (h n (by omega))
theorem ad1 {a b c d p:Int} (h1:p ∣ a - b) (h2:p ∣ c - d):p ∣ a * c - b * d:=by
 obtain ⟨x,hx⟩:=h1
 obtain ⟨y,hy⟩:=h2
 exact ⟨x * c+b * y,by grind⟩
def fN (n:Nat) (c:Nat→Int) (u:Int):Int:=ay (n+1) (fun k=>c k * u ^ k)
def lq (c : Nat → Int) : Nat → Int
 | 0=>0
 | k+1=>c k
theorem Tc {n:Nat} {c d:Nat→Int} (u:Int) (h:∀ k,k≤n→c k=d k):fN n c u=fN n d u :=
 eL (fun k hk=>by rw [h k (by omega)])
theorem HM (n:Nat) (c:Nat→Int) (u:Int):fN (n+1) c u=c 0+u * fN n (fun k=>c (k+1)) u:=by
 unfold fN
 rw [Cz,← jg]
 congr 1
 ·simp
 ·exact eL (fun i _=>by rw [Int.pow_succ];grind)
theorem AG (n:Nat) (c:Nat→Int) (u:Int):fN (n+1) (lq c) u=u * fN n c u:=by
 rw [HM];show 0+u * fN n c u=_;omega
theorem yR {n m:Nat} (c:Nat→Int) (u:Int) (h:n≤m) (hz:∀ k,n < k→c k=0):fN m c u=fN n c u:=by
 unfold fN
 exact Cx (by omega) (fun i hi _=>by rw [hz i (by omega)];simp)
theorem Cu (n:Nat) (c d:Nat→Int) (u:Int):fN n (fun k=>c k+d k) u=fN n c u+fN n d u:=by
 unfold fN;rw [← k7];exact eL (fun i _=>by grind)
theorem ad2 (n:Nat) (c d:Nat→Int) (u:Int):fN n (fun k=>c k - d k) u=fN n c u - fN n d u:=by
 unfold fN;rw [← wz];exact eL (fun i _=>by grind)
theorem AF (n:Nat) (x:Int) (c:Nat→Int) (u:Int):fN n (fun k=>x * c k) u=x * fN n c u:=by
 unfold fN;rw [← jg];exact eL (fun i _=>by grind)
theorem Cv (n m:Nat) (x:Nat→Int) (c:Nat→Nat→Int) (u:Int):fN n (fun k=>ay m (fun i=>x i * c i k)) u=ay m (fun i=>x i * fN n (c i) u):=by
 induction m with
 | zero=>simp only [ay];unfold fN;exact jE (fun _ _=>by simp)
 | succ m ih=>simp only [ay];rw [Cu,ih,AF]
theorem ad3 {n:Nat}:∀ {c:Nat→Int},(∀ u:Int,1≤u→fN n c u=0)→∀ k,k≤n→c k=0:=by
 induction n with
 | zero =>
  intro c h k hk
  obtain rfl:k=0:=by omega
  have:=h 1 (by omega);simpa [fN,ay] using this
 | succ n ih =>
  intro c h k hk
  have h0:c 0=0:=by
   have h1:=h ((c 0).natAbs+1) (by omega)
   rw [HM] at h1
   have hd:((c 0).natAbs+1:Int) ∣ c 0:=⟨- fN n (fun k=>c (k+1)) ((c 0).natAbs+1),by rw [Int.mul_neg];omega⟩
   by_cases hc:c 0=0
   ·exact hc
   ·exfalso
    have:=Int.natAbs_dvd_natAbs.mpr hd
    have:=Nat.le_of_dvd (by omega) this
    omega
  cases k with
  | zero=>exact h0
  | succ k =>
   refine ih (c:=fun k=>c (k+1)) (fun u hu=>?_) k (by omega)
   have:=h u hu
   rw [HM,h0,Int.zero_add] at this
   rcases Int.mul_eq_zero.mp this with h'|h'
   ·omega
   ·exact h'
theorem yQ {n:Nat} {c d:Nat→Int} (h:∀ u:Int,1≤u→fN n c u=fN n d u) (k:Nat) (hk:k≤n):c k=d k:=by
 have:=ad3 (c:=fun k=>c k - d k) (n:=n) (fun u hu=>by rw [ad2,h u hu];omega) k hk
 omega
def fU : Nat → (Nat → Nat → Int) → (Nat → Nat → Int) → Nat → Int
 | 0,_,_=>fun k=>if k=0 then 1 else 0
 | n+1,P,Q=>fun k=>ay (n+1) (fun i=>jN i * (P i 0 * fU n (fun a b=>P (bK i a) (b+1)) (fun a b=>Q (bK i a) (b+1)) k+Q i 0 * lq (fU n (fun a b=>P (bK i a) (b+1)) (fun a b=>Q (bK i a) (b+1))) k))
theorem Me (n:Nat) (P Q:Nat→Nat→Int) (k:Nat):fU (n+1) P Q k=ay (n+1) (fun i=>jN i * (P i 0 * fU n (fun a b=>P (bK i a) (b+1)) (fun a b=>Q (bK i a) (b+1)) k+Q i 0 * lq (fU n (fun a b=>P (bK i a) (b+1)) (fun a b=>Q (bK i a) (b+1))) k)):=rfl
theorem pT {n:Nat}:∀ (P Q:Nat→Nat→Int) (k:Nat),n < k→fU n P Q k=0:=by
 induction n with
 | zero=>intro P Q k hk;simp [fU];omega
 | succ n ih =>
  intro P Q k hk
  rw [Me]
  refine jE (fun i hi=>?_)
  rw [ih _ _ k (by omega)]
  obtain ⟨l,rfl⟩:∃ l,k=l+1:=⟨k - 1,by omega⟩
  show jN i * (P i 0 * 0+Q i 0 * fU n _ _ l)=0
  rw [ih _ _ l (by omega)];simp
theorem wu {n:Nat}:∀ (P Q:Nat→Nat→Int) (u:Int),bn n (fun a b=>P a b+u * Q a b)=fN n (fU n P Q) u:=by
 induction n with
 | zero=>intro P Q u;simp [bn,fN,ay,fU]
 | succ n ih =>
  intro P Q u
  rw [ov]
  have e:fN (n+1) (fU (n+1) P Q) u=ay (n+1) (fun i=>jN i * fN (n+1) (fun k=>P i 0 * fU n (fun a b=>P (bK i a) (b+1)) (fun a b=>Q (bK i a) (b+1)) k+Q i 0 * lq (fU n (fun a b=>P (bK i a) (b+1)) (fun a b=>Q (bK i a) (b+1))) k) u):=by
   rw [← Cv];rfl
  rw [e]
  refine eL (fun i hi=>?_)
  rw [ih,Cu,AF,AF,AG,yR _ _ (Nat.le_succ n) (fun k hk=>pT _ _ k hk)]
  grind
def dr : Nat → (Nat → Int) → Int
 | 0,_=>1
 | n+1,f=>dr n f * f n
theorem yP {n:Nat} {f g:Nat→Int} (h:∀ i,i < n→f i=g i):dr n f=dr n g:=by
 induction n with
 | zero=>rfl
 | succ n ih=>simp only [dr];rw [ih (fun i hi=>h i (by omega)),h n (by omega)]
theorem Tb {n:Nat} {f:Nat→Int} (h:∀ i,i < n→0≤f i):0≤dr n f:=by
 induction n with
 | zero=>simp [dr]
 | succ n ih=>simp only [dr];exact Int.mul_nonneg (ih (fun i hi=>h i (by omega))) (h n (by omega))
theorem aq2 {n:Nat} {f g:Nat→Int} (h0:∀ i,i < n→0≤f i) (h:∀ i,i < n→f i≤g i):dr n f≤dr n g:=by
 induction n with
 | zero=>simp [dr]
 | succ n ih =>
  simp only [dr]
  exact Int.mul_le_mul (ih (fun i hi=>h0 i (by omega)) (fun i hi=>h i (by omega))) (h n (by omega)) (h0 n (by omega)) (Tb (fun i hi=>Int.le_trans (h0 i (by omega)) (h i (by omega))))
theorem oX {n:Nat} {f g:Nat→Int} (h:∀ i,i < n→f i≤g i):ay n f≤ay n g:=by
 induction n with
 | zero=>simp [ay]
 | succ n ih=>simp only [ay];have:=ih (fun i hi=>h i (by omega));have:=h n (by omega);omega
theorem xz {n:Nat} {f:Nat→Int} (h:∀ i,i < n→0≤f i):0≤ay n f:=by
 have:=oX (f:=fun _=>0) h
 rwa [jE (fun _ _=>rfl)] at this
theorem ad8 {n : Nat} (w R : Nat → Int) (hw : ∀ i, i < n → 0 ≤ w i) (hR : ∀ i, i < n → 0 ≤ R i) :
  ay n (fun i=>w i * dr (n-1) (fun a=>R (bK i a)))≤dr n (fun a=>w a+R a):=by
 induction n with
 | zero=>simp [ay,dr]
 | succ n ih =>
  have ih:=ih (fun i hi=>hw i (by omega)) (fun i hi=>hR i (by omega))
  show ay n (fun i=>w i * dr (n+1-1) (fun a=>R (bK i a)))+w n * dr (n+1-1) (fun a=>R (bK n a))≤dr n (fun a=>w a+R a) * (w n+R n)
  have e1:ay n (fun i=>w i * dr (n+1-1) (fun a=>R (bK i a)))=R n * ay n (fun i=>w i * dr (n-1) (fun a=>R (bK i a))):=by
   rw [← jg]
   refine eL (fun i hi=>?_)
   obtain ⟨m,rfl⟩:∃ m,n=m+1:=⟨n - 1,by omega⟩
   show w i * (dr m _ * R (bK i m))=_
   have:bK i m=m+1:=by unfold bK;split<;>omega
   rw [this]
   show _=R (m+1) * (w i * dr m _)
   grind
  have e2:dr (n+1-1) (fun a=>R (bK n a))=dr n R:=yP (fun a ha=>by
   have:bK n a=a:=by unfold bK;split<;>omega
   rw [this])
  rw [e1,e2]
  have h1:R n * ay n (fun i=>w i * dr (n-1) (fun a=>R (bK i a)))≤R n * dr n (fun a=>w a+R a):=Int.mul_le_mul_of_nonneg_left ih (hR n (by omega))
  have h2:w n * dr n R≤w n * dr n (fun a=>w a+R a):=Int.mul_le_mul_of_nonneg_left (aq2 (fun i hi=>hR i (by omega)) (fun i hi=>by have:=hw i (by omega);omega)) (hw n (by omega))
  have h3:dr n (fun a=>w a+R a) * (w n+R n)=w n * dr n (fun a=>w a+R a)+R n * dr n (fun a=>w a+R a):=by grind
  omega
def ao0 (x:Int):Int:=(x.natAbs:Int)
theorem ou (x:Int):0≤ao0 x:=by unfold ao0;omega
theorem E6 (x y:Int):ao0 (x * y)=ao0 x * ao0 y:=by unfold ao0;rw [Int.natAbs_mul];simp
theorem S1 (x y:Int):ao0 (x+y)≤ao0 x+ao0 y:=by unfold ao0;omega
theorem adI (i:Nat):ao0 (jN i)=1:=by unfold jN;split<;>rfl
theorem Mc:ao0 0=0:=rfl
theorem aqX (n:Nat) (f:Nat→Int):ao0 (ay n f)≤ay n (fun i=>ao0 (f i)):=by
 induction n with
 | zero=>simp [ay,ao0]
 | succ n ih=>simp only [ay];have:=S1 (ay n f) (f n);omega
theorem S4 {n:Nat}:∀ (P Q:Nat→Nat→Int),ay (n+1) (fun k=>ao0 (fU n P Q k))≤dr n (fun a=>ay n (fun b=>ao0 (P a b)+ao0 (Q a b))):=by
 induction n with
 | zero=>intro P Q;simp [ay,dr,fU,ao0]
 | succ n ih =>
  intro P Q
  have key:∀ i,i < n+1→ay (n+1+1) (fun k=>ao0 (jN i * (P i 0 * fU n (fun a b=>P (bK i a) (b+1)) (fun a b=>Q (bK i a) (b+1)) k+Q i 0 * lq (fU n (fun a b=>P (bK i a) (b+1)) (fun a b=>Q (bK i a) (b+1))) k)))≤(ao0 (P i 0)+ao0 (Q i 0)) * dr n (fun a=>ay n (fun b=>ao0 (P (bK i a) (b+1))+ao0 (Q (bK i a) (b+1)))):=by
   intro i hi
   have Lp:=ih (fun a b=>P (bK i a) (b+1)) (fun a b=>Q (bK i a) (b+1))
   have htop:=pT (n:=n) (fun a b=>P (bK i a) (b+1)) (fun a b=>Q (bK i a) (b+1))
   generalize fU n (fun a b=>P (bK i a) (b+1)) (fun a b=>Q (bK i a) (b+1))=d at Lp htop ⊢
   have h1:ay (n+1+1) (fun k=>ao0 (d k))=ay (n+1) (fun k=>ao0 (d k)):=Cx (by omega) (fun k hk _=>by rw [htop k (by omega)];rfl)
   have h2:ay (n+1+1) (fun k=>ao0 (lq d k))=ay (n+1) (fun k=>ao0 (d k)):=by
    rw [Cz];simp [lq,Mc]
   have h3:ay (n+1+1) (fun k=>ao0 (jN i * (P i 0 * d k+Q i 0 * lq d k)))≤ay (n+1+1) (fun k=>ao0 (P i 0) * ao0 (d k)+ao0 (Q i 0) * ao0 (lq d k)):=by
    refine oX (fun k _=>?_)
    rw [E6,adI,Int.one_mul,← E6,← E6]
    exact S1 _ _
   rw [k7,jg,jg,h1,h2] at h3
   have h4:=Int.mul_le_mul_of_nonneg_left Lp (ou (P i 0))
   have h5:=Int.mul_le_mul_of_nonneg_left Lp (ou (Q i 0))
   have h6:=Int.add_mul (ao0 (P i 0)) (ao0 (Q i 0)) (dr n (fun a=>ay n (fun b=>ao0 (P (bK i a) (b+1))+ao0 (Q (bK i a) (b+1)))))
   omega
  have h1:ay (n+1+1) (fun k=>ao0 (fU (n+1) P Q k))≤ay (n+1+1) (fun k=>ay (n+1) (fun i=>ao0 (jN i * (P i 0 * fU n (fun a b=>P (bK i a) (b+1)) (fun a b=>Q (bK i a) (b+1)) k+Q i 0 * lq (fU n (fun a b=>P (bK i a) (b+1)) (fun a b=>Q (bK i a) (b+1))) k)))) :=
   oX (fun k _=>aqX _ _)
  rw [yS] at h1
  refine Int.le_trans h1 (Int.le_trans (oX key) ?_)
  have h2:=ad8 (n:=n+1) (fun i=>ao0 (P i 0)+ao0 (Q i 0)) (fun a=>ay n (fun b=>ao0 (P a (b+1))+ao0 (Q a (b+1)))) (fun i _=>by have:=ou (P i 0);have:=ou (Q i 0);omega) (fun i _=>xz (fun b _=>by have:=ou (P i (b+1));have:=ou (Q i (b+1));omega))
  refine Int.le_trans h2 (Int.le_of_eq (yP (fun a _=>?_)))
  rw [Cz]
theorem AE {n:Nat} (f:Nat→Int) (k:Nat) (hk:k < n):ao0 (f k)≤ay n (fun i=>ao0 (f i)):=by
 have h:=oX (n:=n) (f:=fun i=>if i=k then ao0 (f k) else 0) (g:=fun i=>ao0 (f i)) (fun i _=>by
  by_cases e:i=k
  ·simp [e]
  ·simp [e,ou])
 rw [mS k hk (fun i _ hne=>by simp [hne])] at h
 simpa using h
theorem ad6 (n i:Nat) (hi:i < n+1) (f:Nat→Int):ay (n+1) f=f i+ay n (fun t=>f (bK i t)):=by
 induction n with
 | zero =>
      obtain rfl:i=0:=by omega
      simp [ay]
 | succ n ih =>
  by_cases h:i=n+1
  ·subst h
   have:ay (n+1) (fun t=>f (bK (n+1) t))=ay (n+1) f:=eL (fun t ht=>by
    have:bK (n+1) t=t:=by unfold bK;split<;>omega
    rw [this])
   rw [this];show ay (n+1) f+f (n+1)=_;omega
  ·show ay (n+1) f + f (n+1) = f i + (ay n (fun t => f (bK i t)) + f (bK i n))
   rw [ih (by omega)]
   have:bK i n=n+1:=by unfold bK;split<;>omega
   rw [this];omega
theorem ad' (i t:Nat):AH i (bK i t)=t:=by
 unfold AH bK;by_cases h1:t < i
 ·simp [h1]
 ·rw [if_neg h1,if_neg (by omega)];omega
def nv:Nat→Int:=fun _=>0
theorem adM {n:Nat}:∀ (P Q:Nat→Nat→Int) (k:Nat),(k:Int) * fU n P Q k=ay n (fun t=>fU n (bO P t nv) Q k):=by
 induction n with
 | zero=>intro P Q k;simp only [fU,ay];split<;>simp_all
 | succ n ih =>
  intro P Q k
  have e:ay (n+1) (fun t=>fU (n+1) (bO P t nv) Q k)=ay (n+1) (fun i=>ay (n+1) (fun t=>jN i * ((bO P t nv) i 0 * fU n (fun a b=>(bO P t nv) (bK i a) (b+1)) (fun a b=>Q (bK i a) (b+1)) k+Q i 0 * lq (fU n (fun a b=>(bO P t nv) (bK i a) (b+1)) (fun a b=>Q (bK i a) (b+1))) k))):=by
   rw [yS];exact eL (fun t _=>by rw [Me])
  rw [e,Me,← jg]
  refine eL (fun i hi=>?_)
  rw [ad6 n i hi]
  have e1:(bO P i nv) i 0=0:=by simp [bO,nv]
  rw [e1,aq1]
  have e2:ay n (fun t=>jN i * ((bO P (bK i t) nv) i 0 * fU n (fun a b=>(bO P (bK i t) nv) (bK i a) (b+1)) (fun a b=>Q (bK i a) (b+1)) k+Q i 0 * lq (fU n (fun a b=>(bO P (bK i t) nv) (bK i a) (b+1)) (fun a b=>Q (bK i a) (b+1))) k))=ay n (fun t=>jN i * (P i 0 * fU n (bO (fun a b=>P (bK i a) (b+1)) t nv) (fun a b=>Q (bK i a) (b+1)) k+Q i 0 * lq (fU n (bO (fun a b=>P (bK i a) (b+1)) t nv) (fun a b=>Q (bK i a) (b+1))) k)):=by
   refine eL (fun t ht=>?_)
   rw [HJ (Mj i t)]
   rw [ad']
   have:bO P (bK i t) nv i 0=P i 0:=by unfold bO;rw [if_neg (Ne.symm (Mj i t))]
   rw [this]
   rfl
  rw [e2,jg,k7,jg,jg,← ih]
  generalize (fun a b=>P (bK i a) (b+1))=P' at *
  generalize (fun a b=>Q (bK i a) (b+1))=Q' at *
  cases k with
  | zero =>
   have:ay n (fun t=>lq (fU n (bO P' t nv) Q') 0)=0:=jE (fun _ _=>rfl)
   rw [this]
   simp [lq]
  | succ k =>
   have:ay n (fun t=>lq (fU n (bO P' t nv) Q') (k+1))=(k:Int) * fU n P' Q' k:=by
    rw [ih];rfl
   rw [this]
   show _=jN i * (0 * _+Q i 0 * fU n P' Q' k)+_
   show ((k+1:Nat):Int) * (jN i * (P i 0 * fU n P' Q' (k+1)+Q i 0 * fU n P' Q' k))=_
   push_cast
   grind
def mD (n:Nat) (P Q:Nat→Nat→Int) (j i k:Nat):Int:=fU n (bO P i (aW j)) (bO Q i nv) k
theorem Md (n:Nat) (P Q:Nat→Nat→Int) (u:Int) (j i:Nat):rK n (fun a b=>P a b+u * Q a b) j i=fN n (mD n P Q j i) u:=by
 unfold rK mD
 show _=fN n (fU n (bO P i (aW j)) (bO Q i nv)) u
 rw [← wu]
 refine gy (fun a b _ _=>?_)
 unfold bO nv;split<;>simp
theorem adN (n:Nat) (P Q:Nat→Nat→Int) (k:Nat) (hk:k≤n):((k+1:Nat):Int) * fU n P Q (k+1)=ay n (fun i=>ay n (fun j=>Q i j * mD n P Q j i k)):=by
 rw [adM]
 refine eL (fun i hi=>?_)
 have h:∀ u:Int,fN (n+1) (fU n (bO P i nv) Q) u=fN (n+1) (lq (fun k=>ay n (fun j=>Q i j * mD n P Q j i k))) u:=by
  intro u
  rw [AG,yR _ _ (Nat.le_succ n) (fun k hk=>pT _ _ k hk),← wu,Cv]
  have e1:bn n (fun a b=>bO P i nv a b+u * Q a b)=bn n (bO (fun a b=>P a b+u * Q a b) i (fun b=>u * Q i b)):=by
   refine gy (fun a b _ _=>?_)
   unfold bO nv;split
   ·case _ h=>simp [h]
   ·rfl
  rw [e1,Mf _ _ hi]
  congr 1
  have e2:bn n (bO (fun a b=>P a b+u * Q a b) i (Q i))=bn n (bO (fun a b=>P a b+u * Q a b) i (fun b=>ay n (fun j=>Q i j * aW j b))):=by
   refine gy (fun a b _ hb=>?_)
   unfold bO;split
   ·exact (aq3 (Q i) b hb).symm
   ·rfl
  rw [e2,Mg _ i hi]
  refine eL (fun j _=>?_)
  rw [← Md];rfl
 have:=yQ (fun u _=>h u) (k+1) (by omega)
 rw [this];rfl
theorem S3 (n : Nat) (P Q : Nat → Nat → Int) (k i : Nat) (hk : k < n) (hi : i < n) (m : Nat) (hm : m ≤ n + 1) :
  ay n (fun j=>P k j * mD n P Q j i m)+lq (fun m=>ay n (fun j=>Q k j * mD n P Q j i m)) m=if k=i then fU n P Q m else 0:=by
 have h:∀ u:Int,fN (n+1) (fun m=>ay n (fun j=>P k j * mD n P Q j i m)+lq (fun m=>ay n (fun j=>Q k j * mD n P Q j i m)) m) u=fN (n+1) (fun m=>if k=i then fU n P Q m else 0) u:=by
  intro u
  rw [Cu,AG,Cv,Cv,← jg,← k7]
  have h1:=adJ (fun a b=>P a b+u * Q a b) k i hi hk
  have h2:ay n (fun j=>(P k j+u * Q k j) * rK n (fun a b=>P a b+u * Q a b) j i)=ay n (fun j=>P k j * fN (n+1) (mD n P Q j i) u+u * (Q k j * fN n (mD n P Q j i) u)):=by
   refine eL (fun j _=>?_)
   rw [Md,yR (n:=n) (m:=n+1) (mD n P Q j i) u (Nat.le_succ n) (fun k hk=>pT _ _ k hk)]
   grind
  rw [← h2,h1]
  by_cases e:k=i
  ·simp only [if_pos e]
   rw [wu,yR (n:=n) (m:=n+1) _ _ (Nat.le_succ n) (fun k hk=>pT _ _ k hk)]
  ·simp only [if_neg e]
   unfold fN;rw [jE (fun _ _=>by simp)]
 exact yQ (fun u _=>h u) m hm
def gP (A:Nat→Nat→Int):Nat→Nat→Int:=fun a b=>- A a b
def bU (n:Nat) (A:Nat→Nat→Int):Nat→Int:=fU n (fun a b=>aW a b) (gP A)
def oW (n : Nat) (A : Nat → Nat → Int) (c : Nat → Int) : Nat → Nat → Nat → Int
 | 0=>fun _ _=>0
 | m+1=>fun k i=>ay n (fun j=>A k j * oW n A c m j i)+(if k=i then c m else 0)
theorem aq_ (n:Nat) (A:Nat→Nat→Int) (m:Nat):m≤n→∀ k i,k < n→i < n→mD n (fun a b=>aW a b) (gP A) k i m=oW n A (bU n A) (m+1) k i:=by
 induction m with
 | zero =>
  intro _ k i hk hi
  have h:=S3 n (fun a b=>aW a b) (gP A) k i hk hi 0 (by omega)
  have e:ay n (fun j=>aW k j * mD n (fun a b=>aW a b) (gP A) j i 0)=mD n (fun a b=>aW a b) (gP A) k i 0:=by
   rw [← aq4 (fun j=>mD n (fun a b=>aW a b) (gP A) j i 0) k hk];exact eL (fun j _=>by grind)
  rw [e] at h
  simp only [oW,lq] at h ⊢
  rw [jE (fun _ _=>by simp)]
  unfold bU;omega
 | succ m ih =>
  intro hm k i hk hi
  have h:=S3 n (fun a b=>aW a b) (gP A) k i hk hi (m+1) (by omega)
  have e:ay n (fun j=>aW k j * mD n (fun a b=>aW a b) (gP A) j i (m+1))=mD n (fun a b=>aW a b) (gP A) k i (m+1):=by
   rw [← aq4 (fun j=>mD n (fun a b=>aW a b) (gP A) j i (m+1)) k hk];exact eL (fun j _=>by grind)
  rw [e] at h
  have e2:lq (fun m=>ay n (fun j=>gP A k j * mD n (fun a b=>aW a b) (gP A) j i m)) (m+1)=- ay n (fun j=>A k j * oW n A (bU n A) (m+1) j i):=by
   show ay n (fun j=>gP A k j * mD n (fun a b=>aW a b) (gP A) j i m)=_
   rw [← Cy]
   refine eL (fun j hj=>?_)
   rw [ih (by omega) j i hj hi];unfold gP;grind
  rw [e2] at h
  show _=ay n (fun j=>A k j * oW n A (bU n A) (m+1) j i)+(if k=i then bU n A (m+1) else 0)
  unfold bU at *;omega
theorem aqY (n:Nat) (A:Nat→Nat→Int):bU n A 0=1:=by
 have h:=wu (n:=n) (fun a b=>aW a b) (gP A) 0
 have e:bn n (fun a b=>aW a b+0 * gP A a b)=bn n (fun a b=>aW a b):=gy (fun a b _ _=>by simp)
 rw [e,adW] at h
 unfold fN at h
 rw [Cz,jE (fun i _=>by rw [Int.pow_succ];simp)] at h
 unfold bU;simpa using h.symm
theorem adL (n:Nat) (A:Nat→Nat→Int) (m:Nat) (hm:m < n):((m+1:Nat):Int) * bU n A (m+1)=- ay n (fun i=>ay n (fun j=>A i j * oW n A (bU n A) (m+1) j i)):=by
 have h:=adN n (fun a b=>aW a b) (gP A) m (by omega)
 rw [show fU n (fun a b=>aW a b) (gP A) (m+1)=bU n A (m+1) from rfl] at h
 rw [h,← Cy]
 refine eL (fun i hi=>?_)
 rw [← Cy]
 refine eL (fun j hj=>?_)
 rw [aq_ n A m (by omega) j i hj hi,show gP A i j=- A i j from rfl];grind
def ql (r : Nat) (A : Nat → Nat → Int) (C : Nat → Int) : Nat → Nat → Int
 | 0=>C
 | k+1=>fun i=>ay r (fun j=>A i j * ql r A C k j)
theorem ad0 (r:Nat) (A:Nat→Nat→Int) (c C:Nat→Int) (m:Nat):∀ i,i < r→ay r (fun j=>oW r A c (m+1) i j * C j)=ay (m+1) (fun l=>c l * ql r A C (m-l) i):=by
 induction m with
 | zero =>
  intro i hi
  simp only [oW,ay,ql,Nat.sub_zero,Int.zero_add]
  rw [eL (g:=fun j=>(c 0 * C j) * aW i j) (fun j _=>by
   rw [jE (fun _ _=>by simp)];unfold aW;by_cases h:i=j
   ·simp [h]
   ·simp [h,Ne.symm h])]
  rw [aq4 (fun j=>c 0 * C j) i hi]
 | succ m ih =>
  intro i hi
  have e1:ay r (fun j=>oW r A c (m+1+1) i j * C j)=ay r (fun j=>ay r (fun l=>A i l * oW r A c (m+1) l j) * C j)+c (m+1) * C i:=by
   rw [← aq4 (fun j=>c (m+1) * C j) i hi,← k7]
   refine eL (fun j _=>?_)
   show (ay r (fun l=>A i l * oW r A c (m+1) l j)+(if i=j then c (m+1) else 0)) * C j=_
   unfold aW;by_cases h:i=j
   ·simp only [if_pos h,if_pos h.symm];grind
   ·simp only [if_neg h,if_neg (Ne.symm h)];grind
  have e2:ay r (fun j=>ay r (fun l=>A i l * oW r A c (m+1) l j) * C j)=ay r (fun l=>A i l * ay r (fun j=>oW r A c (m+1) l j * C j)):=by
   rw [eL (g:=fun j=>ay r (fun l=>A i l * (oW r A c (m+1) l j * C j))) (fun j _=>by
    rw [Int.mul_comm,← jg];exact eL (fun l _=>by grind))]
   rw [yS]
   exact eL (fun l _=>by rw [jg])
  rw [e1,e2]
  rw [eL (g:=fun l=>A i l * ay (m+1) (fun t=>c t * ql r A C (m-t) l)) (fun l hl=>by rw [ih l hl])]
  show _=ay (m+1) (fun l=>c l * ql r A C (m+1-l) i)+c (m+1) * ql r A C (m+1-(m+1)) i
  rw [Nat.sub_self]
  have e3:ay r (fun l=>A i l * ay (m+1) (fun t=>c t * ql r A C (m-t) l))=ay (m+1) (fun l=>c l * ql r A C (m+1-l) i):=by
   rw [eL (g:=fun l=>ay (m+1) (fun t=>c t * (A i l * ql r A C (m-t) l))) (fun l _=>by
    rw [← jg];exact eL (fun t _=>by grind))]
   rw [yS]
   refine eL (fun t ht=>?_)
   rw [jg]
   have:m+1 - t=(m - t)+1:=by omega
   rw [this];rfl
  rw [e3];rfl
def sB (r : Nat) (A : Nat → Nat → Int) : Nat → Int
 | 0=>1
 | 1=>- A r r
 | k+2=>- ay r (fun i=>A r i * ql r A (fun i=>A i r) k i)
theorem adK (r:Nat) (A:Nat→Nat→Int) (m:Nat) (hm:m≤r+1):bU (r+1) A m=ay (m+1) (fun l=>sB r A (m-l) * bU r A l):=by
 have h:∀ u:Int,fN (r+2) (bU (r+1) A) u=fN (r+2) (fun m=>bU r A m+(- A r r) * lq (bU r A) m+(-1) * lq (lq (fun k=>ay r (fun j=>A r j * ay r (fun i=>A i r * mD r (fun a b=>aW a b) (gP A) j i k)))) m) u:=by
  intro u
  rw [Cu,Cu,AF,AF,AG,AG,AG]
  rw [yR (n:=r+1) (m:=r+2) (bU (r+1) A) u (by omega) (fun k hk=>pT _ _ k hk)]
  rw [yR (n:=r) (m:=r+2) (bU r A) u (by omega) (fun k hk=>pT _ _ k hk)]
  rw [yR (n:=r) (m:=r+1) (bU r A) u (by omega) (fun k hk=>pT _ _ k hk)]
  rw [Cv]
  rw [eL (g:=fun j=>A r j * ay r (fun i=>A i r * rK r (fun a b=>aW a b+u * gP A a b) j i)) (fun j _=>by
   rw [Cv];congr 1;exact eL (fun i _=>by rw [Md]))]
  unfold bU
  rw [← wu,← wu,adP]
  have e:ay r (fun j=>ay r (fun i=>(aW r j+u * gP A r j) * rK r (fun a b=>aW a b+u * gP A a b) j i * (aW i r+u * gP A i r)))=u * (u * ay r (fun j=>A r j * ay r (fun i=>A i r * rK r (fun a b=>aW a b+u * gP A a b) j i))):=by
   rw [← jg,← jg]
   refine eL (fun j hj=>?_)
   rw [← jg,← jg,← jg]
   refine eL (fun i hi=>?_)
   rw [qY (show j ≠ r by omega),qY (show r ≠ i by omega)]
   unfold gP;grind
  rw [e,uV]
  unfold gP
  grind
 rw [yQ (fun u _=>h u) m (by omega)]
 cases m with
 | zero=>simp [lq,ay,sB]
 | succ m =>
  cases m with
  | zero=>simp [lq,ay,sB];omega
  | succ m =>
   show bU r A (m+2)+(- A r r) * bU r A (m+1)+(-1) * ay r (fun j=>A r j * ay r (fun i=>A i r * mD r (fun a b=>aW a b) (gP A) j i m))=ay (m+1) (fun l=>sB r A (m+2-l) * bU r A l)+sB r A (m+2-(m+1)) * bU r A (m+1)+sB r A (m+2-(m+2)) * bU r A (m+2)
   have e1:m+2 - (m+1)=1:=by omega
   have e2:m+2 - (m+2)=0:=by omega
   rw [e1,e2]
   have e3:ay r (fun j=>A r j * ay r (fun i=>A i r * mD r (fun a b=>aW a b) (gP A) j i m))=- ay (m+1) (fun l=>sB r A (m+2-l) * bU r A l):=by
    rw [eL (g:=fun j=>A r j * ay (m+1) (fun l=>bU r A l * ql r A (fun i=>A i r) (m-l) j)) (fun j hj=>by
     rw [← ad0 r A (bU r A) (fun i=>A i r) m j hj]
     congr 1
     exact eL (fun i hi=>by rw [aq_ r A m (by omega) j i hj hi];grind))]
    rw [eL (g:=fun j=>ay (m+1) (fun l=>bU r A l * (A r j * ql r A (fun i=>A i r) (m-l) j))) (fun j _=>by
     rw [← jg];exact eL (fun l _=>by grind))]
    rw [yS,← Cy]
    refine eL (fun l hl=>?_)
    rw [jg]
    have:m+2 - l=(m - l)+2:=by omega
    rw [this]
    show _=-(- ay r (fun i=>A r i * ql r A (fun i=>A i r) (m-l) i) * bU r A l)
    grind
   rw [e3]
   show bU r A (m+2)+(- A r r) * bU r A (m+1)+(-1) * _=_+(- A r r) * bU r A (m+1)+1 * bU r A (m+2)
   grind
def j8 (u:Int) (H:Nat→Nat→Int):Nat→Nat→Int:=fun a b=>aW a b - u * H a b
theorem adZ {n : Nat} (M : Nat → Nat → Int) (l : Nat → Nat) (x : Nat → Int) (h : ∀ a, a < n → x a ≠ 0 → l a < n ∧ l a ≠ a ∧ x (l a) = 0) :
  bn n (fun a b=>M a b+x a * M (l a) b)=bn n M:=by
 have key:∀ m,m≤n→bn n (fun a b=>if a < m then M a b+x a * M (l a) b else M a b)=bn n M:=by
  intro m
  induction m with
  | zero=>intro _;exact gy (fun a b _ _=>by simp)
  | succ m ih =>
   intro hm
   rw [← ih (by omega)]
   by_cases hx:x m=0
   ·refine gy (fun a b _ _ => ?_)
    by_cases h1:a < m
    ·rw [if_pos h1,if_pos (by omega)]
    ·by_cases h2 : a = m
     ·subst h2;simp [hx]
     ·rw [if_neg h1,if_neg (by omega)]
   ·obtain ⟨h1, h2, h3⟩ := h m (by omega) hx
    rw [← S_ (fun a b=>if a < m then M a b+x a * M (l a) b else M a b) m (l m) (by omega) h1 (Ne.symm h2) (x m)]
    refine gy (fun a b _ _=>?_)
    simp only [bO]
    by_cases h4:a=m
    ·subst h4
     by_cases h5:l a < a
     ·simp [h5,h3]
     ·simp [h5]
    ·by_cases h5 : a < m
     ·rw [if_pos (by omega),if_neg h4,if_pos h5]
     ·rw [if_neg (by omega),if_neg h4,if_neg h5]
 rw [← key n (Nat.le_refl n)]
 exact gy (fun a b ha _=>by rw [if_pos ha])
def uX (m:Int) (c:List Int):Bool:=c.all fun x=>decide (-m≤x) && decide (x≤m)
theorem adG (m:Int) (hm:0≤m) (G2:m≤1048576) (a:Int) (l:List (List Int)) (c:List Int) (hc:c.length≤maxLen):∀ (d i:Nat),c.length - i=d→i≤c.length→Ev (fun k=>mY.l0 k c m i a l) (uX m (c.drop i) && ((c.length:Int) == (l.length:Int))):=by
 unfold maxLen at hc
 intro d
 induction d with
 | zero =>
  intro i hd hi
  refine Ev.step (fun k=>by simp only [mY.l0];rfl) ?_
  simp only [show ¬ ((i:Int) < (c.length:Int)) by omega,if_false,List.drop_of_length_le (show c.length≤i by omega),uX,List.all_nil,Bool.true_and]
  exact Ev.now _
 | succ d ih =>
  intro i hd hi
  have hil:i < c.length:=by omega
  refine Ev.step (fun k=>by simp only [mY.l0];rfl) ?_
  have Ew:uX m (c.drop i)=((decide (-m≤c[i]) && decide (c[i]≤m)) && uX m (c.drop (i+1))):=by unfold uX;rw [List.drop_eq_getElem_cons hil,List.all_cons]
  rw [Ew]
  simp only [show ((i:Int) < (c.length:Int)) by omega,gb i,if_true,Mb,Option.bind_some,oZ c i hil,wI ((i:Int)+1) (by omega),wI (-m) (by omega)]
  cases hb:(decide (-m≤c[i]) && decide (c[i]≤m)) with
  | true=>simp only [if_true,Bool.true_and];exact ih (i+1) (by omega) (by omega)
  | false=>simp only [Bool.false_eq_true,if_false,Bool.false_and];exact Ev.now _
theorem adF (m:Int) (hm:0≤m) (G2:m≤1048576) (a:Int) (l:List (List Int)) (c:List Int) (hc:c.length≤maxLen):Ev (fun k=>mY.f k a l c m) (uX m c && ((c.length:Int) == (l.length:Int))):=by
 have h:=adG m hm G2 a l c hc c.length 0 (by omega) (by omega)
 rw [List.drop_zero] at h
 exact h
theorem adH (c:List Int) (hc:c.length≤maxLen):∀ (d i:Nat),c.length - i=d→i≤c.length→Ev (fun k=>apx.l0 k c i) (if (c.drop i).all (fun x=>x != 0) then 0 else 2):=by
 unfold maxLen at hc
 intro d
 induction d with
 | zero =>
  intro i hd hi
  refine Ev.step (fun k=>by simp only [apx.l0];rfl) ?_
  simp only [show ¬ ((i:Int) < (c.length:Int)) by omega,if_false,List.drop_of_length_le (show c.length≤i by omega),List.all_nil,if_true]
  exact Ev.now _
 | succ d ih =>
  intro i hd hi
  have hil:i < c.length:=by omega
  refine Ev.step (fun k=>by simp only [apx.l0];rfl) ?_
  rw [List.drop_eq_getElem_cons hil,List.all_cons]
  simp only [show ((i:Int) < (c.length:Int)) by omega,gb i,if_true,oZ c i hil,wI ((i:Int)+1) (by omega)]
  by_cases h0:c[i]=0
  ·simp only [h0,if_true,bne_self_eq_false,Bool.false_and,Bool.false_eq_true,if_false];exact Ev.now _
  ·simp only [h0,if_false,show (c[i] != 0)=true by simpa using h0,Bool.true_and];exact ih (i+1) (by omega) (by omega)
def nQ (l:List (List Int)) (c:List Int):Bool:=decide ((c.length:Int)=(l.length:Int)) && !(c.any oM)
theorem afe (l:List (List Int)) (c:List Int):nQ l c=((uX 1 c && ((c.length:Int) == (l.length:Int))) && c.all (fun x=>x != 0)):=by
 have h:(!(c.any oM))=(uX 1 c && c.all (fun x=>x != 0)):=by
  induction c with
  | nil=>rfl
  | cons x xs ih =>
   rw [List.any_cons,Bool.not_or,ih]
   unfold uX
   rw [List.all_cons,List.all_cons]
   have hx:(!oM x)=((decide (-1≤x) && decide (x≤1)) && (x != 0)):=by
    rw [Bool.eq_iff_iff]
    simp [oM]
    omega
   rw [hx]
   generalize (decide (-1≤x) && decide (x≤1))=b1
   generalize (x != 0)=b2
   generalize (xs.all fun x=>decide (-1≤x) && decide (x≤1))=b3
   generalize (xs.all fun x=>x != 0)=b4
   cases b1<;>cases b2<;>cases b3<;>cases b4<;>rfl
 unfold nQ
 rw [h]
 have e:((c.length:Int) == (l.length:Int))=decide ((c.length:Int)=(l.length:Int)):=rfl
 rw [e]
 generalize decide ((c.length:Int)=(l.length:Int))=b1
 generalize uX 1 c=b2
 generalize (c.all fun x=>x != 0)=b3
 cases b1<;>cases b2<;>cases b3<;>rfl
theorem S0 (a:Int) (l:List (List Int)) (c:List Int) (hl:l.length≤maxLen) (hc:c.length≤maxLen):Ev (fun k=>apx.f k a l c) (if iO a l then if nQ l c then 0 else 2 else 1):=by
 unfold apx.f
 refine Ev.bind (afm a l hl) ?_
 cases iO a l with
 | false=>simp only [Bool.false_eq_true,if_false];exact Ev.now _
 | true =>
  simp only [if_true]
  refine Ev.bind (adF 1 (by omega) (by omega) a l c hc) ?_
  rw [afe]
  cases (uX 1 c && ((c.length:Int) == (l.length:Int))) with
  | false=>simp only [Bool.false_and,Bool.false_eq_true,if_false];exact Ev.now _
  | true =>
   simp only [if_true,Bool.true_and]
   have h:=adH c hc c.length 0 (by omega) (by omega)
   rw [List.drop_zero] at h
   exact h
theorem Ig (e:Nat):Int.tdiv (e:Int) 2=((e / 2:Nat):Int):=rfl
theorem arb (e:Nat):Int.tmod (e:Int) 2=((e % 2:Nat):Int):=rfl
/-- Where the directed edge e begins, and where it ends. -/
def iL (l:List (List Int)) (e:Nat):Int:=rd (av l ((e / 2:Nat):Int)) ((e % 2:Nat):Int)
def eC (l:List (List Int)) (e:Nat):Int:=rd (av l ((e / 2:Nat):Int)) ((1 - e % 2:Nat):Int)
def two (l:List (List Int)):Prop:=∀ x ∈ l,x.length=2
theorem Cr {a:Int} {l:List (List Int)} (h:iO a l=true):two l:=by
 intro x hx
 simp only [iO,Bool.and_eq_true,List.all_eq_true] at h
 have:=h.2.2.2 x hx
 simp only [pK,Bool.and_eq_true,decide_eq_true_eq] at this
 exact this.1
theorem tq {a:Int} {l:List (List Int)} (h:iO a l=true):l.length≤10:=by
 simp only [iO,Bool.and_eq_true,decide_eq_true_eq] at h
 exact h.2.2.1
theorem SR {a:Int} {l:List (List Int)} (h:iO a l=true):1≤a∧a≤8:=by
 simp only [iO,Bool.and_eq_true,decide_eq_true_eq] at h
 exact ⟨h.1,h.2.1⟩
theorem adn {a:Int} {l:List (List Int)} (h:iO a l=true) {x:List Int} (hx:x ∈ l):(0≤rd x 0∧rd x 0≤a - 1)∧(0≤rd x 1∧rd x 1≤a - 1):=by
 have hs:=SR h
 simp only [iO,Bool.and_eq_true,List.all_eq_true] at h
 have:=h.2.2.2 x hx
 simp only [pK,BL,Bool.and_eq_true,decide_eq_true_eq] at this
 rw [iz (by omega) (by omega)] at this
 exact this.2
theorem ard {l:List (List Int)} (h2:two l) (e:Nat) (he:e < 2 * l.length):(av l ((e / 2:Nat):Int)).length=2:=by
 have hi:e / 2 < l.length:=by omega
 rw [lO l (e / 2) hi]
 exact h2 _ (List.getElem_mem hi)
theorem SZ (a:Int) (l:List (List Int)) (hl:l.length≤1048576) (h2:two l) (e:Nat) (he:e < 2 * l.length):ap3.f a l e=some (iL l e,eC l e):=by
 have hx:=ard h2 e he
 unfold ap3.f
 rw [Ig,arb,iz (by omega) (by omega),if_pos (by omega),if_pos (by omega),hx]
 unfold iL eC
 rcases Nat.mod_two_eq_zero_or_one e with h|h
 ·rw [h];rfl
 ·rw [h];rfl
theorem Qn (a:Int) (l:List (List Int)) (hl:l.length≤1048576) (h2:two l) (e:Nat) (he:e < 2 * l.length):vH.f a l e=some (iL l e,eC l e):=by
 have hx:=ard h2 e he
 unfold vH.f
 rw [Ig,arb,iz (by omega) (by omega),if_pos (by omega),if_pos (by omega),hx]
 have hm:e % 2 < 2:=Nat.mod_lt _ (by omega)
 rw [iz (by omega) (by omega),if_pos (by omega),if_pos (by omega),if_pos (by omega),if_pos (by omega)]
 unfold iL eC
 rw [show (1:Int) - ((e % 2:Nat):Int)=((1 - e % 2:Nat):Int) by omega]
/-- The other direction of e's edge. -/
def cw (e:Nat):Nat:=if e % 2=0 then e+1 else e - 1
theorem af2:((List.range 20).all fun e:Nat=>Go.bits .xor .i64 (e:Int) 1 == ((cw e:Nat):Int))=true:=by kernel_rfl
theorem Uv (e:Nat) (h:e < 20):Go.bits .xor .i64 (e:Int) 1=((cw e:Nat):Int):=by
 have:=List.all_eq_true.1 af2 e (List.mem_range.2 h)
 exact eq_of_beq this
/-- May f come behind e. -/
def next (l:List (List Int)) (e f:Nat):Bool:=decide (eC l e=iL l f) && !decide (f=cw e)
def mF (n:Nat) (g:Nat→Bool) (f:Nat):List Int:=(List.range n).map fun j=>if (decide (j < f) && g j)=true then 1 else 0
theorem Tk (n:Nat) (g:Nat→Bool) (f:Nat):(mF n g f).length=n:=by simp [mF]
theorem Tl (n:Nat) (g:Nat→Bool):mF n g 0=List.replicate n 0:=by
 apply List.ext_getElem
 ·simp [mF]
 ·intro i h1 h2;simp [mF]
theorem Tj (n:Nat) (g:Nat→Bool) (f:Nat) (hf:f < n) (h:g f=true):(mF n g f).set f 1=mF n g (f+1):=by
 apply List.ext_getElem
 ·simp [mF]
 ·intro i h1 h2
  simp only [mF,List.length_map,List.length_range,List.length_set] at h1 h2
  rw [List.getElem_set]
  by_cases hi:f=i
  ·subst hi;simp [mF,h]
  ·rw [if_neg hi]
   simp only [mF,List.getElem_map,List.getElem_range]
   have:decide (i < f)=decide (i < f+1):=by rw [Bool.eq_iff_iff];simp;omega
   rw [this]
theorem Ml (n:Nat) (g:Nat→Bool) (f:Nat) (h:g f=false):mF n g f=mF n g (f+1):=by
 apply List.ext_getElem
 ·simp [mF]
 ·intro i h1 h2
  simp only [mF,List.getElem_map,List.getElem_range]
  by_cases hi:i=f
  ·subst hi;simp [h]
  ·have : decide (i < f) = decide (i < f + 1) := by rw [Bool.eq_iff_iff]; simp; omega
   rw [this]
/-- The edge rows. -/
def qc (l:List (List Int)):List (List Int):=(List.range (2 * l.length)).map fun e=>mF (2 * l.length) (next l e) (2 * l.length)
/-- The rows on the way: those above e are whole, that of e up to f. -/
def mE (l:List (List Int)) (e f:Nat):List (List Int):=(List.range (2 * l.length)).map fun i=>mF (2 * l.length) (next l i) (if i < e then 2 * l.length else if i=e then f else 0)
theorem Th (l:List (List Int)) (e f:Nat):(mE l e f).length=2 * l.length:=by simp [mE]
theorem aee (l:List (List Int)) (e f:Nat) (he:e < 2 * l.length):av (mE l e f) (e:Int)=mF (2 * l.length) (next l e) f:=by
 rw [lO _ _ (by rw [Th];exact he)]
 simp [mE]
theorem aec (l:List (List Int)) (e f:Nat) (he:e < 2 * l.length) (hf:f < 2 * l.length) (h:next l e f=true):(mE l e f).set e ((mF (2 * l.length) (next l e) f).set f 1)=mE l e (f+1):=by
 rw [Tj _ _ _ hf h]
 apply List.ext_getElem
 ·simp [mE]
 ·intro i h1 h2
  rw [List.getElem_set]
  by_cases hi:e=i
  ·subst hi;simp [mE]
  ·rw [if_neg hi]
   simp [mE,Ne.symm hi]
theorem Ti (l:List (List Int)) (e f:Nat) (h:next l e f=false):mE l e f=mE l e (f+1):=by
 unfold mE
 apply List.map_congr_left
 intro i _
 by_cases hi:i < e
 ·simp [hi]
 ·by_cases EH : i = e
  ·subst EH;simp;exact Ml _ _ _ h
  ·simp [hi,EH]
theorem aed (l:List (List Int)) (e:Nat):mE l e (2 * l.length)=mE l (e+1) 0:=by
 unfold mE
 apply List.map_congr_left
 intro i _
 by_cases hi:i < e
 ·rw [if_pos hi,if_pos (by omega)]
 ·by_cases EH : i = e
  ·subst EH;simp
  ·rw [if_neg hi,if_neg EH,if_neg (by omega)];split<;>rfl
theorem aeb (l:List (List Int)):mE l (2 * l.length) 0=qc l:=by
 unfold mE qc
 apply List.map_congr_left
 intro i hi
 rw [if_pos (List.mem_range.1 hi)]
theorem Za (a : Int) (l : List (List Int)) (hl : l.length ≤ 10) (h2 : two l) (R : List (List Int)) (e : Nat) (he : e < 2 * l.length)
  (hR:Ev (fun k=>gZ.l0 k (mE l (e+1) 0) ((2 * l.length:Nat):Int) ((e:Int)+1) a l) R) :
  ∀ (d f:Nat),2 * l.length - f=d→f≤2 * l.length→Ev (fun k=>gZ.l1 k (mE l e f) e (eC l e) ((2 * l.length:Nat):Int) e ((2 * l.length:Nat):Int) f a l) R:=by
 intro d
 induction d with
 | zero =>
  intro f hd hf
  obtain rfl:f=2 * l.length:=by omega
  refine Ev.step (fun k=>by simp only [gZ.l1];rfl) ?_
  simp only [Int.lt_irrefl,if_false,aed,wI ((e:Int)+1) (by omega)]
  exact hR
 | succ d ih =>
  intro f hd hf
  have hfl:f < 2 * l.length:=by omega
  refine Ev.step (fun k=>by simp only [gZ.l1];rfl) ?_
  have h:=ih (f+1) (by omega) (by omega)
  simp only [show ((f:Int) < ((2 * l.length:Nat):Int)) by omega,if_true,Qn a l (by omega) h2 f hfl,Option.bind_some,gb f,gb e,Th,aee l e f he,Tk,show ((e:Int) < ((2 * l.length:Nat):Int)) by omega,Int.toNat_natCast,Uv e (by omega),wI ((f:Int)+1) (by omega)]
  have hn:next l e f=(decide (eC l e=iL l f) && !decide (f=cw e)):=rfl
  by_cases h3:iL l f=eC l e
  ·simp only [h3, if_true]
   by_cases h4:f=cw e
   ·simp only [eq_true (show (f : Int) = ((cw e : Nat) : Int) by omega), if_true]
    rw [Ti l e f (by rw [hn];simp [h3,h4.symm])]
    exact h
   ·simp only [show ¬ ((f : Int) = ((cw e : Nat) : Int)) by omega, if_false]
    rw [aec l e f he hfl (by rw [hn];simp [h3,h4])]
    exact h
  ·simp only [h3, if_false]
   rw [Ti l e f (by rw [hn];simp [Ne.symm h3])]
   exact h
theorem Y_ (a:Int) (l:List (List Int)) (hl:l.length≤10) (h2:two l):∀ (d e:Nat),2 * l.length - e=d→e≤2 * l.length→Ev (fun k=>gZ.l0 k (mE l e 0) ((2 * l.length:Nat):Int) e a l) (qc l):=by
 intro d
 induction d with
 | zero =>
  intro e hd he
  obtain rfl:e=2 * l.length:=by omega
  refine Ev.step (fun k=>by simp only [gZ.l0];rfl) ?_
  simp only [Int.lt_irrefl,if_false,aeb]
  exact Ev.now _
 | succ d ih =>
  intro e hd he
  have hel:e < 2 * l.length:=by omega
  refine Ev.step (fun k=>by simp only [gZ.l0];rfl) ?_
  simp only [show ((e:Int) < ((2 * l.length:Nat):Int)) by omega,if_true,Qn a l (by omega) h2 e hel,Option.bind_some,jU.f,wI (2 * (l.length:Int)) (by omega)]
  rw [show 2 * (l.length:Int)=((2 * l.length:Nat):Int) by omega]
  exact Za a l hl h2 _ e hel (ih (e+1) (by omega) (by omega)) (2 * l.length) 0 (by omega) (by omega)
theorem afq (n:Nat) (hn:n≤1048576):∀ (d i:Nat),n - i=d→i≤n→Ev (fun k=>kZ.l0 k n (List.replicate i (List.replicate n 0)) n i) (List.replicate n (List.replicate n 0)):=by
 intro d
 induction d with
 | zero =>
  intro i hd hi
  obtain rfl:i=n:=by omega
  refine Ev.step (fun k=>by simp only [kZ.l0];rfl) ?_
  simp only [Int.lt_irrefl,if_false]
  exact Ev.now _
 | succ d ih =>
  intro i hd hi
  refine Ev.step (fun k=>by simp only [kZ.l0];rfl) ?_
  simp only [lI i n (by omega),gb n,Int.toNat_natCast,show n≤35184372088832 by omega,List.length_replicate,show i < 5864062014805 by omega,if_true,wI ((i:Int)+1) (by omega)]
  have h:=ih (i+1) (by omega) (by omega)
  rw [List.replicate_succ'] at h
  exact h
theorem Nc (n:Nat) (hn:n≤1048576):Ev (fun k=>kZ.f k n) (List.replicate n (List.replicate n 0)):=afq n hn n 0 (by omega) (by omega)
theorem aef (l:List (List Int)):mE l 0 0=List.replicate (2 * l.length) (List.replicate (2 * l.length) 0):=by
 apply List.ext_getElem
 ·simp [mE]
 ·intro i h1 h2
  simp only [mE,List.getElem_map,List.getElem_range,List.getElem_replicate]
  rw [← Tl (2 * l.length) (next l i)]
  congr 1
  rw [if_neg (by omega)]
  split<;>rfl
theorem Ql (a:Int) (l:List (List Int)) (hl:l.length≤10) (h2:two l):Ev (fun k=>gZ.f k a l) (qc l):=by
 unfold gZ.f
 simp only [jU.f,Option.bind_some,wI (2 * (l.length:Int)) (by omega)]
 rw [show 2 * (l.length:Int)=((2 * l.length:Nat):Int) by omega]
 refine Ev.bind (Nc (2 * l.length) (by omega)) ?_
 rw [← aef]
 exact Y_ a l hl h2 (2 * l.length) 0 (by omega) (by omega)
theorem J1 (l:List Int) (h:l.length≤1048576):sN.f l=some l:=by
 unfold sN.f
 rw [if_pos (by omega)]
theorem adw (l:List Int) (h:l.length≤1048576):rP.f l=some l:=by
 unfold rP.f
 simp only [Option.bind_some,List.length_nil,List.nil_append]
 rw [if_pos (by omega)]
theorem aex (a:Int) (l:List (List Int)) (hl:l.length≤1048576) (hx:∀ x ∈ l,x.length≤1048576):∀ (d i:Nat),l.length - i=d→i≤l.length→Ev (fun k=>kY.l0 k l (l.length:Int) i a (l.take i)) (a,l):=by
 intro d
 induction d with
 | zero =>
  intro i hd hi
  obtain rfl:i=l.length:=by omega
  refine Ev.step (fun k=>by simp only [kY.l0];rfl) ?_
  simp only [Int.lt_irrefl,if_false,List.take_length]
  exact Ev.now _
 | succ d ih =>
  intro i hd hi
  have hil:i < l.length:=by omega
  refine Ev.step (fun k=>by simp only [kY.l0];rfl) ?_
  have h:=ih (i+1) (by omega) (by omega)
  rw [List.take_succ_eq_append_getElem hil] at h
  simp only [show ((i:Int) < (l.length:Int)) by omega,gb i,if_true,lO l i hil,J1 _ (hx _ (List.getElem_mem hil)),Option.bind_some,show (l.take i).length < 5864062014805 by (rw [List.length_take];omega),wI ((i:Int)+1) (by omega)]
  exact h
theorem aew (a:Int) (l:List (List Int)) (hl:l.length≤1048576) (hx:∀ x ∈ l,x.length≤1048576):Ev (fun k=>kY.f k a l) (a,l):=aex a l hl hx l.length 0 (by omega) (by omega)
theorem SS {a:Int} {l:List (List Int)} (h:iO a l=true):l.length≤1048576∧∀ x ∈ l,x.length≤1048576 :=
 ⟨by have:=tq h;omega,fun x hx=>by have:=Cr h x hx;omega⟩
/-- The two ends of edge i of a graph, as numbers below n. -/
def endsIn (n:Nat) (l:List (List Int)):Prop:=∀ i,i < l.length→(av l (i:Int)).length=2∧∃ u v:Nat,rd (av l (i:Int)) 0=u∧rd (av l (i:Int)) 1=v∧u < n∧v < n
theorem L_ {a:Int} {l:List (List Int)} (h:iO a l=true):∃ n:Nat,a=n∧1≤n∧n≤8∧endsIn n l:=by
 have hs:=SR h
 refine ⟨a.toNat,by omega,by omega,by omega,fun i hi=>?_⟩
 have hm:l[i] ∈ l:=List.getElem_mem hi
 rw [lO l i hi]
 have he:=adn h hm
 exact ⟨Cr h _ hm,(rd l[i] 0).toNat,(rd l[i] 1).toNat,by omega,by omega,by omega,by omega⟩
theorem CI {l:List (List Int)} {s:List Int} (h:nQ l s=true):s.length=l.length:=by
 simp only [nQ,Bool.and_eq_true,decide_eq_true_eq] at h
 omega
/-- Of a graph and signs: the code. -/
def mT (a:Int) (l:List (List Int)) (s:List Int):Int:=if iO a l then if nQ l s then 0 else 2 else 1
theorem AV {a:Int} {l:List (List Int)} {s:List Int} (h:mT a l s=0):iO a l=true∧nQ l s=true:=by
 unfold mT at h
 cases h1:iO a l<;>cases h2:nQ l s<;>simp [h1,h2] at h ⊢
theorem afs {n:Nat} {l:List Int} (hl:l.length=n) (h:∀ x:Nat,x < n→(x:Int) ∈ l):l.Nodup∧∀ y ∈ l,0≤y∧y < n:=by
 have hr:((List.range n).map Int.ofNat).Nodup:=by
  rw [List.Nodup,List.pairwise_map]
  exact List.nodup_range.imp (fun h e=>h (Int.ofNat.inj e))
 have key:∀ y ∈ l,(∀ x:Nat,x < n→(x:Int)=y→(x:Int) ∈ l.erase y)→False:=by
  intro y hy hx
  have hs:((List.range n).map Int.ofNat) ⊆ l.erase y:=by
   intro z hz
   obtain ⟨x,LK,rfl⟩:=List.mem_map.1 hz
   rw [List.mem_range] at LK
   by_cases e:(x:Int)=y
   ·exact hx x LK e
   ·exact (List.mem_erase_of_ne e).2 (h x LK)
  have h1:=hr.length_le_of_subset hs
  rw [List.length_map,List.length_range,List.length_erase_of_mem hy] at h1
  have:0 < l.length:=List.length_pos_of_mem hy
  omega
 refine ⟨?_,fun y hy=>?_⟩
 ·rw [List.nodup_iff_count]
  intro y
  by_cases hy:y ∈ l
  ·by_cases hc : List.count y l ≤ 1
   ·exact hc
   ·exact (key y hy (fun x hx e=>by
     rw [e]
     have:0 < List.count y (l.erase y):=by rw [List.count_erase_self];omega
     exact List.count_pos_iff.1 this)).elim
  ·rw [List.count_eq_zero_of_not_mem hy];omega
 ·by_cases hb : 0 ≤ y ∧ y < n
  ·exact hb
  ·exact (key y hy (fun x hx e=>by omega)).elim
theorem W8 {n:Nat} {l:List Int} (hl:l.length=n) (hd:l.Nodup) (h:∀ y ∈ l,0≤y∧y < n) (x:Nat) (hx:x < n):(x:Int) ∈ l:=by
 by_cases hm:(x:Int) ∈ l
 ·exact hm
 ·have hs:((x:Int) :: l) ⊆ (List.range n).map Int.ofNat:=by
   intro z hz
   rcases List.mem_cons.1 hz with rfl|hz
   ·exact List.mem_map.2 ⟨x,List.mem_range.2 hx,rfl⟩
   ·have := h z hz
    exact List.mem_map.2 ⟨z.toNat,List.mem_range.2 (by omega),by show ((z.toNat:Nat):Int)=z;omega⟩
  have h1:=(List.nodup_cons.2 ⟨hm,hd⟩).length_le_of_subset hs
  rw [List.length_cons,List.length_map,List.length_range] at h1
  omega
/-- A list of n numbers that has each number less than n. -/
def kI (n:Nat) (l:List Int):Bool:=decide (l.length=n) && (List.range n).all fun x=>decide ((x:Int) ∈ l)
theorem aqV (n:Nat) (l:List Int):kI n l=true↔l.length=n∧l.Nodup∧∀ y ∈ l,0≤y∧y < n:=by
 unfold kI
 simp only [Bool.and_eq_true,decide_eq_true_eq,List.all_eq_true,List.mem_range]
 constructor
 ·rintro ⟨h1, h2⟩
  obtain ⟨h3,h4⟩:=afs h1 h2
  exact ⟨h1,h3,h4⟩
 ·rintro ⟨h1, h2, h3⟩
  exact ⟨h1,fun x hx=>W8 h1 h2 h3 x hx⟩
theorem adi (l:List Int) (hl:l.length≤maxLen) (x:Int):∀ (d i:Nat),l.length - i=d→i≤l.length→∃ r,Ev (fun k=>pY.l0 k l x (l.length:Int) i) r∧(0≤r↔x ∈ l.drop i):=by
 unfold maxLen at hl
 intro d
 induction d with
 | zero =>
  intro i hd hi
  obtain rfl:i=l.length:=by omega
  refine ⟨-1,Ev.step (fun k=>by simp only [pY.l0];rfl) ?_,by simp⟩
  simp only [Int.lt_irrefl,if_false]
  exact Ev.now _
 | succ d ih =>
  intro i hd hi
  have hil:i < l.length:=by omega
  rw [List.drop_eq_getElem_cons hil]
  by_cases hx:x=l[i]
  ·refine ⟨(i : Int), Ev.step (fun k => by simp only [pY.l0]; rfl) ?_, ⟨fun _ => List.mem_cons.2 (.inl hx), fun _ => by omega⟩⟩
   simp only [show ((i:Int) < (l.length:Int)) by omega,gb i,if_true,oZ l i hil,hx]
   exact Ev.now _
  ·obtain ⟨r, h1, h2⟩ := ih (i + 1) (by omega) (by omega)
   refine ⟨r,Ev.step (fun k=>by simp only [pY.l0];rfl) ?_,⟨fun h=>List.mem_cons.2 (.inr (h2.1 h)),fun h=>h2.2 ((List.mem_cons.1 h).resolve_left hx)⟩⟩
   simp only [show ((i:Int) < (l.length:Int)) by omega,gb i,if_true,oZ l i hil,hx,if_false,wI ((i:Int)+1) (by omega)]
   exact h1
theorem YB (l:List Int) (hl:l.length≤maxLen) (x:Int):Ev (fun k=>zi.f k l x) (decide (x ∈ l)):=by
 obtain ⟨r,h1,h2⟩:=adi l hl x l.length 0 (by omega) (by omega)
 unfold zi.f
 refine Ev.bind h1 ?_
 rw [List.drop_zero] at h2
 rw [show decide (x ∈ l)=decide (r ≥ 0) from decide_eq_decide.2 h2.symm]
 exact Ev.now _
theorem adr (n:Nat) (hn:n≤1048576) (l:List Int) (hl:l.length≤maxLen):∀ (d i:Nat),n - i=d→i≤n→(∀ x:Nat,x < i→(x:Int) ∈ l)→Ev (fun k=>nF.l0 k l n n i) (kI n l):=by
 intro d
 induction d with
 | zero =>
  intro i hd hi hx
  obtain rfl:i=n:=by omega
  refine Ev.step (fun k=>by simp only [nF.l0];rfl) ?_
  simp only [Int.lt_irrefl,if_false]
  have:kI i l=((l.length:Int) == (i:Int)):=by
   have ha:((List.range i).all fun x=>decide ((x:Int) ∈ l))=true:=by
    simp only [List.all_eq_true,List.mem_range,decide_eq_true_eq]
    exact hx
   unfold kI
   rw [ha,Bool.and_true,Bool.eq_iff_iff]
   simp
   omega
  rw [this]
  exact Ev.now _
 | succ d ih =>
  intro i hd hi hx
  refine Ev.step (fun k=>by simp only [nF.l0];rfl) ?_
  simp only [lI i n (by omega),if_true]
  refine Ev.bind (YB l hl (i:Int)) ?_
  by_cases hm:(i:Int) ∈ l
  ·simp only [hm, decide_true, if_true, wI ((i : Int) + 1) (by omega)]
   exact ih (i+1) (by omega) (by omega) (fun x hxi=>by
    by_cases e:x=i
    ·subst e;exact hm
    ·exact hx x (by omega))
  ·simp only [hm, decide_false, Bool.false_eq_true, if_false]
   have:kI n l=false:=by
    rw [Bool.eq_false_iff]
    intro h
    unfold kI at h
    simp only [Bool.and_eq_true,List.all_eq_true,List.mem_range,decide_eq_true_eq] at h
    exact hm (h.2 i (by omega))
   rw [this]
   exact Ev.now _
theorem adq (n:Nat) (hn:n≤1048576) (l:List Int) (hl:l.length≤maxLen):Ev (fun k=>nF.f k l n) (kI n l) :=
 adr n hn l hl n 0 (by omega) (by omega) (fun x h=>by omega)
def Hz (a:Int) (l:List (List Int)) (s:Int) (t:List (List Int)):Bool:=iO a l && ((decide (1≤s) && decide (s≤4)) && (decide ((t.length:Int)=(l.length:Int)) && t.all (kI s.toNat)))
theorem SP (p:List Int→Bool) (f:Nat→List Int→Option Bool) (t:List (List Int)) (h:∀ x ∈ t,Ev (fun k=>f k x) (p x)):∀ k0:Nat,∃ r,Ev (fun k=>tj (f k) t k0) r∧decide (0≤r)=t.any p:=by
 induction t with
 | nil=>exact fun k0=>⟨-1,Ev.now _,rfl⟩
 | cons x xs ih =>
  intro k0
  cases hx:p x with
  | true =>
   refine ⟨(k0:Int),?_,by rw [List.any_cons,hx];simp⟩
   have h1:=h x (List.mem_cons_self)
   rw [hx] at h1
   refine Ev.bind h1 ?_
   simp only [if_true]
   exact Ev.now _
  | false =>
   obtain ⟨r,h2,h3⟩:=ih (fun y hy=>h y (List.mem_cons_of_mem _ hy)) (k0+1)
   refine ⟨r,?_,by rw [List.any_cons,hx,Bool.false_or];exact h3⟩
   have h1:=h x (List.mem_cons_self)
   rw [hx] at h1
   refine Ev.bind h1 ?_
   simp only [Bool.false_eq_true,if_false]
   exact h2
theorem adk (a:Int) (l:List (List Int)) (s:Int) (t:List (List Int)) (hl:l.length≤maxLen) (ht:t.length≤maxLen) (hx:∀ x ∈ t,x.length≤maxLen):Ev (fun k=>lB.f k a l s t) (Hz a l s t):=by
 unfold lB.f Hz
 refine Ev.bind (Hy a l hl) ?_
 cases iO a l with
 | false=>simp only [Bool.false_eq_true,if_false,Bool.false_and];exact Ev.now _
 | true =>
  simp only [if_true,Bool.true_and,Io,Option.bind_some,jU.f]
  cases hb:(decide (1≤s) && decide (s≤4)) with
  | false=>simp only [Bool.false_eq_true,if_false,Bool.false_and];exact Ev.now _
  | true =>
   simp only [Bool.and_eq_true,decide_eq_true_eq] at hb
   obtain ⟨n,rfl⟩:∃ n:Nat,s=n:=⟨s.toNat,by omega⟩
   simp only [if_true,Bool.true_and,Int.toNat_natCast]
   by_cases h:(t.length:Int)=(l.length:Int)
   ·simp only [h, decide_true, Bool.true_and, if_true]
    obtain ⟨r,h1,h2⟩:=SP (fun x=>!(kI n x)) (fun k x=>(nF.f k x n).map not) t (fun x hxm=>by
     have h3:=adq n (by omega) x (hx x hxm)
     obtain ⟨k,hk⟩:=h3
     exact ⟨k,fun m hm=>by
      have e:=hk m hm
      simp only at e ⊢
      rw [e];rfl⟩) 0
    have h4:Ev (fun k=>rQ.f k t a l n t) (t.any fun x=>!(kI n x)):=by
     unfold rQ.f
     refine Ev.bind h1 ?_
     rw [h2]
     exact Ev.now _
    refine Ev.bind h4 ?_
    rw [show t.all (kI n)=!(t.any fun x=>!(kI n x)) from by rw [List.any_eq_not_all_not];simp]
    exact Ev.now _
   ·simp only [h, decide_false, Bool.false_and, if_false]
    exact Ev.now _
/-- Edge i of those above edge k, in the derived graph of n sheets. -/
def r8 (n:Nat) (l t:List (List Int)) (k i:Nat):List Int:=[wrap64 (wrap64 (rd (av l (k:Int)) 0 * (n:Int))+(i:Int)),wrap64 (wrap64 (rd (av l (k:Int)) 1 * (n:Int))+rd (av t (k:Int)) (i:Int))]
def iZ (n : Nat) (l t : List (List Int)) : Nat → List (List Int)
 | 0=>[]
 | k+1=>iZ n l t k ++ (List.range n).map (r8 n l t k)
theorem D3 (n:Nat) (l t:List (List Int)) (k:Nat):(iZ n l t k).length=k * n:=by
 induction k with
 | zero=>simp [iZ]
 | succ k ih=>simp [iZ,ih,Nat.succ_mul]
theorem YS (n:Nat) (l t:List (List Int)) (k i:Nat):iZ n l t k ++ (List.range (i+1)).map (r8 n l t k)=(iZ n l t k ++ (List.range i).map (r8 n l t k)) ++ [r8 n l t k i]:=by
 rw [List.range_succ,List.map_append,List.append_assoc]
 rfl
theorem adh (n : Nat) (hn : n ≤ 4) (a b : Int) (l t : List (List Int)) (hl : l.length ≤ 1048576) (k : Nat) (hk : k < l.length) (hkt : k < t.length) (h2 : (av l (k : Int)).length = 2) (ht : (av t (k : Int)).length = n) (R : Int × List (List Int))
  (hR:Ev (fun j=>ic.l0 j l (l.length:Int) ((k:Int)+1) a l n t b (iZ n l t (k+1))) R) :
  ∀ (d i:Nat),n - i=d→i≤n→Ev (fun j=>ic.l1 j k (av l (k:Int)) l (l.length:Int) k n i a l n t b (iZ n l t k ++ (List.range i).map (r8 n l t k))) R:=by
 intro d
 induction d with
 | zero =>
  intro i hd hi
  obtain rfl:i=n:=by omega
  refine Ev.step (fun k=>by simp only [ic.l1];rfl) ?_
  simp only [Int.lt_irrefl,if_false,wI ((k:Int)+1) (by omega)]
  exact hR
 | succ d ih =>
  intro i hd hi
  have h:=ih (i+1) (by omega) (by omega)
  rw [YS] at h
  have hlen:(iZ n l t k ++ (List.range i).map (r8 n l t k)).length < 5864062014805:=by
   rw [List.length_append,D3,List.length_map,List.length_range]
   have:k * n≤1048576 * 4:=Nat.mul_le_mul (by omega) hn
   omega
  refine Ev.step (fun k=>by simp only [ic.l1];rfl) ?_
  simp only [lI i n (by omega),gb k,show ((k:Int) < (t.length:Int)) by omega,h2,ht,show ((0:Int) < ((2:Nat):Int)) by omega,show ((1:Int) < ((2:Nat):Int)) by omega,gb i,hlen,if_true,wI ((i:Int)+1) (by omega)]
  exact h
theorem adg (n:Nat) (hn:n≤4) (a b:Int) (l t:List (List Int)) (hl:l.length≤1048576) (hlt:t.length=l.length) (h2:two l) (ht:∀ x ∈ t,x.length=n):∀ (d k:Nat),l.length - k=d→k≤l.length→Ev (fun j=>ic.l0 j l (l.length:Int) k a l n t b (iZ n l t k)) (b,iZ n l t l.length):=by
 intro d
 induction d with
 | zero =>
  intro k hd hi
  obtain rfl:k=l.length:=by omega
  refine Ev.step (fun k=>by simp only [ic.l0];rfl) ?_
  simp only [Int.lt_irrefl,if_false]
  exact Ev.now _
 | succ d ih =>
  intro k hd hi
  have hk:k < l.length:=by omega
  refine Ev.step (fun k=>by simp only [ic.l0];rfl) ?_
  simp only [show ((k:Int) < (l.length:Int)) by omega,gb k,if_true]
  have h:=adh n hn a b l t hl k hk (by omega) (by rw [lO l k hk];exact h2 _ (List.getElem_mem hk)) (by rw [lO t k (by omega)];exact ht _ (List.getElem_mem _)) _ (ih (k+1) (by omega) (by omega)) n 0 (by omega) (by omega)
  simpa using h
theorem adf (n:Nat) (hn:n≤4) (a:Int) (l t:List (List Int)) (hl:l.length≤1048576) (hlt:t.length=l.length) (h2:two l) (ht:∀ x ∈ t,x.length=n):Ev (fun j=>ic.f j a l n t) (wrap64 (a * (n:Int)),iZ n l t l.length) :=
 adg n hn a _ l t hl hlt h2 ht l.length 0 (by omega) (by omega)
theorem YR {n:Nat} {l t:List (List Int)} {K:Nat} {x:List Int} (h:x ∈ iZ n l t K):∃ k i,k < K∧i < n∧x=r8 n l t k i:=by
 induction K with
 | zero=>cases h
 | succ K ih =>
  rcases List.mem_append.1 h with h|h
  ·obtain ⟨k, i, h1, h2, h3⟩ := ih h
   exact ⟨k,i,by omega,h2,h3⟩
  ·obtain ⟨i, hi, rfl⟩ := List.mem_map.1 h
   exact ⟨K,i,by omega,List.mem_range.1 hi,rfl⟩
theorem YN {a n:Nat} (ha:a≤8) (hn:n≤4) {l t:List (List Int)} (hE:endsIn a l) (hlt:t.length=l.length) (ht:∀ x ∈ t,kI n x=true) (k i:Nat) (hk:k < l.length) (hi:i < n):∃ u v:Nat,r8 n l t k i=[(u:Int),(v:Int)]∧u < a * n∧v < a * n:=by
 obtain ⟨hx,u,v,hu,hv,Sw,Sy⟩:=hE k hk
 have hm:t[k]'(by omega) ∈ t:=List.getElem_mem _
 obtain ⟨h1,h2,h3⟩:=(aqV n _).1 (ht _ hm)
 have hki:i < (t[k]'(by omega)).length:=by omega
 have h4:=h3 _ (List.getElem_mem hki)
 obtain ⟨j,hj⟩:∃ j:Nat,rd (av t (k:Int)) (i:Int)=(j:Int)∧j < n:=by
  rw [lO t k (by omega),oZ _ i hki]
  exact ⟨((t[k]'(by omega))[i]'hki).toNat,by omega,by omega⟩
 have b1:u * n≤7 * 4:=Nat.mul_le_mul (by omega) hn
 have b2:v * n≤7 * 4:=Nat.mul_le_mul (by omega) hn
 have b3:(u+1) * n≤a * n:=Nat.mul_le_mul_right n Sw
 have b4:(v+1) * n≤a * n:=Nat.mul_le_mul_right n Sy
 rw [Nat.succ_mul] at b3 b4
 refine ⟨u * n+i,v * n+j,?_,by omega,by omega⟩
 have c1:(u:Int) * (n:Int)=((u * n:Nat):Int):=by simp
 have c2:(v:Int) * (n:Int)=((v * n:Nat):Int):=by simp
 unfold r8
 rw [hu,hv,hj.1,c1,c2]
 rw [iz (show -9223372036854775808≤((u * n:Nat):Int) by omega) (by omega),iz (show -9223372036854775808≤((v * n:Nat):Int) by omega) (by omega)]
 rw [iz (by omega) (by omega),iz (by omega) (by omega)]
 simp
theorem YQ {a n:Nat} (ha:a≤8) (hn:n≤4) {l t:List (List Int)} (hE:endsIn a l) (hlt:t.length=l.length) (ht:∀ x ∈ t,kI n x=true):endsIn (a * n) (iZ n l t l.length):=by
 intro e he
 rw [lO _ e he]
 obtain ⟨k,i,hk,hi,hx⟩:=YR (List.getElem_mem he)
 obtain ⟨u,v,h1,h2,h3⟩:=YN ha hn hE hlt ht k i hk hi
 rw [hx,h1]
 exact ⟨rfl,u,v,rfl,rfl,h2,h3⟩
theorem adv (a:Int) (l:List (List Int)) (hl:l.length≤1048576) (hx:∀ x ∈ l,x.length≤1048576):∀ (d i:Nat),l.length - i=d→i≤l.length→Ev (fun k=>ie.l0 k i a l a (l.take i)) (a,l):=by
 intro d
 induction d with
 | zero =>
  intro i hd hi
  obtain rfl:i=l.length:=by omega
  refine Ev.step (fun k=>by simp only [ie.l0];rfl) ?_
  simp only [Int.lt_irrefl,if_false,List.take_length]
  exact Ev.now _
 | succ d ih =>
  intro i hd hi
  have hil:i < l.length:=by omega
  refine Ev.step (fun k=>by simp only [ie.l0];rfl) ?_
  have h:=ih (i+1) (by omega) (by omega)
  rw [List.take_succ_eq_append_getElem hil] at h
  simp only [show ((i:Int) < (l.length:Int)) by omega,gb i,if_true,lO l i hil,adw _ (hx _ (List.getElem_mem hil)),Option.bind_some,show (l.take i).length < 5864062014805 by (rw [List.length_take];omega),wI ((i:Int)+1) (by omega)]
  exact h
theorem E5 (a:Int) (l:List (List Int)) (hl:l.length≤1048576) (hx:∀ x ∈ l,x.length≤1048576):Ev (fun k=>ie.f k a l) (a,l):=adv a l hl hx l.length 0 (by omega) (by omega)
/-- What a cyclic cover makes of a sheet. -/
def BK (s n:Int) (i:Nat):Int:=Int.tmod (wrap64 ((Int.tmod (wrap64 ((i:Int)+n)) s)+s)) s
def qb (s:Nat) (n:Int):List Int:=(List.range s).map (BK s n)
theorem P_ (s:Nat) (n:Int) (j:Nat):((List.range (j+1)).map (BK s n))=(List.range j).map (BK s n) ++ [BK s n j]:=by
 rw [List.range_succ,List.map_append]
 rfl
theorem YK (s:Nat) (hs:1≤s) (wm:s≤4) (n a:Int) (l:List (List Int)) (p:List Int) (N i z:Int) (T:List (List Int)) (hT:T.length < 1048576) (R:Int × List (List Int) × Int × List (List Int)) (h:Ev (fun k=>jT.l0 k s p N (wrap64 (i+1)) a l z (T ++ [qb s n])) R):∀ (d j:Nat),s - j=d→j≤s→Ev (fun k=>jT.l1 k s n ((List.range j).map (BK s n)) p N i s j a l z T) R:=by
 intro d
 induction d with
 | zero =>
  intro j hd hj
  obtain rfl:j=s:=by omega
  refine Ev.step (fun k=>by simp only [jT.l1];rfl) ?_
  simp only [Int.lt_irrefl,if_false,show T.length < 5864062014805 by omega,if_true]
  exact h
 | succ d ih =>
  intro j hd hj
  have hn:=ih (j+1) (by omega) (by omega)
  rw [P_] at hn
  refine Ev.step (fun k=>by simp only [jT.l1];rfl) ?_
  simp only [lI j s (by omega),if_true,show ¬ ((s:Int)=0) by omega,if_false,List.length_map,List.length_range,show j < 17592186044416 by omega,wI ((j:Int)+1) (by omega)]
  exact hn
theorem YJ (s:Nat) (hs:1≤s) (wm:s≤4) (a:Int) (l:List (List Int)) (p:List Int) (hp:p.length≤1048576) (z:Int):∀ (d i:Nat),p.length - i=d→i≤p.length→Ev (fun k=>jT.l0 k s p p.length i a l z ((p.take i).map (qb s))) (a,l,z,p.map (qb s)):=by
 intro d
 induction d with
 | zero =>
  intro i hd hi
  obtain rfl:i=p.length:=by omega
  refine Ev.step (fun k=>by simp only [jT.l0];rfl) ?_
  simp only [Int.lt_irrefl,if_false,List.take_length]
  exact Ev.now _
 | succ d ih =>
  intro i hd hi
  have hil:i < p.length:=by omega
  have hn:=ih (i+1) (by omega) (by omega)
  rw [List.take_succ_eq_append_getElem hil,List.map_append,List.map_cons,List.map_nil] at hn
  refine Ev.step (fun k=>by simp only [jT.l0];rfl) ?_
  simp only [show ((i:Int) < (p.length:Int)) by omega,gb i,if_true,oZ p i hil]
  have h1:=YK s hs wm p[i] a l p p.length i z ((p.take i).map (qb s)) (by rw [List.length_map,List.length_take];omega) _ (by rw [wI ((i:Int)+1) (by omega)];exact hn) s 0 (by omega) (by omega)
  exact h1
theorem YI (s:Nat) (hs:1≤s) (wm:s≤4) (a:Int) (l:List (List Int)) (hl:l.length≤1048576) (hx:∀ x ∈ l,x.length≤1048576) (p:List Int) (hp:p.length≤1048576):Ev (fun k=>jT.f k a l s p) (a,l,(s:Int),p.map (qb s)):=by
 unfold jT.f
 exact Ev.bind (aew a l hl hx) (YJ s hs wm a l p hp s p.length 0 (by omega) (by omega))
theorem adE (s:Nat) (hs:1≤s) (wm:s≤4) (a:Int) (l:List (List Int)) (p:List Int) (hp:p.length≤1048576) (i:Nat) (hi:i < p.length) (z:Int) (T:List (List Int)) (hT:T.length < 1048576) (R:Int × List (List Int) × Int × List (List Int)) (h:Ev (fun k=>jH.l0 k s p ((i+1:Nat):Int) a l z (T ++ [qb s p[i]])) R):∀ (d j:Nat),s - j=d→j≤s→Ev (fun k=>jH.l1 k s p i ((List.range j).map (BK s p[i])) j a l z T) R:=by
 intro d
 induction d with
 | zero =>
  intro j hd hj
  obtain rfl:j=s:=by omega
  refine Ev.step (fun k=>by simp only [jH.l1];rfl) ?_
  simp only [Int.lt_irrefl,if_false,show T.length < 5864062014805 by omega,if_true,wI ((i:Int)+1) (by omega)]
  exact h
 | succ d ih =>
  intro j hd hj
  have hn:=ih (j+1) (by omega) (by omega)
  rw [P_] at hn
  refine Ev.step (fun k=>by simp only [jH.l1];rfl) ?_
  simp only [lI j s (by omega),if_true,gb i,show ((i:Int) < (p.length:Int)) by omega,show ¬ ((s:Int)=0) by omega,if_false,oZ p i hi,List.length_map,List.length_range,show j < 17592186044416 by omega,wI ((j:Int)+1) (by omega)]
  exact hn
theorem adD (s:Nat) (hs:1≤s) (wm:s≤4) (a:Int) (l:List (List Int)) (p:List Int) (hp:p.length≤1048576) (z:Int):∀ (d i:Nat),p.length - i=d→i≤p.length→Ev (fun k=>jH.l0 k s p i a l z ((p.take i).map (qb s))) (a,l,z,p.map (qb s)):=by
 intro d
 induction d with
 | zero =>
  intro i hd hi
  obtain rfl:i=p.length:=by omega
  refine Ev.step (fun k=>by simp only [jH.l0];rfl) ?_
  simp only [Int.lt_irrefl,if_false,List.take_length]
  exact Ev.now _
 | succ d ih =>
  intro i hd hi
  have hil:i < p.length:=by omega
  have hn:=ih (i+1) (by omega) (by omega)
  rw [List.take_succ_eq_append_getElem hil,List.map_append,List.map_cons,List.map_nil] at hn
  refine Ev.step (fun k=>by simp only [jH.l0];rfl) ?_
  simp only [show ((i:Int) < (p.length:Int)) by omega,if_true]
  exact adE s hs wm a l p hp i hil z ((p.take i).map (qb s)) (by rw [List.length_map,List.length_take];omega) _ hn s 0 (by omega) (by omega)
theorem adC (s:Nat) (hs:1≤s) (wm:s≤4) (a:Int) (l:List (List Int)) (hl:l.length≤1048576) (hx:∀ x ∈ l,x.length≤1048576) (p:List Int) (hp:p.length≤1048576):Ev (fun k=>jH.f k a l s p) (a,l,(s:Int),p.map (qb s)):=by
 unfold jH.f
 exact Ev.bind (E5 a l hl hx) (adD s hs wm a l p hp s p.length 0 (by omega) (by omega))
theorem YH (s:Nat) (wm:s≤4) (p:List Int) (hp:p.length≤1048576):(p.map (qb s)).length≤1048576∧∀ y ∈ p.map (qb s),y.length≤1048576:=by
 refine ⟨by rw [List.length_map];exact hp,fun y hy=>?_⟩
 obtain ⟨n,_,rfl⟩:=List.mem_map.1 hy
 simp only [qb,List.length_map,List.length_range]
 omega
/-- A row and a square of numbers, by their places. -/
def bD (n:Nat) (g:Nat→Int):List Int:=(List.range n).map g
def dh (n:Nat) (f:Nat→Nat→Int):List (List Int):=(List.range n).map fun i=>bD n (f i)
theorem iY (n:Nat) (g:Nat→Int):(bD n g).length=n:=by simp [bD]
theorem mG (n:Nat) (f:Nat→Nat→Int):(dh n f).length=n:=by simp [dh]
theorem kW {n:Nat} {g:Nat→Int} {v:Nat} (h:v < n):rd (bD n g) (v:Int)=g v:=by
 rw [oZ _ _ (by rw [iY];exact h)]
 simp [bD]
theorem rL {n:Nat} {f:Nat→Nat→Int} {u:Nat} (h:u < n):av (dh n f) (u:Int)=bD n (f u):=by
 rw [lO _ _ (by rw [mG];exact h)]
 simp [dh]
theorem xD {n:Nat} {g h:Nat→Int} (e:∀ j,j < n→g j=h j):bD n g=bD n h:=by
 unfold bD
 apply List.map_congr_left
 intro j hj
 exact e j (List.mem_range.mp hj)
theorem ap_ {n:Nat} {f h:Nat→Nat→Int} (e:∀ i j,i < n→j < n→f i j=h i j):dh n f=dh n h:=by
 unfold dh
 apply List.map_congr_left
 intro i hi
 exact xD fun j hj=>e i j (List.mem_range.mp hi) hj
theorem Il {n:Nat} (g:Nat→Int) (v:Nat) (x:Int):(bD n g).set v x=bD n (fun j=>if j=v then x else g j):=by
 apply List.ext_getElem
 ·rw [List.length_set,iY,iY]
 intro j h1 h2
 rw [List.getElem_set]
 simp only [bD,List.getElem_map,List.getElem_range]
 by_cases h:v=j
 ·subst h;simp
 ·rw [if_neg h,if_neg (fun e=>h e.symm)]
theorem Nn {n:Nat} (f:Nat→Nat→Int) (u:Nat) (g:Nat→Int):(dh n f).set u (bD n g)=dh n (fun i j=>if i=u then g j else f i j):=by
 apply List.ext_getElem
 ·rw [List.length_set,mG,mG]
 intro i h1 h2
 rw [List.getElem_set]
 simp only [dh,List.getElem_map,List.getElem_range]
 by_cases h:u=i
 ·subst h;simp
 ·rw [if_neg h];exact xD fun j _=>by rw [if_neg (fun e=>h e.symm)]
/-- One place written. -/
theorem afM {n:Nat} (f:Nat→Nat→Int) (u:Nat) (hu:u < n) (v:Nat) (x:Int):(dh n f).set u ((av (dh n f) (u:Int)).set v x)=dh n (fun i j=>if i=u∧j=v then x else f i j):=by
 rw [rL hu,Il,Nn]
 refine ap_ fun i j _ _=>?_
 by_cases h:i=u
 ·subst h;simp
 ·simp [h]
theorem Ud (n:Nat):List.replicate n (List.replicate n (0:Int))=dh n (fun _ _=>0):=by
 have h0:∀ m:Nat,bD m (fun _=>0)=List.replicate m 0:=fun m=>by
  apply List.ext_getElem
  ·simp [bD]
  ·intro i _ _;simp [bD]
 apply List.ext_getElem
 ·simp [dh]
 ·intro i _ _;simp [dh,h0]
theorem D2 {n:Nat} {l:List (List Int)} (hE:endsIn n l) (d:Nat) (hd:d < 2 * l.length):∃ u v:Nat,iL l d=u∧eC l d=v∧u < n∧v < n:=by
 obtain ⟨_,u,v,hu,hv,hun,Cq⟩:=hE (d / 2) (by omega)
 unfold iL eC
 rcases Nat.mod_two_eq_zero_or_one d with h|h
 ·rw [h];exact ⟨u,v,hu,hv,hun,Cq⟩
 ·rw [h];exact ⟨v,u,hv,hu,Cq,hun⟩
def fR (x y:Int):Prop:=(18446744073709551616:Int) ∣ x - y
theorem qM (x:Int):fR x x:=⟨0,by omega⟩
theorem Yh {x y:Int} (h:fR x y):fR y x:=by
 obtain ⟨q,h⟩:=h
 exact ⟨-q,by omega⟩
theorem ry {x y z:Int} (h:fR x y) (h2:fR y z):fR x z:=by
 obtain ⟨q,h⟩:=h
 obtain ⟨r,h2⟩:=h2
 exact ⟨q+r,by omega⟩
theorem r6 (x:Int):fR (wrap64 x) x:=by
 unfold fR wrap64
 exact ⟨-((x+9223372036854775808) / 18446744073709551616),by omega⟩
theorem BF {x y z w:Int} (h:fR x y) (h2:fR z w):fR (x+z) (y+w):=by
 obtain ⟨q,h⟩:=h
 obtain ⟨r,h2⟩:=h2
 exact ⟨q+r,by omega⟩
theorem PM {x y:Int} (h:fR x y):fR (-x) (-y):=by
 obtain ⟨q,h⟩:=h
 exact ⟨-q,by omega⟩
theorem DW {x y z w:Int} (h:fR x y) (h2:fR z w):fR (x * z) (y * w):=ad1 h h2
theorem DX {n:Nat} {f g:Nat→Int} (h:∀ i,i < n→fR (f i) (g i)):fR (ay n f) (ay n g):=ad4 h
theorem Ur (x:Int):-9223372036854775808≤wrap64 x∧wrap64 x≤9223372036854775807:=by unfold wrap64;omega
theorem Yg {x y:Int} (h:fR x y) (hx:-9223372036854775808≤x∧x≤9223372036854775807) (hy:-9223372036854775808≤y∧y≤9223372036854775807):x=y:=by
 obtain ⟨q,h⟩:=h
 omega
theorem Uq {x y:Int} (h:fR x y) (hy:-9223372036854775808≤y∧y≤9223372036854775807):wrap64 x=y:=Yg (ry (r6 x) h) (Ur x) hy
/-- One row of a product, made by program. -/
def oy (f g : Nat → Nat → Int) (i : Nat) : Nat → Nat → Int
 | 0,_=>0
 | k+1,j=>if f i k=0 then oy f g i k j else wrap64 (oy f g i k j+wrap64 (f i k * g k j))
theorem TM (f g:Nat→Nat→Int) (i j:Nat) (m:Nat):fR (oy f g i m j) (ay m (fun k=>f i k * g k j)):=by
 induction m with
 | zero=>exact qM _
 | succ m ih =>
  unfold oy
  simp only [ay]
  split
  ·case _ h=>rw [h];simpa using ih
  ·exact ry (r6 _) (BF ih (r6 _))
def qp (f g:Nat→Nat→Int) (n i k j:Nat):Nat→Nat→Int:=fun r c=>if r < i then oy f g r n c else if r=i then (if c < j then oy f g i (k+1) c else oy f g i k c) else 0
theorem ae5 (n : Nat) (hn : n ≤ 1048576) (f g : Nat → Nat → Int) (i k : Nat) (hi : i < n) (hk : k < n) (hf : f i k ≠ 0) (R : List (List Int))
  (next:Ev (fun q=>apj.l1 q (dh n g) (dh n (qp f g n i (k+1) 0)) i (dh n f) n i (bD n (f i)) n ((k:Int)+1)) R) :
  ∀ (d j:Nat),n - j=d→j≤n→Ev (fun q=>apj.l2 q (dh n g) (dh n (qp f g n i k j)) i (f i k) (dh n f) n i (bD n (f i)) n k (bD n (g k)) n j) R:=by
 intro d
 induction d with
 | zero =>
  intro j hd hj
  obtain rfl:j=n:=by omega
  refine Ev.step (fun q=>by simp only [apj.l2];rfl) ?_
  simp only [Int.lt_irrefl,if_false,wI ((k:Int)+1) (by omega)]
  refine Ev.congr (fun q=>?_) next
  congr 1
  refine ap_ fun r c hr hc=>?_
  unfold qp
  by_cases h1:r < i
  ·rw [if_pos h1,if_pos h1]
  ·rw [if_neg h1, if_neg h1]
   by_cases h2:r=i
   ·rw [if_pos h2,if_pos h2,if_pos hc,if_neg (by omega)]
   ·rw [if_neg h2,if_neg h2]
 | succ d ih =>
  intro j hd hj
  have hjn:j < n:=by omega
  refine Ev.step (fun q=>by simp only [apj.l2];rfl) ?_
  simp only [lI j n (by omega),gb j,gb i,lI i n (by omega),if_true,iY,mG,rL hi,kW hjn,Int.toNat_natCast,wI ((j:Int)+1) (by omega)]
  rw [Il,Nn]
  refine Ev.congr (fun q=>?_) (ih (j+1) (by omega) (by omega))
  rw [show ((j+1:Nat):Int)=(j:Int)+1 by omega]
  congr 1
  refine ap_ fun r c hr hc=>?_
  have hij:qp f g n i k j i j=oy f g i k j:=by
   unfold qp;rw [if_neg (by omega),if_pos rfl,if_neg (by omega)]
  by_cases h2:r=i
  ·subst h2
   rw [if_pos rfl]
   by_cases h3:c=j
   ·subst h3
    rw [if_pos rfl,hij]
    simp only [qp,Nat.lt_irrefl,if_false,if_true,show c < c+1 by omega]
    show _=(if f r k=0 then _ else _)
    rw [if_neg hf]
   ·rw [if_neg h3]
    simp only [qp,Nat.lt_irrefl,if_false,if_true]
    by_cases h4:c < j
    ·rw [if_pos h4,if_pos (by omega)]
    ·rw [if_neg h4,if_neg (by omega)]
  ·rw [if_neg h2]
   unfold qp
   by_cases h1:r < i
   ·rw [if_pos h1,if_pos h1]
   ·rw [if_neg h1,if_neg h1,if_neg h2,if_neg h2]
theorem ae4 (n : Nat) (hn : n ≤ 1048576) (f g : Nat → Nat → Int) (i : Nat) (hi : i < n) (R : List (List Int))
  (next:Ev (fun q=>apj.l0 q (dh n g) (dh n (qp f g n (i+1) 0 0)) (dh n f) n ((i:Int)+1)) R) :
  ∀ (d k:Nat),n - k=d→k≤n→Ev (fun q=>apj.l1 q (dh n g) (dh n (qp f g n i k 0)) i (dh n f) n i (bD n (f i)) n k) R:=by
 intro d
 induction d with
 | zero =>
  intro k hd hk
  obtain rfl:k=n:=by omega
  refine Ev.step (fun q=>by simp only [apj.l1];rfl) ?_
  simp only [Int.lt_irrefl,if_false,wI ((i:Int)+1) (by omega)]
  refine Ev.congr (fun q=>?_) next
  congr 1
  refine ap_ fun r c hr hc=>?_
  unfold qp
  by_cases h1:r < i
  ·rw [if_pos h1,if_pos (by omega)]
  ·rw [if_neg h1]
   by_cases h2:r=i
   ·subst h2;rw [if_pos rfl,if_neg (by omega),if_pos (by omega)]
   ·rw [if_neg h2, if_neg (by omega)]
    by_cases h3:r=i+1
    ·rw [if_pos h3,if_neg (by omega)];rfl
    ·rw [if_neg h3]
 | succ d ih =>
  intro k hd hk
  have hkn:k < n:=by omega
  refine Ev.step (fun q=>by simp only [apj.l1];rfl) ?_
  simp only [lI k n (by omega),gb k,if_true,iY,mG,kW hkn,rL hkn,wI ((k:Int)+1) (by omega)]
  have h:=ih (k+1) (by omega) (by omega)
  rw [show ((k+1:Nat):Int)=(k:Int)+1 by omega] at h
  by_cases hf:f i k=0
  ·simp only [hf, if_true]
   refine Ev.congr (fun q=>?_) h
   congr 1
   refine ap_ fun r c hr hc=>?_
   unfold qp
   by_cases h1:r < i
   ·rw [if_pos h1,if_pos h1]
   ·rw [if_neg h1, if_neg h1]
    by_cases h2:r=i
    ·rw [if_pos h2, if_pos h2, if_neg (by omega), if_neg (by omega)]
     show _=(if f i k=0 then _ else _)
     rw [if_pos hf]
    ·rw [if_neg h2,if_neg h2]
  ·simp only [hf, if_false]
   exact ae5 n hn f g i k hi hkn hf R h n 0 (by omega) (by omega)
theorem ae3 (n:Nat) (hn:n≤1048576) (f g:Nat→Nat→Int):∀ (d i:Nat),n - i=d→i≤n→Ev (fun q=>apj.l0 q (dh n g) (dh n (qp f g n i 0 0)) (dh n f) n i) (dh n (fun r c=>oy f g r n c)):=by
 intro d
 induction d with
 | zero =>
  intro i hd hi
  obtain rfl:i=n:=by omega
  refine Ev.step (fun q=>by simp only [apj.l0];rfl) ?_
  simp only [Int.lt_irrefl,if_false]
  rw [show dh i (qp f g i i 0 0)=dh i (fun r c=>oy f g r i c) from ap_ fun r c hr hc=>by unfold qp;rw [if_pos hr]]
  exact Ev.now _
 | succ d ih =>
  intro i hd hi
  have hin:i < n:=by omega
  refine Ev.step (fun q=>by simp only [apj.l0];rfl) ?_
  simp only [lI i n (by omega),gb i,if_true,mG,rL hin,iY]
  have h:=ih (i+1) (by omega) (by omega)
  rw [show ((i+1:Nat):Int)=(i:Int)+1 by omega] at h
  exact ae4 n hn f g i hin _ h n 0 (by omega) (by omega)
theorem TL (n:Nat) (hn:n≤1048576) (f g:Nat→Nat→Int):Ev (fun q=>apj.f q (dh n f) (dh n g)) (dh n (fun r c=>oy f g r n c)):=by
 unfold apj.f
 simp only [mG]
 refine Ev.bind (Nc n hn) ?_
 rw [Ud]
 have h:=ae3 n hn f g n 0 (by omega) (by omega)
 refine Ev.congr (fun q=>?_) h
 congr 1
 refine ap_ fun r c hr hc=>?_
 unfold qp
 rw [if_neg (by omega)]
 split
 ·rw [if_neg (by omega)];rfl
 ·rfl
def AY (h : Nat → Nat → Int) : Nat → Int
 | 0=>0
 | i+1=>wrap64 (AY h i+h i i)
theorem afC (h:Nat→Nat→Int) (m:Nat):fR (AY h m) (ay m (fun i=>h i i)):=by
 induction m with
 | zero=>exact qM _
 | succ m ih=>exact ry (r6 _) (BF ih (qM _))
theorem afE (n:Nat) (hn:n≤1048576) (h:Nat→Nat→Int):∀ (d i:Nat),n - i=d→i≤n→Ev (fun q=>oC.l0 q (AY h i) (dh n h) n i) (AY h n):=by
 intro d
 induction d with
 | zero =>
  intro i hd hi
  obtain rfl:i=n:=by omega
  refine Ev.step (fun q=>by simp only [oC.l0];rfl) ?_
  simp only [Int.lt_irrefl,if_false]
  exact Ev.now _
 | succ d ih =>
  intro i hd hi
  have hin:i < n:=by omega
  refine Ev.step (fun q=>by simp only [oC.l0];rfl) ?_
  simp only [lI i n (by omega),gb i,if_true,mG,rL hin,iY,kW hin,wI ((i:Int)+1) (by omega)]
  have h:=ih (i+1) (by omega) (by omega)
  rw [show ((i+1:Nat):Int)=(i:Int)+1 by omega] at h
  exact h
theorem afD (n:Nat) (hn:n≤1048576) (h:Nat→Nat→Int):Ev (fun q=>oC.f q (dh n h)) (AY h n):=by
 unfold oC.f
 simp only [mG]
 exact afE n hn h n 0 (by omega) (by omega)
/-- A list without zeros at its end. -/
def iG (l : List Int) : Nat → List Int
 | 0=>[]
 | n+1=>if rd l n=0 then iG l n else l.take (n+1)
theorem T7 (l:List Int) (n:Nat):(iG l n).length≤n:=by
 induction n with
 | zero=>simp [iG]
 | succ n ih =>
  unfold iG;split
  ·omega
  ·rw [List.length_take];omega
theorem afG (l:List Int) (hl:l.length≤1048576):∀ n,n≤l.length→Ev (fun q=>mK.l0 q (l.take n)) (iG l n):=by
 intro n
 induction n with
 | zero =>
  intro _
  refine Ev.step (fun q=>by simp only [mK.l0];rfl) ?_
  simp only [List.take_zero,List.length_nil,show ¬ (((0:Nat):Int) > 0) by omega,if_false,J1 [] (by simp),Option.bind_some,iG]
  exact Ev.now _
 | succ n ih =>
  intro hn
  refine Ev.step (fun q=>by simp only [mK.l0];rfl) ?_
  have hlen:((l.take (n+1)).length:Int)=(n:Int)+1:=by rw [List.length_take];omega
  have hr:rd (l.take (n+1)) n=rd l n:=by
   unfold rd
   simp only [Int.toNat_natCast,List.getD_eq_getElem?_getD,List.getElem?_take]
   rw [if_pos (by omega)]
  simp only [hlen,show (n:Int)+1 - 1=n by omega,wI ((n:Int)) (by omega),show (n:Int)+1 > 0 by omega,gb n,show (n:Int) < (n:Int)+1 by omega,show (n:Int)≤(n:Int)+1 by omega,if_true,hr,Int.toNat_natCast,List.take_take,show min n (n+1)=n by omega]
  rw [show iG l (n+1)=if rd l n=0 then iG l n else l.take (n+1) from rfl]
  by_cases h:rd l n=0
  ·simp only [h, if_true]
   exact ih (by omega)
  ·simp only [h, if_false, J1 (l.take (n + 1)) (by rw [List.length_take]; omega), Option.bind_some]
   exact Ev.now _
theorem arc (l:List Int) (hl:l.length≤1048576):Ev (fun q=>mK.f q l) (iG l l.length):=by
 unfold mK.f
 have h:=afG l hl l.length (Nat.le_refl _)
 rw [List.take_length] at h
 exact h
/-- The rows with one number added in the diagonal. -/
def uz (h:Nat→Nat→Int) (c:Int) (i:Nat):Nat→Nat→Int:=fun r q=>if r=q∧r < i then wrap64 (h r q+c) else h r q
theorem YE (c:Nat→Int) (n i:Nat) (h:i < n):rd ((List.range n).map c) i=c i:=by
 rw [oZ _ _ (by simpa using h)];simp
theorem Y3 (n : Nat) (hn : n ≤ 1048576) (A h : Nat → Nat → Int) (c : Nat → Int) (m : Nat) (hm : m < n) (R : List Int)
  (next:Ev (fun k=>(apj.f k (dh n A) (dh n (uz h (c m) n))).bind fun t119=>((oC.f k t119).bind fun t122=>(if ((m+1:Nat):Int)=0 then (none) else (if ((List.range (m+1)).map c).length < 17592186044416 then (fO.l0 k (dh n A) ((List.range (m+1)).map c ++ [wrap64 (Int.tdiv (wrap64 (-t122)) ((m+1:Nat):Int))]) (dh n (uz h (c m) n)) (wrap64 (((m+1:Nat):Int)+1))) else (none))))) R) :
  ∀ (d i:Nat),n - i=d→i≤n→Ev (fun k=>fO.l1 k (dh n A) ((List.range (m+1)).map c) (dh n (uz h (c m) i)) ((m+1:Nat):Int) n i) R:=by
 intro d
 induction d with
 | zero =>
  intro i hd hi
  obtain rfl:i=n:=by omega
  refine Ev.step (fun q=>by simp only [fO.l1];rfl) ?_
  simp only [Int.lt_irrefl,if_false]
  exact next
 | succ d ih =>
  intro i hd hi
  have hin:i < n:=by omega
  refine Ev.step (fun q=>by simp only [fO.l1];rfl) ?_
  simp only [lI i n (by omega),gb i,if_true,mG,rL hin,iY,kW hin,Int.toNat_natCast,show ((m+1:Nat):Int) - 1=(m:Int) by omega,wI ((m:Int)) (by omega),gb m,List.length_map,List.length_range,show (m:Int) < ((m+1:Nat):Int) by omega,YE c (m+1) m (by omega),wI ((i:Int)+1) (by omega)]
  rw [Il,Nn]
  refine Ev.congr (fun q=>?_) (ih (i+1) (by omega) (by omega))
  rw [show ((i+1:Nat):Int)=(i:Int)+1 by omega]
  congr 1
  refine ap_ fun r q hr hq=>?_
  unfold uz
  by_cases h1:r=i
  ·subst h1
   rw [if_pos rfl]
   by_cases h2:q=r
   ·subst h2
    rw [if_pos rfl,if_neg (by omega),if_pos ⟨rfl,by omega⟩]
   ·rw [if_neg h2,if_neg (fun e=>h2 e.1.symm),if_neg (fun e=>h2 e.1.symm)]
  ·rw [if_neg h1]
   by_cases h2:r=q∧r < i
   ·rw [if_pos h2,if_pos ⟨h2.1,by omega⟩]
   ·rw [if_neg h2,if_neg (fun e=>h2 ⟨e.1,by omega⟩)]
/-- The numbers of a determinant, as a list. -/
def lX (n:Nat) (A:Nat→Nat→Int):List Int:=(List.range (n+1)).map (bU n A)
theorem P3 (n:Nat) (A:Nat→Nat→Int):(lX n A).length=n+1:=by simp [lX]
theorem Y2 (n : Nat) (hn : n ≤ 1048575) (A : Nat → Nat → Int) (hb : ∀ k : Nat, 1 ≤ k → k ≤ n → -9223372036854775807 ≤ (k : Int) * bU n A k ∧ (k : Int) * bU n A k ≤ 9223372036854775807) :
  ∀ (d m : Nat), n - m = d → m ≤ n → ∀ h : Nat → Nat → Int, (∀ i j, i < n → j < n → fR (h i j) (oW n A (bU n A) m i j)) →
   Ev (fun k=>fO.l0 k (dh n A) ((List.range (m+1)).map (bU n A)) (dh n h) ((m+1:Nat):Int)) (iG (lX n A) (n+1)):=by
 intro d
 induction d with
 | zero =>
  intro m hd hm h _
  obtain rfl:m=n:=by omega
  refine Ev.step (fun q=>by simp only [fO.l0];rfl) ?_
  simp only [mG,show ¬ (((m+1:Nat):Int)≤(m:Int)) by omega,if_false]
  refine Ev.bind (a:=iG (lX m A) (m+1)) ?_ (Ev.now _)
  have h:=arc (lX m A) (by rw [P3];omega)
  rw [P3] at h
  exact h
 | succ d ih =>
  intro m hd hm h hcg
  have hmn:m < n:=by omega
  refine Ev.step (fun q=>by simp only [fO.l0];rfl) ?_
  simp only [mG,show (((m+1:Nat):Int)≤(n:Int)) by omega,if_true]
  refine Ev.bind (TL n (by omega) A h) ?_
  simp only [mG]
  have hg:∀ i j,i < n→j < n→fR (uz (fun r c=>oy A h r n c) (bU n A m) n i j) (oW n A (bU n A) (m+1) i j):=by
   intro i j hi hj
   have h1:fR (oy A h i n j) (ay n (fun q=>A i q * oW n A (bU n A) m q j)):=ry (TM A h i j n) (DX (fun q hq=>DW (qM _) (hcg q j hq hj)))
   show fR (uz _ _ n i j) (ay n (fun q=>A i q * oW n A (bU n A) m q j)+(if i=j then bU n A m else 0))
   unfold uz
   by_cases e:i=j
   ·rw [if_pos ⟨e, hi⟩, if_pos e]
    exact ry (r6 _) (BF h1 (qM _))
   ·rw [if_neg (fun e2 => e e2.1), if_neg e]
    simpa using h1
  have h0:dh n (fun r c=>oy A h r n c)=dh n (uz (fun r c=>oy A h r n c) (bU n A m) 0):=ap_ fun r c _ _=>by
   unfold uz;rw [if_neg (by omega)]
  rw [h0]
  refine Y3 n (by omega) A _ (bU n A) m hmn _ ?_ n 0 (by omega) (by omega)
  refine Ev.bind (TL n (by omega) A _) ?_
  refine Ev.bind (afD n (by omega) _) ?_
  have hfl:=adL n A m hmn
  have QU:=hb (m+1) (by omega) (by omega)
  have htr:fR (-(AY (fun r c=>oy A (uz (fun r c=>oy A h r n c) (bU n A m) n) r n c) n)) (((m+1:Nat):Int) * bU n A (m+1)):=by
   rw [hfl]
   refine PM (ry (afC _ n) (DX (fun i hi=>ry (TM _ _ i i n) (DX (fun j hj=>DW (qM _) (hg j i hj hi))))))
  have hw:wrap64 (-(AY (fun r c=>oy A (uz (fun r c=>oy A h r n c) (bU n A m) n) r n c) n))=((m+1:Nat):Int) * bU n A (m+1):=Uq htr ⟨by omega,by omega⟩
  have hdiv:Int.tdiv (((m+1:Nat):Int) * bU n A (m+1)) ((m+1:Nat):Int)=bU n A (m+1):=Int.mul_tdiv_cancel_left _ (by omega)
  have hsmall:-9223372036854775808≤bU n A (m+1)∧bU n A (m+1)≤9223372036854775807:=by
   have h1:(1:Int)≤((m+1:Nat):Int):=by omega
   generalize ((m+1:Nat):Int)=t at h1 QU
   generalize bU n A (m+1)=c at QU
   constructor
   ·rcases Int.lt_or_le c 0 with hc | hc
    ·have : t * c ≤ 1 * c := Int.mul_le_mul_of_nonpos_right h1 (by omega)
     omega
    ·omega
   ·rcases Int.lt_or_le c 0 with hc | hc
    ·omega
    ·have : 1 * c ≤ t * c := Int.mul_le_mul_of_nonneg_right h1 hc
     omega
  simp only [show ¬ (((m+1:Nat):Int)=0) by omega,if_false,List.length_map,List.length_range,show m+1 < 17592186044416 by omega,if_true,hw,hdiv,iz hsmall.1 hsmall.2,iz (show -9223372036854775808≤((m+1:Nat):Int)+1 by omega) (by omega)]
  have hn2:=ih (m+1) (by omega) (by omega) _ hg
  refine Ev.congr (fun q=>?_) hn2
  rw [show (List.range (m+1+1)).map (bU n A)=(List.range (m+1)).map (bU n A) ++ [bU n A (m+1)] by rw [List.range_succ,List.map_append];rfl]
  rw [show ((m+1+1:Nat):Int)=((m+1:Nat):Int)+1 by omega]
theorem Qf (n : Nat) (hn : n ≤ 1048575) (A : Nat → Nat → Int) (hb : ∀ k : Nat, 1 ≤ k → k ≤ n → -9223372036854775807 ≤ (k : Int) * bU n A k ∧ (k : Int) * bU n A k ≤ 9223372036854775807) :
  Ev (fun k=>fO.f k (dh n A)) (iG (lX n A) (n+1)):=by
 unfold fO.f
 simp only [mG]
 refine Ev.bind (Nc n (by omega)) ?_
 rw [Ud]
 have h:=Y2 n hn A hb n 0 (by omega) (by omega) (fun _ _=>0) (fun i j _ _=>qM _)
 refine Ev.congr (fun q=>?_) h
 rw [show (List.range (0+1)).map (bU n A)=[1] by simp [List.range_succ,aqY]]
 rfl
theorem Np (n:Nat) (g:Nat→Int):bD n g ++ [g n]=bD (n+1) g:=by
 unfold bD;rw [List.range_succ,List.map_append];rfl
theorem Ue {m n:Nat} (h:m≤n) (g:Nat→Int):(bD n g).take m=bD m g:=by
 unfold bD
 rw [← List.map_take,List.take_range,Nat.min_eq_left h]
theorem TX (l:List Int) (h:l.length≤1048576):rP.f l=some l:=by
 unfold rP.f
 simp only [Option.bind_some,List.length_nil,List.nil_append,show 0+l.length < 17592186044416 by omega,if_true]
theorem ady (l:List Int) (hl:l.length≤1048576):∀ n:Nat,n≤l.length→Ev (fun q=>pW.l0 q l n) (iG l n):=by
 intro n
 induction n with
 | zero =>
  intro _
  refine Ev.step (fun q=>by simp only [pW.l0];rfl) ?_
  simp only [show ¬ (((0:Nat):Int) > 0) by omega,if_false,show (0:Int)≤((0:Nat):Int) by omega,show ((0:Nat):Int)≤(l.length:Int) by omega,if_true,Int.toNat_natCast,List.take_zero,TX [] (by simp),Option.bind_some,iG]
  exact Ev.now _
 | succ n ih =>
  intro hn
  refine Ev.step (fun q=>by simp only [pW.l0];rfl) ?_
  simp only [show ((n+1:Nat):Int) > 0 by omega,show ((n+1:Nat):Int) - 1=n by omega,wI ((n:Int)) (by omega),gb n,show (n:Int) < (l.length:Int) by omega,show (0:Int)≤((n+1:Nat):Int) by omega,show ((n+1:Nat):Int)≤(l.length:Int) by omega,if_true,Int.toNat_natCast]
  rw [show iG l (n+1)=if rd l n=0 then iG l n else l.take (n+1) from rfl]
  by_cases h:rd l n=0
  ·simp only [h, if_true]
   exact ih (by omega)
  ·simp only [h, if_false, TX (l.take (n + 1)) (by rw [List.length_take]; omega), Option.bind_some]
   exact Ev.now _
theorem adx (l:List Int) (hl:l.length≤1048576):Ev (fun q=>pW.f q l) (iG l l.length):=ady l hl l.length (Nat.le_refl _)
theorem Xk (n : Nat) (hn : n ≤ 1048575) (A : Nat → Nat → Int) (x3 x5 fS : List Int) (C : Nat → Int) (x8 x9 : Int) (r i : Nat) (hr : r < n) (hi : i < r) (h10 : fS.length = i) (R : List Int)
  (next:∀ v,fR v (ay r (fun j=>A i j * C j))→Ev (fun k=>bX.l3 k (dh n A) x3 r x5 (bD r C) x8 x9 (fS ++ [v]) ((i:Int)+1)) R) :
  ∀ (d j:Nat),r - j=d→j≤r→∀ v,fR v (ay j (fun j=>A i j * C j))→Ev (fun k=>bX.l4 k (dh n A) x3 r x5 (bD r C) x8 x9 fS i v j) R:=by
 intro d
 induction d with
 | zero =>
  intro j hd hj v hv
  obtain rfl:j=r:=by omega
  refine Ev.step (fun q=>by simp only [bX.l4];rfl) ?_
  simp only [Int.lt_irrefl,if_false,h10,show i < 17592186044416 by omega,if_true,wI ((i:Int)+1) (by omega)]
  exact next v hv
 | succ d ih =>
  intro j hd hj v hv
  have EJ:j < r:=by omega
  refine Ev.step (fun q=>by simp only [bX.l4];rfl) ?_
  simp only [lI j r (by omega),gb j,gb i,mG,lI i n (by omega),if_true,rL (show i < n by omega),iY,lI j n (by omega),kW (show j < n by omega),kW EJ,wI ((j:Int)+1) (by omega)]
  have h:=ih (j+1) (by omega) (by omega) (wrap64 (v+wrap64 (A i j * C j))) (ry (r6 _) (BF hv (r6 _)))
  rw [show ((j+1:Nat):Int)=(j:Int)+1 by omega] at h
  exact h
theorem Xj (n : Nat) (hn : n ≤ 1048575) (A : Nat → Nat → Int) (x3 x5 : List Int) (C : Nat → Int) (x8 : Int) (r : Nat) (hr : r < n) (h5 : x5.length < 17592186044416) (R : List Int)
  (next:∀ (v:Int) (C':Nat→Int),fR v (ay r (fun j=>A r j * C j))→(∀ i,i < r→fR (C' i) (ay r (fun j=>A i j * C j)))→Ev (fun k=>bX.l2 k (dh n A) x3 r (x5 ++ [wrap64 (-v)]) (bD r C') (wrap64 (x8+1))) R) :
  ∀ (d i:Nat),r - i=d→i≤r→∀ (v:Int) (C':Nat→Int),fR v (ay i (fun j=>A r j * C j))→(∀ l,l < i→fR (C' l) (ay r (fun j=>A l j * C j)))→Ev (fun k=>bX.l3 k (dh n A) x3 r x5 (bD r C) x8 v (bD i C') i) R:=by
 intro d
 induction d with
 | zero =>
  intro i hd hi v C' hv hC
  obtain rfl:i=r:=by omega
  refine Ev.step (fun q=>by simp only [bX.l3];rfl) ?_
  simp only [Int.lt_irrefl,if_false,h5,if_true]
  exact next v C' hv hC
 | succ d ih =>
  intro i hd hi v C' hv hC
  have EI:i < r:=by omega
  refine Ev.step (fun q=>by simp only [bX.l3];rfl) ?_
  simp only [lI i r (by omega),gb i,gb r,mG,lI r n (by omega),if_true,rL hr,iY,lI i n (by omega),kW (show i < n by omega),kW EI]
  refine Xk n hn A x3 x5 (bD i C') C x8 _ r i hr EI (iY _ _) R (fun w hw=>?_) r 0 (by omega) (by omega) 0 (qM _)
  have h:=ih (i+1) (by omega) (by omega) (wrap64 (v+wrap64 (A r i * C i))) (fun l=>if l < i then C' l else w) (ry (r6 _) (BF hv (r6 _))) (fun l hl=>by
   by_cases e:l < i
   ·simp only [if_pos e];exact hC l e
   ·simp only [if_neg e]
    obtain rfl:l=i:=by omega
    exact hw)
  refine Ev.congr (fun q=>?_) h
  rw [show ((i+1:Nat):Int)=(i:Int)+1 by omega,← Np]
  rw [if_neg (Nat.lt_irrefl i)]
  congr 2
  exact xD fun j hj=>by rw [if_pos hj]
theorem Xi (n : Nat) (hn : n ≤ 1048575) (A : Nat → Nat → Int) (x3 : List Int) (r : Nat) (hr : r < n) (R : List Int)
  (next:∀ T:Nat→Int,(∀ j,j < r+2→fR (T j) (sB r A j))→Ev (fun k=>bX.l5 k (dh n A) x3 r (bD (r+2) T) (bD (r+2) (fun _=>0)) 0) R) :
  ∀ (d k:Nat),r - k=d→k≤r→∀ (T C:Nat→Int),(∀ j,j < k+2→fR (T j) (sB r A j))→(∀ i,i < r→fR (C i) (ql r A (fun i=>A i r) k i))→Ev (fun q=>bX.l2 q (dh n A) x3 r (bD (k+2) T) (bD r C) k) R:=by
 intro d
 induction d with
 | zero =>
  intro k hd hk T C hT hC
  obtain rfl:k=r:=by omega
  refine Ev.step (fun q=>by simp only [bX.l2];rfl) ?_
  simp only [Int.lt_irrefl,if_false,wI ((k:Int)+2) (by omega),show (0:Int)≤(k:Int)+2 by omega,show ((k:Int)+2).toNat=k+2 by omega,show k+2≤35184372088832 by omega,if_true]
  rw [show List.replicate (k+2) (0:Int)=bD (k+2) (fun _=>0) by
   apply List.ext_getElem
   ·simp [bD]
   ·intro i _ _;simp [bD]]
  exact next T hT
 | succ d ih =>
  intro k hd hk T C hT hC
  have hkr:k < r:=by omega
  refine Ev.step (fun q=>by simp only [bX.l2];rfl) ?_
  simp only [lI k r (by omega),if_true]
  have h:=Xj n hn A x3 (bD (k+2) T) C k r hr (by rw [iY];omega) R (fun v C' hv hC'=>?_) r 0 (by omega) (by omega) 0 (fun _=>0) (qM _) (fun l hl=>by omega)
  ·exact h
  ·have h:=ih (k+1) (by omega) (by omega) (fun j=>if j < k+2 then T j else wrap64 (-v)) C' (fun j hj=>by
    by_cases e:j < k+2
    ·simp only [if_pos e];exact hT j e
    ·simp only [if_neg e]
     obtain rfl:j=k+2:=by omega
     show fR _ (-ay r (fun i=>A r i * ql r A (fun i=>A i r) k i))
     exact ry (r6 _) (PM (ry hv (DX (fun i hi=>DW (qM _) (hC i hi)))))) (fun i hi=>by
    show fR _ (ay r (fun j=>A i j * ql r A (fun i=>A i r) k j))
    exact ry (hC' i hi) (DX (fun j hj=>DW (qM _) (hC j hj))))
   refine Ev.congr (fun q=>?_) h
   rw [wI ((k:Int)+1) (by omega),show ((k+1:Nat):Int)=(k:Int)+1 by omega,show k+1+2=(k+2)+1 by omega,← Np (k+2) (fun j=>if j < k+2 then T j else wrap64 (-v))]
   simp only [if_neg (Nat.lt_irrefl (k+2))]
   congr 2
   exact xD fun j hj=>by rw [if_pos hj]
theorem Xh (n : Nat) (hn : n ≤ 1048575) (A : Nat → Nat → Int) (x3 x5 : List Int) (r : Nat) (hr : r < n) (R : List Int)
  (next:Ev (fun k=>bX.l2 k (dh n A) x3 r x5 (bD r (fun i=>A i r)) 0) R) :
  ∀ (d i:Nat),r - i=d→i≤r→Ev (fun k=>bX.l1 k (dh n A) x3 r x5 (bD i (fun i=>A i r)) i) R:=by
 intro d
 induction d with
 | zero =>
  intro i hd hi
  obtain rfl:i=r:=by omega
  refine Ev.step (fun q=>by simp only [bX.l1];rfl) ?_
  simp only [Int.lt_irrefl,if_false]
  exact next
 | succ d ih =>
  intro i hd hi
  have EI:i < r:=by omega
  refine Ev.step (fun q=>by simp only [bX.l1];rfl) ?_
  simp only [lI i r (by omega),gb i,gb r,mG,lI i n (by omega),lI r n (by omega),if_true,rL (show i < n by omega),iY,show i < 17592186044416 by omega,kW hr,wI ((i:Int)+1) (by omega)]
  have h:=ih (i+1) (by omega) (by omega)
  rw [show ((i+1:Nat):Int)=(i:Int)+1 by omega,← Np] at h
  exact h
def DQ (r:Nat) (A:Nat→Nat→Int) (m:Nat) (j:Nat):Int:=ay j (fun l=>sB r A (m - l) * bU r A l)
theorem Xm (n : Nat) (hn : n ≤ 1048575) (A : Nat → Nat → Int) (r i : Nat) (hr : r < n) (hi : i < r + 2) (c T : Nat → Int) (hT : ∀ j, j < r + 2 → fR (T j) (sB r A j)) (hc : ∀ l, l ≤ r → fR (c l) (bU r A l)) (R : List Int)
  (next:∀ M:Nat→Int,(∀ m,m≤i→fR (M m) (bU (r+1) A m))→(∀ m,i < m→M m=0)→(∀ m,-9223372036854775808≤M m∧M m≤9223372036854775807)→Ev (fun k=>bX.l5 k (dh n A) (bD (r+1) c) r (bD (r+2) T) (bD (r+2) M) ((i:Int)+1)) R) :
  ∀ (d j:Nat),r+1 - j=d→j≤i+1→j≤r+1→∀ M:Nat→Int,(∀ m,m < i→fR (M m) (bU (r+1) A m))→fR (M i) (DQ r A i j)→(∀ m,i < m→M m=0)→(∀ m,-9223372036854775808≤M m∧M m≤9223372036854775807)→Ev (fun k=>bX.l6 k (dh n A) (bD (r+1) c) r (bD (r+2) T) (bD (r+2) M) i j) R:=by
 have fin:∀ j,j≤i+1→(j=i+1∨j=r+1)→DQ r A i j=bU (r+1) A i:=by
  intro j Ac hj
  rw [adK r A i (by omega)]
  rcases hj with rfl|rfl
  ·rfl
  ·unfold DQ
   refine (Cx (by omega) (fun l h1 h2=>?_)).symm
   rw [show bU r A l=0 from pT _ _ l (by omega)];simp
 have nx:∀ j,j≤i+1→(j=i+1∨j=r+1)→∀ M:Nat→Int,(∀ m,m < i→fR (M m) (bU (r+1) A m))→fR (M i) (DQ r A i j)→(∀ m,i < m→M m=0)→(∀ m,-9223372036854775808≤M m∧M m≤9223372036854775807)→Ev (fun k=>bX.l5 k (dh n A) (bD (r+1) c) r (bD (r+2) T) (bD (r+2) M) ((i:Int)+1)) R:=by
  intro j Ac hj M h1 h2 h3 h4
  refine next M (fun m hm=>?_) h3 h4
  by_cases e:m=i
  ·subst e;rw [← fin j Ac hj];exact h2
  ·exact h1 m (by omega)
 intro d
 induction d with
 | zero =>
  intro j hd Ac hj2 M h1 h2 h3 h4
  obtain rfl:j=r+1:=by omega
  refine Ev.step (fun q=>by simp only [bX.l6];rfl) ?_
  simp only [iY,Int.lt_irrefl,if_false,wI ((i:Int)+1) (by omega)]
  exact nx _ Ac (Or.inr rfl) M h1 h2 h3 h4
 | succ d ih =>
  intro j hd Ac hj2 M h1 h2 h3 h4
  have EJ:j < r+1:=by omega
  refine Ev.step (fun q=>by simp only [bX.l6];rfl) ?_
  by_cases hji:j≤i
  ·simp only [iY, show ((j : Int) < ((r + 1 : Nat) : Int)) by omega, show ((j : Int) ≤ (i : Int)) by omega, gb i, show ((i : Int) < ((r + 2 : Nat) : Int)) by omega, gb j, if_true, show (i : Int) - (j : Int) = ((i - j : Nat) : Int) by omega, iz (show -9223372036854775808 ≤ ((i - j : Nat) : Int) by omega) (by omega), show (0 : Int) ≤ ((i - j : Nat) : Int) by omega, show ((i - j : Nat) : Int) < ((r + 2 : Nat) : Int) by omega, kW hi, kW EJ, kW (show i - j < r + 2 by omega), Int.toNat_natCast, wI ((j : Int) + 1) (by omega)]
   rw [Il]
   have h:=ih (j+1) (by omega) (by omega) (by omega) (fun m=>if m=i then wrap64 (M i+wrap64 (T (i - j) * c j)) else M m) (fun m hm=>by simp only [if_neg (show m ≠ i by omega)];exact h1 m hm) (by
    simp only [if_true]
    show fR _ (DQ r A i j+sB r A (i - j) * bU r A j)
    exact ry (r6 _) (BF h2 (ry (r6 _) (DW (hT _ (by omega)) (hc _ (by omega)))))) (fun m hm=>by simp only [if_neg (show m ≠ i by omega)];exact h3 m hm) (fun m=>by
    by_cases e:m=i
    ·simp only [if_pos e];exact Ur _
    ·simp only [if_neg e];exact h4 m)
   rw [show ((j+1:Nat):Int)=(j:Int)+1 by omega] at h
   exact h
  ·simp only [iY, show ((j : Int) < ((r + 1 : Nat) : Int)) by omega, show ¬ ((j : Int) ≤ (i : Int)) by omega, if_true, if_false, wI ((i : Int) + 1) (by omega)]
   exact nx j Ac (Or.inl (by omega)) M h1 h2 h3 h4
theorem Xl (n : Nat) (hn : n ≤ 1048575) (A : Nat → Nat → Int) (r : Nat) (hr : r < n) (c T : Nat → Int) (hT : ∀ j, j < r + 2 → fR (T j) (sB r A j)) (hc : ∀ l, l ≤ r → fR (c l) (bU r A l)) (R : List Int)
  (next:∀ M:Nat→Int,(∀ m,m≤r+1→fR (M m) (bU (r+1) A m))→(∀ m,-9223372036854775808≤M m∧M m≤9223372036854775807)→Ev (fun k=>bX.l0 k (dh n A) (bD (r+2) M) ((r:Int)+1)) R) :
  ∀ (d i:Nat),r+2 - i=d→i≤r+2→∀ M:Nat→Int,(∀ m,m < i→fR (M m) (bU (r+1) A m))→(∀ m,i≤m→M m=0)→(∀ m,-9223372036854775808≤M m∧M m≤9223372036854775807)→Ev (fun k=>bX.l5 k (dh n A) (bD (r+1) c) r (bD (r+2) T) (bD (r+2) M) i) R:=by
 intro d
 induction d with
 | zero =>
  intro i hd hi M h1 h3 h4
  obtain rfl:i=r+2:=by omega
  refine Ev.step (fun q=>by simp only [bX.l5];rfl) ?_
  simp only [iY,Int.lt_irrefl,if_false,wI ((r:Int)+1) (by omega)]
  exact next M (fun m hm=>h1 m (by omega)) h4
 | succ d ih =>
  intro i hd hi M h1 h3 h4
  have EI:i < r+2:=by omega
  refine Ev.step (fun q=>by simp only [bX.l5];rfl) ?_
  simp only [iY,show ((i:Int) < ((r+2:Nat):Int)) by omega,if_true]
  refine Xm n hn A r i hr EI c T hT hc R (fun M' g1 g3 g4=>?_) (r+1) 0 (by omega) (by omega) (by omega) M h1 (by rw [h3 i (by omega)];exact qM _) (fun m hm=>h3 m (by omega)) h4
  have h:=ih (i+1) (by omega) (by omega) M' (fun m hm=>g1 m (by omega)) (fun m hm=>g3 m (by omega)) g4
  rw [show ((i+1:Nat):Int)=(i:Int)+1 by omega] at h
  exact h
theorem Xg (n : Nat) (hn : n ≤ 1048574) (A : Nat → Nat → Int) : ∀ (d r : Nat), n - r = d → r ≤ n → ∀ c : Nat → Int, (∀ l, l ≤ r → fR (c l) (bU r A l)) → (∀ m, -9223372036854775808 ≤ c m ∧ c m ≤ 9223372036854775807) →
  Ev (fun k=>bX.l0 k (dh n A) (bD (r+1) c) r) (iG (bD (n+1) (fun l=>wrap64 (bU n A l))) (n+1)):=by
 intro d
 induction d with
 | zero =>
  intro r hd hr c hc hw
  obtain rfl:r=n:=by omega
  refine Ev.step (fun q=>by simp only [bX.l0];rfl) ?_
  simp only [mG,Int.lt_irrefl,if_false]
  refine Ev.bind (a:=iG (bD (r+1) (fun l=>wrap64 (bU r A l))) (r+1)) ?_ (Ev.now _)
  have h:=adx (bD (r+1) c) (by rw [iY];omega)
  rw [iY] at h
  rw [show bD (r+1) (fun l=>wrap64 (bU r A l))=bD (r+1) c from xD fun l hl=>(Uq (Yh (hc l (by omega))) (hw l))]
  exact h
 | succ d ih =>
  intro r hd hr c hc hw
  have EV:r < n:=by omega
  refine Ev.step (fun q=>by simp only [bX.l0];rfl) ?_
  simp only [mG,lI r n (by omega),gb r,if_true,rL EV,iY,kW EV]
  refine Xh n (by omega) A _ _ r EV _ ?_ r 0 (by omega) (by omega)
  have h:=Xi n (by omega) A (bD (r+1) c) r EV (iG (bD (n+1) (fun l=>wrap64 (bU n A l))) (n+1)) (fun T hT=>?_) r 0 (by omega) (by omega) (fun j=>if j=0 then 1 else wrap64 (-A r r)) (fun i=>A i r) (fun j hj=>by
   by_cases e:j=0
   ·subst e;simp only [if_true];exact qM _
   ·obtain rfl : j = 1 := by omega
    simp only [if_neg (show ¬ (1=0) by omega)]
    exact r6 _) (fun i _=>qM _)
  ·exact h
  ·refine Xl n (by omega) A r EV c T hT hc _ (fun M g1 g4 => ?_) (r + 2) 0 (by omega) (by omega) (fun _ => 0) (fun m hm => by omega) (fun _ _ => rfl) (fun _ => by omega)
   have h:=ih (r+1) (by omega) (by omega) M (fun l hl=>g1 l hl) g4
   rw [show ((r+1:Nat):Int)=(r:Int)+1 by omega] at h
   exact h
theorem Xn (n:Nat) (hn:n≤1048574) (A:Nat→Nat→Int):Ev (fun k=>bX.f k (dh n A)) (iG (bD (n+1) (fun l=>wrap64 (bU n A l))) (n+1)):=by
 unfold bX.f
 exact Xg n hn A n 0 (by omega) (by omega) (fun _=>1) (fun l hl=>by
  obtain rfl:l=0:=by omega
  rw [aqY];exact qM _) (fun _=>by omega)
/-- The edge matrix, by its places. -/
def eA (l:List (List Int)) (e f:Nat):Int:=if next l e f=true then 1 else 0
theorem J9 (l:List (List Int)):qc l=dh (2 * l.length) (eA l):=by
 unfold qc dh
 apply List.map_congr_left
 intro e _
 unfold mF bD
 apply List.map_congr_left
 intro f hf
 have hf':f < 2 * l.length:=List.mem_range.mp hf
 unfold eA
 simp [hf']
theorem CD {n:Nat} {l:List (List Int)} (hl:n=2 * l.length) {e:Nat} (he:e < n):cw e < n:=by unfold cw;split<;>omega
theorem DN (l:List (List Int)) (e:Nat):iL l (cw e)=eC l e:=by
 unfold iL eC cw
 rcases Nat.mod_two_eq_zero_or_one e with h|h
 ·rw [if_pos h,show (e+1) / 2=e / 2 by omega,show (e+1) % 2=1 - e % 2 by omega]
 ·rw [if_neg (by omega),show (e - 1) / 2=e / 2 by omega,show (e - 1) % 2=1 - e % 2 by omega]
theorem ap' (l:List (List Int)) (e f:Nat):eA l e f=(if iL l f=eC l e then 1 else 0) - aW (cw e) f:=by
 unfold eA next aW
 by_cases h1:f=cw e
 ·subst h1
  rw [DN];simp
 ·by_cases h2 : iL l f = eC l e
  ·simp [h1,h2]
  ·simp [h1,h2,Ne.symm h2]
theorem Pc (l:List (List Int)) (e f:Nat):ao0 (eA l e f)=eA l e f:=by unfold eA;split<;>rfl
theorem qN (j b:Nat):0≤aW j b:=by unfold aW;split<;>omega
theorem pU (n j:Nat):ay n (aW j)≤1:=by
 by_cases h:j < n
 ·rw [mS j h (fun i _ hne=>qY hne),uV];omega
 ·rw [jE (fun i hi=>qY (by omega))];omega
theorem TW {n:Nat} {f:Nat→Int} (h0:∀ a,a < n→0≤f a) (h1:∀ a,a < n→f a≤1) (h:∀ a b,a < b→b < n→f a=0∨f b=0):ay n f≤1:=by
 induction n with
 | zero=>simp [ay]
 | succ n ih =>
  simp only [ay]
  by_cases e:f n=0
  ·have:=ih (fun a ha=>h0 a (by omega)) (fun a ha=>h1 a (by omega)) (fun a b ha hb=>h a b ha (by omega));omega
  ·rw [jE (fun i hi => (h i n hi (by omega)).resolve_right e)]
   have:=h1 n (by omega);omega
theorem aeJ (p:Nat→Prop) [DecidablePred p] (n:Nat):∃ c:Nat,(c:Int)=ay n (fun a=>if p a then 1 else 0)∧dr n (fun a=>if p a then 20 else 4)=4 ^ n * 5 ^ c:=by
 induction n with
 | zero=>exact ⟨0,rfl,rfl⟩
 | succ n ih =>
  obtain ⟨c,h1,h2⟩:=ih
  by_cases h:p n
  ·refine ⟨c + 1, ?_, ?_⟩
   ·simp only [ay,if_pos h];omega
   ·simp only [dr,if_pos h,h2,Int.pow_succ];grind
  ·refine ⟨c, ?_, ?_⟩
   ·simp only [ay,if_neg h];omega
   ·simp only [dr,if_neg h,h2,Int.pow_succ];grind
def pS (l:List (List Int)) (a:Nat):Prop:=∀ e,e < a→eC l e ≠ eC l a
instance (l:List (List Int)):DecidablePred (pS l):=fun _=>inferInstanceAs (Decidable (∀ e,e < _→_))
theorem aeV (l:List (List Int)) (a:Nat):∃ r,(pS l a→r=a)∧(¬ pS l a→r < a∧pS l r∧eC l r=eC l a):=by
 induction a using Nat.strongRecOn with
 | _ a ih =>
  by_cases h:pS l a
  ·exact ⟨a,fun _=>rfl,fun h2=>absurd h h2⟩
  ·have:∃ e,e < a∧eC l e=eC l a:=by
    apply Classical.byContradiction
    intro hc
    exact h (fun e he h2=>hc ⟨e,he,h2⟩)
   obtain ⟨e,he,h2⟩:=this
   obtain ⟨r,fY,su⟩:=ih e he
   by_cases h3:pS l e
   ·exact ⟨e,fun h4=>absurd h4 h,fun _=>⟨he,h3,h2⟩⟩
   ·obtain ⟨g1, g2, g3⟩ := su h3
    exact ⟨r,fun h4=>absurd h4 h,fun _=>⟨by omega,g2,g3.trans h2⟩⟩
theorem Zb (l : List (List Int)) (hl : l.length ≤ 10) (hE : ∀ e, e < 2 * l.length → ∃ v : Nat, eC l e = v ∧ v < 8) (k : Nat) (hk : k ≤ 2 * l.length) :
  ao0 (bU (2 * l.length) (eA l) k)≤429496729600000000:=by
 obtain ⟨rep,qT⟩:=Classical.axiomOfChoice (aeV l)
 generalize hn:2 * l.length=n at hE hk ⊢
 have abZ:n≤20:=by omega
 let x:Nat→Int:=fun a=>if pS l a then 0 else -1
 let P:Nat→Nat→Int:=fun a b=>aW a b+x a * aW (rep a) b
 let Q:Nat→Nat→Int:=fun a b=>gP (eA l) a b+x a * gP (eA l) (rep a) b
 have hdc:∀ k,k≤n→bU n (eA l) k=fU n P Q k:=by
  intro k hk
  refine yQ (n:=n) (fun u _=>?_) k hk
  show fN n (fU n (fun a b=>aW a b) (gP (eA l))) u=_
  rw [← wu,← wu,← adZ (fun a b=>aW a b+u * gP (eA l) a b) rep x (fun a ha hx=>?_)]
  ·refine gy (fun a b _ _ => ?_)
   show _=(aW a b+x a * aW (rep a) b)+u * (gP (eA l) a b+x a * gP (eA l) (rep a) b)
   grind
  ·have h1 : ¬ pS l a := fun h => hx (if_pos h)
   obtain ⟨g1,g2,g3⟩:=(qT a).2 h1
   exact ⟨by omega,by omega,if_pos g2⟩
 have hrow:∀ a,a < n→ay n (fun b=>ao0 (P a b)+ao0 (Q a b))≤if pS l a then 20 else 4:=by
  intro a ha
  by_cases h:pS l a
  ·rw [if_pos h]
   have e:ay n (fun b=>ao0 (P a b)+ao0 (Q a b))=ay n (aW a)+ay n (fun b=>eA l a b):=by
    rw [← k7]
    refine eL (fun b _=>?_)
    have hx:x a=0:=if_pos h
    show ao0 (aW a b+x a * aW (rep a) b)+ao0 (gP (eA l) a b+x a * gP (eA l) (rep a) b)=_
    rw [hx,Int.zero_mul,Int.zero_mul,Int.add_zero,Int.add_zero]
    congr 1
    ·unfold aW ao0;split<;>rfl
    ·unfold gP
     rw [← Pc]
     unfold ao0;omega
   rw [e]
   have h1:=pU n a
   have h2:ay n (fun b=>eA l a b)≤ay n (fun b=>1 - aW (cw a) b):=oX (fun b _=>by
    rw [ap'];split<;>omega)
   rw [wz,mS (n:=n) (f:=aW (cw a)) (cw a) (CD hn.symm ha) (fun i _ hne=>qY hne),uV] at h2
   have h3:∀ m:Nat,ay m (fun _=>(1:Int))=m:=by
    intro m
    induction m with
    | zero=>rfl
    | succ m ih=>simp only [ay,ih];omega
   rw [h3] at h2
   omega
  ·rw [if_neg h]
   obtain ⟨g1,g2,g3⟩:=(qT a).2 h
   have hx:x a=-1:=if_neg h
   have e:ay n (fun b=>ao0 (P a b)+ao0 (Q a b))≤ay n (fun b=>(aW a b+aW (rep a) b)+(aW (cw a) b+aW (cw (rep a)) b)):=by
    refine oX (fun b _=>?_)
    show ao0 (aW a b+x a * aW (rep a) b)+ao0 (gP (eA l) a b+x a * gP (eA l) (rep a) b)≤_
    rw [hx]
    unfold gP
    rw [ap',ap',g3]
    have:=qN a b
    have:=qN (rep a) b
    have:=qN (cw a) b
    have:=qN (cw (rep a)) b
    generalize aW a b=e1 at *
    generalize aW (rep a) b=e2 at *
    generalize aW (cw a) b=e3 at *
    generalize aW (cw (rep a)) b=e4 at *
    generalize (if iL l b=eC l a then (1:Int) else 0)=z
    unfold ao0
    omega
   rw [k7 n (fun b=>aW a b+aW (rep a) b) (fun b=>aW (cw a) b+aW (cw (rep a)) b),k7 n (aW a) (aW (rep a)),k7 n (aW (cw a)) (aW (cw (rep a)))] at e
   have:=pU n a
   have:=pU n (rep a)
   have:=pU n (cw a)
   have:=pU n (cw (rep a))
   omega
 obtain ⟨c,gi,uC⟩:=aeJ (pS l) n
 have hc8:c≤8:=by
  have h1:ay n (fun a=>if pS l a then (1:Int) else 0)=ay n (fun a=>ay 8 (fun v=>if pS l a∧eC l a=(v:Int) then 1 else 0)):=by
   refine eL (fun a ha=>?_)
   obtain ⟨v,LI,Hr⟩:=hE a ha
   rw [mS v Hr (fun i _ hne=>if_neg (fun h2=>hne (by have:=h2.2;omega)))]
   by_cases h:pS l a
   ·rw [if_pos h,if_pos ⟨h,LI⟩]
   ·rw [if_neg h,if_neg (fun h2=>h h2.1)]
  rw [yS] at h1
  have h2:ay 8 (fun v=>ay n (fun a=>if pS l a∧eC l a=(v:Int) then (1:Int) else 0))≤ay 8 (fun _=>1):=oX (fun v _=>TW (fun a _=>by split<;>omega) (fun a _=>by split<;>omega) (fun a b hab hb=>by
   by_cases h:pS l b∧eC l b=(v:Int)
   ·left
    rw [if_neg]
    rintro ⟨h3,h4⟩
    exact h.1 a hab (h4.trans h.2.symm)
   ·right;exact if_neg h))
  have h3:ay 8 (fun _=>(1:Int))=8:=rfl
  omega
 have hb:=S4 (n:=n) P Q
 have h1:=AE (n:=n+1) (fU n P Q) k (by omega)
 have h2:dr n (fun a=>ay n (fun b=>ao0 (P a b)+ao0 (Q a b)))≤dr n (fun a=>if pS l a then 20 else 4) :=
  aq2 (fun a _=>xz (fun b _=>by have:=ou (P a b);have:=ou (Q a b);omega)) hrow
 rw [uC] at h2
 have h4:(4:Int) ^ n * 5 ^ c≤4 ^ 20 * 5 ^ 8:=by
  have p4:(4:Int) ^ n≤4 ^ 20:=by
   have:=Nat.pow_le_pow_right (n:=4) (by omega) abZ
   exact_mod_cast this
  have p5:(5:Int) ^ c≤5 ^ 8:=by
   have:=Nat.pow_le_pow_right (n:=5) (by omega) hc8
   exact_mod_cast this
  have q5:(0:Int)≤5 ^ c:=by
   have:(0:Nat)≤5 ^ c:=Nat.zero_le _
   exact_mod_cast this
  exact Int.mul_le_mul p4 p5 q5 (by decide)
 rw [hdc k hk]
 have h5:(4:Int) ^ 20 * 5 ^ 8=429496729600000000:=by decide
 omega
theorem ado {a:Int} {l:List (List Int)} (h:iO a l=true) (e:Nat) (he:e < 2 * l.length):∃ v:Nat,eC l e=v∧v < 8:=by
 obtain ⟨n,_,_,Aj,hE⟩:=L_ h
 obtain ⟨u,v,_,hv,_,Cq⟩:=D2 hE e he
 exact ⟨v,hv,by omega⟩
theorem adl {a:Int} {l:List (List Int)} (h:iO a l=true) (k:Nat) (hk:k≤2 * l.length):-429496729600000000≤bU (2 * l.length) (eA l) k∧bU (2 * l.length) (eA l) k≤429496729600000000:=by
 have:=Zb l (tq h) (ado h) k hk
 unfold ao0 at this
 omega
theorem adm {a:Int} {l:List (List Int)} (h:iO a l=true) (k:Nat) (_:1≤k) (hk:k≤2 * l.length):-9223372036854775807≤(k:Int) * bU (2 * l.length) (eA l) k∧(k:Int) * bU (2 * l.length) (eA l) k≤9223372036854775807:=by
 have h1:=adl h k hk
 have hl:=tq h
 have ame:(k:Int)≤20:=by omega
 generalize bU (2 * l.length) (eA l) k=c at h1
 have h2:(k:Int) * c≤k * 429496729600000000:=Int.mul_le_mul_of_nonneg_left h1.2 (by omega)
 have h3:(k:Int) * (-429496729600000000)≤k * c:=Int.mul_le_mul_of_nonneg_left h1.1 (by omega)
 omega
theorem M3 (a:Int) (l:List (List Int)) (h:iO a l=true):Ev (fun k=>apD.f k a l) (iG (lX (2 * l.length) (eA l)) (2 * l.length+1)):=by
 have hl:=tq h
 unfold apD.f
 refine Ev.bind (Ql a l hl (Cr h)) ?_
 rw [J9]
 exact Ev.bind (Qf (2 * l.length) (by omega) (eA l) (adm h)) (Ev.now _)
theorem Pj (l:List Int) (k:Nat):pX.f l k=some (rd l k):=by
 unfold pX.f
 by_cases h:(k:Int) < (l.length:Int)
 ·rw [if_pos h,if_pos (by omega)]
 ·rw [if_neg h]
  congr 1
  unfold rd
  rw [Int.toNat_natCast,List.getD_eq_getElem?_getD,List.getElem?_eq_none (by omega)]
  rfl
theorem T6 {x p:Int} (h:0≤x):Int.tmod x p=x % p:=Int.tmod_eq_emod_of_nonneg h
end Go.Proofs.Ytoebojnhchocaaa.E
/- Set with little white space, by a program. -/
