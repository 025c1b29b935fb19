/- Plain lemmas on the Lean functions that FnWeights reaches, the first half. No condition. -/
import Derived.Test.YtapnggjaeehpdaaBx
namespace Go.Proofs.Ytapnggjaeehpdaa.B
open Go.RowKit Go.Proofs.bz.dI Go.Proofs.bz.iY Go.Proofs.bz.jn
set_option linter.unusedVariables false
set_option linter.unusedSimpArgs false
theorem wI (n:Int) (h:-9223372036854775808≤n∧n≤9223372036854775807):wrap64 n=n:=IntWalk.wrap64_in n h
theorem cv (n:Nat):(0:Int)≤(n:Int):=Int.natCast_nonneg n
theorem lI (a b:Nat) (h:a < b):(a:Int) < (b:Int):=Int.ofNat_lt.2 h
theorem dR.wY : ∀ k, (∀ y0 y1 y2, cj (dR.j0 k y0 y1 y2) (dR.j0 (k + 1) y0 y1 y2)) ∧ (∀ y0 y1 y2, cj (dR.l0 k y0 y1 y2) (dR.l0 (k + 1) y0 y1 y2))
 | 0=>⟨fun _ _ _ r h=>by simp [dR.j0] at h,fun _ _ _ r h=>by simp [dR.l0] at h⟩
 | k+1=>by
  obtain ⟨pK,ih1⟩:=dR.wY k
  refine ⟨?_, ?_⟩ <;> intros <;> (first | unfold dR.j0 | unfold dR.l0) <;> repeat' first
   | (with_reducible first|exact pK _ _ _|exact ih1 _ _ _|exact cj.refl _|exact cj.none _|refine cj.ite ?_ ?_|refine cj.bind ?_ (fun _=>?_))
   | exact pK _ _ _|exact ih1 _ _ _|exact cj.none _|refine cj.ite ?_ ?_|refine cj.bind ?_ (fun _=>?_)
theorem dR.mono:∀ a0 a1 k,cj (dR.f k a0 a1) (dR.f (k+1) a0 a1):=by
 intro a0 a1 k
 obtain ⟨pK,ih1⟩:=dR.wY k
 unfold dR.f
 repeat' first
  | (with_reducible first|exact pK _ _ _|exact ih1 _ _ _|exact cj.refl _|exact cj.none _|refine cj.ite ?_ ?_|refine cj.bind ?_ (fun _=>?_))
theorem iq.wY : ∀ k, (∀ y0 y1 y2 y3 y4, cj (iq.l0 k y0 y1 y2 y3 y4) (iq.l0 (k + 1) y0 y1 y2 y3 y4))
 | 0=>fun _ _ _ _ _ r h=>by simp [iq.l0] at h
 | k+1=>by
  have pK:=iq.wY k
  ·intro y0 y1 y2 y3 y4
   unfold iq.l0
   repeat' first
    | (with_reducible first|exact pK _ _ _ _ _|exact cj.refl _|exact cj.none _|refine cj.ite ?_ ?_|refine cj.bind ?_ (fun _=>?_))
theorem iq.mono:∀ a0 a1 k,cj (iq.f k a0 a1) (iq.f (k+1) a0 a1):=by
 intro a0 a1 k
 have pK:=iq.wY k
 unfold iq.f
 repeat' first
  | (with_reducible first|exact pK _ _ _ _ _|exact cj.refl _|exact cj.none _|refine cj.ite ?_ ?_|refine cj.bind ?_ (fun _=>?_))
theorem gb.wY : ∀ k, (∀ y0 y1, cj (gb.j0 k y0 y1) (gb.j0 (k + 1) y0 y1)) ∧ (∀ y0 y1 y2, cj (gb.l0 k y0 y1 y2) (gb.l0 (k + 1) y0 y1 y2))
 | 0=>⟨fun _ _ r h=>by simp [gb.j0] at h,fun _ _ _ r h=>by simp [gb.l0] at h⟩
 | k+1=>by
  obtain ⟨pK,ih1⟩:=gb.wY k
  refine ⟨?_, ?_⟩ <;> intros <;> (first | unfold gb.j0 | unfold gb.l0) <;> repeat' first
   | (with_reducible first|exact pK _ _|exact ih1 _ _ _|exact cj.refl _|exact cj.none _|refine cj.ite ?_ ?_|refine cj.bind ?_ (fun _=>?_))
   | exact pK _ _|exact ih1 _ _ _|exact cj.none _|refine cj.ite ?_ ?_|refine cj.bind ?_ (fun _=>?_)
theorem gb.mono:∀ a0 k,cj (gb.f k a0) (gb.f (k+1) a0):=by
 intro a0 k
 obtain ⟨pK,ih1⟩:=gb.wY k
 unfold gb.f
 repeat' first
  | (with_reducible first|exact pK _ _|exact ih1 _ _ _|exact cj.refl _|exact cj.none _|refine cj.ite ?_ ?_|refine cj.bind ?_ (fun _=>?_))
theorem eX.wY : ∀ k, (∀ y0 y1 y2, cj (eX.j0 k y0 y1 y2) (eX.j0 (k + 1) y0 y1 y2)) ∧ (∀ y0 y1 y2 y3, cj (eX.l0 k y0 y1 y2 y3) (eX.l0 (k + 1) y0 y1 y2 y3))
 | 0=>⟨fun _ _ _ r h=>by simp [eX.j0] at h,fun _ _ _ _ r h=>by simp [eX.l0] at h⟩
 | k+1=>by
  obtain ⟨pK,ih1⟩:=eX.wY k
  refine ⟨?_, ?_⟩ <;> intros <;> (first | unfold eX.j0 | unfold eX.l0) <;> repeat' first
   | (with_reducible first|exact pK _ _ _|exact ih1 _ _ _ _|exact dR.mono _ _ _|exact gb.mono _ _|exact iq.mono _ _ _|exact cj.refl _|exact cj.none _|refine cj.ite ?_ ?_|refine cj.bind ?_ (fun _=>?_))
   | exact pK _ _ _|exact ih1 _ _ _ _|exact dR.mono _ _ _|exact gb.mono _ _|exact iq.mono _ _ _|exact cj.none _|refine cj.ite ?_ ?_|refine cj.bind ?_ (fun _=>?_)
theorem eX.mono:∀ a0 k,cj (eX.f k a0) (eX.f (k+1) a0):=by
 intro a0 k
 obtain ⟨pK,ih1⟩:=eX.wY k
 unfold eX.f
 repeat' first
  | (with_reducible first|exact pK _ _ _|exact ih1 _ _ _ _|exact dR.mono _ _ _|exact gb.mono _ _|exact iq.mono _ _ _|exact cj.refl _|exact cj.none _|refine cj.ite ?_ ?_|refine cj.bind ?_ (fun _=>?_))
theorem sN.mono:∀ a0 k,cj (sN.f k a0) (sN.f (k+1) a0):=by
 intro a0 k
 unfold sN.f
 repeat' first
  | (with_reducible first|exact eX.mono _ _|exact cj.refl _|exact cj.none _|refine cj.ite ?_ ?_|refine cj.bind ?_ (fun _=>?_))
theorem fE {n:Int} (h0:-9223372036854775808≤n) (h1:n≤9223372036854775807):wrap64 n=n:=IntWalk.wrap64_in n ⟨h0,h1⟩
theorem pS (l:List Int) (i:Nat) (h:i < l.length):rd l (i:Int)=l[i]:=by
 simp [rd,List.getD_eq_getElem?_getD,h]
theorem ym (l:List (List Int)) (i:Nat) (h:i < l.length):ai l (i:Int)=l[i]:=by
 simp [ai,List.getD_eq_getElem?_getD,h]
/-! ### what a graph is -/
def Gp (a n:Int):Bool:=decide (0≤n) && decide (n≤wrap64 (a - 1))
def qI (a:Int) (e:List Int):Bool:=decide (e.length=2) && (Gp a (rd e 0) && Gp a (rd e 1))
def atJ (a:Int) (l:List (List Int)):Bool:=decide (1≤a) && (decide (a≤8) && (decide (l.length≤10) && l.all (qI a)))
theorem IC (a b c:Int):fU.f a b c=some (decide (b≤a) && decide (a≤c)):=by
 unfold fU.f
 by_cases h:b≤a<;>simp [h]
theorem CU (a b c:Int):eY.f a b c=some (decide (b≤a) && decide (a≤c)):=by
 unfold eY.f
 by_cases h:b≤a<;>simp [h]
theorem ahT (a:Int) (l:List (List Int)) (hl:l.length≤maxLen):∀ (d i:Nat),l.length - i=d→i≤l.length→Ev (fun k=>kQ.l0 k l l.length i a l) ((l.drop i).all (qI a) && (decide (1≤a) && (decide (a≤8) && decide (l.length≤10)))):=by
 unfold maxLen at hl
 intro d
 induction d with
 | zero =>
  intro i hd hi
  refine Ev.step (fun k=>by simp only [kQ.l0];rfl) ?_
  simp only [show ¬ ((i:Int) < (l.length:Int)) by omega,if_false,IC,Option.bind_some,List.drop_of_length_le (show l.length≤i by omega),List.all_nil,Bool.true_and]
  by_cases h1:1≤a
  ·by_cases h2 : a ≤ 8
   ·simp only [h1, h2, decide_true, Bool.true_and, if_true]
    exact Ev.congr (fun k=>by congr 1;simp;omega) (Ev.now _)
   ·simp only [h1, h2, decide_true, decide_false, Bool.true_and, Bool.false_and, Bool.false_eq_true, if_false]
    exact Ev.now _
  ·simp only [h1, decide_false, Bool.false_and, Bool.false_eq_true, if_false]
   exact Ev.now _
 | succ d ih =>
  intro i hd hi
  have hil:i < l.length:=by omega
  refine Ev.step (fun k=>by simp only [kQ.l0];rfl) ?_
  have Pk:(l.drop i).all (qI a)=(qI a l[i] && (l.drop (i+1)).all (qI a)):=by rw [List.drop_eq_getElem_cons hil,List.all_cons]
  rw [Pk]
  simp only [show ((i:Int) < (l.length:Int)) by omega,cv i,if_true,wI ((i:Int)+1) (by omega),ym l i hil,IC,Option.bind_some]
  unfold qI Gp
  by_cases h2:l[i].length=2
  ·simp only [h2, decide_true, Bool.true_and, show ((2 : Nat) : Int) = 2 from rfl, if_true, show (0 : Int) < 2 by omega, show (1 : Int) < 2 by omega]
   by_cases h3:(decide (0≤rd l[i] 0) && decide (rd l[i] 0≤wrap64 (a - 1)))=true
   ·by_cases h4 : (decide (0 ≤ rd l[i] 1) && decide (rd l[i] 1 ≤ wrap64 (a - 1))) = true
    ·simp only [h3, h4, if_true, Bool.true_and]
     exact ih (i+1) (by omega) (by omega)
    ·simp only [Bool.not_eq_true] at h4
     simp only [h3,h4,if_true,Bool.false_and,Bool.and_false,Bool.false_eq_true,if_false]
     exact Ev.now _
   ·simp only [Bool.not_eq_true] at h3
    simp only [h3,Bool.false_and,Bool.false_eq_true,if_false]
    exact Ev.now _
  ·simp only [show ¬ ((l[i].length : Int) = 2) by omega, h2, decide_false, Bool.false_and, if_false]
   exact Ev.now _
theorem HQ (a:Int) (l:List (List Int)) (hl:l.length≤maxLen):Ev (fun k=>kQ.f k a l) (atJ a l):=by
 unfold kQ.f
 have h:=ahT a l hl l.length 0 (by omega) (by omega)
 have e:((l.drop 0).all (qI a) && (decide (1≤a) && (decide (a≤8) && decide (l.length≤10))))=atJ a l:=by
  unfold atJ
  rw [List.drop_zero]
  cases l.all (qI a)<;>simp
 rw [e] at h
 exact h
theorem ako (a:Int) (l:List (List Int)) (hl:l.length≤maxLen):∀ (d i:Nat),l.length - i=d→i≤l.length→Ev (fun k=>dR.l0 k i a l) ((l.drop i).all (qI a)):=by
 unfold maxLen at hl
 intro d
 induction d with
 | zero =>
  intro i hd hi
  refine Ev.step (fun k=>by simp only [dR.l0];rfl) ?_
  simp only [show ¬ ((i:Int) < (l.length:Int)) by omega,if_false,List.drop_of_length_le (show l.length≤i by omega),List.all_nil]
  exact Ev.now _
 | succ d ih =>
  intro i hd hi
  have hil:i < l.length:=by omega
  refine Ev.step (fun k=>by simp only [dR.l0];rfl) ?_
  have Pk:(l.drop i).all (qI a)=(qI a l[i] && (l.drop (i+1)).all (qI a)):=by rw [List.drop_eq_getElem_cons hil,List.all_cons]
  rw [Pk]
  simp only [show ((i:Int) < (l.length:Int)) by omega,cv i,if_true,wI ((i:Int)+1) (by omega),ym l i hil,CU,Option.bind_some]
  unfold qI Gp
  by_cases h2:l[i].length=2
  ·simp only [h2, decide_true, Bool.true_and, show ((2 : Nat) : Int) = 2 from rfl, if_true, show (0 : Int) < 2 by omega, show (1 : Int) < 2 by omega]
   by_cases h3:(decide (0≤rd l[i] 0) && decide (rd l[i] 0≤wrap64 (a - 1)))=true
   ·by_cases h4 : (decide (0 ≤ rd l[i] 1) && decide (rd l[i] 1 ≤ wrap64 (a - 1))) = true
    ·simp only [h3, h4, if_true, Bool.true_and]
     exact ih (i+1) (by omega) (by omega)
    ·simp only [Bool.not_eq_true] at h4
     simp only [h3,h4,if_true,Bool.false_and,Bool.and_false,Bool.false_eq_true,if_false]
     exact Ev.now _
   ·simp only [Bool.not_eq_true] at h3
    simp only [h3,Bool.false_and,Bool.false_eq_true,if_false]
    exact Ev.now _
  ·simp only [show ¬ ((l[i].length : Int) = 2) by omega, h2, decide_false, Bool.false_and, if_false]
   exact Ev.now _
theorem Re (a:Int) (l:List (List Int)) (hl:l.length≤maxLen):Ev (fun k=>dR.f k a l) (atJ a l):=by
 unfold dR.f atJ
 simp only [CU,Option.bind_some]
 have hj:∀ b,Ev (fun k=>dR.j0 k b a l) (!b && l.all (qI a)):=by
  intro b
  refine Ev.step (fun k=>by simp only [dR.j0];rfl) ?_
  cases b with
  | true=>simp only [if_true,Bool.not_true,Bool.false_and];exact Ev.now _
  | false =>
   simp only [Bool.false_eq_true,if_false,Bool.not_false,Bool.true_and]
   exact ako a l hl l.length 0 (by omega) (by omega)
 by_cases h1:1≤a
 ·by_cases h2 : a ≤ 8
  ·simp only [h1, h2, decide_true, Bool.true_and, if_true]
   have h:=hj (decide ((l.length:Int) > 10))
   have e:(!decide ((l.length:Int) > 10))=decide (l.length≤10):=by
    by_cases h:l.length≤10
    ·simp [h];omega
    ·simp [h];omega
   rw [e] at h
   exact h
  ·simp only [h1, h2, decide_true, decide_false, Bool.true_and, Bool.false_and, Bool.false_eq_true, if_false]
   exact hj true
 ·simp only [h1, decide_false, Bool.false_and, Bool.false_eq_true, if_false]
  exact hj true
def au : Nat → (Nat → Int) → Int
 | 0,_=>0
 | n+1,f=>au n f+f n
theorem cN {n:Nat} {f g:Nat→Int} (h:∀ i,i < n→f i=g i):au n f=au n g:=by
 induction n with
 | zero=>rfl
 | succ n ih=>simp only [au];rw [ih (fun i hi=>h i (by omega)),h n (by omega)]
theorem mb {n:Nat} {f:Nat→Int} (h:∀ i,i < n→f i=0):au n f=0:=by
 induction n with
 | zero=>rfl
 | succ n ih=>simp only [au];rw [ih (fun i hi=>h i (by omega)),h n (by omega)];rfl
theorem qP (n:Nat) (f g:Nat→Int):au n (fun i=>f i+g i)=au n f+au n g:=by
 induction n with
 | zero=>rfl
 | succ n ih=>simp only [au];rw [ih];omega
theorem atE (n:Nat) (x:Int) (f:Nat→Int):au n (fun i=>x * f i)=x * au n f:=by
 induction n with
 | zero=>simp [au]
 | succ n ih=>simp only [au];rw [ih,Int.mul_add]
theorem avg (n:Nat) (f:Nat→Int):au n (fun i=>- f i)=- au n f:=by
 induction n with
 | zero=>rfl
 | succ n ih=>simp only [au];rw [ih];omega
theorem Qb (n:Nat) (f g:Nat→Int):au n (fun i=>f i - g i)=au n f - au n g:=by
 induction n with
 | zero=>rfl
 | succ n ih=>simp only [au];rw [ih];omega
theorem zh {n:Nat} {f:Nat→Int} (k:Nat) (hk:k < n) (h:∀ i,i < n→i ≠ k→f i=0):au n f=f k:=by
 induction n with
 | zero=>omega
 | succ n ih =>
  simp only [au]
  by_cases hkn:k=n
  ·subst hkn
   rw [mb (fun i hi=>h i (by omega) (by omega))];omega
  ·rw [ih (by omega) (fun i hi hne=>h i (by omega) hne),h n (by omega) (by omega)];omega
theorem ai5 {n:Nat} {f:Nat→Int} (k l:Nat) (hk:k < n) (hl:l < n) (gZ:k ≠ l) (h:∀ i,i < n→i ≠ k→i ≠ l→f i=0):au n f=f k+f l:=by
 have e:au n f=au n (fun i=>(if i=k then f k else 0)+(if i=l then f l else 0)):=by
  refine cN (fun i hi=>?_)
  by_cases h1:i=k
  ·subst h1;simp [gZ]
  ·by_cases h2 : i = l
   ·subst h2;simp [h1]
   ·simp [h1,h2,h i hi h1 h2]
 rw [e,qP,zh k hk (fun i _ hne=>by simp [hne]),zh l hl (fun i _ hne=>by simp [hne])]
 simp
theorem zi (n:Nat) (f:Nat→Int):au (n+1) f=f 0+au n (fun i=>f (i+1)):=by
 induction n with
 | zero=>simp [au]
 | succ n ih =>
  rw [show au (n+1+1) f=au (n+1) f+f (n+1) from rfl,ih]
  simp only [au];omega
theorem yf (n m:Nat) (f:Nat→Nat→Int):au n (fun i=>au m (fun j=>f i j))=au m (fun j=>au n (fun i=>f i j)):=by
 induction n with
 | zero=>simp only [au];rw [mb (fun _ _=>rfl)]
 | succ n ih=>simp only [au];rw [ih,qP]
theorem ai4 (n m:Nat) (f:Nat→Int):au (n+m) f=au n f+au m (fun i=>f (n+i)):=by
 induction m with
 | zero=>simp [au]
 | succ m ih=>rw [← Nat.add_assoc];simp only [au];rw [ih];omega
theorem Qa {n m:Nat} {f:Nat→Int} (h:n≤m) (hz:∀ i,n≤i→i < m→f i=0):au m f=au n f:=by
 obtain ⟨d,rfl⟩:=Nat.exists_eq_add_of_le h
 rw [ai4,mb (n:=d) (fun i hi=>hz _ (by omega) (by omega))];omega
theorem ai1 (n : Nat) (f : Nat → Nat → Int) :
  au (n+1) (fun i=>au n (fun j=>f i j))=au (n+1) (fun b=>au b (fun a=>f b a+f a (b-1))):=by
 induction n with
 | zero=>simp [au]
 | succ n ih =>
  rw [show au (n+1+1) (fun b=>au b (fun a=>f b a+f a (b-1)))=au (n+1) (fun b=>au b (fun a=>f b a+f a (b-1)))+au (n+1) (fun a=>f (n+1) a+f a n) from rfl]
  rw [← ih,qP]
  rw [show au (n+1+1) (fun i=>au (n+1) (fun j=>f i j))=au (n+1) (fun i=>au (n+1) (fun j=>f i j))+au (n+1) (fun j=>f (n+1) j) from rfl]
  rw [show (fun i=>au (n+1) (fun j=>f i j))=(fun i=>au n (fun j=>f i j)+f i n) from rfl,qP]
  have:au (n+1) (f (n+1))=au (n+1) (fun j=>f (n+1) j):=rfl
  omega
def aZ (i a:Nat):Nat:=if a < i then a else a+1
def ja (i:Nat):Int:=if i % 2=0 then 1 else -1
theorem Yz (i:Nat):ja (i+1)=- ja i:=by
 unfold ja;by_cases h:i % 2=0
 ·rw [if_pos h,if_neg (by omega)]
 ·rw [if_neg h,if_pos (by omega)];rfl
theorem H7 {i a n:Nat} (hi:i < n+1) (ha:a < n):aZ i a < n+1:=by unfold aZ;split<;>omega
def aW : Nat → (Nat → Nat → Int) → Int
 | 0,_=>1
 | n+1,M=>au (n+1) (fun i=>ja i * M i 0 * aW n (fun a b=>M (aZ i a) (b+1)))
theorem pN (n:Nat) (M:Nat→Nat→Int):aW (n+1) M=au (n+1) (fun i=>ja i * M i 0 * aW n (fun a b=>M (aZ i a) (b+1))):=rfl
theorem at' {n:Nat}:∀ {M N:Nat→Nat→Int},(∀ a b,a < n→b < n→M a b=N a b)→aW n M=aW n N:=by
 induction n with
 | zero=>intros;rfl
 | succ n ih =>
  intro M N h
  rw [pN,pN]
  refine cN (fun i hi=>?_)
  rw [h i 0 hi (by omega),ih (fun a b ha hb=>h _ _ (H7 hi ha) (by omega))]
def as6 (M:Nat→Nat→Int) (i:Nat) (r:Nat→Int):Nat→Nat→Int:=fun a b=>if a=i then r b else M a b
def cH (M:Nat→Nat→Int) (j:Nat) (c:Nat→Int):Nat→Nat→Int:=fun a b=>if b=j then c a else M a b
def CX (i a:Nat):Nat:=if a < i then a else a - 1
theorem YA {i a k:Nat} (h:k ≠ i):aZ i a=k↔a=CX i k:=by unfold aZ CX;split<;>split<;>omega
theorem ai7 {i k n:Nat} (hi:i < n+1) (hk:k < n+1) (h:k ≠ i):CX i k < n:=by unfold CX;split<;>omega
theorem P_ (i a:Nat):aZ i a ≠ i:=by unfold aZ;split<;>omega
theorem KV {M:Nat→Nat→Int} {i k:Nat} {r:Nat→Int} (h:k ≠ i):(fun a b=>as6 M k r (aZ i a) (b+1))=as6 (fun a b=>M (aZ i a) (b+1)) (CX i k) (fun b=>r (b+1)):=by
 funext a b
 unfold as6
 by_cases e:aZ i a=k
 ·rw [if_pos e,if_pos ((YA h).mp e)]
 ·rw [if_neg e,if_neg (fun h'=>e ((YA h).mpr h'))]
theorem KW {M:Nat→Nat→Int} {k:Nat} {r:Nat→Int}:(fun a b=>as6 M k r (aZ k a) (b+1))=(fun a b=>M (aZ k a) (b+1)):=by
 funext a b
 unfold as6
 rw [if_neg (P_ k a)]
theorem KT {n:Nat}:∀ (M:Nat→Nat→Int) (k:Nat),k < n→∀ (x y:Int) (r s:Nat→Int),aW n (as6 M k (fun b=>x * r b+y * s b))=x * aW n (as6 M k r)+y * aW n (as6 M k s):=by
 induction n with
 | zero=>intro M k hk;omega
 | succ n ih =>
  intro M k hk x y r s
  rw [pN,pN,pN,← atE,← atE,← qP]
  refine cN (fun i hi=>?_)
  by_cases e:k=i
  ·subst e
   rw [KW,KW,KW]
   simp only [as6,if_true]
   generalize aW n _=D
   grind
  ·rw [KV e, KV e, KV e, ih _ _ (ai7 hi hk e)]
   simp only [as6,if_neg (Ne.symm e)]
   generalize aW n _=D
   generalize aW n _=E
   grind
theorem P3 {n:Nat} (M:Nat→Nat→Int) (k:Nat) (hk:k < n) (x:Int) (r:Nat→Int):aW n (as6 M k (fun b=>x * r b))=x * aW n (as6 M k r):=by
 have:=KT M k hk x 0 r r
 simpa using this
theorem EV {n:Nat} (M:Nat→Nat→Int) (k:Nat) (hk:k < n) (r s:Nat→Int):aW n (as6 M k (fun b=>r b+s b))=aW n (as6 M k r)+aW n (as6 M k s):=by
 have:=KT M k hk 1 1 r s
 simpa using this
theorem EY (M:Nat→Nat→Int) (k:Nat):as6 M k (M k)=M:=by
 funext a b;unfold as6;split
 ·case _ h=>rw [h]
 ·rfl
theorem uR (M:Nat→Nat→Int) {k l:Nat} (h:k ≠ l) (r s:Nat→Int):as6 (as6 M k r) l s=as6 (as6 M l s) k r:=by
 funext a b;unfold as6;by_cases e:a=l
 ·subst e;simp [Ne.symm h]
 ·simp [e]
theorem Yw {n:Nat} (M:Nat→Nat→Int) (k:Nat) (hk:k < n) (h:∀ b,b < n→M k b=0):aW n M=0:=by
 have e:aW n M=aW n (as6 M k (fun b=>0 * M k b)):=by
  refine at' (fun a b _ hb=>?_)
  unfold as6;split
  ·case _ h'=>rw [h',h b hb];simp
  ·rfl
 rw [e,P3 _ _ hk];simp
theorem KO {n:Nat}:∀ (M:Nat→Nat→Int) (k:Nat),k+1 < n→(∀ b,b < n→M k b=M (k+1) b)→aW n M=0:=by
 induction n with
 | zero=>intro M k hk;omega
 | succ n ih =>
  intro M k hk h
  rw [pN,ai5 k (k+1) (by omega) hk (by omega)]
  ·have e:aW n (fun a b=>M (aZ k a) (b+1))=aW n (fun a b=>M (aZ (k+1) a) (b+1)):=by
    refine at' (fun a b ha hb=>?_)
    by_cases h1:a=k
    ·subst h1
     have e1:aZ a a=a+1:=by unfold aZ;split<;>omega
     have e2:aZ (a+1) a=a:=by unfold aZ;split<;>omega
     rw [e1,e2,h _ (by omega)]
    ·have : aZ k a = aZ (k+1) a := by unfold aZ; split <;> split <;> omega
     rw [this]
   rw [e,Yz,h 0 (by omega)]
   generalize aW n _=D
   grind
  ·intro i hi h1 h2
   have:aW n (fun a b=>M (aZ i a) (b+1))=0:=by
    by_cases hik:i < k
    ·refine ih _ (k-1) (by omega) (fun b hb => ?_)
     have e1:aZ i (k-1)=k:=by unfold aZ;split<;>omega
     have e2:aZ i (k-1+1)=k+1:=by unfold aZ;split<;>omega
     simp only [e1,e2];exact h _ (by omega)
    ·refine ih _ k (by omega) (fun b hb => ?_)
     have e1:aZ i k=k:=by unfold aZ;split<;>omega
     have e2:aZ i (k+1)=k+1:=by unfold aZ;split<;>omega
     simp only [e1,e2];exact h _ (by omega)
   rw [this];simp
theorem aiG {n:Nat} (M:Nat→Nat→Int) (k:Nat) (hk:k+1 < n) (r s:Nat→Int):aW n (as6 (as6 M k r) (k+1) s)=- aW n (as6 (as6 M k s) (k+1) r):=by
 have h0:aW n (as6 (as6 M k (fun b=>r b+s b)) (k+1) (fun b=>r b+s b))=0 :=
  KO _ k hk (fun b _=>by simp [as6])
 have hr:aW n (as6 (as6 M k r) (k+1) r)=0:=KO _ k hk (fun b _=>by simp [as6])
 have hs:aW n (as6 (as6 M k s) (k+1) s)=0:=KO _ k hk (fun b _=>by simp [as6])
 rw [EV _ _ hk,uR _ (show k ≠ k+1 by omega),uR _ (show k ≠ k+1 by omega),EV _ _ (by omega),EV _ _ (by omega)] at h0
 rw [uR _ (show k+1 ≠ k by omega),uR _ (show k+1 ≠ k by omega),uR _ (show k+1 ≠ k by omega),uR _ (show k+1 ≠ k by omega),hr,hs] at h0
 omega
theorem Yr {n:Nat}:∀ (d:Nat) (M:Nat→Nat→Int) (k:Nat),k+1+d < n→(∀ b,b < n→M k b=M (k+1+d) b)→aW n M=0:=by
 intro d
 induction d with
 | zero=>intro M k hk h;exact KO M k hk h
 | succ d ih =>
  intro M k hk h
  have e:M=as6 (as6 M (k+1+d) (M (k+1+d))) (k+1+d+1) (M (k+1+d+1)):=by
   rw [EY,EY]
  rw [e,aiG _ _ (by omega)]
  rw [ih _ k (by omega) (fun b hb=>?_)]
  ·rfl
  ·simp only [as6]
   rw [if_neg (by omega),if_neg (by omega),if_neg (by omega),if_pos trivial]
   exact h b hb
theorem HY {n:Nat} (M:Nat→Nat→Int) (k l:Nat) (hk:k < n) (hl:l < n) (gZ:k ≠ l) (h:∀ b,b < n→M k b=M l b):aW n M=0:=by
 rcases Nat.lt_or_gt_of_ne gZ with h1|h1
 ·obtain ⟨d, rfl⟩ := Nat.exists_eq_add_of_lt h1
  exact Yr d M k (by omega) (fun b hb=>by rw [h b hb];congr 1;omega)
 ·obtain ⟨d, rfl⟩ := Nat.exists_eq_add_of_lt h1
  exact Yr d M l (by omega) (fun b hb=>by rw [← h b hb];congr 1;omega)
theorem P2 {n:Nat} (M:Nat→Nat→Int) (k l:Nat) (hk:k < n) (hl:l < n) (gZ:k ≠ l) (x:Int):aW n (as6 M k (fun b=>M k b+x * M l b))=aW n M:=by
 have h1:=KT M k hk 1 x (M k) (M l)
 have h2:aW n (as6 M k (M l))=0:=HY _ k l hk hl gZ (fun b _=>by simp [as6,Ne.symm gZ])
 rw [h2,EY] at h1
 simpa using h1
theorem P5 {n:Nat} (M:Nat→Nat→Int) (k l:Nat) (hk:k < n) (hl:l < n) (gZ:k ≠ l):aW n (as6 (as6 M k (M l)) l (M k))=- aW n M:=by
 have h0:aW n (as6 (as6 M k (fun b=>M k b+M l b)) l (fun b=>M k b+M l b))=0 :=
  HY _ k l hk hl gZ (fun b _=>by simp [as6,gZ])
 have hr:aW n (as6 (as6 M k (M k)) l (M k))=0:=HY _ k l hk hl gZ (fun b _=>by simp [as6,gZ])
 have hs:aW n (as6 (as6 M k (M l)) l (M l))=0:=HY _ k l hk hl gZ (fun b _=>by simp [as6,gZ])
 rw [EV _ _ hl,uR _ gZ,uR _ gZ,EV _ _ hk,EV _ _ hk] at h0
 rw [uR _ (Ne.symm gZ),uR _ (Ne.symm gZ),uR _ (Ne.symm gZ),uR _ (Ne.symm gZ),hr,hs,EY,EY] at h0
 omega
theorem P6 {M:Nat→Nat→Int} {i k:Nat} {c:Nat→Int}:(fun a b=>cH M (k+1) c (aZ i a) (b+1))=cH (fun a b=>M (aZ i a) (b+1)) k (fun a=>c (aZ i a)):=by
 funext a b
 unfold cH
 by_cases e:b=k
 ·subst e;simp
 ·simp [e]
theorem P7 {M:Nat→Nat→Int} {i:Nat} {c:Nat→Int}:(fun a b=>cH M 0 c (aZ i a) (b+1))=(fun a b=>M (aZ i a) (b+1)):=by
 funext a b;unfold cH;simp
theorem KQ {n:Nat}:∀ (M:Nat→Nat→Int) (k:Nat),k < n→∀ (x y:Int) (r s:Nat→Int),aW n (cH M k (fun b=>x * r b+y * s b))=x * aW n (cH M k r)+y * aW n (cH M k s):=by
 induction n with
 | zero=>intro M k hk;omega
 | succ n ih =>
  intro M k hk x y r s
  rw [pN,pN,pN,← atE,← atE,← qP]
  refine cN (fun i hi=>?_)
  cases k with
  | zero =>
   rw [P7,P7,P7]
   simp only [cH,if_true]
   generalize aW n _=D
   grind
  | succ k =>
   rw [P6,P6,P6,ih _ _ (by omega)]
   simp only [cH,if_neg (show ¬ 0=k+1 by omega)]
   generalize aW n _=D
   generalize aW n _=E
   grind
theorem aiJ {n:Nat} (M:Nat→Nat→Int) (k:Nat) (hk:k < n) (x:Int) (r:Nat→Int):aW n (cH M k (fun b=>x * r b))=x * aW n (cH M k r):=by
 have:=KQ M k hk x 0 r r
 simpa using this
theorem EU {n:Nat} (M:Nat→Nat→Int) (k:Nat) (hk:k < n) (r s:Nat→Int):aW n (cH M k (fun b=>r b+s b))=aW n (cH M k r)+aW n (cH M k s):=by
 have:=KQ M k hk 1 1 r s
 simpa using this
theorem H6 (M:Nat→Nat→Int) (k:Nat):cH M k (fun a=>M a k)=M:=by
 funext a b;unfold cH;split
 ·case _ h=>rw [h]
 ·rfl
theorem uQ (M:Nat→Nat→Int) {k l:Nat} (h:k ≠ l) (r s:Nat→Int):cH (cH M k r) l s=cH (cH M l s) k r:=by
 funext a b;unfold cH;by_cases e:b=l
 ·subst e;simp [Ne.symm h]
 ·simp [e]
theorem Yv {n:Nat} (M:Nat→Nat→Int) (k:Nat) (hk:k < n) (h:∀ a,a < n→M a k=0):aW n M=0:=by
 have e:aW n M=aW n (cH M k (fun a=>0 * M a k)):=by
  refine at' (fun a b ha _=>?_)
  unfold cH;split
  ·case _ h'=>rw [h',h a ha];simp
  ·rfl
 rw [e,aiJ _ _ hk];simp
theorem KP {n:Nat}:∀ (M:Nat→Nat→Int) (k:Nat),k+1 < n→(∀ a,a < n→M a k=M a (k+1))→aW n M=0:=by
 induction n with
 | zero=>intro M k hk;omega
 | succ n ih =>
  intro M k hk h
  cases k with
  | succ k =>
   rw [pN]
   refine mb (fun i hi=>?_)
   rw [ih _ k (by omega) (fun a ha=>h _ (H7 hi ha))];simp
  | zero =>
   obtain ⟨m,rfl⟩:∃ m,n=m+1:=⟨n - 1,by omega⟩
   rw [pN]
   have e:au (m+1+1) (fun i=>ja i * M i 0 * aW (m+1) (fun a b=>M (aZ i a) (b+1)))=au (m+1+1) (fun i=>au (m+1) (fun j=>ja i * ja j * M i 0 * M (aZ i j) 0 * aW m (fun a b=>M (aZ i (aZ j a)) (b+1+1)))):=by
    refine cN (fun i hi=>?_)
    rw [pN,← atE]
    refine cN (fun j hj=>?_)
    rw [h (aZ i j) (H7 hi hj)]
    generalize aW m _=D
    grind
   rw [e,ai1]
   refine mb (fun b hb=>mb (fun a ha=>?_))
   have e1:aZ b a=a:=by unfold aZ;split<;>omega
   have e2:aZ a (b-1)=b:=by unfold aZ;split<;>omega
   have e3:∀ c,aZ b (aZ a c)=aZ a (aZ (b-1) c):=by intro c;unfold aZ;(repeat' split)<;>omega
   have e4:ja b=- ja (b-1):=by rw [← Yz];congr 1;omega
   simp only [e1,e2,e3,e4]
   generalize aW m _=D
   grind
theorem aiI {n:Nat} (M:Nat→Nat→Int) (k:Nat) (hk:k+1 < n) (r s:Nat→Int):aW n (cH (cH M k r) (k+1) s)=- aW n (cH (cH M k s) (k+1) r):=by
 have h0:aW n (cH (cH M k (fun b=>r b+s b)) (k+1) (fun b=>r b+s b))=0 :=
  KP _ k hk (fun b _=>by simp [cH])
 have hr:aW n (cH (cH M k r) (k+1) r)=0:=KP _ k hk (fun b _=>by simp [cH])
 have hs:aW n (cH (cH M k s) (k+1) s)=0:=KP _ k hk (fun b _=>by simp [cH])
 rw [EU _ _ hk,uQ _ (show k ≠ k+1 by omega),uQ _ (show k ≠ k+1 by omega),EU _ _ (by omega),EU _ _ (by omega)] at h0
 rw [uQ _ (show k+1 ≠ k by omega),uQ _ (show k+1 ≠ k by omega),uQ _ (show k+1 ≠ k by omega),uQ _ (show k+1 ≠ k by omega),hr,hs] at h0
 omega
theorem Yu {n:Nat}:∀ (d:Nat) (M:Nat→Nat→Int) (k:Nat),k+1+d < n→(∀ b,b < n→M b k=M b (k+1+d))→aW n M=0:=by
 intro d
 induction d with
 | zero=>intro M k hk h;exact KP M k hk h
 | succ d ih =>
  intro M k hk h
  have e:M=cH (cH M (k+1+d) (fun a=>M a (k+1+d))) (k+1+d+1) (fun a=>M a (k+1+d+1)):=by
   rw [H6,H6]
  rw [e,aiI _ _ (by omega)]
  rw [ih _ k (by omega) (fun b hb=>?_)]
  ·rfl
  ·simp only [cH]
   rw [if_neg (by omega),if_neg (by omega),if_neg (by omega),if_pos trivial]
   exact h b hb
theorem KR {n:Nat} (M:Nat→Nat→Int) (k l:Nat) (hk:k < n) (hl:l < n) (gZ:k ≠ l) (h:∀ b,b < n→M b k=M b l):aW n M=0:=by
 rcases Nat.lt_or_gt_of_ne gZ with h1|h1
 ·obtain ⟨d, rfl⟩ := Nat.exists_eq_add_of_lt h1
  exact Yu d M k (by omega) (fun b hb=>by rw [h b hb];congr 1;omega)
 ·obtain ⟨d, rfl⟩ := Nat.exists_eq_add_of_lt h1
  exact Yu d M l (by omega) (fun b hb=>by rw [← h b hb];congr 1;omega)
theorem aiH {n:Nat} (M:Nat→Nat→Int) (k l:Nat) (hk:k < n) (hl:l < n) (gZ:k ≠ l) (x:Int):aW n (cH M k (fun a=>M a k+x * M a l))=aW n M:=by
 have h1:=KQ M k hk 1 x (fun a=>M a k) (fun a=>M a l)
 have h2:aW n (cH M k (fun a=>M a l))=0:=KR _ k l hk hl gZ (fun b _=>by simp [cH,Ne.symm gZ])
 rw [h2,H6] at h1
 simpa using h1
theorem aiL {n:Nat} (M:Nat→Nat→Int) (k l:Nat) (hk:k < n) (hl:l < n) (gZ:k ≠ l):aW n (cH (cH M k (fun a=>M a l)) l (fun a=>M a k))=- aW n M:=by
 have h0:aW n (cH (cH M k (fun b=>M b k+M b l)) l (fun b=>M b k+M b l))=0 :=
  KR _ k l hk hl gZ (fun b _=>by simp [cH,gZ])
 have hr:aW n (cH (cH M k (fun b=>M b k)) l (fun b=>M b k))=0:=KR _ k l hk hl gZ (fun b _=>by simp [cH,gZ])
 have hs:aW n (cH (cH M k (fun b=>M b l)) l (fun b=>M b l))=0:=KR _ k l hk hl gZ (fun b _=>by simp [cH,gZ])
 rw [EU _ _ hl,uQ _ gZ,uQ _ gZ,EU _ _ hk,EU _ _ hk] at h0
 rw [uQ _ (Ne.symm gZ),uQ _ (Ne.symm gZ),uQ _ (Ne.symm gZ),uQ _ (Ne.symm gZ),hr,hs,H6,H6] at h0
 omega
theorem KS {n:Nat}:∀ (M:Nat→Nat→Int),(∀ b,b < n→M n b=0)→aW (n+1) M=M n n * aW n M:=by
 induction n with
 | zero=>intro M _;simp [aW,au,ja]
 | succ n ih =>
  intro M h
  rw [pN (n+1)]
  rw [show au (n+1+1) (fun i=>ja i * M i 0 * aW (n+1) (fun a b=>M (aZ i a) (b+1)))=au (n+1) (fun i=>ja i * M i 0 * aW (n+1) (fun a b=>M (aZ i a) (b+1)))+ja (n+1) * M (n+1) 0 * aW (n+1) (fun a b=>M (aZ (n+1) a) (b+1)) from rfl]
  rw [h 0 (by omega)]
  simp only [Int.mul_zero,Int.zero_mul,Int.add_zero]
  rw [pN n M,← atE]
  refine cN (fun i hi=>?_)
  have e:aZ i n=n+1:=by unfold aZ;split<;>omega
  rw [ih _ (fun b hb=>by rw [e];exact h _ (by omega))]
  rw [e]
  generalize aW n _=D
  grind
theorem aiM {n:Nat}:∀ (M:Nat→Nat→Int),(∀ a,a < n→M a n=0)→aW (n+1) M=M n n * aW n M:=by
 induction n with
 | zero=>intro M _;simp [aW,au,ja]
 | succ n ih =>
  intro M h
  rw [pN (n+1)]
  rw [show au (n+1+1) (fun i=>ja i * M i 0 * aW (n+1) (fun a b=>M (aZ i a) (b+1)))=au (n+1) (fun i=>ja i * M i 0 * aW (n+1) (fun a b=>M (aZ i a) (b+1)))+ja (n+1) * M (n+1) 0 * aW (n+1) (fun a b=>M (aZ (n+1) a) (b+1)) from rfl]
  have z:aW (n+1) (fun a b=>M (aZ (n+1) a) (b+1))=0:=by
   refine Yv _ n (by omega) (fun a ha=>?_)
   have e:aZ (n+1) a=a:=by unfold aZ;split<;>omega
   rw [e];exact h _ (by omega)
  rw [z]
  simp only [Int.mul_zero,Int.add_zero]
  rw [pN n M,← atE]
  refine cN (fun i hi=>?_)
  have e:aZ i n=n+1:=by unfold aZ;split<;>omega
  rw [ih _ (fun a ha=>by exact h _ (H7 hi (by omega)))]
  rw [e]
  generalize aW n _=D
  grind
def as_ (j b:Nat):Int:=if b=j then 1 else 0
theorem uP (j:Nat):as_ j j=1:=by simp [as_]
theorem nh {j b:Nat} (h:b ≠ j):as_ j b=0:=by simp [as_,h]
theorem aiN (n:Nat):aW n (fun a b=>as_ a b)=1:=by
 induction n with
 | zero=>rfl
 | succ n ih=>rw [KS _ (fun b hb=>nh (by omega)),ih,uP];rfl
theorem KX {n:Nat} (x:Nat→Int) (b:Nat) (hb:b < n):au n (fun j=>x j * as_ j b)=x b:=by
 rw [zh b hb (fun i _ hne=>by rw [nh (Ne.symm hne)];simp),uP];simp
theorem CW {n:Nat} (x:Nat→Int) (b:Nat) (hb:b < n):au n (fun j=>x j * as_ b j)=x b:=by
 rw [zh b hb (fun i _ hne=>by rw [nh hne];simp),uP];simp
theorem P4 {n : Nat} (M : Nat → Nat → Int) (i : Nat) (hi : i < n) (m : Nat) (x : Nat → Int) (r : Nat → Nat → Int) :
  aW n (as6 M i (fun b=>au m (fun j=>x j * r j b)))=au m (fun j=>x j * aW n (as6 M i (r j))):=by
 induction m with
 | zero=>exact Yw _ i hi (fun b _=>by simp [as6,au])
 | succ m ih =>
  simp only [au]
  have:=KT M i hi 1 (x m) (fun b=>au m (fun j=>x j * r j b)) (r m)
  simp only [Int.one_mul] at this
  rw [this,ih]
theorem aiK {n : Nat} (M : Nat → Nat → Int) (i : Nat) (hi : i < n) (m : Nat) (x : Nat → Int) (r : Nat → Nat → Int) :
  aW n (cH M i (fun b=>au m (fun j=>x j * r j b)))=au m (fun j=>x j * aW n (cH M i (r j))):=by
 induction m with
 | zero=>exact Yv _ i hi (fun b _=>by simp [cH,au])
 | succ m ih =>
  simp only [au]
  have:=KQ M i hi 1 (x m) (fun b=>au m (fun j=>x j * r j b)) (r m)
  simp only [Int.one_mul] at this
  rw [this,ih]
def qN (n:Nat) (M:Nat→Nat→Int) (j i:Nat):Int:=aW n (as6 M i (as_ j))
theorem aiA {n:Nat} (M:Nat→Nat→Int) (k i:Nat) (hi:i < n) (hk:k < n):au n (fun j=>M k j * qN n M j i)=if k=i then aW n M else 0:=by
 unfold qN
 rw [← P4 M i hi n (M k) (fun j=>as_ j)]
 have e:aW n (as6 M i (fun b=>au n (fun j=>M k j * as_ j b)))=aW n (as6 M i (M k)):=by
  refine at' (fun a b _ hb=>?_)
  unfold as6;split
  ·exact KX (M k) b hb
  ·rfl
 rw [e]
 by_cases h:k=i
 ·subst h;rw [EY,if_pos rfl]
 ·rw [if_neg h]
  exact HY _ i k hi hk (Ne.symm h) (fun b _=>by simp [as6,h])
theorem Yt (r : Nat) (K : Nat → Nat → Int) :
  aW (r+1) K=K r r * aW r K - au r (fun j=>au r (fun i=>K r j * qN r K j i * K i r)):=by
 have hrow:aW (r+1) K=au (r+1) (fun j=>K r j * aW (r+1) (as6 K r (as_ j))):=by
  rw [← P4 K r (by omega) (r+1) (K r) (fun j=>as_ j)]
  refine at' (fun a b _ hb=>?_)
  unfold as6;split
  ·case _ h=>exact (by rw [h]:K a b=K r b).trans (KX (K r) b hb).symm
  ·rfl
 rw [hrow]
 rw [show au (r+1) (fun j=>K r j * aW (r+1) (as6 K r (as_ j)))=au r (fun j=>K r j * aW (r+1) (as6 K r (as_ j)))+K r r * aW (r+1) (as6 K r (as_ r)) from rfl]
 have ag':aW (r+1) (as6 K r (as_ r))=aW r K:=by
  rw [KS _ (fun b hb=>by simp [as6,as_];omega)]
  have:as6 K r (as_ r) r r=1:=by simp [as6,as_]
  rw [this,Int.one_mul]
  exact at' (fun a b ha _=>by unfold as6;rw [if_neg (by omega)])
 have hj:∀ j,j < r→aW (r+1) (as6 K r (as_ j))=- au r (fun i=>qN r K j i * K i r):=by
  intro j hj
  have agN:aW (r+1) (as6 K r (as_ j))=au r (fun i=>K i r * aW (r+1) (cH (as6 K r (as_ j)) r (as_ i))):=by
   rw [← aiK (as6 K r (as_ j)) r (by omega) r (fun i=>K i r) (fun i=>as_ i)]
   refine at' (fun a b ha _=>?_)
   unfold cH;split
   ·case _ h =>
    subst h
    by_cases h2:a=b
    ·subst h2
     refine Eq.trans ?_ (mb (f:=fun i=>K i a * as_ i a) (fun i hi=>by rw [nh (show a ≠ i by omega)];simp)).symm
     simp [as6,as_];omega
    ·refine Eq.trans ?_ (KX (fun i => K i b) a (by omega)).symm
     simp [as6,h2]
   ·rfl
  rw [agN,← avg]
  refine cN (fun i hi=>?_)
  have hs:=P5 (cH (as6 K r (as_ j)) r (as_ i)) i r (n:=r+1) (by omega) (by omega) (by omega)
  have hx:aW (r+1) (as6 (as6 (cH (as6 K r (as_ j)) r (as_ i)) i (cH (as6 K r (as_ j)) r (as_ i) r)) r (cH (as6 K r (as_ j)) r (as_ i) i))=qN r K j i:=by
   rw [aiM]
   ·unfold qN
    have:as6 (as6 (cH (as6 K r (as_ j)) r (as_ i)) i (cH (as6 K r (as_ j)) r (as_ i) r)) r (cH (as6 K r (as_ j)) r (as_ i) i) r r=1:=by
     simp [as6,cH,as_]
    rw [this,Int.one_mul]
    refine at' (fun a b ha hb=>?_)
    unfold as6 cH
    have h1:a ≠ r:=by omega
    have h2:b ≠ r:=by omega
    by_cases h3:a=i
    ·subst h3;simp [h1,h2]
    ·simp [h1,h2,h3]
   ·intro a ha
    have h1:a ≠ r:=by omega
    unfold as6 cH
    by_cases h3:a=i
    ·subst h3;simp [h1,as_];omega
    ·simp [h1,h3,as_]
  rw [hx] at hs
  have:aW (r+1) (cH (as6 K r (as_ j)) r (as_ i))=- qN r K j i:=by omega
  rw [this];grind
 rw [ag']
 have e2:au r (fun j=>K r j * aW (r+1) (as6 K r (as_ j)))=- au r (fun j=>au r (fun i=>K r j * qN r K j i * K i r)):=by
  rw [← avg]
  refine cN (fun j Hi=>?_)
  rw [hj j Hi,Int.mul_neg,← atE]
  congr 1
  exact cN (fun i _=>by grind)
 rw [e2];omega
theorem H8 {n:Nat} {f g:Nat→Int} {p:Int} (h:∀ i,i < n→p ∣ f i - g i):p ∣ au n f - au n g:=by
 rw [← Qb]
 induction n with
 | zero=>exact ⟨0,by simp [au]⟩
 | succ n ih=>simp only [au];exact Int.dvd_add (ih (fun i hi=>h i (by omega))) (h n (by omega))
theorem sC {a b c d p:Int} (h1:p ∣ a - b) (h2:p ∣ c - d):p ∣ a * c - b * d:=by
 obtain ⟨x,hx⟩:=h1
 obtain ⟨y,hy⟩:=h2
 exact ⟨x * c+b * y,by grind⟩
def atr (n:Nat) (c:Nat→Int) (u:Int):Int:=au (n+1) (fun k=>c k * u ^ k)
def atI (c : Nat → Int) : Nat → Int
 | 0=>0
 | k+1=>c k
theorem P8 (n:Nat) (c:Nat→Int) (u:Int):atr (n+1) c u=c 0+u * atr n (fun k=>c (k+1)) u:=by
 unfold atr
 rw [zi,← atE]
 congr 1
 ·simp
 ·exact cN (fun i _=>by rw [Int.pow_succ];grind)
theorem ave (n:Nat) (c:Nat→Int) (u:Int):atr (n+1) (atI c) u=u * atr n c u:=by
 rw [P8];show 0+u * atr n c u=_;omega
theorem avd {n m:Nat} (c:Nat→Int) (u:Int) (h:n≤m) (hz:∀ k,n < k→c k=0):atr m c u=atr n c u:=by
 unfold atr
 exact Qa (by omega) (fun i hi _=>by rw [hz i (by omega)];simp)
theorem HZ (n:Nat) (c d:Nat→Int) (u:Int):atr n (fun k=>c k+d k) u=atr n c u+atr n d u:=by
 unfold atr;rw [← qP];exact cN (fun i _=>by grind)
theorem P9 (n:Nat) (c d:Nat→Int) (u:Int):atr n (fun k=>c k - d k) u=atr n c u - atr n d u:=by
 unfold atr;rw [← Qb];exact cN (fun i _=>by grind)
theorem EX (n:Nat) (x:Int) (c:Nat→Int) (u:Int):atr n (fun k=>x * c k) u=x * atr n c u:=by
 unfold atr;rw [← atE];exact cN (fun i _=>by grind)
theorem CV (n m:Nat) (x:Nat→Int) (c:Nat→Nat→Int) (u:Int):atr n (fun k=>au m (fun i=>x i * c i k)) u=au m (fun i=>x i * atr n (c i) u):=by
 induction m with
 | zero=>simp only [au];unfold atr;exact mb (fun _ _=>by simp)
 | succ m ih=>simp only [au];rw [HZ,ih,EX]
theorem ai0 {n:Nat}:∀ {c:Nat→Int},(∀ u:Int,1≤u→atr n c u=0)→∀ k,k≤n→c k=0:=by
 induction n with
 | zero =>
  intro c h k hk
  obtain rfl:k=0:=by omega
  have:=h 1 (by omega);simpa [atr,au] using this
 | succ n ih =>
  intro c h k hk
  have h0:c 0=0:=by
   have h1:=h ((c 0).natAbs+1) (by omega)
   rw [P8] at h1
   have hd:((c 0).natAbs+1:Int) ∣ c 0:=⟨- atr n (fun k=>c (k+1)) ((c 0).natAbs+1),by rw [Int.mul_neg];omega⟩
   by_cases hc:c 0=0
   ·exact hc
   ·exfalso
    have:=Int.natAbs_dvd_natAbs.mpr hd
    have:=Nat.le_of_dvd (by omega) this
    omega
  cases k with
  | zero=>exact h0
  | succ k =>
   refine ih (c:=fun k=>c (k+1)) (fun u hu=>?_) k (by omega)
   have:=h u hu
   rw [P8,h0,Int.zero_add] at this
   rcases Int.mul_eq_zero.mp this with h'|h'
   ·omega
   ·exact h'
theorem EW {n:Nat} {c d:Nat→Int} (h:∀ u:Int,1≤u→atr n c u=atr n d u) (k:Nat) (hk:k≤n):c k=d k:=by
 have:=ai0 (c:=fun k=>c k - d k) (n:=n) (fun u hu=>by rw [P9,h u hu];omega) k hk
 omega
def dz : Nat → (Nat → Nat → Int) → (Nat → Nat → Int) → Nat → Int
 | 0,_,_=>fun k=>if k=0 then 1 else 0
 | n+1,P,Q=>fun k=>au (n+1) (fun i=>ja i * (P i 0 * dz n (fun a b=>P (aZ i a) (b+1)) (fun a b=>Q (aZ i a) (b+1)) k+Q i 0 * atI (dz n (fun a b=>P (aZ i a) (b+1)) (fun a b=>Q (aZ i a) (b+1))) k))
theorem ET (n:Nat) (P Q:Nat→Nat→Int) (k:Nat):dz (n+1) P Q k=au (n+1) (fun i=>ja i * (P i 0 * dz n (fun a b=>P (aZ i a) (b+1)) (fun a b=>Q (aZ i a) (b+1)) k+Q i 0 * atI (dz n (fun a b=>P (aZ i a) (b+1)) (fun a b=>Q (aZ i a) (b+1))) k)):=rfl
theorem oJ {n:Nat}:∀ (P Q:Nat→Nat→Int) (k:Nat),n < k→dz n P Q k=0:=by
 induction n with
 | zero=>intro P Q k hk;simp [dz];omega
 | succ n ih =>
  intro P Q k hk
  rw [ET]
  refine mb (fun i hi=>?_)
  rw [ih _ _ k (by omega)]
  obtain ⟨l,rfl⟩:∃ l,k=l+1:=⟨k - 1,by omega⟩
  show ja i * (P i 0 * 0+Q i 0 * dz n _ _ l)=0
  rw [ih _ _ l (by omega)];simp
theorem zg {n:Nat}:∀ (P Q:Nat→Nat→Int) (u:Int),aW n (fun a b=>P a b+u * Q a b)=atr n (dz n P Q) u:=by
 induction n with
 | zero=>intro P Q u;simp [aW,atr,au,dz]
 | succ n ih =>
  intro P Q u
  rw [pN]
  have e:atr (n+1) (dz (n+1) P Q) u=au (n+1) (fun i=>ja i * atr (n+1) (fun k=>P i 0 * dz n (fun a b=>P (aZ i a) (b+1)) (fun a b=>Q (aZ i a) (b+1)) k+Q i 0 * atI (dz n (fun a b=>P (aZ i a) (b+1)) (fun a b=>Q (aZ i a) (b+1))) k) u):=by
   rw [← CV];rfl
  rw [e]
  refine cN (fun i hi=>?_)
  rw [ih,HZ,EX,EX,ave,avd _ _ (Nat.le_succ n) (fun k hk=>oJ _ _ k hk)]
  grind
def gM : Nat → (Nat → Int) → Int
 | 0,_=>1
 | n+1,f=>gM n f * f n
theorem Yx {n:Nat} {f g:Nat→Int} (h:∀ i,i < n→f i=g i):gM n f=gM n g:=by
 induction n with
 | zero=>rfl
 | succ n ih=>simp only [gM];rw [ih (fun i hi=>h i (by omega)),h n (by omega)]
theorem aiZ {n:Nat} {f:Nat→Int} (h:∀ i,i < n→0≤f i):0≤gM n f:=by
 induction n with
 | zero=>simp [gM]
 | succ n ih=>simp only [gM];exact Int.mul_nonneg (ih (fun i hi=>h i (by omega))) (h n (by omega))
theorem Yy {n:Nat} {f g:Nat→Int} (h0:∀ i,i < n→0≤f i) (h:∀ i,i < n→f i≤g i):gM n f≤gM n g:=by
 induction n with
 | zero=>simp [gM]
 | succ n ih =>
  simp only [gM]
  exact Int.mul_le_mul (ih (fun i hi=>h0 i (by omega)) (fun i hi=>h i (by omega))) (h n (by omega)) (h0 n (by omega)) (aiZ (fun i hi=>Int.le_trans (h0 i (by omega)) (h i (by omega))))
theorem avf {n:Nat} {f g:Nat→Int} (h:∀ i,i < n→f i≤g i):au n f≤au n g:=by
 induction n with
 | zero=>simp [au]
 | succ n ih=>simp only [au];have:=ih (fun i hi=>h i (by omega));have:=h n (by omega);omega
theorem YB {n:Nat} {f:Nat→Int} (h:∀ i,i < n→0≤f i):0≤au n f:=by
 have:=avf (f:=fun _=>0) h
 rwa [mb (fun _ _=>rfl)] at this
theorem ai6 {n : Nat} (w R : Nat → Int) (hw : ∀ i, i < n → 0 ≤ w i) (hR : ∀ i, i < n → 0 ≤ R i) :
  au n (fun i=>w i * gM (n-1) (fun a=>R (aZ i a)))≤gM n (fun a=>w a+R a):=by
 induction n with
 | zero=>simp [au,gM]
 | succ n ih =>
  have ih:=ih (fun i hi=>hw i (by omega)) (fun i hi=>hR i (by omega))
  show au n (fun i=>w i * gM (n+1-1) (fun a=>R (aZ i a)))+w n * gM (n+1-1) (fun a=>R (aZ n a))≤gM n (fun a=>w a+R a) * (w n+R n)
  have e1:au n (fun i=>w i * gM (n+1-1) (fun a=>R (aZ i a)))=R n * au n (fun i=>w i * gM (n-1) (fun a=>R (aZ i a))):=by
   rw [← atE]
   refine cN (fun i hi=>?_)
   obtain ⟨m,rfl⟩:∃ m,n=m+1:=⟨n - 1,by omega⟩
   show w i * (gM m _ * R (aZ i m))=_
   have:aZ i m=m+1:=by unfold aZ;split<;>omega
   rw [this]
   show _=R (m+1) * (w i * gM m _)
   grind
  have e2:gM (n+1-1) (fun a=>R (aZ n a))=gM n R:=Yx (fun a ha=>by
   have:aZ n a=a:=by unfold aZ;split<;>omega
   rw [this])
  rw [e1,e2]
  have h1:R n * au n (fun i=>w i * gM (n-1) (fun a=>R (aZ i a)))≤R n * gM n (fun a=>w a+R a):=Int.mul_le_mul_of_nonneg_left ih (hR n (by omega))
  have h2:w n * gM n R≤w n * gM n (fun a=>w a+R a):=Int.mul_le_mul_of_nonneg_left (Yy (fun i hi=>hR i (by omega)) (fun i hi=>by have:=hw i (by omega);omega)) (hw n (by omega))
  have h3:gM n (fun a=>w a+R a) * (w n+R n)=w n * gM n (fun a=>w a+R a)+R n * gM n (fun a=>w a+R a):=by grind
  omega
def cZ (x:Int):Int:=(x.natAbs:Int)
theorem zf (x:Int):0≤cZ x:=by unfold cZ;omega
theorem PZ (x y:Int):cZ (x * y)=cZ x * cZ y:=by unfold cZ;rw [Int.natAbs_mul];simp
theorem Yo (x y:Int):cZ (x+y)≤cZ x+cZ y:=by unfold cZ;omega
theorem aix (i:Nat):cZ (ja i)=1:=by unfold ja;split<;>rfl
theorem aiz:cZ 0=0:=rfl
theorem aiy (n:Nat) (f:Nat→Int):cZ (au n f)≤au n (fun i=>cZ (f i)):=by
 induction n with
 | zero=>simp [au,cZ]
 | succ n ih=>simp only [au];have:=Yo (au n f) (f n);omega
theorem aiC {n:Nat}:∀ (P Q:Nat→Nat→Int),au (n+1) (fun k=>cZ (dz n P Q k))≤gM n (fun a=>au n (fun b=>cZ (P a b)+cZ (Q a b))):=by
 induction n with
 | zero=>intro P Q;simp [au,gM,dz,cZ]
 | succ n ih =>
  intro P Q
  have key:∀ i,i < n+1→au (n+1+1) (fun k=>cZ (ja i * (P i 0 * dz n (fun a b=>P (aZ i a) (b+1)) (fun a b=>Q (aZ i a) (b+1)) k+Q i 0 * atI (dz n (fun a b=>P (aZ i a) (b+1)) (fun a b=>Q (aZ i a) (b+1))) k)))≤(cZ (P i 0)+cZ (Q i 0)) * gM n (fun a=>au n (fun b=>cZ (P (aZ i a) (b+1))+cZ (Q (aZ i a) (b+1)))):=by
   intro i hi
   have Pu:=ih (fun a b=>P (aZ i a) (b+1)) (fun a b=>Q (aZ i a) (b+1))
   have htop:=oJ (n:=n) (fun a b=>P (aZ i a) (b+1)) (fun a b=>Q (aZ i a) (b+1))
   generalize dz n (fun a b=>P (aZ i a) (b+1)) (fun a b=>Q (aZ i a) (b+1))=d at Pu htop ⊢
   have h1:au (n+1+1) (fun k=>cZ (d k))=au (n+1) (fun k=>cZ (d k)):=Qa (by omega) (fun k hk _=>by rw [htop k (by omega)];rfl)
   have h2:au (n+1+1) (fun k=>cZ (atI d k))=au (n+1) (fun k=>cZ (d k)):=by
    rw [zi];simp [atI,aiz]
   have h3:au (n+1+1) (fun k=>cZ (ja i * (P i 0 * d k+Q i 0 * atI d k)))≤au (n+1+1) (fun k=>cZ (P i 0) * cZ (d k)+cZ (Q i 0) * cZ (atI d k)):=by
    refine avf (fun k _=>?_)
    rw [PZ,aix,Int.one_mul,← PZ,← PZ]
    exact Yo _ _
   rw [qP,atE,atE,h1,h2] at h3
   have h4:=Int.mul_le_mul_of_nonneg_left Pu (zf (P i 0))
   have h5:=Int.mul_le_mul_of_nonneg_left Pu (zf (Q i 0))
   have h6:=Int.add_mul (cZ (P i 0)) (cZ (Q i 0)) (gM n (fun a=>au n (fun b=>cZ (P (aZ i a) (b+1))+cZ (Q (aZ i a) (b+1)))))
   omega
  have h1:au (n+1+1) (fun k=>cZ (dz (n+1) P Q k))≤au (n+1+1) (fun k=>au (n+1) (fun i=>cZ (ja i * (P i 0 * dz n (fun a b=>P (aZ i a) (b+1)) (fun a b=>Q (aZ i a) (b+1)) k+Q i 0 * atI (dz n (fun a b=>P (aZ i a) (b+1)) (fun a b=>Q (aZ i a) (b+1))) k)))) :=
   avf (fun k _=>aiy _ _)
  rw [yf] at h1
  refine Int.le_trans h1 (Int.le_trans (avf key) ?_)
  have h2:=ai6 (n:=n+1) (fun i=>cZ (P i 0)+cZ (Q i 0)) (fun a=>au n (fun b=>cZ (P a (b+1))+cZ (Q a (b+1)))) (fun i _=>by have:=zf (P i 0);have:=zf (Q i 0);omega) (fun i _=>YB (fun b _=>by have:=zf (P i (b+1));have:=zf (Q i (b+1));omega))
  refine Int.le_trans h2 (Int.le_of_eq (Yx (fun a _=>?_)))
  rw [zi]
theorem aiw {n:Nat} (f:Nat→Int) (k:Nat) (hk:k < n):cZ (f k)≤au n (fun i=>cZ (f i)):=by
 have h:=avf (n:=n) (f:=fun i=>if i=k then cZ (f k) else 0) (g:=fun i=>cZ (f i)) (fun i _=>by
  by_cases e:i=k
  ·simp [e]
  ·simp [e,zf])
 rw [zh k hk (fun i _ hne=>by simp [hne])] at h
 simpa using h
theorem ai3 (n i:Nat) (hi:i < n+1) (f:Nat→Int):au (n+1) f=f i+au n (fun t=>f (aZ i t)):=by
 induction n with
 | zero =>
      obtain rfl:i=0:=by omega
      simp [au]
 | succ n ih =>
  by_cases h:i=n+1
  ·subst h
   have:au (n+1) (fun t=>f (aZ (n+1) t))=au (n+1) f:=cN (fun t ht=>by
    have:aZ (n+1) t=t:=by unfold aZ;split<;>omega
    rw [this])
   rw [this];show au (n+1) f+f (n+1)=_;omega
  ·show au (n+1) f + f (n+1) = f i + (au n (fun t => f (aZ i t)) + f (aZ i n))
   rw [ih (by omega)]
   have:aZ i n=n+1:=by unfold aZ;split<;>omega
   rw [this];omega
theorem ai8 (i t:Nat):CX i (aZ i t)=t:=by
 unfold CX aZ;by_cases h1:t < i
 ·simp [h1]
 ·rw [if_neg h1,if_neg (by omega)];omega
def mL:Nat→Int:=fun _=>0
theorem aiD {n:Nat}:∀ (P Q:Nat→Nat→Int) (k:Nat),(k:Int) * dz n P Q k=au n (fun t=>dz n (as6 P t mL) Q k):=by
 induction n with
 | zero=>intro P Q k;simp only [dz,au];split<;>simp_all
 | succ n ih =>
  intro P Q k
  have e:au (n+1) (fun t=>dz (n+1) (as6 P t mL) Q k)=au (n+1) (fun i=>au (n+1) (fun t=>ja i * ((as6 P t mL) i 0 * dz n (fun a b=>(as6 P t mL) (aZ i a) (b+1)) (fun a b=>Q (aZ i a) (b+1)) k+Q i 0 * atI (dz n (fun a b=>(as6 P t mL) (aZ i a) (b+1)) (fun a b=>Q (aZ i a) (b+1))) k))):=by
   rw [yf];exact cN (fun t _=>by rw [ET])
  rw [e,ET,← atE]
  refine cN (fun i hi=>?_)
  rw [ai3 n i hi]
  have e1:(as6 P i mL) i 0=0:=by simp [as6,mL]
  rw [e1,KW]
  have e2:au n (fun t=>ja i * ((as6 P (aZ i t) mL) i 0 * dz n (fun a b=>(as6 P (aZ i t) mL) (aZ i a) (b+1)) (fun a b=>Q (aZ i a) (b+1)) k+Q i 0 * atI (dz n (fun a b=>(as6 P (aZ i t) mL) (aZ i a) (b+1)) (fun a b=>Q (aZ i a) (b+1))) k))=au n (fun t=>ja i * (P i 0 * dz n (as6 (fun a b=>P (aZ i a) (b+1)) t mL) (fun a b=>Q (aZ i a) (b+1)) k+Q i 0 * atI (dz n (as6 (fun a b=>P (aZ i a) (b+1)) t mL) (fun a b=>Q (aZ i a) (b+1))) k)):=by
   refine cN (fun t ht=>?_)
   rw [KV (P_ i t)]
   rw [ai8]
   have:as6 P (aZ i t) mL i 0=P i 0:=by unfold as6;rw [if_neg (Ne.symm (P_ i t))]
   rw [this]
   rfl
  rw [e2,atE,qP,atE,atE,← ih]
  generalize (fun a b=>P (aZ i a) (b+1))=P' at *
  generalize (fun a b=>Q (aZ i a) (b+1))=Q' at *
  cases k with
  | zero =>
   have:au n (fun t=>atI (dz n (as6 P' t mL) Q') 0)=0:=mb (fun _ _=>rfl)
   rw [this]
   simp [atI]
  | succ k =>
   have:au n (fun t=>atI (dz n (as6 P' t mL) Q') (k+1))=(k:Int) * dz n P' Q' k:=by
    rw [ih];rfl
   rw [this]
   show _=ja i * (0 * _+Q i 0 * dz n P' Q' k)+_
   show ((k+1:Nat):Int) * (ja i * (P i 0 * dz n P' Q' (k+1)+Q i 0 * dz n P' Q' k))=_
   push_cast
   grind
def lH (n:Nat) (P Q:Nat→Nat→Int) (j i k:Nat):Int:=dz n (as6 P i (as_ j)) (as6 Q i mL) k
theorem P0 (n:Nat) (P Q:Nat→Nat→Int) (u:Int) (j i:Nat):qN n (fun a b=>P a b+u * Q a b) j i=atr n (lH n P Q j i) u:=by
 unfold qN lH
 show _=atr n (dz n (as6 P i (as_ j)) (as6 Q i mL)) u
 rw [← zg]
 refine at' (fun a b _ _=>?_)
 unfold as6 mL;split<;>simp
theorem aiF (n:Nat) (P Q:Nat→Nat→Int) (k:Nat) (hk:k≤n):((k+1:Nat):Int) * dz n P Q (k+1)=au n (fun i=>au n (fun j=>Q i j * lH n P Q j i k)):=by
 rw [aiD]
 refine cN (fun i hi=>?_)
 have h:∀ u:Int,atr (n+1) (dz n (as6 P i mL) Q) u=atr (n+1) (atI (fun k=>au n (fun j=>Q i j * lH n P Q j i k))) u:=by
  intro u
  rw [ave,avd _ _ (Nat.le_succ n) (fun k hk=>oJ _ _ k hk),← zg,CV]
  have e1:aW n (fun a b=>as6 P i mL a b+u * Q a b)=aW n (as6 (fun a b=>P a b+u * Q a b) i (fun b=>u * Q i b)):=by
   refine at' (fun a b _ _=>?_)
   unfold as6 mL;split
   ·case _ h=>simp [h]
   ·rfl
  rw [e1,P3 _ _ hi]
  congr 1
  have e2:aW n (as6 (fun a b=>P a b+u * Q a b) i (Q i))=aW n (as6 (fun a b=>P a b+u * Q a b) i (fun b=>au n (fun j=>Q i j * as_ j b))):=by
   refine at' (fun a b _ hb=>?_)
   unfold as6;split
   ·exact (KX (Q i) b hb).symm
   ·rfl
  rw [e2,P4 _ i hi]
  refine cN (fun j _=>?_)
  rw [← P0];rfl
 have:=EW (fun u _=>h u) (k+1) (by omega)
 rw [this];rfl
theorem Yp (n : Nat) (P Q : Nat → Nat → Int) (k i : Nat) (hk : k < n) (hi : i < n) (m : Nat) (hm : m ≤ n + 1) :
  au n (fun j=>P k j * lH n P Q j i m)+atI (fun m=>au n (fun j=>Q k j * lH n P Q j i m)) m=if k=i then dz n P Q m else 0:=by
 have h:∀ u:Int,atr (n+1) (fun m=>au n (fun j=>P k j * lH n P Q j i m)+atI (fun m=>au n (fun j=>Q k j * lH n P Q j i m)) m) u=atr (n+1) (fun m=>if k=i then dz n P Q m else 0) u:=by
  intro u
  rw [HZ,ave,CV,CV,← atE,← qP]
  have h1:=aiA (fun a b=>P a b+u * Q a b) k i hi hk
  have h2:au n (fun j=>(P k j+u * Q k j) * qN n (fun a b=>P a b+u * Q a b) j i)=au n (fun j=>P k j * atr (n+1) (lH n P Q j i) u+u * (Q k j * atr n (lH n P Q j i) u)):=by
   refine cN (fun j _=>?_)
   rw [P0,avd (n:=n) (m:=n+1) (lH n P Q j i) u (Nat.le_succ n) (fun k hk=>oJ _ _ k hk)]
   grind
  rw [← h2,h1]
  by_cases e:k=i
  ·simp only [if_pos e]
   rw [zg,avd (n:=n) (m:=n+1) _ _ (Nat.le_succ n) (fun k hk=>oJ _ _ k hk)]
  ·simp only [if_neg e]
   unfold atr;rw [mb (fun _ _=>by simp)]
 exact EW (fun u _=>h u) m hm
def fB (A:Nat→Nat→Int):Nat→Nat→Int:=fun a b=>- A a b
def aM (n:Nat) (A:Nat→Nat→Int):Nat→Int:=dz n (fun a b=>as_ a b) (fB A)
def ld (n : Nat) (A : Nat → Nat → Int) (c : Nat → Int) : Nat → Nat → Nat → Int
 | 0=>fun _ _=>0
 | m+1=>fun k i=>au n (fun j=>A k j * ld n A c m j i)+(if k=i then c m else 0)
theorem aiR (a b:Nat):as_ a b=as_ b a:=by unfold as_;by_cases h:a=b<;>simp [h,eq_comm]
theorem P1 (n:Nat) (A:Nat→Nat→Int) (m:Nat):m≤n→∀ k i,k < n→i < n→lH n (fun a b=>as_ a b) (fB A) k i m=ld n A (aM n A) (m+1) k i:=by
 induction m with
 | zero =>
  intro _ k i hk hi
  have h:=Yp n (fun a b=>as_ a b) (fB A) k i hk hi 0 (by omega)
  have e:au n (fun j=>as_ k j * lH n (fun a b=>as_ a b) (fB A) j i 0)=lH n (fun a b=>as_ a b) (fB A) k i 0:=by
   rw [← CW (fun j=>lH n (fun a b=>as_ a b) (fB A) j i 0) k hk];exact cN (fun j _=>by grind)
  rw [e] at h
  simp only [ld,atI] at h ⊢
  rw [mb (fun _ _=>by simp)]
  unfold aM;omega
 | succ m ih =>
  intro hm k i hk hi
  have h:=Yp n (fun a b=>as_ a b) (fB A) k i hk hi (m+1) (by omega)
  have e:au n (fun j=>as_ k j * lH n (fun a b=>as_ a b) (fB A) j i (m+1))=lH n (fun a b=>as_ a b) (fB A) k i (m+1):=by
   rw [← CW (fun j=>lH n (fun a b=>as_ a b) (fB A) j i (m+1)) k hk];exact cN (fun j _=>by grind)
  rw [e] at h
  have e2:atI (fun m=>au n (fun j=>fB A k j * lH n (fun a b=>as_ a b) (fB A) j i m)) (m+1)=- au n (fun j=>A k j * ld n A (aM n A) (m+1) j i):=by
   show au n (fun j=>fB A k j * lH n (fun a b=>as_ a b) (fB A) j i m)=_
   rw [← avg]
   refine cN (fun j hj=>?_)
   rw [ih (by omega) j i hj hi];unfold fB;grind
  rw [e2] at h
  show _=au n (fun j=>A k j * ld n A (aM n A) (m+1) j i)+(if k=i then aM n A (m+1) else 0)
  unfold aM at *;omega
theorem KN (n:Nat) (A:Nat→Nat→Int):aM n A 0=1:=by
 have h:=zg (n:=n) (fun a b=>as_ a b) (fB A) 0
 have e:aW n (fun a b=>as_ a b+0 * fB A a b)=aW n (fun a b=>as_ a b):=at' (fun a b _ _=>by simp)
 rw [e,aiN] at h
 unfold atr at h
 rw [zi,mb (fun i _=>by rw [Int.pow_succ];simp)] at h
 unfold aM;simpa using h.symm
theorem Yq (n:Nat) (A:Nat→Nat→Int) (m:Nat) (hm:m < n):((m+1:Nat):Int) * aM n A (m+1)=- au n (fun i=>au n (fun j=>A i j * ld n A (aM n A) (m+1) j i)):=by
 have h:=aiF n (fun a b=>as_ a b) (fB A) m (by omega)
 rw [show dz n (fun a b=>as_ a b) (fB A) (m+1)=aM n A (m+1) from rfl] at h
 rw [h,← avg]
 refine cN (fun i hi=>?_)
 rw [← avg]
 refine cN (fun j hj=>?_)
 rw [P1 n A m (by omega) j i hj hi,show fB A i j=- A i j from rfl];grind
def qO (r : Nat) (A : Nat → Nat → Int) (C : Nat → Int) : Nat → Nat → Int
 | 0=>C
 | k+1=>fun i=>au r (fun j=>A i j * qO r A C k j)
theorem aiT (r:Nat) (A:Nat→Nat→Int) (c C:Nat→Int) (m:Nat):∀ i,i < r→au r (fun j=>ld r A c (m+1) i j * C j)=au (m+1) (fun l=>c l * qO r A C (m-l) i):=by
 induction m with
 | zero =>
  intro i hi
  simp only [ld,au,qO,Nat.sub_zero,Int.zero_add]
  rw [cN (g:=fun j=>(c 0 * C j) * as_ i j) (fun j _=>by
   rw [mb (fun _ _=>by simp)];unfold as_;by_cases h:i=j
   ·simp [h]
   ·simp [h,Ne.symm h])]
  rw [CW (fun j=>c 0 * C j) i hi]
 | succ m ih =>
  intro i hi
  have e1:au r (fun j=>ld r A c (m+1+1) i j * C j)=au r (fun j=>au r (fun l=>A i l * ld r A c (m+1) l j) * C j)+c (m+1) * C i:=by
   rw [← CW (fun j=>c (m+1) * C j) i hi,← qP]
   refine cN (fun j _=>?_)
   show (au r (fun l=>A i l * ld r A c (m+1) l j)+(if i=j then c (m+1) else 0)) * C j=_
   unfold as_;by_cases h:i=j
   ·simp only [if_pos h,if_pos h.symm];grind
   ·simp only [if_neg h,if_neg (Ne.symm h)];grind
  have e2:au r (fun j=>au r (fun l=>A i l * ld r A c (m+1) l j) * C j)=au r (fun l=>A i l * au r (fun j=>ld r A c (m+1) l j * C j)):=by
   rw [cN (g:=fun j=>au r (fun l=>A i l * (ld r A c (m+1) l j * C j))) (fun j _=>by
    rw [Int.mul_comm,← atE];exact cN (fun l _=>by grind))]
   rw [yf]
   exact cN (fun l _=>by rw [atE])
  rw [e1,e2]
  rw [cN (g:=fun l=>A i l * au (m+1) (fun t=>c t * qO r A C (m-t) l)) (fun l hl=>by rw [ih l hl])]
  show _=au (m+1) (fun l=>c l * qO r A C (m+1-l) i)+c (m+1) * qO r A C (m+1-(m+1)) i
  rw [Nat.sub_self]
  have e3:au r (fun l=>A i l * au (m+1) (fun t=>c t * qO r A C (m-t) l))=au (m+1) (fun l=>c l * qO r A C (m+1-l) i):=by
   rw [cN (g:=fun l=>au (m+1) (fun t=>c t * (A i l * qO r A C (m-t) l))) (fun l _=>by
    rw [← atE];exact cN (fun t _=>by grind))]
   rw [yf]
   refine cN (fun t ht=>?_)
   rw [atE]
   have:m+1 - t=(m - t)+1:=by omega
   rw [this];rfl
  rw [e3];rfl
def jJ (r : Nat) (A : Nat → Nat → Int) : Nat → Int
 | 0=>1
 | 1=>- A r r
 | k+2=>- au r (fun i=>A r i * qO r A (fun i=>A i r) k i)
theorem aiB (r:Nat) (A:Nat→Nat→Int) (m:Nat) (hm:m≤r+1):aM (r+1) A m=au (m+1) (fun l=>jJ r A (m-l) * aM r A l):=by
 have h:∀ u:Int,atr (r+2) (aM (r+1) A) u=atr (r+2) (fun m=>aM r A m+(- A r r) * atI (aM r A) m+(-1) * atI (atI (fun k=>au r (fun j=>A r j * au r (fun i=>A i r * lH r (fun a b=>as_ a b) (fB A) j i k)))) m) u:=by
  intro u
  rw [HZ,HZ,EX,EX,ave,ave,ave]
  rw [avd (n:=r+1) (m:=r+2) (aM (r+1) A) u (by omega) (fun k hk=>oJ _ _ k hk)]
  rw [avd (n:=r) (m:=r+2) (aM r A) u (by omega) (fun k hk=>oJ _ _ k hk)]
  rw [avd (n:=r) (m:=r+1) (aM r A) u (by omega) (fun k hk=>oJ _ _ k hk)]
  rw [CV]
  rw [cN (g:=fun j=>A r j * au r (fun i=>A i r * qN r (fun a b=>as_ a b+u * fB A a b) j i)) (fun j _=>by
   rw [CV];congr 1;exact cN (fun i _=>by rw [P0]))]
  unfold aM
  rw [← zg,← zg,Yt]
  have e:au r (fun j=>au r (fun i=>(as_ r j+u * fB A r j) * qN r (fun a b=>as_ a b+u * fB A a b) j i * (as_ i r+u * fB A i r)))=u * (u * au r (fun j=>A r j * au r (fun i=>A i r * qN r (fun a b=>as_ a b+u * fB A a b) j i))):=by
   rw [← atE,← atE]
   refine cN (fun j hj=>?_)
   rw [← atE,← atE,← atE]
   refine cN (fun i hi=>?_)
   rw [nh (show j ≠ r by omega),nh (show r ≠ i by omega)]
   unfold fB;grind
  rw [e,uP]
  unfold fB
  grind
 rw [EW (fun u _=>h u) m (by omega)]
 cases m with
 | zero=>simp [atI,au,jJ]
 | succ m =>
  cases m with
  | zero=>simp [atI,au,jJ];omega
  | succ m =>
   show aM r A (m+2)+(- A r r) * aM r A (m+1)+(-1) * au r (fun j=>A r j * au r (fun i=>A i r * lH r (fun a b=>as_ a b) (fB A) j i m))=au (m+1) (fun l=>jJ r A (m+2-l) * aM r A l)+jJ r A (m+2-(m+1)) * aM r A (m+1)+jJ r A (m+2-(m+2)) * aM r A (m+2)
   have e1:m+2 - (m+1)=1:=by omega
   have e2:m+2 - (m+2)=0:=by omega
   rw [e1,e2]
   have e3:au r (fun j=>A r j * au r (fun i=>A i r * lH r (fun a b=>as_ a b) (fB A) j i m))=- au (m+1) (fun l=>jJ r A (m+2-l) * aM r A l):=by
    rw [cN (g:=fun j=>A r j * au (m+1) (fun l=>aM r A l * qO r A (fun i=>A i r) (m-l) j)) (fun j hj=>by
     rw [← aiT r A (aM r A) (fun i=>A i r) m j hj]
     congr 1
     exact cN (fun i hi=>by rw [P1 r A m (by omega) j i hj hi];grind))]
    rw [cN (g:=fun j=>au (m+1) (fun l=>aM r A l * (A r j * qO r A (fun i=>A i r) (m-l) j))) (fun j _=>by
     rw [← atE];exact cN (fun l _=>by grind))]
    rw [yf,← avg]
    refine cN (fun l hl=>?_)
    rw [atE]
    have:m+2 - l=(m - l)+2:=by omega
    rw [this]
    show _=-(- au r (fun i=>A r i * qO r A (fun i=>A i r) (m-l) i) * aM r A l)
    grind
   rw [e3]
   show aM r A (m+2)+(- A r r) * aM r A (m+1)+(-1) * _=_+(- A r r) * aM r A (m+1)+1 * aM r A (m+2)
   grind
def ez (u:Int) (H:Nat→Nat→Int):Nat→Nat→Int:=fun a b=>as_ a b - u * H a b
theorem KU (a b:Nat):as_ a b=if a=b then 1 else 0:=by unfold as_;by_cases h:a=b<;>simp [h,eq_comm]
theorem aiP {n : Nat} (H : Nat → Nat → Int) (i m : Nat) (hi : i < n) (hm : m < n) (uF : i ≠ m) (t u : Int) :
  aW n (ez u (fun a b=>(if a=i then H a b - t * H m b else H a b)+(if b=m then t * (if a=i then H a i - t * H m i else H a i) else 0)))=aW n (ez u H):=by
 let N:Nat→Nat→Int:=as6 (ez u H) i (fun b=>ez u H i b+(-t) * ez u H m b)
 have h1:aW n N=aW n (ez u H):=P2 (ez u H) i m hi hm uF (-t)
 have h2:=aiH N m i hm hi (Ne.symm uF) t
 rw [← h1,← h2]
 refine at' (fun a b _ _=>?_)
 show _=(if b=m then N a m+t * N a i else N a b)
 have hN:∀ a b,N a b=as_ a b - u * H a b+(if a=i then (-t) * (as_ m b - u * H m b) else 0):=by
  intro a b
  show (if a=i then (as_ i b - u * H i b)+(-t) * (as_ m b - u * H m b) else as_ a b - u * H a b)=_
  by_cases h:a=i
  ·subst h;simp
  ·simp [h]
 rw [hN,hN,hN]
 unfold ez
 by_cases hb:b=m
 ·subst hb
  simp only [if_true]
  by_cases ha:a=i
  ·subst ha
   simp only [if_true]
   rw [uP,uP,nh (show a ≠ b from uF),nh (show b ≠ a from Ne.symm uF)]
   grind
  ·simp only [if_neg ha]
   rw [nh (show i ≠ a from Ne.symm ha)]
   grind
 ·simp only [if_neg hb]
  by_cases ha:a=i
  ·subst ha
   simp only [if_true]
   rw [nh (show b ≠ m from hb)]
   grind
  ·simp only [if_neg ha,Int.add_zero]
def fq (i m a:Nat):Nat:=if a=i then m else if a=m then i else a
theorem aiQ {n : Nat} (H : Nat → Nat → Int) (i m : Nat) (hi : i < n) (hm : m < n) (u : Int) :
  aW n (ez u (fun a b=>H (fq i m a) (fq i m b)))=aW n (ez u H):=by
 by_cases uF:i=m
 ·subst uF
  refine at' (fun a b _ _=>?_)
  have:∀ a,fq i i a=a:=by intro a;unfold fq;split<;>simp_all
  simp only [ez,this]
 ·have h1 := P5 (ez u H) i m hi hm uF
  have h2:=aiL (as6 (as6 (ez u H) i (ez u H m)) m (ez u H i)) i m hi hm uF
  have h3:aW n (ez u (fun a b=>H (fq i m a) (fq i m b)))=aW n (cH (cH (as6 (as6 (ez u H) i (ez u H m)) m (ez u H i)) i (fun a=>as6 (as6 (ez u H) i (ez u H m)) m (ez u H i) a m)) m (fun a=>as6 (as6 (ez u H) i (ez u H m)) m (ez u H i) a i)):=by
   refine at' (fun a b _ _=>?_)
   have e:∀ a b,as6 (as6 (ez u H) i (ez u H m)) m (ez u H i) a b=ez u H (fq i m a) b:=by
    intro a b
    unfold as6 fq
    by_cases g1:a=m
    ·subst g1;simp [Ne.symm uF]
    ·by_cases g2 : a = i
     ·subst g2;rw [if_neg g1,if_pos rfl,if_pos rfl]
     ·simp [g1,g2]
   have e2:∀ a b,ez u H (fq i m a) (fq i m b)=ez u (fun a b=>H (fq i m a) (fq i m b)) a b:=by
    intro a b
    unfold ez
    congr 1
    rw [KU,KU]
    have:fq i m a=fq i m b↔a=b:=by
     unfold fq
     constructor
     ·intro h
      by_cases h1:a=i<;>by_cases h2:a=m<;>by_cases h3:b=i<;>by_cases h4:b=m<;>simp_all
     ·rintro rfl;rfl
    simp only [this]
   unfold cH
   simp only [e]
   rw [← e2]
   by_cases g1:b=m
   ·subst g1
    have:fq i b b=i:=by unfold fq;rw [if_neg (Ne.symm uF),if_pos rfl]
    rw [this,if_pos rfl]
   ·by_cases g2 : b = i
    ·subst g2
     have:fq b m b=m:=by unfold fq;rw [if_pos rfl]
     rw [this,if_neg g1,if_pos rfl]
    ·have : fq i m b = b := by unfold fq; rw [if_neg g2, if_neg g1]
     rw [this,if_neg g1,if_neg g2]
  omega
def uS (M : Nat → Nat → Int) (i : Nat) : Nat → Int
 | 0=>1
 | d+1=>uS M i d * (- M (i+d+1) (i+d))
theorem aiU (M:Nat→Nat→Int) (d:Nat):∀ i,(∀ a b,b+1 < a→a≤i+d→M a b=0)→aW (i+d+1) (as6 M i (as_ (i+d)))=uS M i d * aW i M:=by
 induction d with
 | zero =>
  intro i _
  rw [KS _ (fun b hb=>by simp only [as6,if_true];exact nh (by omega))]
  have:as6 M i (as_ (i+0)) (i+0) (i+0)=1:=by simp [as6,as_]
  show as6 M i (as_ (i+0)) (i+0) (i+0) * aW i (as6 M i (as_ i))=1 * aW i M
  rw [this]
  rw [at' (fun a b ha _=>by unfold as6;rw [if_neg (by omega)])]
 | succ d ih =>
  intro i hz
  have hrow:aW (i+(d+1)+1) (as6 M i (as_ (i+(d+1))))=aW (i+(d+1)+1) (as6 (as6 M i (as_ (i+(d+1)))) (i+(d+1)) (fun b=>M (i+(d+1)) (i+d) * as_ (i+d) b)):=by
   rw [← P2 (as6 M i (as_ (i+(d+1)))) (i+(d+1)) i (by omega) (by omega) (by omega) (- M (i+(d+1)) (i+(d+1)))]
   refine at' (fun a b _ hb=>?_)
   unfold as6
   by_cases h:a=i+(d+1)
   ·subst h
    simp only [if_true,if_neg (show ¬ i+(d+1)=i by omega)]
    by_cases h1:b=i+(d+1)
    ·subst h1;rw [uP,nh (show i+(d+1) ≠ i+d by omega)];omega
    ·rw [nh h1]
     by_cases h2:b=i+d
     ·subst h2;rw [uP];omega
     ·rw [nh h2,hz _ b (by omega) (by omega)];omega
   ·rw [if_neg h,if_neg h]
  rw [hrow,P3 _ _ (by omega)]
  have hs:=P5 (as6 (as6 M i (as_ (i+(d+1)))) (i+(d+1)) (as_ (i+d))) i (i+(d+1)) (n:=i+(d+1)+1) (by omega) (by omega) (by omega)
  have e:aW (i+(d+1)+1) (as6 (as6 (as6 (as6 M i (as_ (i+(d+1)))) (i+(d+1)) (as_ (i+d))) i (as6 (as6 M i (as_ (i+(d+1)))) (i+(d+1)) (as_ (i+d)) (i+(d+1)))) (i+(d+1)) (as6 (as6 M i (as_ (i+(d+1)))) (i+(d+1)) (as_ (i+d)) i))=uS M i d * aW i M:=by
   rw [KS _ (fun b hb=>by
    simp only [as6,if_true];rw [if_neg (show ¬ i=i+(d+1) by omega)];exact nh (by omega))]
   have v:as6 (as6 (as6 (as6 M i (as_ (i+(d+1)))) (i+(d+1)) (as_ (i+d))) i (as6 (as6 M i (as_ (i+(d+1)))) (i+(d+1)) (as_ (i+d)) (i+(d+1)))) (i+(d+1)) (as6 (as6 M i (as_ (i+(d+1)))) (i+(d+1)) (as_ (i+d)) i) (i+(d+1)) (i+(d+1))=1:=by
    simp only [as6,if_true];rw [if_neg (show ¬ i=i+(d+1) by omega)];exact uP _
   rw [v,Int.one_mul]
   have:=ih i (fun a b h1 h2=>hz a b h1 (by omega))
   rw [← this]
   refine at' (fun a b ha _=>?_)
   unfold as6
   have h1:a ≠ i+(d+1):=by omega
   by_cases h2:a=i
   ·subst h2;simp
   ·simp [h1,h2]
  rw [e] at hs
  show _=uS M i d * (- M (i+d+1) (i+d)) * aW i M
  have hx:aW (i+(d+1)+1) (as6 (as6 M i (as_ (i+(d+1)))) (i+(d+1)) (as_ (i+d)))=- (uS M i d * aW i M):=by omega
  rw [hx]
  show M (i+d+1) (i+d) * _=_
  grind
theorem aiV (M : Nat → Nat → Int) (k : Nat) (hz : ∀ a b, b + 1 < a → a ≤ k → M a b = 0) :
  aW (k+1) M=M k k * aW k M+au k (fun i=>uS M i (k-i) * M i k * aW i M):=by
 rw [Yt]
 cases k with
 | zero=>simp [au]
 | succ k =>
  have e:au (k+1) (fun j=>au (k+1) (fun i=>M (k+1) j * qN (k+1) M j i * M i (k+1)))=- au (k+1) (fun i=>uS M i (k+1-i) * M i (k+1) * aW i M):=by
   rw [zh k (by omega) (fun j hj hne=>mb (fun i _=>by rw [hz (k+1) j (by omega) (by omega)];simp)),← avg]
   refine cN (fun i hi=>?_)
   obtain ⟨d,rfl⟩:∃ d,k=i+d:=⟨k - i,by omega⟩
   unfold qN
   rw [aiU M d i (fun a b h1 h2=>hz a b h1 (by omega))]
   have:i+d+1 - i=d+1:=by omega
   rw [this]
   show _=- (uS M i d * (- M (i+d+1) (i+d)) * M i (i+d+1) * aW i M)
   grind
  rw [e];omega
theorem aiO {n : Nat} (M : Nat → Nat → Int) (l : Nat → Nat) (x : Nat → Int) (h : ∀ a, a < n → x a ≠ 0 → l a < n ∧ l a ≠ a ∧ x (l a) = 0) :
  aW n (fun a b=>M a b+x a * M (l a) b)=aW n M:=by
 have key:∀ m,m≤n→aW n (fun a b=>if a < m then M a b+x a * M (l a) b else M a b)=aW n M:=by
  intro m
  induction m with
  | zero=>intro _;exact at' (fun a b _ _=>by simp)
  | succ m ih =>
   intro hm
   rw [← ih (by omega)]
   by_cases hx:x m=0
   ·refine at' (fun a b _ _ => ?_)
    by_cases h1:a < m
    ·rw [if_pos h1,if_pos (by omega)]
    ·by_cases h2 : a = m
     ·subst h2;simp [hx]
     ·rw [if_neg h1,if_neg (by omega)]
   ·obtain ⟨h1, h2, h3⟩ := h m (by omega) hx
    rw [← P2 (fun a b=>if a < m then M a b+x a * M (l a) b else M a b) m (l m) (by omega) h1 (Ne.symm h2) (x m)]
    refine at' (fun a b _ _=>?_)
    simp only [as6]
    by_cases h4:a=m
    ·subst h4
     by_cases h5:l a < a
     ·simp [h5,h3]
     ·simp [h5]
    ·by_cases h5 : a < m
     ·rw [if_pos (by omega),if_neg h4,if_pos h5]
     ·rw [if_neg (by omega),if_neg h4,if_neg h5]
 rw [← key n (Nat.le_refl n)]
 exact at' (fun a b ha _=>by rw [if_pos ha])
theorem Zj (e:Nat):Int.tdiv (e:Int) 2=((e / 2:Nat):Int):=rfl
theorem Zk (e:Nat):Int.tmod (e:Int) 2=((e % 2:Nat):Int):=rfl
/-- Where the directed edge e begins, and where it ends. -/
def qB (l:List (List Int)) (e:Nat):Int:=rd (ai l ((e / 2:Nat):Int)) ((e % 2:Nat):Int)
def jV (l:List (List Int)) (e:Nat):Int:=rd (ai l ((e / 2:Nat):Int)) ((1 - e % 2:Nat):Int)
def two (l:List (List Int)):Prop:=∀ x ∈ l,x.length=2
theorem avL {a:Int} {l:List (List Int)} (h:atJ a l=true):two l:=by
 intro x hx
 simp only [atJ,Bool.and_eq_true,List.all_eq_true] at h
 have:=h.2.2.2 x hx
 simp only [qI,Bool.and_eq_true,decide_eq_true_eq] at this
 exact this.1
theorem nI {a:Int} {l:List (List Int)} (h:atJ a l=true):l.length≤10:=by
 simp only [atJ,Bool.and_eq_true,decide_eq_true_eq] at h
 exact h.2.2.1
theorem Yh {a:Int} {l:List (List Int)} (h:atJ a l=true):1≤a∧a≤8:=by
 simp only [atJ,Bool.and_eq_true,decide_eq_true_eq] at h
 exact ⟨h.1,h.2.1⟩
theorem ah1 {a:Int} {l:List (List Int)} (h:atJ a l=true) {x:List Int} (hx:x ∈ l):(0≤rd x 0∧rd x 0≤a - 1)∧(0≤rd x 1∧rd x 1≤a - 1):=by
 have hs:=Yh h
 simp only [atJ,Bool.and_eq_true,List.all_eq_true] at h
 have:=h.2.2.2 x hx
 simp only [qI,Gp,Bool.and_eq_true,decide_eq_true_eq] at this
 rw [fE (by omega) (by omega)] at this
 exact this.2
theorem Zq {l:List (List Int)} (h2:two l) (e:Nat) (he:e < 2 * l.length):(ai l ((e / 2:Nat):Int)).length=2:=by
 have hi:e / 2 < l.length:=by omega
 rw [ym l (e / 2) hi]
 exact h2 _ (List.getElem_mem hi)
theorem PX (a:Int) (l:List (List Int)) (hl:l.length≤1048576) (h2:two l) (e:Nat) (he:e < 2 * l.length):atT.f a l e=some (qB l e,jV l e):=by
 have hx:=Zq h2 e he
 unfold atT.f
 rw [Zj,Zk,fE (by omega) (by omega),if_pos (by omega),if_pos (by omega),hx]
 unfold qB jV
 rcases Nat.mod_two_eq_zero_or_one e with h|h
 ·rw [h];rfl
 ·rw [h];rfl
theorem U5 (a:Int) (l:List (List Int)) (hl:l.length≤1048576) (h2:two l) (e:Nat) (he:e < 2 * l.length):vw.f a l e=some (qB l e,jV l e):=by
 have hx:=Zq h2 e he
 unfold vw.f
 rw [Zj,Zk,fE (by omega) (by omega),if_pos (by omega),if_pos (by omega),hx]
 have hm:e % 2 < 2:=Nat.mod_lt _ (by omega)
 rw [fE (by omega) (by omega),if_pos (by omega),if_pos (by omega),if_pos (by omega),if_pos (by omega)]
 unfold qB jV
 rw [show (1:Int) - ((e % 2:Nat):Int)=((1 - e % 2:Nat):Int) by omega]
/-- The other direction of e's edge. -/
def jk (e:Nat):Nat:=if e % 2=0 then e+1 else e - 1
theorem alH:((List.range 20).all fun e:Nat=>Go.bits .xor .i64 (e:Int) 1 == ((jk e:Nat):Int))=true:=by kernel_rfl
theorem Z4 (e:Nat) (h:e < 20):Go.bits .xor .i64 (e:Int) 1=((jk e:Nat):Int):=by
 have:=List.all_eq_true.1 alH e (List.mem_range.2 h)
 exact eq_of_beq this
/-- May f come behind e. -/
def next (l:List (List Int)) (e f:Nat):Bool:=decide (jV l e=qB l f) && !decide (f=jk e)
def mj (n:Nat) (g:Nat→Bool) (f:Nat):List Int:=(List.range n).map fun j=>if (decide (j < f) && g j)=true then 1 else 0
theorem YM (n:Nat) (g:Nat→Bool) (f:Nat):(mj n g f).length=n:=by simp [mj]
theorem YN (n:Nat) (g:Nat→Bool):mj n g 0=List.replicate n 0:=by
 apply List.ext_getElem
 ·simp [mj]
 ·intro i h1 h2;simp [mj]
theorem YL (n:Nat) (g:Nat→Bool) (f:Nat) (hf:f < n) (h:g f=true):(mj n g f).set f 1=mj n g (f+1):=by
 apply List.ext_getElem
 ·simp [mj]
 ·intro i h1 h2
  simp only [mj,List.length_map,List.length_range,List.length_set] at h1 h2
  rw [List.getElem_set]
  by_cases hi:f=i
  ·subst hi;simp [mj,h]
  ·rw [if_neg hi]
   simp only [mj,List.getElem_map,List.getElem_range]
   have:decide (i < f)=decide (i < f+1):=by rw [Bool.eq_iff_iff];simp;omega
   rw [this]
theorem Qd (n:Nat) (g:Nat→Bool) (f:Nat) (h:g f=false):mj n g f=mj n g (f+1):=by
 apply List.ext_getElem
 ·simp [mj]
 ·intro i h1 h2
  simp only [mj,List.getElem_map,List.getElem_range]
  by_cases hi:i=f
  ·subst hi;simp [h]
  ·have : decide (i < f) = decide (i < f + 1) := by rw [Bool.eq_iff_iff]; simp; omega
   rw [this]
/-- The edge rows. -/
def qJ (l:List (List Int)):List (List Int):=(List.range (2 * l.length)).map fun e=>mj (2 * l.length) (next l e) (2 * l.length)
/-- The rows on the way: those above e are whole, that of e up to f. -/
def mg (l:List (List Int)) (e f:Nat):List (List Int):=(List.range (2 * l.length)).map fun i=>mj (2 * l.length) (next l i) (if i < e then 2 * l.length else if i=e then f else 0)
theorem YI (l:List (List Int)) (e f:Nat):(mg l e f).length=2 * l.length:=by simp [mg]
theorem aje (l:List (List Int)) (e f:Nat) (he:e < 2 * l.length):ai (mg l e f) (e:Int)=mj (2 * l.length) (next l e) f:=by
 rw [ym _ _ (by rw [YI];exact he)]
 simp [mg]
theorem ajc (l:List (List Int)) (e f:Nat) (he:e < 2 * l.length) (hf:f < 2 * l.length) (h:next l e f=true):(mg l e f).set e ((mj (2 * l.length) (next l e) f).set f 1)=mg l e (f+1):=by
 rw [YL _ _ _ hf h]
 apply List.ext_getElem
 ·simp [mg]
 ·intro i h1 h2
  rw [List.getElem_set]
  by_cases hi:e=i
  ·subst hi;simp [mg]
  ·rw [if_neg hi]
   simp [mg,Ne.symm hi]
theorem YJ (l:List (List Int)) (e f:Nat) (h:next l e f=false):mg l e f=mg l e (f+1):=by
 unfold mg
 apply List.map_congr_left
 intro i _
 by_cases hi:i < e
 ·simp [hi]
 ·by_cases Hg : i = e
  ·subst Hg;simp;exact Qd _ _ _ h
  ·simp [hi,Hg]
theorem ajd (l:List (List Int)) (e:Nat):mg l e (2 * l.length)=mg l (e+1) 0:=by
 unfold mg
 apply List.map_congr_left
 intro i _
 by_cases hi:i < e
 ·rw [if_pos hi,if_pos (by omega)]
 ·by_cases Hg : i = e
  ·subst Hg;simp
  ·rw [if_neg hi,if_neg Hg,if_neg (by omega)];split<;>rfl
theorem ajb (l:List (List Int)):mg l (2 * l.length) 0=qJ l:=by
 unfold mg qJ
 apply List.map_congr_left
 intro i hi
 rw [if_pos (List.mem_range.1 hi)]
theorem afr (a : Int) (l : List (List Int)) (hl : l.length ≤ 10) (h2 : two l) (R : List (List Int)) (e : Nat) (he : e < 2 * l.length)
  (hR:Ev (fun k=>jd.l0 k (mg l (e+1) 0) ((2 * l.length:Nat):Int) ((e:Int)+1) a l) R) :
  ∀ (d f:Nat),2 * l.length - f=d→f≤2 * l.length→Ev (fun k=>jd.l1 k (mg l e f) e (jV l e) ((2 * l.length:Nat):Int) e ((2 * l.length:Nat):Int) f a l) R:=by
 intro d
 induction d with
 | zero =>
  intro f hd hf
  obtain rfl:f=2 * l.length:=by omega
  refine Ev.step (fun k=>by simp only [jd.l1];rfl) ?_
  simp only [Int.lt_irrefl,if_false,ajd,wI ((e:Int)+1) (by omega)]
  exact hR
 | succ d ih =>
  intro f hd hf
  have hfl:f < 2 * l.length:=by omega
  refine Ev.step (fun k=>by simp only [jd.l1];rfl) ?_
  have h:=ih (f+1) (by omega) (by omega)
  simp only [show ((f:Int) < ((2 * l.length:Nat):Int)) by omega,if_true,U5 a l (by omega) h2 f hfl,Option.bind_some,cv f,cv e,YI,aje l e f he,YM,show ((e:Int) < ((2 * l.length:Nat):Int)) by omega,Int.toNat_natCast,Z4 e (by omega),wI ((f:Int)+1) (by omega)]
  have hn:next l e f=(decide (jV l e=qB l f) && !decide (f=jk e)):=rfl
  by_cases h3:qB l f=jV l e
  ·simp only [h3, if_true]
   by_cases h4:f=jk e
   ·simp only [eq_true (show (f : Int) = ((jk e : Nat) : Int) by omega), if_true]
    rw [YJ l e f (by rw [hn];simp [h3,h4.symm])]
    exact h
   ·simp only [show ¬ ((f : Int) = ((jk e : Nat) : Int)) by omega, if_false]
    rw [ajc l e f he hfl (by rw [hn];simp [h3,h4])]
    exact h
  ·simp only [h3, if_false]
   rw [YJ l e f (by rw [hn];simp [Ne.symm h3])]
   exact h
theorem afq (a:Int) (l:List (List Int)) (hl:l.length≤10) (h2:two l):∀ (d e:Nat),2 * l.length - e=d→e≤2 * l.length→Ev (fun k=>jd.l0 k (mg l e 0) ((2 * l.length:Nat):Int) e a l) (qJ l):=by
 intro d
 induction d with
 | zero =>
  intro e hd he
  obtain rfl:e=2 * l.length:=by omega
  refine Ev.step (fun k=>by simp only [jd.l0];rfl) ?_
  simp only [Int.lt_irrefl,if_false,ajb]
  exact Ev.now _
 | succ d ih =>
  intro e hd he
  have hel:e < 2 * l.length:=by omega
  refine Ev.step (fun k=>by simp only [jd.l0];rfl) ?_
  simp only [show ((e:Int) < ((2 * l.length:Nat):Int)) by omega,if_true,U5 a l (by omega) h2 e hel,Option.bind_some,q4.f,wI (2 * (l.length:Int)) (by omega)]
  rw [show 2 * (l.length:Int)=((2 * l.length:Nat):Int) by omega]
  exact afr a l hl h2 _ e hel (ih (e+1) (by omega) (by omega)) (2 * l.length) 0 (by omega) (by omega)
theorem akp (n:Nat) (hn:n≤1048576):∀ (d i:Nat),n - i=d→i≤n→Ev (fun k=>lR.l0 k n (List.replicate i (List.replicate n 0)) n i) (List.replicate n (List.replicate n 0)):=by
 intro d
 induction d with
 | zero =>
  intro i hd hi
  obtain rfl:i=n:=by omega
  refine Ev.step (fun k=>by simp only [lR.l0];rfl) ?_
  simp only [Int.lt_irrefl,if_false]
  exact Ev.now _
 | succ d ih =>
  intro i hd hi
  refine Ev.step (fun k=>by simp only [lR.l0];rfl) ?_
  simp only [lI i n (by omega),cv n,Int.toNat_natCast,show n≤35184372088832 by omega,List.length_replicate,show i < 5864062014805 by omega,if_true,wI ((i:Int)+1) (by omega)]
  have h:=ih (i+1) (by omega) (by omega)
  rw [List.replicate_succ'] at h
  exact h
theorem Rf (n:Nat) (hn:n≤1048576):Ev (fun k=>lR.f k n) (List.replicate n (List.replicate n 0)):=akp n hn n 0 (by omega) (by omega)
theorem ajf (l:List (List Int)):mg l 0 0=List.replicate (2 * l.length) (List.replicate (2 * l.length) 0):=by
 apply List.ext_getElem
 ·simp [mg]
 ·intro i h1 h2
  simp only [mg,List.getElem_map,List.getElem_range,List.getElem_replicate]
  rw [← YN (2 * l.length) (next l i)]
  congr 1
  rw [if_neg (by omega)]
  split<;>rfl
theorem U3 (a:Int) (l:List (List Int)) (hl:l.length≤10) (h2:two l):Ev (fun k=>jd.f k a l) (qJ l):=by
 unfold jd.f
 simp only [q4.f,Option.bind_some,wI (2 * (l.length:Int)) (by omega)]
 rw [show 2 * (l.length:Int)=((2 * l.length:Nat):Int) by omega]
 refine Ev.bind (Rf (2 * l.length) (by omega)) ?_
 rw [← ajf]
 exact afq a l hl h2 (2 * l.length) 0 (by omega) (by omega)
theorem Oj (l:List Int) (h:l.length≤1048576):ue.f l=some l:=by
 unfold ue.f
 rw [if_pos (by omega)]
theorem aid (l:List Int) (h:l.length≤1048576):rT.f l=some l:=by
 unfold rT.f
 simp only [Option.bind_some,List.length_nil,List.nil_append]
 rw [if_pos (by omega)]
/-- The two ends of edge i of a graph, as numbers below n. -/
def endsIn (n:Nat) (l:List (List Int)):Prop:=∀ i,i < l.length→(ai l (i:Int)).length=2∧∃ u v:Nat,rd (ai l (i:Int)) 0=u∧rd (ai l (i:Int)) 1=v∧u < n∧v < n
theorem ah3 {a:Int} {l:List (List Int)} (h:atJ a l=true):∃ n:Nat,a=n∧1≤n∧n≤8∧endsIn n l:=by
 have hs:=Yh h
 refine ⟨a.toNat,by omega,by omega,by omega,fun i hi=>?_⟩
 have hm:l[i] ∈ l:=List.getElem_mem hi
 rw [ym l i hi]
 have he:=ah1 h hm
 exact ⟨avL h _ hm,(rd l[i] 0).toNat,(rd l[i] 1).toNat,by omega,by omega,by omega,by omega⟩
theorem aic (a:Int) (l:List (List Int)) (hl:l.length≤1048576) (hx:∀ x ∈ l,x.length≤1048576):∀ (d i:Nat),l.length - i=d→i≤l.length→Ev (fun k=>jm.l0 k i a l a (l.take i)) (a,l):=by
 intro d
 induction d with
 | zero =>
  intro i hd hi
  obtain rfl:i=l.length:=by omega
  refine Ev.step (fun k=>by simp only [jm.l0];rfl) ?_
  simp only [Int.lt_irrefl,if_false,List.take_length]
  exact Ev.now _
 | succ d ih =>
  intro i hd hi
  have hil:i < l.length:=by omega
  refine Ev.step (fun k=>by simp only [jm.l0];rfl) ?_
  have h:=ih (i+1) (by omega) (by omega)
  rw [List.take_succ_eq_append_getElem hil] at h
  simp only [show ((i:Int) < (l.length:Int)) by omega,cv i,if_true,ym l i hil,aid _ (hx _ (List.getElem_mem hil)),Option.bind_some,show (l.take i).length < 5864062014805 by (rw [List.length_take];omega),wI ((i:Int)+1) (by omega)]
  exact h
theorem KM (a:Int) (l:List (List Int)) (hl:l.length≤1048576) (hx:∀ x ∈ l,x.length≤1048576):Ev (fun k=>jm.f k a l) (a,l):=aic a l hl hx l.length 0 (by omega) (by omega)
/-- A row and a square of numbers, by their places. -/
def bO (n:Nat) (g:Nat→Int):List Int:=(List.range n).map g
def as7 (n:Nat) (f:Nat→Nat→Int):List (List Int):=(List.range n).map fun i=>bO n (f i)
theorem ato (n:Nat) (g:Nat→Int):(bO n g).length=n:=by simp [bO]
theorem eM (n:Nat) (f:Nat→Nat→Int):(as7 n f).length=n:=by simp [as7]
theorem gz {n:Nat} {g:Nat→Int} {v:Nat} (h:v < n):rd (bO n g) (v:Int)=g v:=by
 rw [pS _ _ (by rw [ato];exact h)]
 simp [bO]
theorem iH {n:Nat} {f:Nat→Nat→Int} {u:Nat} (h:u < n):ai (as7 n f) (u:Int)=bO n (f u):=by
 rw [ym _ _ (by rw [eM];exact h)]
 simp [as7]
theorem nk {n:Nat} {g h:Nat→Int} (e:∀ j,j < n→g j=h j):bO n g=bO n h:=by
 unfold bO
 apply List.map_congr_left
 intro j hj
 exact e j (List.mem_range.mp hj)
theorem kM {n:Nat} {f h:Nat→Nat→Int} (e:∀ i j,i < n→j < n→f i j=h i j):as7 n f=as7 n h:=by
 unfold as7
 apply List.map_congr_left
 intro i hi
 exact nk fun j hj=>e i j (List.mem_range.mp hi) hj
theorem yo {n:Nat} (g:Nat→Int) (v:Nat) (x:Int):(bO n g).set v x=bO n (fun j=>if j=v then x else g j):=by
 apply List.ext_getElem
 ·rw [List.length_set,ato,ato]
 intro j h1 h2
 rw [List.getElem_set]
 simp only [bO,List.getElem_map,List.getElem_range]
 by_cases h:v=j
 ·subst h;simp
 ·rw [if_neg h,if_neg (fun e=>h e.symm)]
theorem Fb {n:Nat} (f:Nat→Nat→Int) (u:Nat) (g:Nat→Int):(as7 n f).set u (bO n g)=as7 n (fun i j=>if i=u then g j else f i j):=by
 apply List.ext_getElem
 ·rw [List.length_set,eM,eM]
 intro i h1 h2
 rw [List.getElem_set]
 simp only [as7,List.getElem_map,List.getElem_range]
 by_cases h:u=i
 ·subst h;simp
 ·rw [if_neg h];exact nk fun j _=>by rw [if_neg (fun e=>h e.symm)]
/-- One place written. -/
theorem ZA {n:Nat} (f:Nat→Nat→Int) (u:Nat) (hu:u < n) (v:Nat) (x:Int):(as7 n f).set u ((ai (as7 n f) (u:Int)).set v x)=as7 n (fun i j=>if i=u∧j=v then x else f i j):=by
 rw [iH hu,yo,Fb]
 refine kM fun i j _ _=>?_
 by_cases h:i=u
 ·subst h;simp
 ·simp [h]
theorem ZB (n:Nat):List.replicate n (List.replicate n (0:Int))=as7 n (fun _ _=>0):=by
 have h0:∀ m:Nat,bO m (fun _=>0)=List.replicate m 0:=fun m=>by
  apply List.ext_getElem
  ·simp [bO]
  ·intro i _ _;simp [bO]
 apply List.ext_getElem
 ·simp [as7]
 ·intro i _ _;simp [as7,h0]
theorem ae8 {n:Nat} {l:List (List Int)} (hE:endsIn n l) (d:Nat) (hd:d < 2 * l.length):∃ u v:Nat,qB l d=u∧jV l d=v∧u < n∧v < n:=by
 obtain ⟨_,u,v,hu,hv,hun,PK⟩:=hE (d / 2) (by omega)
 unfold qB jV
 rcases Nat.mod_two_eq_zero_or_one d with h|h
 ·rw [h];exact ⟨u,v,hu,hv,hun,PK⟩
 ·rw [h];exact ⟨v,u,hv,hu,PK,hun⟩
def kY (x y:Int):Prop:=(18446744073709551616:Int) ∣ x - y
theorem Cl (x:Int):kY x x:=⟨0,by omega⟩
theorem Cm {x y z:Int} (h:kY x y) (h2:kY y z):kY x z:=by
 obtain ⟨q,h⟩:=h
 obtain ⟨r,h2⟩:=h2
 exact ⟨q+r,by omega⟩
theorem Gf (x:Int):kY (wrap64 x) x:=by
 unfold kY wrap64
 exact ⟨-((x+9223372036854775808) / 18446744073709551616),by omega⟩
theorem Of {x y z w:Int} (h:kY x y) (h2:kY z w):kY (x+z) (y+w):=by
 obtain ⟨q,h⟩:=h
 obtain ⟨r,h2⟩:=h2
 exact ⟨q+r,by omega⟩
theorem aeS {x y:Int} (h:kY x y):kY (-x) (-y):=by
 obtain ⟨q,h⟩:=h
 exact ⟨-q,by omega⟩
theorem UH {x y z w:Int} (h:kY x y) (h2:kY z w):kY (x * z) (y * w):=sC h h2
theorem Oh {n:Nat} {f g:Nat→Int} (h:∀ i,i < n→kY (f i) (g i)):kY (au n f) (au n g):=H8 h
theorem RL (x:Int):-9223372036854775808≤wrap64 x∧wrap64 x≤9223372036854775807:=by unfold wrap64;omega
theorem Og {x y:Int} (h:kY x y) (hx:-9223372036854775808≤x∧x≤9223372036854775807) (hy:-9223372036854775808≤y∧y≤9223372036854775807):x=y:=by
 obtain ⟨q,h⟩:=h
 omega
theorem alw {x y:Int} (h:kY x y) (hy:-9223372036854775808≤y∧y≤9223372036854775807):wrap64 x=y:=Og (Cm (Gf x) h) (RL x) hy
/-- One row of a product, made by program. -/
def gy (f g : Nat → Nat → Int) (i : Nat) : Nat → Nat → Int
 | 0,_=>0
 | k+1,j=>if f i k=0 then gy f g i k j else wrap64 (gy f g i k j+wrap64 (f i k * g k j))
theorem Q8 (f g:Nat→Nat→Int) (i j:Nat) (m:Nat):kY (gy f g i m j) (au m (fun k=>f i k * g k j)):=by
 induction m with
 | zero=>exact Cl _
 | succ m ih =>
  unfold gy
  simp only [au]
  split
  ·case _ h=>rw [h];simpa using ih
  ·exact Cm (Gf _) (Of ih (Gf _))
def qU (f g:Nat→Nat→Int) (n i k j:Nat):Nat→Nat→Int:=fun r c=>if r < i then gy f g r n c else if r=i then (if c < j then gy f g i (k+1) c else gy f g i k c) else 0
theorem akd (n : Nat) (hn : n ≤ 1048576) (f g : Nat → Nat → Int) (i k : Nat) (hi : i < n) (hk : k < n) (hf : f i k ≠ 0) (R : List (List Int))
  (next:Ev (fun q=>fy.l1 q (as7 n g) (as7 n (qU f g n i (k+1) 0)) i (as7 n f) n i (bO n (f i)) n ((k:Int)+1)) R) :
  ∀ (d j:Nat),n - j=d→j≤n→Ev (fun q=>fy.l2 q (as7 n g) (as7 n (qU f g n i k j)) i (f i k) (as7 n f) n i (bO n (f i)) n k (bO n (g k)) n j) R:=by
 intro d
 induction d with
 | zero =>
  intro j hd hj
  obtain rfl:j=n:=by omega
  refine Ev.step (fun q=>by simp only [fy.l2];rfl) ?_
  simp only [Int.lt_irrefl,if_false,wI ((k:Int)+1) (by omega)]
  refine Ev.congr (fun q=>?_) next
  congr 1
  refine kM fun r c hr hc=>?_
  unfold qU
  by_cases h1:r < i
  ·rw [if_pos h1,if_pos h1]
  ·rw [if_neg h1, if_neg h1]
   by_cases h2:r=i
   ·rw [if_pos h2,if_pos h2,if_pos hc,if_neg (by omega)]
   ·rw [if_neg h2,if_neg h2]
 | succ d ih =>
  intro j hd hj
  have hjn:j < n:=by omega
  refine Ev.step (fun q=>by simp only [fy.l2];rfl) ?_
  simp only [lI j n (by omega),cv j,cv i,lI i n (by omega),if_true,ato,eM,iH hi,gz hjn,Int.toNat_natCast,wI ((j:Int)+1) (by omega)]
  rw [yo,Fb]
  refine Ev.congr (fun q=>?_) (ih (j+1) (by omega) (by omega))
  rw [show ((j+1:Nat):Int)=(j:Int)+1 by omega]
  congr 1
  refine kM fun r c hr hc=>?_
  have hij:qU f g n i k j i j=gy f g i k j:=by
   unfold qU;rw [if_neg (by omega),if_pos rfl,if_neg (by omega)]
  by_cases h2:r=i
  ·subst h2
   rw [if_pos rfl]
   by_cases h3:c=j
   ·subst h3
    rw [if_pos rfl,hij]
    simp only [qU,Nat.lt_irrefl,if_false,if_true,show c < c+1 by omega]
    show _=(if f r k=0 then _ else _)
    rw [if_neg hf]
   ·rw [if_neg h3]
    simp only [qU,Nat.lt_irrefl,if_false,if_true]
    by_cases h4:c < j
    ·rw [if_pos h4,if_pos (by omega)]
    ·rw [if_neg h4,if_neg (by omega)]
  ·rw [if_neg h2]
   unfold qU
   by_cases h1:r < i
   ·rw [if_pos h1,if_pos h1]
   ·rw [if_neg h1,if_neg h1,if_neg h2,if_neg h2]
theorem akc (n : Nat) (hn : n ≤ 1048576) (f g : Nat → Nat → Int) (i : Nat) (hi : i < n) (R : List (List Int))
  (next:Ev (fun q=>fy.l0 q (as7 n g) (as7 n (qU f g n (i+1) 0 0)) (as7 n f) n ((i:Int)+1)) R) :
  ∀ (d k:Nat),n - k=d→k≤n→Ev (fun q=>fy.l1 q (as7 n g) (as7 n (qU f g n i k 0)) i (as7 n f) n i (bO n (f i)) n k) R:=by
 intro d
 induction d with
 | zero =>
  intro k hd hk
  obtain rfl:k=n:=by omega
  refine Ev.step (fun q=>by simp only [fy.l1];rfl) ?_
  simp only [Int.lt_irrefl,if_false,wI ((i:Int)+1) (by omega)]
  refine Ev.congr (fun q=>?_) next
  congr 1
  refine kM fun r c hr hc=>?_
  unfold qU
  by_cases h1:r < i
  ·rw [if_pos h1,if_pos (by omega)]
  ·rw [if_neg h1]
   by_cases h2:r=i
   ·subst h2;rw [if_pos rfl,if_neg (by omega),if_pos (by omega)]
   ·rw [if_neg h2, if_neg (by omega)]
    by_cases h3:r=i+1
    ·rw [if_pos h3,if_neg (by omega)];rfl
    ·rw [if_neg h3]
 | succ d ih =>
  intro k hd hk
  have hkn:k < n:=by omega
  refine Ev.step (fun q=>by simp only [fy.l1];rfl) ?_
  simp only [lI k n (by omega),cv k,if_true,ato,eM,gz hkn,iH hkn,wI ((k:Int)+1) (by omega)]
  have h:=ih (k+1) (by omega) (by omega)
  rw [show ((k+1:Nat):Int)=(k:Int)+1 by omega] at h
  by_cases hf:f i k=0
  ·simp only [hf, if_true]
   refine Ev.congr (fun q=>?_) h
   congr 1
   refine kM fun r c hr hc=>?_
   unfold qU
   by_cases h1:r < i
   ·rw [if_pos h1,if_pos h1]
   ·rw [if_neg h1, if_neg h1]
    by_cases h2:r=i
    ·rw [if_pos h2, if_pos h2, if_neg (by omega), if_neg (by omega)]
     show _=(if f i k=0 then _ else _)
     rw [if_pos hf]
    ·rw [if_neg h2,if_neg h2]
  ·simp only [hf, if_false]
   exact akd n hn f g i k hi hkn hf R h n 0 (by omega) (by omega)
theorem akb (n:Nat) (hn:n≤1048576) (f g:Nat→Nat→Int):∀ (d i:Nat),n - i=d→i≤n→Ev (fun q=>fy.l0 q (as7 n g) (as7 n (qU f g n i 0 0)) (as7 n f) n i) (as7 n (fun r c=>gy f g r n c)):=by
 intro d
 induction d with
 | zero =>
  intro i hd hi
  obtain rfl:i=n:=by omega
  refine Ev.step (fun q=>by simp only [fy.l0];rfl) ?_
  simp only [Int.lt_irrefl,if_false]
  rw [show as7 i (qU f g i i 0 0)=as7 i (fun r c=>gy f g r i c) from kM fun r c hr hc=>by unfold qU;rw [if_pos hr]]
  exact Ev.now _
 | succ d ih =>
  intro i hd hi
  have hin:i < n:=by omega
  refine Ev.step (fun q=>by simp only [fy.l0];rfl) ?_
  simp only [lI i n (by omega),cv i,if_true,eM,iH hin,ato]
  have h:=ih (i+1) (by omega) (by omega)
  rw [show ((i+1:Nat):Int)=(i:Int)+1 by omega] at h
  exact akc n hn f g i hin _ h n 0 (by omega) (by omega)
theorem Q6 (n:Nat) (hn:n≤1048576) (f g:Nat→Nat→Int):Ev (fun q=>fy.f q (as7 n f) (as7 n g)) (as7 n (fun r c=>gy f g r n c)):=by
 unfold fy.f
 simp only [eM]
 refine Ev.bind (Rf n hn) ?_
 rw [ZB]
 have h:=akb n hn f g n 0 (by omega) (by omega)
 refine Ev.congr (fun q=>?_) h
 congr 1
 refine kM fun r c hr hc=>?_
 unfold qU
 rw [if_neg (by omega)]
 split
 ·rw [if_neg (by omega)];rfl
 ·rfl
def xh (h : Nat → Nat → Int) : Nat → Int
 | 0=>0
 | i+1=>wrap64 (xh h i+h i i)
theorem Zm (h:Nat→Nat→Int) (m:Nat):kY (xh h m) (au m (fun i=>h i i)):=by
 induction m with
 | zero=>exact Cl _
 | succ m ih=>exact Cm (Gf _) (Of ih (Cl _))
theorem akM (n:Nat) (hn:n≤1048576) (h:Nat→Nat→Int):∀ (d i:Nat),n - i=d→i≤n→Ev (fun q=>auh.l0 q (xh h i) (as7 n h) n i) (xh h n):=by
 intro d
 induction d with
 | zero =>
  intro i hd hi
  obtain rfl:i=n:=by omega
  refine Ev.step (fun q=>by simp only [auh.l0];rfl) ?_
  simp only [Int.lt_irrefl,if_false]
  exact Ev.now _
 | succ d ih =>
  intro i hd hi
  have hin:i < n:=by omega
  refine Ev.step (fun q=>by simp only [auh.l0];rfl) ?_
  simp only [lI i n (by omega),cv i,if_true,eM,iH hin,ato,gz hin,wI ((i:Int)+1) (by omega)]
  have h:=ih (i+1) (by omega) (by omega)
  rw [show ((i+1:Nat):Int)=(i:Int)+1 by omega] at h
  exact h
theorem Zn (n:Nat) (hn:n≤1048576) (h:Nat→Nat→Int):Ev (fun q=>auh.f q (as7 n h)) (xh h n):=by
 unfold auh.f
 simp only [eM]
 exact akM n hn h n 0 (by omega) (by omega)
/-- A list without zeros at its end. -/
def eU (l : List Int) : Nat → List Int
 | 0=>[]
 | n+1=>if rd l n=0 then eU l n else l.take (n+1)
theorem Rl (l:List Int) (n:Nat):(eU l n).length≤n:=by
 induction n with
 | zero=>simp [eU]
 | succ n ih =>
  unfold eU;split
  ·omega
  ·rw [List.length_take];omega
theorem Lp (l:List Int) (n:Nat):∀ i:Nat,rd (eU l n) i=if i < n then rd l i else 0:=by
 induction n with
 | zero=>intro i;simp [eU,rd]
 | succ n ih =>
  intro i
  unfold eU
  split
  ·case _ h =>
   rw [ih]
   by_cases h1:i < n
   ·rw [if_pos h1,if_pos (by omega)]
   ·rw [if_neg h1]
    by_cases h2:i=n
    ·subst h2;rw [if_pos (by omega),h]
    ·rw [if_neg (by omega)]
  ·unfold rd
   simp only [Int.toNat_natCast,List.getD_eq_getElem?_getD,List.getElem?_take]
   split<;>simp_all
theorem akO (l:List Int) (hl:l.length≤1048576):∀ n,n≤l.length→Ev (fun q=>nv.l0 q (l.take n)) (eU l n):=by
 intro n
 induction n with
 | zero =>
  intro _
  refine Ev.step (fun q=>by simp only [nv.l0];rfl) ?_
  simp only [List.take_zero,List.length_nil,show ¬ (((0:Nat):Int) > 0) by omega,if_false,Oj [] (by simp),Option.bind_some,eU]
  exact Ev.now _
 | succ n ih =>
  intro hn
  refine Ev.step (fun q=>by simp only [nv.l0];rfl) ?_
  have hlen:((l.take (n+1)).length:Int)=(n:Int)+1:=by rw [List.length_take];omega
  have hr:rd (l.take (n+1)) n=rd l n:=by
   unfold rd
   simp only [Int.toNat_natCast,List.getD_eq_getElem?_getD,List.getElem?_take]
   rw [if_pos (by omega)]
  simp only [hlen,show (n:Int)+1 - 1=n by omega,wI ((n:Int)) (by omega),show (n:Int)+1 > 0 by omega,cv n,show (n:Int) < (n:Int)+1 by omega,show (n:Int)≤(n:Int)+1 by omega,if_true,hr,Int.toNat_natCast,List.take_take,show min n (n+1)=n by omega]
  rw [show eU l (n+1)=if rd l n=0 then eU l n else l.take (n+1) from rfl]
  by_cases h:rd l n=0
  ·simp only [h, if_true]
   exact ih (by omega)
  ·simp only [h, if_false, Oj (l.take (n + 1)) (by rw [List.length_take]; omega), Option.bind_some]
   exact Ev.now _
theorem Zp (l:List Int) (hl:l.length≤1048576):Ev (fun q=>nv.f q l) (eU l l.length):=by
 unfold nv.f
 have h:=akO l hl l.length (Nat.le_refl _)
 rw [List.take_length] at h
 exact h
/-- The rows with one number added in the diagonal. -/
def vY (h:Nat→Nat→Int) (c:Int) (i:Nat):Nat→Nat→Int:=fun r q=>if r=q∧r < i then wrap64 (h r q+c) else h r q
theorem UY (c:Nat→Int) (n i:Nat) (h:i < n):rd ((List.range n).map c) i=c i:=by
 rw [pS _ _ (by simpa using h)];simp
theorem afb (n : Nat) (hn : n ≤ 1048576) (A h : Nat → Nat → Int) (c : Nat → Int) (m : Nat) (hm : m < n) (R : List Int)
  (next:Ev (fun k=>(fy.f k (as7 n A) (as7 n (vY h (c m) n))).bind fun t119=>((auh.f k t119).bind fun t122=>(if ((m+1:Nat):Int)=0 then (none) else (if ((List.range (m+1)).map c).length < 17592186044416 then (gv.l0 k (as7 n A) ((List.range (m+1)).map c ++ [wrap64 (Int.tdiv (wrap64 (-t122)) ((m+1:Nat):Int))]) (as7 n (vY h (c m) n)) (wrap64 (((m+1:Nat):Int)+1))) else (none))))) R) :
  ∀ (d i:Nat),n - i=d→i≤n→Ev (fun k=>gv.l1 k (as7 n A) ((List.range (m+1)).map c) (as7 n (vY h (c m) i)) ((m+1:Nat):Int) n i) R:=by
 intro d
 induction d with
 | zero =>
  intro i hd hi
  obtain rfl:i=n:=by omega
  refine Ev.step (fun q=>by simp only [gv.l1];rfl) ?_
  simp only [Int.lt_irrefl,if_false]
  exact next
 | succ d ih =>
  intro i hd hi
  have hin:i < n:=by omega
  refine Ev.step (fun q=>by simp only [gv.l1];rfl) ?_
  simp only [lI i n (by omega),cv i,if_true,eM,iH hin,ato,gz hin,Int.toNat_natCast,show ((m+1:Nat):Int) - 1=(m:Int) by omega,wI ((m:Int)) (by omega),cv m,List.length_map,List.length_range,show (m:Int) < ((m+1:Nat):Int) by omega,UY c (m+1) m (by omega),wI ((i:Int)+1) (by omega)]
  rw [yo,Fb]
  refine Ev.congr (fun q=>?_) (ih (i+1) (by omega) (by omega))
  rw [show ((i+1:Nat):Int)=(i:Int)+1 by omega]
  congr 1
  refine kM fun r q hr hq=>?_
  unfold vY
  by_cases h1:r=i
  ·subst h1
   rw [if_pos rfl]
   by_cases h2:q=r
   ·subst h2
    rw [if_pos rfl,if_neg (by omega),if_pos ⟨rfl,by omega⟩]
   ·rw [if_neg h2,if_neg (fun e=>h2 e.1.symm),if_neg (fun e=>h2 e.1.symm)]
  ·rw [if_neg h1]
   by_cases h2:r=q∧r < i
   ·rw [if_pos h2,if_pos ⟨h2.1,by omega⟩]
   ·rw [if_neg h2,if_neg (fun e=>h2 ⟨e.1,by omega⟩)]
/-- The numbers of a determinant, as a list. -/
def tu (n:Nat) (A:Nat→Nat→Int):List Int:=(List.range (n+1)).map (aM n A)
theorem UW (n:Nat) (A:Nat→Nat→Int):(tu n A).length=n+1:=by simp [tu]
theorem afa (n : Nat) (hn : n ≤ 1048575) (A : Nat → Nat → Int) (hb : ∀ k : Nat, 1 ≤ k → k ≤ n → -9223372036854775807 ≤ (k : Int) * aM n A k ∧ (k : Int) * aM n A k ≤ 9223372036854775807) :
  ∀ (d m : Nat), n - m = d → m ≤ n → ∀ h : Nat → Nat → Int, (∀ i j, i < n → j < n → kY (h i j) (ld n A (aM n A) m i j)) →
   Ev (fun k=>gv.l0 k (as7 n A) ((List.range (m+1)).map (aM n A)) (as7 n h) ((m+1:Nat):Int)) (eU (tu n A) (n+1)):=by
 intro d
 induction d with
 | zero =>
  intro m hd hm h _
  obtain rfl:m=n:=by omega
  refine Ev.step (fun q=>by simp only [gv.l0];rfl) ?_
  simp only [eM,show ¬ (((m+1:Nat):Int)≤(m:Int)) by omega,if_false]
  refine Ev.bind (a:=eU (tu m A) (m+1)) ?_ (Ev.now _)
  have h:=Zp (tu m A) (by rw [UW];omega)
  rw [UW] at h
  exact h
 | succ d ih =>
  intro m hd hm h hcg
  have hmn:m < n:=by omega
  refine Ev.step (fun q=>by simp only [gv.l0];rfl) ?_
  simp only [eM,show (((m+1:Nat):Int)≤(n:Int)) by omega,if_true]
  refine Ev.bind (Q6 n (by omega) A h) ?_
  simp only [eM]
  have hg:∀ i j,i < n→j < n→kY (vY (fun r c=>gy A h r n c) (aM n A m) n i j) (ld n A (aM n A) (m+1) i j):=by
   intro i j hi hj
   have h1:kY (gy A h i n j) (au n (fun q=>A i q * ld n A (aM n A) m q j)):=Cm (Q8 A h i j n) (Oh (fun q hq=>UH (Cl _) (hcg q j hq hj)))
   show kY (vY _ _ n i j) (au n (fun q=>A i q * ld n A (aM n A) m q j)+(if i=j then aM n A m else 0))
   unfold vY
   by_cases e:i=j
   ·rw [if_pos ⟨e, hi⟩, if_pos e]
    exact Cm (Gf _) (Of h1 (Cl _))
   ·rw [if_neg (fun e2 => e e2.1), if_neg e]
    simpa using h1
  have h0:as7 n (fun r c=>gy A h r n c)=as7 n (vY (fun r c=>gy A h r n c) (aM n A m) 0):=kM fun r c _ _=>by
   unfold vY;rw [if_neg (by omega)]
  rw [h0]
  refine afb n (by omega) A _ (aM n A) m hmn _ ?_ n 0 (by omega) (by omega)
  refine Ev.bind (Q6 n (by omega) A _) ?_
  refine Ev.bind (Zn n (by omega) _) ?_
  have hfl:=Yq n A m hmn
  have Wa:=hb (m+1) (by omega) (by omega)
  have htr:kY (-(xh (fun r c=>gy A (vY (fun r c=>gy A h r n c) (aM n A m) n) r n c) n)) (((m+1:Nat):Int) * aM n A (m+1)):=by
   rw [hfl]
   refine aeS (Cm (Zm _ n) (Oh (fun i hi=>Cm (Q8 _ _ i i n) (Oh (fun j hj=>UH (Cl _) (hg j i hj hi))))))
  have hw:wrap64 (-(xh (fun r c=>gy A (vY (fun r c=>gy A h r n c) (aM n A m) n) r n c) n))=((m+1:Nat):Int) * aM n A (m+1):=alw htr ⟨by omega,by omega⟩
  have hdiv:Int.tdiv (((m+1:Nat):Int) * aM n A (m+1)) ((m+1:Nat):Int)=aM n A (m+1):=Int.mul_tdiv_cancel_left _ (by omega)
  have hsmall:-9223372036854775808≤aM n A (m+1)∧aM n A (m+1)≤9223372036854775807:=by
   have h1:(1:Int)≤((m+1:Nat):Int):=by omega
   generalize ((m+1:Nat):Int)=t at h1 Wa
   generalize aM n A (m+1)=c at Wa
   constructor
   ·rcases Int.lt_or_le c 0 with hc | hc
    ·have : t * c ≤ 1 * c := Int.mul_le_mul_of_nonpos_right h1 (by omega)
     omega
    ·omega
   ·rcases Int.lt_or_le c 0 with hc | hc
    ·omega
    ·have : 1 * c ≤ t * c := Int.mul_le_mul_of_nonneg_right h1 hc
     omega
  simp only [show ¬ (((m+1:Nat):Int)=0) by omega,if_false,List.length_map,List.length_range,show m+1 < 17592186044416 by omega,if_true,hw,hdiv,fE hsmall.1 hsmall.2,fE (show -9223372036854775808≤((m+1:Nat):Int)+1 by omega) (by omega)]
  have hn2:=ih (m+1) (by omega) (by omega) _ hg
  refine Ev.congr (fun q=>?_) hn2
  rw [show (List.range (m+1+1)).map (aM n A)=(List.range (m+1)).map (aM n A) ++ [aM n A (m+1)] by rw [List.range_succ,List.map_append];rfl]
  rw [show ((m+1+1:Nat):Int)=((m+1:Nat):Int)+1 by omega]
theorem ae_ (n : Nat) (hn : n ≤ 1048575) (A : Nat → Nat → Int) (hb : ∀ k : Nat, 1 ≤ k → k ≤ n → -9223372036854775807 ≤ (k : Int) * aM n A k ∧ (k : Int) * aM n A k ≤ 9223372036854775807) :
  Ev (fun k=>gv.f k (as7 n A)) (eU (tu n A) (n+1)):=by
 unfold gv.f
 simp only [eM]
 refine Ev.bind (Rf n (by omega)) ?_
 rw [ZB]
 have h:=afa n hn A hb n 0 (by omega) (by omega) (fun _ _=>0) (fun i j _ _=>Cl _)
 refine Ev.congr (fun q=>?_) h
 rw [show (List.range (0+1)).map (aM n A)=[1] by simp [List.range_succ,KN]]
 rfl
theorem Iv (n:Nat) (g:Nat→Int):bO n g ++ [g n]=bO (n+1) g:=by
 unfold bO;rw [List.range_succ,List.map_append];rfl
theorem Zf (l:List Int) (h:l.length≤1048576):rT.f l=some l:=by
 unfold rT.f
 simp only [Option.bind_some,List.length_nil,List.nil_append,show 0+l.length < 17592186044416 by omega,if_true]
theorem aif (l:List Int) (hl:l.length≤1048576):∀ n:Nat,n≤l.length→Ev (fun q=>qt.l0 q l n) (eU l n):=by
 intro n
 induction n with
 | zero =>
  intro _
  refine Ev.step (fun q=>by simp only [qt.l0];rfl) ?_
  simp only [show ¬ (((0:Nat):Int) > 0) by omega,if_false,show (0:Int)≤((0:Nat):Int) by omega,show ((0:Nat):Int)≤(l.length:Int) by omega,if_true,Int.toNat_natCast,List.take_zero,Zf [] (by simp),Option.bind_some,eU]
  exact Ev.now _
 | succ n ih =>
  intro hn
  refine Ev.step (fun q=>by simp only [qt.l0];rfl) ?_
  simp only [show ((n+1:Nat):Int) > 0 by omega,show ((n+1:Nat):Int) - 1=n by omega,wI ((n:Int)) (by omega),cv n,show (n:Int) < (l.length:Int) by omega,show (0:Int)≤((n+1:Nat):Int) by omega,show ((n+1:Nat):Int)≤(l.length:Int) by omega,if_true,Int.toNat_natCast]
  rw [show eU l (n+1)=if rd l n=0 then eU l n else l.take (n+1) from rfl]
  by_cases h:rd l n=0
  ·simp only [h, if_true]
   exact ih (by omega)
  ·simp only [h, if_false, Zf (l.take (n + 1)) (by rw [List.length_take]; omega), Option.bind_some]
   exact Ev.now _
theorem aie (l:List Int) (hl:l.length≤1048576):Ev (fun q=>qt.f q l) (eU l l.length):=aif l hl l.length (Nat.le_refl _)
def th (r:Nat) (A:Nat→Nat→Int) (m:Nat) (j:Nat):Int:=au j (fun l=>jJ r A (m - l) * aM r A l)
/-- The edge matrix, by its places. -/
def eA (l:List (List Int)) (e f:Nat):Int:=if next l e f=true then 1 else 0
theorem Ot (l:List (List Int)):qJ l=as7 (2 * l.length) (eA l):=by
 unfold qJ as7
 apply List.map_congr_left
 intro e _
 unfold mj bO
 apply List.map_congr_left
 intro f hf
 have hf':f < 2 * l.length:=List.mem_range.mp hf
 unfold eA
 simp [hf']
theorem ajv {n:Nat} {l:List (List Int)} (hl:n=2 * l.length) {e:Nat} (he:e < n):jk e < n:=by unfold jk;split<;>omega
theorem adi (l:List (List Int)) (e:Nat):qB l (jk e)=jV l e:=by
 unfold qB jV jk
 rcases Nat.mod_two_eq_zero_or_one e with h|h
 ·rw [if_pos h,show (e+1) / 2=e / 2 by omega,show (e+1) % 2=1 - e % 2 by omega]
 ·rw [if_neg (by omega),show (e - 1) / 2=e / 2 by omega,show (e - 1) % 2=1 - e % 2 by omega]
theorem Oq (l:List (List Int)) (e f:Nat):eA l e f=(if qB l f=jV l e then 1 else 0) - as_ (jk e) f:=by
 unfold eA next as_
 by_cases h1:f=jk e
 ·subst h1
  rw [adi];simp
 ·by_cases h2 : qB l f = jV l e
  ·simp [h1,h2]
  ·simp [h1,h2,Ne.symm h2]
theorem acW (l:List (List Int)) (e f:Nat):cZ (eA l e f)=eA l e f:=by unfold eA;split<;>rfl
theorem J1 (j b:Nat):0≤as_ j b:=by unfold as_;split<;>omega
theorem Ij (n j:Nat):au n (as_ j)≤1:=by
 by_cases h:j < n
 ·rw [zh j h (fun i _ hne=>nh hne),uP];omega
 ·rw [mb (fun i hi=>nh (by omega))];omega
theorem aki {n:Nat} {f:Nat→Int} (h0:∀ a,a < n→0≤f a) (h1:∀ a,a < n→f a≤1) (h:∀ a b,a < b→b < n→f a=0∨f b=0):au n f≤1:=by
 induction n with
 | zero=>simp [au]
 | succ n ih =>
  simp only [au]
  by_cases e:f n=0
  ·have:=ih (fun a ha=>h0 a (by omega)) (fun a ha=>h1 a (by omega)) (fun a b ha hb=>h a b ha (by omega));omega
  ·rw [mb (fun i hi => (h i n hi (by omega)).resolve_right e)]
   have:=h1 n (by omega);omega
theorem ajK (p:Nat→Prop) [DecidablePred p] (n:Nat):∃ c:Nat,(c:Int)=au n (fun a=>if p a then 1 else 0)∧gM n (fun a=>if p a then 20 else 4)=4 ^ n * 5 ^ c:=by
 induction n with
 | zero=>exact ⟨0,rfl,rfl⟩
 | succ n ih =>
  obtain ⟨c,h1,h2⟩:=ih
  by_cases h:p n
  ·refine ⟨c + 1, ?_, ?_⟩
   ·simp only [au,if_pos h];omega
   ·simp only [gM,if_pos h,h2,Int.pow_succ];grind
  ·refine ⟨c, ?_, ?_⟩
   ·simp only [au,if_neg h];omega
   ·simp only [gM,if_neg h,h2,Int.pow_succ];grind
def qd (l:List (List Int)) (a:Nat):Prop:=∀ e,e < a→jV l e ≠ jV l a
instance (l:List (List Int)):DecidablePred (qd l):=fun _=>inferInstanceAs (Decidable (∀ e,e < _→_))
theorem aj3 (l:List (List Int)) (a:Nat):∃ r,(qd l a→r=a)∧(¬ qd l a→r < a∧qd l r∧jV l r=jV l a):=by
 induction a using Nat.strongRecOn with
 | _ a ih =>
  by_cases h:qd l a
  ·exact ⟨a,fun _=>rfl,fun h2=>absurd h h2⟩
  ·have:∃ e,e < a∧jV l e=jV l a:=by
    apply Classical.byContradiction
    intro hc
    exact h (fun e he h2=>hc ⟨e,he,h2⟩)
   obtain ⟨e,he,h2⟩:=this
   obtain ⟨r,gl,atQ⟩:=ih e he
   by_cases h3:qd l e
   ·exact ⟨e,fun h4=>absurd h4 h,fun _=>⟨he,h3,h2⟩⟩
   ·obtain ⟨g1, g2, g3⟩ := atQ h3
    exact ⟨r,fun h4=>absurd h4 h,fun _=>⟨by omega,g2,g3.trans h2⟩⟩
theorem afs (l : List (List Int)) (hl : l.length ≤ 10) (hE : ∀ e, e < 2 * l.length → ∃ v : Nat, jV l e = v ∧ v < 8) (k : Nat) (hk : k ≤ 2 * l.length) :
  cZ (aM (2 * l.length) (eA l) k)≤429496729600000000:=by
 obtain ⟨rep,nH⟩:=Classical.axiomOfChoice (aj3 l)
 generalize hn:2 * l.length=n at hE hk ⊢
 have ag_:n≤20:=by omega
 let x:Nat→Int:=fun a=>if qd l a then 0 else -1
 let P:Nat→Nat→Int:=fun a b=>as_ a b+x a * as_ (rep a) b
 let Q:Nat→Nat→Int:=fun a b=>fB (eA l) a b+x a * fB (eA l) (rep a) b
 have hdc:∀ k,k≤n→aM n (eA l) k=dz n P Q k:=by
  intro k hk
  refine EW (n:=n) (fun u _=>?_) k hk
  show atr n (dz n (fun a b=>as_ a b) (fB (eA l))) u=_
  rw [← zg,← zg,← aiO (fun a b=>as_ a b+u * fB (eA l) a b) rep x (fun a ha hx=>?_)]
  ·refine at' (fun a b _ _ => ?_)
   show _=(as_ a b+x a * as_ (rep a) b)+u * (fB (eA l) a b+x a * fB (eA l) (rep a) b)
   grind
  ·have h1 : ¬ qd l a := fun h => hx (if_pos h)
   obtain ⟨g1,g2,g3⟩:=(nH a).2 h1
   exact ⟨by omega,by omega,if_pos g2⟩
 have hrow:∀ a,a < n→au n (fun b=>cZ (P a b)+cZ (Q a b))≤if qd l a then 20 else 4:=by
  intro a ha
  by_cases h:qd l a
  ·rw [if_pos h]
   have e:au n (fun b=>cZ (P a b)+cZ (Q a b))=au n (as_ a)+au n (fun b=>eA l a b):=by
    rw [← qP]
    refine cN (fun b _=>?_)
    have hx:x a=0:=if_pos h
    show cZ (as_ a b+x a * as_ (rep a) b)+cZ (fB (eA l) a b+x a * fB (eA l) (rep a) b)=_
    rw [hx,Int.zero_mul,Int.zero_mul,Int.add_zero,Int.add_zero]
    congr 1
    ·unfold as_ cZ;split<;>rfl
    ·unfold fB
     rw [← acW]
     unfold cZ;omega
   rw [e]
   have h1:=Ij n a
   have h2:au n (fun b=>eA l a b)≤au n (fun b=>1 - as_ (jk a) b):=avf (fun b _=>by
    rw [Oq];split<;>omega)
   rw [Qb,zh (n:=n) (f:=as_ (jk a)) (jk a) (ajv hn.symm ha) (fun i _ hne=>nh hne),uP] at h2
   have h3:∀ m:Nat,au m (fun _=>(1:Int))=m:=by
    intro m
    induction m with
    | zero=>rfl
    | succ m ih=>simp only [au,ih];omega
   rw [h3] at h2
   omega
  ·rw [if_neg h]
   obtain ⟨g1,g2,g3⟩:=(nH a).2 h
   have hx:x a=-1:=if_neg h
   have e:au n (fun b=>cZ (P a b)+cZ (Q a b))≤au n (fun b=>(as_ a b+as_ (rep a) b)+(as_ (jk a) b+as_ (jk (rep a)) b)):=by
    refine avf (fun b _=>?_)
    show cZ (as_ a b+x a * as_ (rep a) b)+cZ (fB (eA l) a b+x a * fB (eA l) (rep a) b)≤_
    rw [hx]
    unfold fB
    rw [Oq,Oq,g3]
    have:=J1 a b
    have:=J1 (rep a) b
    have:=J1 (jk a) b
    have:=J1 (jk (rep a)) b
    generalize as_ a b=e1 at *
    generalize as_ (rep a) b=e2 at *
    generalize as_ (jk a) b=e3 at *
    generalize as_ (jk (rep a)) b=e4 at *
    generalize (if qB l b=jV l a then (1:Int) else 0)=z
    unfold cZ
    omega
   rw [qP n (fun b=>as_ a b+as_ (rep a) b) (fun b=>as_ (jk a) b+as_ (jk (rep a)) b),qP n (as_ a) (as_ (rep a)),qP n (as_ (jk a)) (as_ (jk (rep a)))] at e
   have:=Ij n a
   have:=Ij n (rep a)
   have:=Ij n (jk a)
   have:=Ij n (jk (rep a))
   omega
 obtain ⟨c,iQ,at4⟩:=ajK (qd l) n
 have hc8:c≤8:=by
  have h1:au n (fun a=>if qd l a then (1:Int) else 0)=au n (fun a=>au 8 (fun v=>if qd l a∧jV l a=(v:Int) then 1 else 0)):=by
   refine cN (fun a ha=>?_)
   obtain ⟨v,PG,hv2⟩:=hE a ha
   rw [zh v hv2 (fun i _ hne=>if_neg (fun h2=>hne (by have:=h2.2;omega)))]
   by_cases h:qd l a
   ·rw [if_pos h,if_pos ⟨h,PG⟩]
   ·rw [if_neg h,if_neg (fun h2=>h h2.1)]
  rw [yf] at h1
  have h2:au 8 (fun v=>au n (fun a=>if qd l a∧jV l a=(v:Int) then (1:Int) else 0))≤au 8 (fun _=>1):=avf (fun v _=>aki (fun a _=>by split<;>omega) (fun a _=>by split<;>omega) (fun a b hab hb=>by
   by_cases h:qd l b∧jV l b=(v:Int)
   ·left
    rw [if_neg]
    rintro ⟨h3,h4⟩
    exact h.1 a hab (h4.trans h.2.symm)
   ·right;exact if_neg h))
  have h3:au 8 (fun _=>(1:Int))=8:=rfl
  omega
 have hb:=aiC (n:=n) P Q
 have h1:=aiw (n:=n+1) (dz n P Q) k (by omega)
 have h2:gM n (fun a=>au n (fun b=>cZ (P a b)+cZ (Q a b)))≤gM n (fun a=>if qd l a then 20 else 4) :=
  Yy (fun a _=>YB (fun b _=>by have:=zf (P a b);have:=zf (Q a b);omega)) hrow
 rw [at4] at h2
 have h4:(4:Int) ^ n * 5 ^ c≤4 ^ 20 * 5 ^ 8:=by
  have p4:(4:Int) ^ n≤4 ^ 20:=by
   have:=Nat.pow_le_pow_right (n:=4) (by omega) ag_
   exact_mod_cast this
  have p5:(5:Int) ^ c≤5 ^ 8:=by
   have:=Nat.pow_le_pow_right (n:=5) (by omega) hc8
   exact_mod_cast this
  have q5:(0:Int)≤5 ^ c:=by
   have:(0:Nat)≤5 ^ c:=Nat.zero_le _
   exact_mod_cast this
  exact Int.mul_le_mul p4 p5 q5 (by decide)
 rw [hdc k hk]
 have h5:(4:Int) ^ 20 * 5 ^ 8=429496729600000000:=by decide
 omega
theorem ah2 {a:Int} {l:List (List Int)} (h:atJ a l=true) (e:Nat) (he:e < 2 * l.length):∃ v:Nat,jV l e=v∧v < 8:=by
 obtain ⟨n,_,_,hn8,hE⟩:=ah3 h
 obtain ⟨u,v,_,hv,_,PK⟩:=ae8 hE e he
 exact ⟨v,hv,by omega⟩
theorem ahZ {a:Int} {l:List (List Int)} (h:atJ a l=true) (k:Nat) (hk:k≤2 * l.length):-429496729600000000≤aM (2 * l.length) (eA l) k∧aM (2 * l.length) (eA l) k≤429496729600000000:=by
 have:=afs l (nI h) (ah2 h) k hk
 unfold cZ at this
 omega
theorem ah0 {a:Int} {l:List (List Int)} (h:atJ a l=true) (k:Nat) (_:1≤k) (hk:k≤2 * l.length):-9223372036854775807≤(k:Int) * aM (2 * l.length) (eA l) k∧(k:Int) * aM (2 * l.length) (eA l) k≤9223372036854775807:=by
 have h1:=ahZ h k hk
 have hl:=nI h
 have aqn:(k:Int)≤20:=by omega
 generalize aM (2 * l.length) (eA l) k=c at h1
 have h2:(k:Int) * c≤k * 429496729600000000:=Int.mul_le_mul_of_nonneg_left h1.2 (by omega)
 have h3:(k:Int) * (-429496729600000000)≤k * c:=Int.mul_le_mul_of_nonneg_left h1.1 (by omega)
 omega
theorem ajT (a:Int) (l:List (List Int)) (h:atJ a l=true):Ev (fun k=>BI.f k a l) (eU (tu (2 * l.length) (eA l)) (2 * l.length+1)):=by
 have hl:=nI h
 unfold BI.f
 refine Ev.bind (U3 a l hl (avL h)) ?_
 rw [Ot]
 exact Ev.bind (ae_ (2 * l.length) (by omega) (eA l) (ah0 h)) (Ev.now _)
theorem oR {x p:Int} (h:0≤x):Int.tmod x p=x % p:=Int.tmod_eq_emod_of_nonneg h
theorem Qc {p x:Int} (hp:0 < p) (cz:p≤1000000):Int.tmod (wrap64 (Int.tmod x p+p)) p=x % p:=by
 have hb:-p < Int.tmod x p∧Int.tmod x p < p:=by
  rcases Int.le_total 0 x with h|h
  ·rw [oR h]
   have:=Int.emod_nonneg x (show p ≠ 0 by omega)
   have:=Int.emod_lt_of_pos x hp
   omega
  ·have e:Int.tmod x p=-((-x) % p):=by
    rw [← oR (show 0≤-x by omega),Int.neg_tmod];omega
   have:=Int.emod_nonneg (-x) (show p ≠ 0 by omega)
   have:=Int.emod_lt_of_pos (-x) hp
   omega
 rw [fE (by omega) (by omega),oR (by omega)]
 have hd:x=p * Int.tdiv x p+Int.tmod x p:=(Int.mul_tdiv_add_tmod x p).symm
 have:x % p=Int.tmod x p % p:=by
  conv=>lhs;rw [hd]
  rw [Int.add_comm,Int.add_mul_emod_self_left]
 rw [this,Int.add_emod_right]
theorem K1 {p x:Int} (hp:0 < p) (cz:p≤1000000):nZ.f x p=some (x % p):=by
 unfold nZ.f
 rw [if_neg (by omega),Qc hp cz]
/-- Is a number a prime. -/
def ni (p:Nat):Bool:=decide (∀ e,e < p→2≤e→e * e≤p→p % e ≠ 0)
theorem YX {p d:Nat} (hd:2≤d) (h:d * d≤p) (h0:p % d=0):ni p=false:=by
 unfold ni
 rw [decide_eq_false_iff_not]
 intro hc
 have:d < p:=by
  have:d * 2≤d * d:=Nat.mul_le_mul_left d hd
  omega
 exact hc d this hd h h0
theorem K8 {p d:Nat} (h:p < d * d) (hl:∀ e,2≤e→e < d→e * e≤p→p % e ≠ 0):ni p=true:=by
 unfold ni
 rw [decide_eq_true_iff]
 intro e _ h2 h3
 refine hl e h2 ?_ h3
 apply Classical.byContradiction
 intro hc
 have:d * d≤e * e:=Nat.mul_le_mul (by omega) (by omega)
 omega
theorem Zl (p d:Nat):Int.tmod (p:Int) (d:Int)=((p % d:Nat):Int):=rfl
theorem ah4 (p:Nat) (hp:p≤10007):∀ (m d:Nat),p+1 - d=m→2≤d→d≤p+1→(∀ e,2≤e→e < d→e * e≤p→p % e ≠ 0)→Ev (fun k=>mC.l0 k p d) (ni p):=by
 intro m
 induction m with
 | zero =>
  intro d hm hd Pj hl
  have hdd:p < d * d:=by
   obtain rfl:d=p+1:=by omega
   have:(p+1) * 1≤(p+1) * (p+1):=Nat.mul_le_mul_left _ (by omega)
   omega
  have hs:d * d≤10008 * 10008:=Nat.mul_le_mul (by omega) (by omega)
  refine Ev.step (fun q=>by simp only [mC.l0];rfl) ?_
  rw [K8 hdd hl]
  simp only [show ((d:Int) * (d:Int))=((d * d:Nat):Int) by simp,fE (show -9223372036854775808≤((d * d:Nat):Int) by omega) (by omega),show ¬ (((d * d:Nat):Int)≤(p:Int)) by omega,if_false]
  exact Ev.now _
 | succ m ih =>
  intro d hm hd Pj hl
  have hs:d * d≤10008 * 10008:=Nat.mul_le_mul (by omega) (by omega)
  refine Ev.step (fun q=>by simp only [mC.l0];rfl) ?_
  simp only [show ((d:Int) * (d:Int))=((d * d:Nat):Int) by simp,fE (show -9223372036854775808≤((d * d:Nat):Int) by omega) (by omega)]
  by_cases h:d * d≤p
  ·simp only [show (((d * d : Nat) : Int) ≤ (p : Int)) by omega, if_true, show ¬ ((d : Int) = 0) by omega, if_false, Zl]
   by_cases h0:p % d=0
   ·simp only [h0, show (((0 : Nat) : Int) = 0) by rfl, if_true, YX hd h h0]
    exact Ev.now _
   ·simp only [show ¬ (((p % d : Nat) : Int) = 0) by omega, if_false, wI ((d : Int) + 1) (by omega)]
    exact ih (d+1) (by omega) (by omega) (by omega) (fun e h1 h2 h3=>by
     by_cases he:e=d
     ·subst he;exact h0
     ·exact hl e h1 (by omega) h3)
  ·rw [K8 (by omega) hl]
   simp only [show ¬ (((d * d:Nat):Int)≤(p:Int)) by omega,if_false]
   exact Ev.now _
/-- Is p a prime of 2..hi. -/
def qT (hi p:Int):Bool:=decide (2≤p) && decide (p≤hi) && ni p.toNat
theorem KJ (p:Int):Ev (fun k=>mC.f k p) (qT 10007 p):=by
 unfold mC.f qT
 simp only [IC,Option.bind_some]
 by_cases h:(decide (2≤p) && decide (p≤10007))=true
 ·simp only [h, if_true, Bool.true_and]
  simp only [Bool.and_eq_true,decide_eq_true_eq] at h
  obtain ⟨q,rfl⟩:∃ q:Nat,p=q:=⟨p.toNat,by omega⟩
  rw [Int.toNat_natCast]
  exact ah4 q (by omega) (q - 1) 2 (by omega) (by omega) (by omega) (fun e h1 h2 _=>by omega)
 ·simp only [Bool.not_eq_true] at h
  simp only [h,Bool.false_eq_true,if_false,Bool.false_and]
  exact Ev.now _
theorem rI {hi p:Int} (h:qT hi p=true):∃ q:Nat,p=q∧2≤q∧(q:Int)≤hi∧ni q=true:=by
 unfold qT at h
 simp only [Bool.and_eq_true,decide_eq_true_eq] at h
 exact ⟨p.toNat,by omega,by omega,by omega,h.2⟩
theorem ajH {p:Nat} (h:ni p=true) (d:Nat) (h2:2≤d) (hd:d < p):p % d ≠ 0:=by
 unfold ni at h
 rw [decide_eq_true_iff] at h
 intro h0
 obtain ⟨e,he⟩:=Nat.dvd_of_mod_eq_zero h0
 by_cases hs:d * d≤p
 ·exact h d hd h2 hs h0
 ·have hed:e < d:=by
   apply Classical.byContradiction
   intro hc
   have:d * d≤d * e:=Nat.mul_le_mul_left d (by omega)
   omega
  have he2:2≤e:=by
   apply Classical.byContradiction
   intro hc
   have:e=0∨e=1:=by omega
   rcases this with rfl|rfl
   ·omega
   ·omega
  have hee:e * e≤p:=by
   have:e * e≤d * e:=Nat.mul_le_mul_right e (by omega)
   omega
  exact h e (by omega) he2 hee (by rw [he,Nat.mul_mod_left])
/-- Numbers modulo a prime have inverses. -/
theorem Yg {p:Nat} (hp:ni p=true) (cz:2≤p) (x:Nat):0 < x→x < p→∃ k:Int,(p:Int) ∣ k * x - 1:=by
 induction x using Nat.strongRecOn with
 | _ x ih =>
  intro h0 hx
  by_cases h1:x=1
  ·subst h1;exact ⟨1,0,by omega⟩
  ·have hr := ajH hp x (by omega) hx
   have hrx:p % x < x:=Nat.mod_lt _ h0
   obtain ⟨k,c,hk⟩:=ih (p % x) hrx (by omega) (by omega)
   have hd:(p:Int)=x * ((p / x:Nat):Int)+((p % x:Nat):Int):=by
    have:=Nat.div_add_mod p x
    exact_mod_cast this.symm
   refine ⟨-(k * ((p / x:Nat):Int)),c - k,?_⟩
   generalize ((p / x:Nat):Int)=q at hd
   generalize ((p % x:Nat):Int)=r at hd hk
   grind
/-- n rows of m numbers, by their places. -/
def oT (n m:Nat) (f:Nat→Nat→Int):List (List Int):=(List.range n).map fun i=>bO m (f i)
theorem Lv (n m:Nat) (f:Nat→Nat→Int):(oT n m f).length=n:=by simp [oT]
theorem ZC {n m:Nat} {f h:Nat→Nat→Int} (e:∀ i j,i < n→j < m→f i j=h i j):oT n m f=oT n m h:=by
 unfold oT
 apply List.map_congr_left
 intro i hi
 exact nk fun j hj=>e i j (List.mem_range.mp hi) hj
theorem ZD {n m:Nat} (f:Nat→Nat→Int) (u:Nat) (g:Nat→Int):(oT n m f).set u (bO m g)=oT n m (fun i j=>if i=u then g j else f i j):=by
 apply List.ext_getElem
 ·rw [List.length_set,Lv,Lv]
 intro i h1 h2
 rw [List.getElem_set]
 simp only [oT,List.getElem_map,List.getElem_range]
 by_cases h:u=i
 ·subst h;simp
 ·rw [if_neg h];exact nk fun j _=>by rw [if_neg (fun e=>h e.symm)]
theorem ak8 (n m:Nat) (f:Nat→Nat→Int):oT n m f ++ [bO m (f n)]=oT (n+1) m f:=by
 unfold oT;rw [List.range_succ,List.map_append];rfl
theorem ZE (n:Nat) (f:Nat→Nat→Int):oT n n f=as7 n f:=rfl
theorem akv (n m:Nat) (f:Nat→Nat→Int) (i j:Nat) (hi:i < n) (hj:j < n):swp (oT n m f) i j=oT n m (fun r=>f (fq i j r)):=by
 have hg:∀ u,u < n→(oT n m f).getD u []=bO m (f u):=fun u hu=>by
  rw [List.getD_eq_getElem?_getD,List.getElem?_eq_getElem (by rw [Lv];exact hu)]
  simp [oT]
 unfold swp
 rw [Int.toNat_natCast,Int.toNat_natCast,hg i hi,hg j hj,ZD,ZD]
 refine ZC fun r c _ _=>?_
 unfold fq
 by_cases h1:r=j
 ·subst h1
  by_cases h2:r=i
  ·subst h2;simp
  ·simp [h2]
 ·by_cases h2 : r = i
  ·subst h2;simp [h1]
  ·simp [h1,h2]
theorem r8 (p x:Int):p ∣ x % p - x:=⟨-(x / p),by have:=Int.mul_ediv_add_emod x p;rw [Int.mul_neg];omega⟩
theorem U2 (p x:Int):p ∣ x - x % p:=⟨x / p,by have:=Int.mul_ediv_add_emod x p;omega⟩
theorem Gn {p a b c:Int} (h1:p ∣ a - b) (h2:p ∣ b - c):p ∣ a - c:=by
 have:=Int.dvd_add h1 h2
 rwa [show a - b+(b - c)=a - c by omega] at this
theorem Oo {p a b:Int} (x:Int) (h:p ∣ a - b):p ∣ x * a - x * b:=by
 obtain ⟨q,h⟩:=h
 exact ⟨x * q,by grind⟩
theorem afv {p a b:Int} (h:p ∣ a - b) (ha:0≤a∧a < p) (hb:0≤b∧b < p):a=b:=by
 obtain ⟨q,h⟩:=h
 have:q=0:=by
  rcases Int.lt_trichotomy q 0 with h1|h1|h1
  ·have : p * q ≤ p * (-1) := Int.mul_le_mul_of_nonneg_left (by omega) (by omega)
   omega
  ·exact h1
  ·have : p * 1 ≤ p * q := Int.mul_le_mul_of_nonneg_left (by omega) (by omega)
   omega
 subst this;omega
/-- How many ways to choose. -/
def dZ : Nat → Nat → Nat
 | _,0=>1
 | 0,_+1=>0
 | n+1,k+1=>dZ n k+dZ n (k+1)
theorem JU : ∀ n k, n < k → dZ n k = 0
 | 0,0,h=>by omega
 | 0,_+1,_=>rfl
 | _+1,0,h=>by omega
 | n+1,k+1,h=>by
  show dZ n k+dZ n (k+1)=0
  rw [JU n k (by omega),JU n (k+1) (by omega)]
theorem UI : ∀ n, dZ n n = 1
 | 0=>rfl
 | n+1=>by
  show dZ n n+dZ n (n+1)=1
  rw [UI n,JU n (n+1) (by omega)]
theorem Gg (n:Nat):dZ n 0=1:=by cases n<;>rfl
theorem JV : ∀ n k, (k + 1) * dZ (n + 1) (k + 1) = (n + 1) * dZ n k
 | 0,0=>rfl
 | 0,k+1=>by
  show (k+1+1) * (dZ 0 (k+1)+dZ 0 (k+1+1))=_
  simp [dZ]
 | n+1,0=>by
  have h:=JV n 0
  rw [Gg] at h
  show (0+1) * (dZ (n+1) 0+dZ (n+1) (0+1))=(n+1+1) * dZ (n+1) 0
  rw [Gg]
  omega
 | n+1,j+1=>by
  have h1:=JV n j
  have h2:=JV n (j+1)
  show (j+1+1) * (dZ (n+1) (j+1)+dZ (n+1) (j+1+1))=(n+1+1) * dZ (n+1) (j+1)
  rw [Nat.mul_add,h2,Nat.add_mul (j+1) 1,h1,Nat.add_mul (n+1) 1]
  have h3:dZ (n+1) (j+1)=dZ n j+dZ n (j+1):=rfl
  have h4:(n+1) * dZ (n+1) (j+1)=(n+1) * dZ n j+(n+1) * dZ n (j+1):=by rw [h3,Nat.mul_add]
  omega
theorem Uf (a : Int) : ∀ n : Nat, (a + 1) ^ n = au (n + 1) (fun k => (dZ n k : Int) * a ^ k)
 | 0=>by simp [au,dZ]
 | n+1=>by
  have ih:=Uf a n
  rw [Int.pow_succ,ih,Int.mul_add,Int.mul_one,zi (n+1)]
  have e1:au (n+1) (fun i=>(dZ (n+1) (i+1):Int) * a ^ (i+1))=au (n+1) (fun i=>(dZ n i:Int) * a ^ i) * a+au (n+1) (fun i=>(dZ n (i+1):Int) * a ^ (i+1)):=by
   rw [Int.mul_comm _ a,← atE,← qP]
   refine cN (fun i _=>?_)
   show ((dZ n i+dZ n (i+1):Nat):Int) * a ^ (i+1)=_
   rw [Int.natCast_add,Int.add_mul,Int.pow_succ]
   congr 1
   rw [Int.mul_comm (a ^ i) a,Int.mul_left_comm]
  have e2:au (n+1) (fun k=>(dZ n k:Int) * a ^ k)=(dZ n 0:Int) * a ^ 0+au (n+1) (fun i=>(dZ n (i+1):Int) * a ^ (i+1)):=by
   have h:=zi (n+1) (fun k=>(dZ n k:Int) * a ^ k)
   have h2:au (n+1+1) (fun k=>(dZ n k:Int) * a ^ k)=au (n+1) (fun k=>(dZ n k:Int) * a ^ k)+(dZ n (n+1):Int) * a ^ (n+1):=rfl
   rw [JU n (n+1) (by omega)] at h2
   rw [h2] at h
   simpa using h
  rw [e1]
  have e3:((dZ (n+1) 0:Nat):Int) * a ^ 0=(dZ n 0:Int) * a ^ 0:=by rw [Gg,Gg]
  rw [e3]
  omega
theorem aeT {p:Nat} (hp:ni p=true) (cz:2≤p) (k:Nat) (h0:0 < k) (hk:k < p):(p:Int) ∣ (dZ p k:Int):=by
 obtain ⟨c,hc⟩:=Yg hp cz k h0 hk
 obtain ⟨q,rfl⟩:∃ q,p=q+1:=⟨p - 1,by omega⟩
 obtain ⟨j,rfl⟩:∃ j,k=j+1:=⟨k - 1,by omega⟩
 have h:=JV q j
 have h2:((j+1:Nat):Int) * (dZ (q+1) (j+1):Int)=((q+1:Nat):Int) * (dZ q j:Int):=by rw [← Int.natCast_mul,h,Int.natCast_mul]
 obtain ⟨x,hx⟩:=hc
 refine ⟨c * (dZ q j:Int) - x * (dZ (q+1) (j+1):Int),?_⟩
 have e:(dZ (q+1) (j+1):Int)=c * ((j+1:Nat):Int) * (dZ (q+1) (j+1):Int) - ((q+1:Nat):Int) * x * (dZ (q+1) (j+1):Int):=by
  rw [← Int.sub_mul,← hx]
  rw [show c * ((j+1:Nat):Int) - (c * ((j+1:Nat):Int) - 1)=1 by omega,Int.one_mul]
 rw [Int.mul_assoc,h2] at e
 rw [Int.mul_sub,← Int.mul_assoc ((q+1:Nat):Int) x]
 rw [Int.mul_left_comm ((q+1:Nat):Int) c]
 exact e
theorem VA {p : Nat} (hp : ni p = true) (cz : 2 ≤ p) : ∀ a : Nat, (p : Int) ∣ (a : Int) ^ p - a
 | 0=>by
  obtain ⟨q,rfl⟩:∃ q,p=q+1:=⟨p - 1,by omega⟩
  rw [Int.pow_succ]
  exact ⟨0,by simp⟩
 | a+1=>by
  have ih:=VA hp cz a
  have h:=Uf (a:Int) p
  obtain ⟨q,rfl⟩:∃ q,p=q+1:=⟨p - 1,by omega⟩
  have h1:au (q+1+1) (fun k=>(dZ (q+1) k:Int) * (a:Int) ^ k)=au (q+1) (fun k=>(dZ (q+1) k:Int) * (a:Int) ^ k)+(dZ (q+1) (q+1):Int) * (a:Int) ^ (q+1):=rfl
  rw [h1,zi,UI,Gg] at h
  have h2:((q+1:Nat):Int) ∣ au q (fun i=>(dZ (q+1) (i+1):Int) * (a:Int) ^ (i+1)) - au q (fun _=>0) :=
   H8 (fun i hi=>by
    rw [Int.sub_zero]
    exact Int.dvd_trans (aeT hp cz (i+1) (by omega) (by omega)) ⟨(a:Int) ^ (i+1),rfl⟩)
  rw [mb (fun _ _=>rfl),Int.sub_zero] at h2
  have h3:=Int.dvd_add h2 ih
  rw [show ((a+1:Nat):Int)=(a:Int)+1 by omega,h]
  simp only [Int.pow_zero,Int.mul_one,Int.one_mul,Int.natCast_one]
  generalize au q (fun i=>(dZ (q+1) (i+1):Int) * (a:Int) ^ (i+1))=S at h3 ⊢
  generalize (a:Int) ^ (q+1)=P at h3 ⊢
  rw [show 1+S+P - ((a:Int)+1)=S+(P - a) by omega]
  exact h3
theorem afE {p:Nat} (hp:ni p=true) (cz:2≤p) (a:Nat) (h0:0 < a) (ha:a < p):(p:Int) ∣ (a:Int) * (a:Int) ^ (p - 2) - 1:=by
 have h:=VA hp cz a
 obtain ⟨k,hk⟩:=Yg hp cz a h0 ha
 obtain ⟨q,rfl⟩:∃ q,p=q+2:=⟨p - 2,by omega⟩
 rw [show q+2 - 2=q by omega]
 rw [Int.pow_succ,Int.pow_succ,show (a:Int) ^ q * a * a=a * ((a:Int) * (a:Int) ^ q) by rw [Int.mul_comm,Int.mul_comm ((a:Int) ^ q) a]] at h
 generalize (a:Int) * (a:Int) ^ q=X at h ⊢
 generalize ((q+2:Nat):Int)=P at h hk ⊢
 have e1:P ∣ k * (a * X - a):=Int.dvd_trans h ⟨k,by rw [Int.mul_comm]⟩
 have e2:P ∣ (k * a - 1) * (X - 1):=Int.dvd_trans hk ⟨X - 1,rfl⟩
 have e3:=Int.dvd_sub e1 e2
 rw [show k * (a * X - a) - (k * a - 1) * (X - 1)=X - 1 by
  simp only [Int.mul_sub,Int.sub_mul,Int.one_mul,Int.mul_one,Int.mul_assoc];omega] at e3
 exact e3
theorem QC {p a b : Int} (h : p ∣ a - b) : ∀ n : Nat, p ∣ a ^ n - b ^ n
 | 0=>⟨0,by simp⟩
 | n+1=>by rw [Int.pow_succ,Int.pow_succ];exact sC (QC h n) h
theorem ahY (p:Nat) (hp:2≤p) (cz:p≤1000000):∀ (k:Nat) (x y:Int),(k:Int)≤1000000→0≤x∧x < p→0≤y∧y < p→∃ r:Int,Ev (fun q=>nX.l0 q x p y k) r∧(0≤r∧r < p)∧(p:Int) ∣ r - y * x ^ k:=by
 have hem:=fun x:Int=>And.intro (Int.emod_nonneg x (show (p:Int) ≠ 0 by omega)) (Int.emod_lt_of_pos x (show (0:Int) < p by omega))
 have hb:∀ x y:Int,0≤x∧x < p→0≤y∧y < p→Int.tmod (wrap64 (x * y)) p=(x * y) % p:=fun x y hx hy=>by
  have h1:x * y≤1000000 * 1000000:=Int.mul_le_mul (by omega) (by omega) (by omega) (by omega)
  have h2:0≤x * y:=Int.mul_nonneg hx.1 hy.1
  rw [fE (by omega) (by omega),oR h2]
 intro k
 induction k using Nat.strongRecOn with
 | _ k ih =>
  intro x y hk hx hy
  by_cases h0:k=0
  ·subst h0
   refine ⟨y,Ev.step (fun q=>by simp only [nX.l0];rfl) ?_,hy,⟨0,by simp⟩⟩
   simp only [show ¬ (((0:Nat):Int) > 0) by omega,if_false]
   exact Ev.now _
  ·have X8 := hem (x * x)
   have ht:wrap64 (Int.tdiv (k:Int) 2)=((k / 2:Nat):Int):=by
    rw [show Int.tdiv (k:Int) 2=((k / 2:Nat):Int) from rfl]
    exact fE (by omega) (by omega)
   by_cases h1:(k:Int) % 2=1
   ·obtain ⟨r, h2, h3, h4⟩ := ih (k / 2) (by omega) ((x * x) % p) ((y * x) % p) (by omega) X8 (hem _)
    refine ⟨r,Ev.step (fun q=>by simp only [nX.l0];rfl) ?_,h3,?_⟩
    ·simp only [show ((k : Int) > 0) by omega, if_true, show Int.tmod (k : Int) 2 = (k : Int) % 2 from oR (by omega), h1, show ¬ ((p : Int) = 0) by omega, if_false, hb x x hx hx, hb y x hy hx, ht]
     exact h2
    ·have e1 := sC (r8 p (y * x)) (QC (r8 p (x * x)) (k / 2))
     have e2:=Gn h4 e1
     have e3:y * x * (x * x) ^ (k / 2)=y * x ^ k:=by
      rw [Int.mul_assoc]
      congr 1
      rw [show (x * x) ^ (k / 2)=x ^ (2 * (k / 2)) by rw [Int.pow_mul];congr 1;simp [Int.pow_succ]]
      rw [Int.mul_comm,← Int.pow_succ]
      congr 1
      omega
     rw [e3] at e2
     exact e2
   ·obtain ⟨r, h2, h3, h4⟩ := ih (k / 2) (by omega) ((x * x) % p) y (by omega) X8 hy
    refine ⟨r,Ev.step (fun q=>by simp only [nX.l0];rfl) ?_,h3,?_⟩
    ·simp only [show ((k : Int) > 0) by omega, if_true, show Int.tmod (k : Int) 2 = (k : Int) % 2 from oR (by omega), h1, show ¬ ((p : Int) = 0) by omega, if_false, hb x x hx hx, ht]
     exact h2
    ·have e1 := sC (show (p : Int) ∣ y - y from ⟨0, by omega⟩) (QC (r8 p (x * x)) (k / 2))
     have e2:=Gn h4 e1
     have e3:y * (x * x) ^ (k / 2)=y * x ^ k:=by
      congr 1
      rw [show (x * x) ^ (k / 2)=x ^ (2 * (k / 2)) by rw [Int.pow_mul];congr 1;simp [Int.pow_succ]]
      congr 1
      omega
     rw [e3] at e2
     exact e2
theorem ahX {p:Nat} (hp:ni p=true) (cz:2≤p) (hp3:p≤1000000) (x:Int) (hx:0 < x∧x < p):∃ v:Int,Ev (fun k=>nX.f k x p) v∧(0≤v∧v < p)∧(x * v) % p=1:=by
 obtain ⟨r,h1,h2,h3⟩:=ahY p cz hp3 (p - 2) x 1 (by omega) (by omega) (by omega)
 refine ⟨r,?_,h2,?_⟩
 ·unfold nX.f
  rw [wI ((p:Int) - 2) (by omega),show (p:Int) - 2=((p - 2:Nat):Int) by omega]
  exact h1
 ·obtain ⟨a, rfl⟩ := Int.eq_ofNat_of_zero_le (show 0 ≤ x by omega)
  have h4:=afE hp cz a (by omega) (by omega)
  rw [Int.one_mul] at h3
  have h5:=Gn (sC (show (p:Int) ∣ (a:Int) - a from ⟨0,by omega⟩) h3) h4
  have h6:((a:Int) * r) % p=1 % p:=Int.emod_eq_emod_iff_emod_sub_eq_zero.2 (Int.emod_eq_zero_of_dvd h5)
  rw [h6]
  exact Int.emod_eq_of_lt (by omega) (by omega)
theorem J2 (p S a Y:Int):((S % p)+a * (Y % p)) % p=(S+a * Y) % p:=by
 refine Int.emod_eq_emod_iff_emod_sub_eq_zero.2 (Int.emod_eq_zero_of_dvd ?_)
 have h:=Int.dvd_add (r8 p S) (sC (show p ∣ a - a from ⟨0,by omega⟩) (r8 p Y))
 rw [show (S % p)+a * (Y % p) - (S+a * Y)=S % p - S+(a * (Y % p) - a * Y) by omega]
 exact h
theorem Q7 {p:Int} (hp:0 < p) (cz:p≤10007) {x S a b Y:Int} (hx:x=S % p) (ha:0≤a∧a < p) (hb:b=Y % p):Int.tmod (wrap64 (x+wrap64 (a * b))) p=(S+a * Y) % p:=by
 subst hx;subst hb
 have h1:=Int.emod_nonneg S (show p ≠ 0 by omega)
 have h2:=Int.emod_lt_of_pos S hp
 have h3:=Int.emod_nonneg Y (show p ≠ 0 by omega)
 have h4:=Int.emod_lt_of_pos Y hp
 have h5:a * (Y % p)≤10007 * 10007:=Int.mul_le_mul (by omega) (by omega) (by omega) (by omega)
 have h6:0≤a * (Y % p):=Int.mul_nonneg ha.1 h3
 rw [fE (n:=a * (Y % p)) (by omega) (by omega),fE (n:=S % p+a * (Y % p)) (by omega) (by omega),oR (by omega),J2]
theorem Yl {p x:Int} (hp:0 < p) (cz:p≤1000000):xL.f p x=some (x % p):=by
 unfold xL.f
 rw [if_neg (by omega),Qc hp cz]
theorem ajo {p S:Int} (hp:0 < p) (cz:p≤10007):xL.f p (wrap64 (-(S % p)))=some ((-S) % p):=by
 have h1:=Int.emod_nonneg S (show p ≠ 0 by omega)
 have h2:=Int.emod_lt_of_pos S hp
 rw [fE (by omega) (by omega),Yl hp (by omega)]
 congr 1
 have h:=J2 p 0 (-1) S
 rw [Int.zero_emod,Int.zero_add,Int.zero_add] at h
 rw [show -(S % p)=-1 * (S % p) by omega,show -S=-1 * S by omega]
 exact h
theorem ado (p : Int) (hp : 0 < p) (cz : p ≤ 10007) (n : Nat) (hn : n ≤ 1048575) (A : Nat → Nat → Int) (hA : ∀ i j, i < n → j < n → 0 ≤ A i j ∧ A i j < p) (x5 x7 bA : List Int) (C : Nat → Int) (eS atx : Int) (r i : Nat) (hr : r < n) (hi : i < r) (h12 : bA.length = i) (R : List Int)
  (next:Ev (fun k=>bI.l3 k p (as7 n A) x5 r x7 (bO r (fun j=>C j % p)) eS atx (bA ++ [au r (fun j=>A i j * C j) % p]) ((i:Int)+1)) R) :
  ∀ (d j:Nat),r - j=d→j≤r→Ev (fun k=>bI.l4 k p (as7 n A) x5 r x7 (bO r (fun j=>C j % p)) eS atx bA i (au j (fun j=>A i j * C j) % p) j) R:=by
 intro d
 induction d with
 | zero =>
  intro j hd hj
  obtain rfl:j=r:=by omega
  refine Ev.step (fun q=>by simp only [bI.l4];rfl) ?_
  simp only [Int.lt_irrefl,if_false,h12,show i < 17592186044416 by omega,if_true,wI ((i:Int)+1) (by omega)]
  exact next
 | succ d ih =>
  intro j hd hj
  have Hi:j < r:=by omega
  refine Ev.step (fun q=>by simp only [bI.l4];rfl) ?_
  simp only [lI j r (by omega),cv j,cv i,eM,lI i n (by omega),if_true,iH (show i < n by omega),ato,lI j n (by omega),gz (show j < n by omega),gz Hi,show ¬ (p=0) by omega,if_false,Q7 hp cz rfl (hA i j (by omega) (by omega)) rfl,wI ((j:Int)+1) (by omega)]
  have h:=ih (j+1) (by omega) (by omega)
  rw [show ((j+1:Nat):Int)=(j:Int)+1 by omega] at h
  exact h
theorem adn (p : Int) (hp : 0 < p) (cz : p ≤ 10007) (n : Nat) (hn : n ≤ 1048575) (A : Nat → Nat → Int) (hA : ∀ i j, i < n → j < n → 0 ≤ A i j ∧ A i j < p) (x5 x7 : List Int) (C : Nat → Int) (eS : Int) (r : Nat) (hr : r < n) (h7 : x7.length < 17592186044416) (R : List Int)
  (next:Ev (fun k=>bI.l2 k p (as7 n A) x5 r (x7 ++ [(-au r (fun j=>A r j * C j)) % p]) (bO r (fun i=>au r (fun j=>A i j * C j) % p)) (wrap64 (eS+1))) R) :
  ∀ (d i:Nat),r - i=d→i≤r→Ev (fun k=>bI.l3 k p (as7 n A) x5 r x7 (bO r (fun j=>C j % p)) eS (au i (fun j=>A r j * C j) % p) (bO i (fun i=>au r (fun j=>A i j * C j) % p)) i) R:=by
 intro d
 induction d with
 | zero =>
  intro i hd hi
  obtain rfl:i=r:=by omega
  refine Ev.step (fun q=>by simp only [bI.l3];rfl) ?_
  simp only [Int.lt_irrefl,if_false,ajo hp cz,Option.bind_some,h7,if_true]
  exact next
 | succ d ih =>
  intro i hd hi
  have Hh:i < r:=by omega
  refine Ev.step (fun q=>by simp only [bI.l3];rfl) ?_
  simp only [lI i r (by omega),cv i,cv r,eM,lI r n (by omega),if_true,iH hr,ato,lI i n (by omega),gz (show i < n by omega),gz Hh,show ¬ (p=0) by omega,if_false,Q7 hp cz rfl (hA r i hr (by omega)) rfl]
  have h:=ih (i+1) (by omega) (by omega)
  rw [show ((i+1:Nat):Int)=(i:Int)+1 by omega,← Iv] at h
  have h2:=ado p hp cz n hn A hA x5 x7 (bO i (fun i=>au r (fun j=>A i j * C j) % p)) C eS _ r i hr Hh (ato _ _) R h r 0 (by omega) (by omega)
  exact h2
theorem adm (p : Int) (hp : 0 < p) (cz : p ≤ 10007) (n : Nat) (hn : n ≤ 1048575) (A : Nat → Nat → Int) (hA : ∀ i j, i < n → j < n → 0 ≤ A i j ∧ A i j < p) (x5 : List Int) (r : Nat) (hr : r < n) (R : List Int)
  (next:Ev (fun k=>bI.l5 k p (as7 n A) x5 r (bO (r+2) (fun j=>jJ r A j % p)) (bO (r+2) (fun _=>0)) 0) R) :
  ∀ (d k:Nat),r - k=d→k≤r→Ev (fun q=>bI.l2 q p (as7 n A) x5 r (bO (k+2) (fun j=>jJ r A j % p)) (bO r (fun i=>qO r A (fun i=>A i r) k i % p)) k) R:=by
 intro d
 induction d with
 | zero =>
  intro k hd hk
  obtain rfl:k=r:=by omega
  refine Ev.step (fun q=>by simp only [bI.l2];rfl) ?_
  simp only [Int.lt_irrefl,if_false,wI ((k:Int)+2) (by omega),show (0:Int)≤(k:Int)+2 by omega,show ((k:Int)+2).toNat=k+2 by omega,show k+2≤35184372088832 by omega,if_true]
  rw [show List.replicate (k+2) (0:Int)=bO (k+2) (fun _=>0) by
   apply List.ext_getElem
   ·simp [bO]
   ·intro i _ _;simp [bO]]
  exact next
 | succ d ih =>
  intro k hd hk
  have hkr:k < r:=by omega
  refine Ev.step (fun q=>by simp only [bI.l2];rfl) ?_
  simp only [lI k r (by omega),if_true]
  have h:=ih (k+1) (by omega) (by omega)
  rw [show k+1+2=(k+2)+1 by omega,← Iv (k+2),show ((k+1:Nat):Int)=wrap64 ((k:Int)+1) by rw [wI ((k:Int)+1) (by omega)];omega] at h
  exact adn p hp cz n hn A hA x5 (bO (k+2) (fun j=>jJ r A j % p)) (qO r A (fun i=>A i r) k) k r hr (by rw [ato];omega) R h r 0 (by omega) (by omega)
theorem adl (p : Int) (n : Nat) (hn : n ≤ 1048575) (A : Nat → Nat → Int) (x5 x7 : List Int) (r : Nat) (hr : r < n) (R : List Int)
  (next:Ev (fun k=>bI.l2 k p (as7 n A) x5 r x7 (bO r (fun i=>A i r)) 0) R) :
  ∀ (d i:Nat),r - i=d→i≤r→Ev (fun k=>bI.l1 k p (as7 n A) x5 r x7 (bO i (fun i=>A i r)) i) R:=by
 intro d
 induction d with
 | zero =>
  intro i hd hi
  obtain rfl:i=r:=by omega
  refine Ev.step (fun q=>by simp only [bI.l1];rfl) ?_
  simp only [Int.lt_irrefl,if_false]
  exact next
 | succ d ih =>
  intro i hd hi
  have Hh:i < r:=by omega
  refine Ev.step (fun q=>by simp only [bI.l1];rfl) ?_
  simp only [lI i r (by omega),cv i,cv r,eM,lI i n (by omega),lI r n (by omega),if_true,iH (show i < n by omega),ato,show i < 17592186044416 by omega,gz hr,wI ((i:Int)+1) (by omega)]
  have h:=ih (i+1) (by omega) (by omega)
  rw [show ((i+1:Nat):Int)=(i:Int)+1 by omega,← Iv] at h
  exact h
def wX (p:Int) (r:Nat) (A:Nat→Nat→Int) (i j:Nat):Nat→Int:=fun m=>if m < i then aM (r+1) A m % p else if m=i then th r A i j % p else 0
theorem adq (p : Int) (hp : 0 < p) (cz : p ≤ 10007) (n : Nat) (hn : n ≤ 1048575) (A : Nat → Nat → Int) (r i : Nat) (hr : r < n) (hi : i < r + 2) (R : List Int)
  (next:Ev (fun k=>bI.l5 k p (as7 n A) (bO (r+1) (fun l=>aM r A l % p)) r (bO (r+2) (fun j=>jJ r A j % p)) (bO (r+2) (wX p r A (i+1) 0)) ((i:Int)+1)) R) :
  ∀ (d j:Nat),r+1 - j=d→j≤i+1→j≤r+1→Ev (fun k=>bI.l6 k p (as7 n A) (bO (r+1) (fun l=>aM r A l % p)) r (bO (r+2) (fun j=>jJ r A j % p)) (bO (r+2) (wX p r A i j)) i j) R:=by
 have fin:∀ j,j≤i+1→(j=i+1∨j=r+1)→bO (r+2) (wX p r A i j)=bO (r+2) (wX p r A (i+1) 0):=by
  intro j yc hj
  have e:th r A i j=aM (r+1) A i:=by
   rw [aiB r A i (by omega)]
   rcases hj with rfl|rfl
   ·rfl
   ·unfold th
    refine (Qa (by omega) (fun l h1 h2=>?_)).symm
    rw [show aM r A l=0 from oJ _ _ l (by omega)];simp
  refine nk fun m hm=>?_
  unfold wX
  by_cases h1:m < i
  ·rw [if_pos h1,if_pos (by omega)]
  ·rw [if_neg h1]
   by_cases h2:m=i
   ·subst h2;rw [if_pos rfl,if_pos (by omega),e]
   ·rw [if_neg h2, if_neg (by omega)]
    by_cases h3:m=i+1
    ·subst h3;rw [if_pos rfl];simp [th,au]
    ·rw [if_neg h3]
 intro d
 induction d with
 | zero =>
  intro j hd yc hj2
  obtain rfl:j=r+1:=by omega
  refine Ev.step (fun q=>by simp only [bI.l6];rfl) ?_
  simp only [ato,Int.lt_irrefl,if_false,wI ((i:Int)+1) (by omega)]
  rw [fin _ yc (Or.inr rfl)]
  exact next
 | succ d ih =>
  intro j hd yc hj2
  have Hi:j < r+1:=by omega
  refine Ev.step (fun q=>by simp only [bI.l6];rfl) ?_
  by_cases hji:j≤i
  ·have hem := And.intro (Int.emod_nonneg (jJ r A (i - j)) (show p ≠ 0 by omega)) (Int.emod_lt_of_pos (jJ r A (i - j)) hp)
   have e1:wX p r A i j i=th r A i j % p:=by unfold wX;rw [if_neg (by omega),if_pos rfl]
   simp only [ato,show ((j:Int) < ((r+1:Nat):Int)) by omega,show ((j:Int)≤(i:Int)) by omega,cv i,show ((i:Int) < ((r+2:Nat):Int)) by omega,cv j,if_true,show (i:Int) - (j:Int)=((i - j:Nat):Int) by omega,fE (show -9223372036854775808≤((i - j:Nat):Int) by omega) (by omega),show (0:Int)≤((i - j:Nat):Int) by omega,show ((i - j:Nat):Int) < ((r+2:Nat):Int) by omega,gz hi,gz Hi,gz (show i - j < r+2 by omega),show ¬ (p=0) by omega,if_false,Q7 hp cz e1 hem rfl,Int.toNat_natCast,wI ((j:Int)+1) (by omega)]
   rw [yo]
   have h:=ih (j+1) (by omega) (by omega) (by omega)
   rw [show ((j+1:Nat):Int)=(j:Int)+1 by omega] at h
   refine Ev.congr (fun q=>?_) h
   congr 1
   refine nk fun m hm=>?_
   unfold wX
   by_cases h1:m=i
   ·subst h1
    rw [if_pos rfl,if_neg (by omega),if_pos rfl]
    show _=(th r A m j+jJ r A (m - j) * aM r A j) % p
    have h2:=J2 p (th r A m j) (aM r A j) (jJ r A (m - j))
    have h3:=J2 p (th r A m j) (jJ r A (m - j) % p) (aM r A j)
    have h4:(th r A m j+jJ r A (m - j) % p * aM r A j) % p=(th r A m j+jJ r A (m - j) * aM r A j) % p:=by
     refine Int.emod_eq_emod_iff_emod_sub_eq_zero.2 (Int.emod_eq_zero_of_dvd ?_)
     have:=sC (r8 p (jJ r A (m - j))) (show p ∣ aM r A j - aM r A j from ⟨0,by omega⟩)
     rw [show th r A m j+jJ r A (m - j) % p * aM r A j - (th r A m j+jJ r A (m - j) * aM r A j)=jJ r A (m - j) % p * aM r A j - jJ r A (m - j) * aM r A j by omega]
     exact this
    rw [← h4]
   ·simp only [if_neg h1]
  ·simp only [ato, show ((j : Int) < ((r + 1 : Nat) : Int)) by omega, show ¬ ((j : Int) ≤ (i : Int)) by omega, if_true, if_false, wI ((i : Int) + 1) (by omega)]
   rw [fin j yc (Or.inl (by omega))]
   exact next
theorem adp (p : Int) (hp : 0 < p) (cz : p ≤ 10007) (n : Nat) (hn : n ≤ 1048575) (A : Nat → Nat → Int) (r : Nat) (hr : r < n) (R : List Int)
  (next:Ev (fun k=>bI.l0 k p (as7 n A) (bO (r+2) (fun l=>aM (r+1) A l % p)) ((r:Int)+1)) R) :
  ∀ (d i:Nat),r+2 - i=d→i≤r+2→Ev (fun k=>bI.l5 k p (as7 n A) (bO (r+1) (fun l=>aM r A l % p)) r (bO (r+2) (fun j=>jJ r A j % p)) (bO (r+2) (wX p r A i 0)) i) R:=by
 intro d
 induction d with
 | zero =>
  intro i hd hi
  obtain rfl:i=r+2:=by omega
  refine Ev.step (fun q=>by simp only [bI.l5];rfl) ?_
  simp only [ato,Int.lt_irrefl,if_false,wI ((r:Int)+1) (by omega)]
  refine Ev.congr (fun q=>?_) next
  congr 1
  exact nk fun m hm=>by unfold wX;rw [if_pos hm]
 | succ d ih =>
  intro i hd hi
  have Hh:i < r+2:=by omega
  refine Ev.step (fun q=>by simp only [bI.l5];rfl) ?_
  simp only [ato,show ((i:Int) < ((r+2:Nat):Int)) by omega,if_true]
  have h:=ih (i+1) (by omega) (by omega)
  rw [show ((i+1:Nat):Int)=(i:Int)+1 by omega] at h
  exact adq p hp cz n hn A r i hr Hh R h (r+1) 0 (by omega) (by omega) (by omega)
theorem adk (p : Int) (hp : 2 ≤ p) (cz : p ≤ 10007) (n : Nat) (hn : n ≤ 1048574) (A : Nat → Nat → Int) (hA : ∀ i j, i < n → j < n → 0 ≤ A i j ∧ A i j < p) : ∀ (d r : Nat), n - r = d → r ≤ n →
  Ev (fun k=>bI.l0 k p (as7 n A) (bO (r+1) (fun l=>aM r A l % p)) r) (eU (bO (n+1) (fun l=>aM n A l % p)) (n+1)):=by
 intro d
 induction d with
 | zero =>
  intro r hd hr
  obtain rfl:r=n:=by omega
  refine Ev.step (fun q=>by simp only [bI.l0];rfl) ?_
  simp only [eM,Int.lt_irrefl,if_false]
  refine Ev.bind (a:=eU (bO (r+1) (fun l=>aM r A l % p)) (r+1)) ?_ (Ev.now _)
  have h:=aie (bO (r+1) (fun l=>aM r A l % p)) (by rw [ato];omega)
  rw [ato] at h
  exact h
 | succ d ih =>
  intro r hd hr
  have pI:r < n:=by omega
  refine Ev.step (fun q=>by simp only [bI.l0];rfl) ?_
  have hrr:=hA r r pI pI
  simp only [eM,lI r n (by omega),cv r,if_true,iH pI,ato,gz pI,wI (-(A r r)) (by omega),Yl (show 0 < p by omega) (by omega),Option.bind_some]
  refine adl p n (by omega) A _ _ r pI _ ?_ r 0 (by omega) (by omega)
  have h0:=ih (r+1) (by omega) (by omega)
  rw [show ((r+1:Nat):Int)=(r:Int)+1 by omega] at h0
  have h5:=adp p (by omega) cz n (by omega) A r pI _ h0 (r+2) 0 (by omega) (by omega)
  have h5':Ev (fun k=>bI.l5 k p (as7 n A) (bO (r+1) (fun l=>aM r A l % p)) r (bO (r+2) (fun j=>jJ r A j % p)) (bO (r+2) (fun _=>0)) 0) (eU (bO (n+1) (fun l=>aM n A l % p)) (n+1)):=by
   refine Ev.congr (fun q=>?_) h5
   congr 1
   refine nk fun m hm=>?_
   unfold wX
   rw [if_neg (by omega)]
   by_cases h1:m=0
   ·rw [if_pos h1];simp [th,au]
   ·rw [if_neg h1]
  have h:=adm p (by omega) cz n (by omega) A hA (bO (r+1) (fun l=>aM r A l % p)) r pI _ h5' r 0 (by omega) (by omega)
  refine Ev.congr (fun q=>?_) h
  have e1:([1,(-A r r) % p]:List Int)=bO (0+2) (fun j=>jJ r A j % p):=by
   show _=[jJ r A 0 % p,jJ r A 1 % p]
   show _=[(1:Int) % p,(-A r r) % p]
   rw [Int.emod_eq_of_lt (a:=1) (by omega) (by omega)]
  have e2:bO r (fun i=>A i r)=bO r (fun i=>qO r A (fun i=>A i r) 0 i % p):=nk fun i hi=>by
   show _=A i r % p
   rw [Int.emod_eq_of_lt (hA i r (by omega) pI).1 (hA i r (by omega) pI).2]
  rw [e1,e2]
  rfl
theorem air (p:Int) (hp:2≤p) (cz:p≤10007) (n:Nat) (hn:n≤1048574) (A:Nat→Nat→Int) (hA:∀ i j,i < n→j < n→0≤A i j∧A i j < p):Ev (fun k=>bI.f k p (as7 n A)) (eU (bO (n+1) (fun l=>aM n A l % p)) (n+1)):=by
 unfold bI.f
 have h:=adk p hp cz n hn A hA n 0 (by omega) (by omega)
 refine Ev.congr (fun q=>?_) h
 have e:([1]:List Int)=bO (0+1) (fun l=>aM 0 A l % p):=by
  show _=[aM 0 A 0 % p]
  rw [KN,Int.emod_eq_of_lt (a:=1) (by omega) (by omega)]
 rw [e]
 rfl
theorem ae9 {n:Nat} {p:Int}:∀ (P:Nat→Nat→Int) {Q R:Nat→Nat→Int},(∀ a b,a < n→b < n→p ∣ Q a b - R a b)→∀ k,p ∣ dz n P Q k - dz n P R k:=by
 induction n with
 | zero=>intro P Q R _ k;exact ⟨0,by simp [dz]⟩
 | succ n ih =>
  intro P Q R h k
  rw [ET,ET]
  refine H8 (fun i hi=>?_)
  have g:=fun k=>ih (fun a b=>P (aZ i a) (b+1)) (Q:=fun a b=>Q (aZ i a) (b+1)) (R:=fun a b=>R (aZ i a) (b+1)) (fun a b ha hb=>h _ _ (H7 hi ha) (by omega)) k
  have z:∀ x:Int,p ∣ x - x:=fun x=>⟨0,by omega⟩
  refine sC (z _) ?_
  have g1:=sC (z (P i 0)) (g k)
  have g2:p ∣ Q i 0 * atI (dz n (fun a b=>P (aZ i a) (b+1)) (fun a b=>Q (aZ i a) (b+1))) k - R i 0 * atI (dz n (fun a b=>P (aZ i a) (b+1)) (fun a b=>R (aZ i a) (b+1))) k:=by
   refine sC (h i 0 hi (by omega)) ?_
   cases k with
   | zero=>exact z _
   | succ k=>exact g k
  have g3:=Int.dvd_add g1 g2
  generalize P i 0 * dz n (fun a b=>P (aZ i a) (b+1)) (fun a b=>Q (aZ i a) (b+1)) k=a1 at g3 ⊢
  generalize P i 0 * dz n (fun a b=>P (aZ i a) (b+1)) (fun a b=>R (aZ i a) (b+1)) k=a2 at g3 ⊢
  generalize Q i 0 * atI (dz n (fun a b=>P (aZ i a) (b+1)) (fun a b=>Q (aZ i a) (b+1))) k=a3 at g3 ⊢
  generalize R i 0 * atI (dz n (fun a b=>P (aZ i a) (b+1)) (fun a b=>R (aZ i a) (b+1))) k=a4 at g3 ⊢
  rw [show a1+a3 - (a2+a4)=a1 - a2+(a3 - a4) by omega]
  exact g3
theorem UX {p:Int} {n:Nat} {H G:Nat→Nat→Int} (h:∀ i j,i < n→j < n→p ∣ H i j - G i j) (k:Nat):p ∣ aM n H k - aM n G k :=
 ae9 _ (fun a b ha hb=>by
  obtain ⟨x,hx⟩:=h a b ha hb
  exact ⟨-x,by unfold fB;rw [Int.mul_neg,← hx];omega⟩) k
theorem Ip (n:Nat) (X:Nat→Nat→Int) (u:Int):aW n (ez u X)=atr n (aM n X) u:=by
 have h:=zg (n:=n) (fun a b=>as_ a b) (fB X) u
 unfold aM
 rw [← h]
 refine at' (fun a b _ _=>?_)
 unfold ez fB
 rw [Int.mul_neg]
 omega
theorem On {n:Nat} {X H:Nat→Nat→Int} (h:∀ u:Int,aW n (ez u X)=aW n (ez u H)) (k:Nat):aM n X k=aM n H k:=by
 by_cases hk:k≤n
 ·exact EW (n:=n) (fun u _=>by rw [← Ip,← Ip];exact h u) k hk
 ·unfold aM
  rw [oJ _ _ k (by omega),oJ _ _ k (by omega)]
/-- Where the reduction stands: similar rows modulo p, in the rests, zeros below those next to the diagonal in the first m - 1 columns. -/
structure HI (p:Int) (n:Nat) (A:Nat→Nat→Int) (m:Nat) (H:Nat→Nat→Int):Prop where
 xb:∀ i j,i < n→j < n→0≤H i j∧H i j < p
 E8:∀ u,p ∣ aM n H u - aM n A u
 By:∀ a b,a < n→b+1 < a→b+1 < m→H a b=0
theorem HI.start {p:Int} (hp:0 < p) (n:Nat) (A:Nat→Nat→Int):HI p n A 1 (fun i j=>A i j % p) :=
 ⟨fun i j _ _=>⟨Int.emod_nonneg _ (by omega),Int.emod_lt_of_pos _ hp⟩,fun u=>UX (fun i j _ _=>r8 p _) u,fun a b _ h1 h2=>by omega⟩
theorem HI.skip {p:Int} {n:Nat} {A:Nat→Nat→Int} {m:Nat} {H:Nat→Nat→Int} (h:HI p n A m H) (hm:1≤m) (h0:∀ i,m≤i→i < n→H i (m - 1)=0):HI p n A (m+1) H :=
 ⟨h.xb,h.E8,fun a b ha h1 h2=>by
  by_cases e:b+1 < m
  ·exact h.By a b ha h1 e
  ·obtain rfl : b = m - 1 := by omega
   exact h0 a (by omega) ha⟩
end Go.Proofs.Ytapnggjaeehpdaa.B
/- Set with little white space, by a program. -/
