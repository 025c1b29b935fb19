/- Plain lemmas on the Lean functions that FnEdgeValues reaches, the first half. No condition. -/
import Derived.Test.YtapnggjaeehpdaaAx
namespace Go.Proofs.Ytapnggjaeehpdaa.A
open Go.RowKit Go.Proofs.bB.dI Go.Proofs.bB.ark Go.Proofs.bB.jd
set_option linter.unusedVariables false
set_option linter.unusedSimpArgs false
theorem wI (n:Int) (h:-9223372036854775808≤n∧n≤9223372036854775807):wrap64 n=n:=IntWalk.wrap64_in n h
theorem cx (n:Nat):(0:Int)≤(n:Int):=Int.natCast_nonneg n
theorem lI (a b:Nat) (h:a < b):(a:Int) < (b:Int):=Int.ofNat_lt.2 h
theorem dB.vk : ∀ k, (∀ y0 y1 y2, cw (dB.j0 k y0 y1 y2) (dB.j0 (k + 1) y0 y1 y2)) ∧ (∀ y0 y1 y2, cw (dB.l0 k y0 y1 y2) (dB.l0 (k + 1) y0 y1 y2))
 | 0=>⟨fun _ _ _ r h=>by simp [dB.j0] at h,fun _ _ _ r h=>by simp [dB.l0] at h⟩
 | k+1=>by
  obtain ⟨ot,ih1⟩:=dB.vk k
  refine ⟨?_, ?_⟩ <;> intros <;> (first | unfold dB.j0 | unfold dB.l0) <;> repeat' first
   | (with_reducible first|exact ot _ _ _|exact ih1 _ _ _|exact cw.refl _|exact cw.none _|refine cw.ite ?_ ?_|refine cw.bind ?_ (fun _=>?_))
   | exact ot _ _ _|exact ih1 _ _ _|exact cw.none _|refine cw.ite ?_ ?_|refine cw.bind ?_ (fun _=>?_)
theorem dB.mono:∀ a0 a1 k,cw (dB.f k a0 a1) (dB.f (k+1) a0 a1):=by
 intro a0 a1 k
 obtain ⟨ot,ih1⟩:=dB.vk k
 unfold dB.f
 repeat' first
  | (with_reducible first|exact ot _ _ _|exact ih1 _ _ _|exact cw.refl _|exact cw.none _|refine cw.ite ?_ ?_|refine cw.bind ?_ (fun _=>?_))
theorem gJ.vk : ∀ k, (∀ y0 y1 y2 y3 y4, cw (gJ.l0 k y0 y1 y2 y3 y4) (gJ.l0 (k + 1) y0 y1 y2 y3 y4))
 | 0=>fun _ _ _ _ _ r h=>by simp [gJ.l0] at h
 | k+1=>by
  have ot:=gJ.vk k
  ·intro y0 y1 y2 y3 y4
   unfold gJ.l0
   repeat' first
    | (with_reducible first|exact ot _ _ _ _ _|exact cw.refl _|exact cw.none _|refine cw.ite ?_ ?_|refine cw.bind ?_ (fun _=>?_))
theorem gJ.mono:∀ a0 a1 k,cw (gJ.f k a0 a1) (gJ.f (k+1) a0 a1):=by
 intro a0 a1 k
 have ot:=gJ.vk k
 unfold gJ.f
 repeat' first
  | (with_reducible first|exact ot _ _ _ _ _|exact cw.refl _|exact cw.none _|refine cw.ite ?_ ?_|refine cw.bind ?_ (fun _=>?_))
theorem fE.vk : ∀ k, (∀ y0 y1, cw (fE.j0 k y0 y1) (fE.j0 (k + 1) y0 y1)) ∧ (∀ y0 y1 y2, cw (fE.l0 k y0 y1 y2) (fE.l0 (k + 1) y0 y1 y2))
 | 0=>⟨fun _ _ r h=>by simp [fE.j0] at h,fun _ _ _ r h=>by simp [fE.l0] at h⟩
 | k+1=>by
  obtain ⟨ot,ih1⟩:=fE.vk k
  refine ⟨?_, ?_⟩ <;> intros <;> (first | unfold fE.j0 | unfold fE.l0) <;> repeat' first
   | (with_reducible first|exact ot _ _|exact ih1 _ _ _|exact cw.refl _|exact cw.none _|refine cw.ite ?_ ?_|refine cw.bind ?_ (fun _=>?_))
   | exact ot _ _|exact ih1 _ _ _|exact cw.none _|refine cw.ite ?_ ?_|refine cw.bind ?_ (fun _=>?_)
theorem fE.mono:∀ a0 k,cw (fE.f k a0) (fE.f (k+1) a0):=by
 intro a0 k
 obtain ⟨ot,ih1⟩:=fE.vk k
 unfold fE.f
 repeat' first
  | (with_reducible first|exact ot _ _|exact ih1 _ _ _|exact cw.refl _|exact cw.none _|refine cw.ite ?_ ?_|refine cw.bind ?_ (fun _=>?_))
theorem aq0.vk : ∀ k, (∀ y0 y1 y2, cw (aq0.j0 k y0 y1 y2) (aq0.j0 (k + 1) y0 y1 y2)) ∧ (∀ y0 y1 y2 y3, cw (aq0.l0 k y0 y1 y2 y3) (aq0.l0 (k + 1) y0 y1 y2 y3))
 | 0=>⟨fun _ _ _ r h=>by simp [aq0.j0] at h,fun _ _ _ _ r h=>by simp [aq0.l0] at h⟩
 | k+1=>by
  obtain ⟨ot,ih1⟩:=aq0.vk k
  refine ⟨?_, ?_⟩ <;> intros <;> (first | unfold aq0.j0 | unfold aq0.l0) <;> repeat' first
   | (with_reducible first|exact ot _ _ _|exact ih1 _ _ _ _|exact dB.mono _ _ _|exact fE.mono _ _|exact gJ.mono _ _ _|exact cw.refl _|exact cw.none _|refine cw.ite ?_ ?_|refine cw.bind ?_ (fun _=>?_))
   | exact ot _ _ _|exact ih1 _ _ _ _|exact dB.mono _ _ _|exact fE.mono _ _|exact gJ.mono _ _ _|exact cw.none _|refine cw.ite ?_ ?_|refine cw.bind ?_ (fun _=>?_)
theorem aq0.mono:∀ a0 k,cw (aq0.f k a0) (aq0.f (k+1) a0):=by
 intro a0 k
 obtain ⟨ot,ih1⟩:=aq0.vk k
 unfold aq0.f
 repeat' first
  | (with_reducible first|exact ot _ _ _|exact ih1 _ _ _ _|exact dB.mono _ _ _|exact fE.mono _ _|exact gJ.mono _ _ _|exact cw.refl _|exact cw.none _|refine cw.ite ?_ ?_|refine cw.bind ?_ (fun _=>?_))
theorem rT.mono:∀ a0 k,cw (rT.f k a0) (rT.f (k+1) a0):=by
 intro a0 k
 unfold rT.f
 repeat' first
  | (with_reducible first|exact aq0.mono _ _|exact cw.refl _|exact cw.none _|refine cw.ite ?_ ?_|refine cw.bind ?_ (fun _=>?_))
theorem dF {n:Int} (h0:-9223372036854775808≤n) (h1:n≤9223372036854775807):wrap64 n=n:=IntWalk.wrap64_in n ⟨h0,h1⟩
theorem we (l:List Int) (i:Nat) (h:i < l.length):rd l (i:Int)=l[i]:=by
 simp [rd,List.getD_eq_getElem?_getD,h]
theorem tJ (l:List (List Int)) (i:Nat) (h:i < l.length):ah l (i:Int)=l[i]:=by
 simp [ah,List.getD_eq_getElem?_getD,h]
/-! ### what a graph is -/
def Ec (a n:Int):Bool:=decide (0≤n) && decide (n≤wrap64 (a - 1))
def qh (a:Int) (e:List Int):Bool:=decide (e.length=2) && (Ec a (rd e 0) && Ec a (rd e 1))
def ee (a:Int) (l:List (List Int)):Bool:=decide (1≤a) && (decide (a≤8) && (decide (l.length≤10) && l.all (qh a)))
theorem Jj (a b c:Int):gX.f a b c=some (decide (b≤a) && decide (a≤c)):=by
 unfold gX.f
 by_cases h:b≤a<;>simp [h]
theorem CA (a b c:Int):aq4.f a b c=some (decide (b≤a) && decide (a≤c)):=by
 unfold aq4.f
 by_cases h:b≤a<;>simp [h]
theorem agy (a:Int) (l:List (List Int)) (hl:l.length≤maxLen):∀ (d i:Nat),l.length - i=d→i≤l.length→Ev (fun k=>jq.l0 k l l.length i a l) ((l.drop i).all (qh a) && (decide (1≤a) && (decide (a≤8) && decide (l.length≤10)))):=by
 unfold maxLen at hl
 intro d
 induction d with
 | zero =>
  intro i hd hi
  refine Ev.step (fun k=>by simp only [jq.l0];rfl) ?_
  simp only [show ¬ ((i:Int) < (l.length:Int)) by omega,if_false,Jj,Option.bind_some,List.drop_of_length_le (show l.length≤i by omega),List.all_nil,Bool.true_and]
  by_cases h1:1≤a
  ·by_cases h2 : a ≤ 8
   ·simp only [h1, h2, decide_true, Bool.true_and, if_true]
    exact Ev.congr (fun k=>by congr 1;simp;omega) (Ev.now _)
   ·simp only [h1, h2, decide_true, decide_false, Bool.true_and, Bool.false_and, Bool.false_eq_true, if_false]
    exact Ev.now _
  ·simp only [h1, decide_false, Bool.false_and, Bool.false_eq_true, if_false]
   exact Ev.now _
 | succ d ih =>
  intro i hd hi
  have hil:i < l.length:=by omega
  refine Ev.step (fun k=>by simp only [jq.l0];rfl) ?_
  have MO:(l.drop i).all (qh a)=(qh a l[i] && (l.drop (i+1)).all (qh a)):=by rw [List.drop_eq_getElem_cons hil,List.all_cons]
  rw [MO]
  simp only [show ((i:Int) < (l.length:Int)) by omega,cx i,if_true,wI ((i:Int)+1) (by omega),tJ l i hil,Jj,Option.bind_some]
  unfold qh Ec
  by_cases h2:l[i].length=2
  ·simp only [h2, decide_true, Bool.true_and, show ((2 : Nat) : Int) = 2 from rfl, if_true, show (0 : Int) < 2 by omega, show (1 : Int) < 2 by omega]
   by_cases h3:(decide (0≤rd l[i] 0) && decide (rd l[i] 0≤wrap64 (a - 1)))=true
   ·by_cases h4 : (decide (0 ≤ rd l[i] 1) && decide (rd l[i] 1 ≤ wrap64 (a - 1))) = true
    ·simp only [h3, h4, if_true, Bool.true_and]
     exact ih (i+1) (by omega) (by omega)
    ·simp only [Bool.not_eq_true] at h4
     simp only [h3,h4,if_true,Bool.false_and,Bool.and_false,Bool.false_eq_true,if_false]
     exact Ev.now _
   ·simp only [Bool.not_eq_true] at h3
    simp only [h3,Bool.false_and,Bool.false_eq_true,if_false]
    exact Ev.now _
  ·simp only [show ¬ ((l[i].length : Int) = 2) by omega, h2, decide_false, Bool.false_and, if_false]
   exact Ev.now _
theorem FC (a:Int) (l:List (List Int)) (hl:l.length≤maxLen):Ev (fun k=>jq.f k a l) (ee a l):=by
 unfold jq.f
 have h:=agy a l hl l.length 0 (by omega) (by omega)
 have e:((l.drop 0).all (qh a) && (decide (1≤a) && (decide (a≤8) && decide (l.length≤10))))=ee a l:=by
  unfold ee
  rw [List.drop_zero]
  cases l.all (qh a)<;>simp
 rw [e] at h
 exact h
theorem ai6 (a:Int) (l:List (List Int)) (hl:l.length≤maxLen):∀ (d i:Nat),l.length - i=d→i≤l.length→Ev (fun k=>dB.l0 k i a l) ((l.drop i).all (qh a)):=by
 unfold maxLen at hl
 intro d
 induction d with
 | zero =>
  intro i hd hi
  refine Ev.step (fun k=>by simp only [dB.l0];rfl) ?_
  simp only [show ¬ ((i:Int) < (l.length:Int)) by omega,if_false,List.drop_of_length_le (show l.length≤i by omega),List.all_nil]
  exact Ev.now _
 | succ d ih =>
  intro i hd hi
  have hil:i < l.length:=by omega
  refine Ev.step (fun k=>by simp only [dB.l0];rfl) ?_
  have MO:(l.drop i).all (qh a)=(qh a l[i] && (l.drop (i+1)).all (qh a)):=by rw [List.drop_eq_getElem_cons hil,List.all_cons]
  rw [MO]
  simp only [show ((i:Int) < (l.length:Int)) by omega,cx i,if_true,wI ((i:Int)+1) (by omega),tJ l i hil,CA,Option.bind_some]
  unfold qh Ec
  by_cases h2:l[i].length=2
  ·simp only [h2, decide_true, Bool.true_and, show ((2 : Nat) : Int) = 2 from rfl, if_true, show (0 : Int) < 2 by omega, show (1 : Int) < 2 by omega]
   by_cases h3:(decide (0≤rd l[i] 0) && decide (rd l[i] 0≤wrap64 (a - 1)))=true
   ·by_cases h4 : (decide (0 ≤ rd l[i] 1) && decide (rd l[i] 1 ≤ wrap64 (a - 1))) = true
    ·simp only [h3, h4, if_true, Bool.true_and]
     exact ih (i+1) (by omega) (by omega)
    ·simp only [Bool.not_eq_true] at h4
     simp only [h3,h4,if_true,Bool.false_and,Bool.and_false,Bool.false_eq_true,if_false]
     exact Ev.now _
   ·simp only [Bool.not_eq_true] at h3
    simp only [h3,Bool.false_and,Bool.false_eq_true,if_false]
    exact Ev.now _
  ·simp only [show ¬ ((l[i].length : Int) = 2) by omega, h2, decide_false, Bool.false_and, if_false]
   exact Ev.now _
theorem FY (a:Int) (l:List (List Int)) (hl:l.length≤maxLen):Ev (fun k=>dB.f k a l) (ee a l):=by
 unfold dB.f ee
 simp only [CA,Option.bind_some]
 have hj:∀ b,Ev (fun k=>dB.j0 k b a l) (!b && l.all (qh a)):=by
  intro b
  refine Ev.step (fun k=>by simp only [dB.j0];rfl) ?_
  cases b with
  | true=>simp only [if_true,Bool.not_true,Bool.false_and];exact Ev.now _
  | false =>
   simp only [Bool.false_eq_true,if_false,Bool.not_false,Bool.true_and]
   exact ai6 a l hl l.length 0 (by omega) (by omega)
 by_cases h1:1≤a
 ·by_cases h2 : a ≤ 8
  ·simp only [h1, h2, decide_true, Bool.true_and, if_true]
   have h:=hj (decide ((l.length:Int) > 10))
   have e:(!decide ((l.length:Int) > 10))=decide (l.length≤10):=by
    by_cases h:l.length≤10
    ·simp [h];omega
    ·simp [h];omega
   rw [e] at h
   exact h
  ·simp only [h1, h2, decide_true, decide_false, Bool.true_and, Bool.false_and, Bool.false_eq_true, if_false]
   exact hj true
 ·simp only [h1, decide_false, Bool.false_and, Bool.false_eq_true, if_false]
  exact hj true
def ax : Nat → (Nat → Int) → Int
 | 0,_=>0
 | n+1,f=>ax n f+f n
theorem dh {n:Nat} {f g:Nat→Int} (h:∀ i,i < n→f i=g i):ax n f=ax n g:=by
 induction n with
 | zero=>rfl
 | succ n ih=>simp only [ax];rw [ih (fun i hi=>h i (by omega)),h n (by omega)]
theorem mg {n:Nat} {f:Nat→Int} (h:∀ i,i < n→f i=0):ax n f=0:=by
 induction n with
 | zero=>rfl
 | succ n ih=>simp only [ax];rw [ih (fun i hi=>h i (by omega)),h n (by omega)];rfl
theorem ov (n:Nat) (f g:Nat→Int):ax n (fun i=>f i+g i)=ax n f+ax n g:=by
 induction n with
 | zero=>rfl
 | succ n ih=>simp only [ax];rw [ih];omega
theorem fe (n:Nat) (x:Int) (f:Nat→Int):ax n (fun i=>x * f i)=x * ax n f:=by
 induction n with
 | zero=>simp [ax]
 | succ n ih=>simp only [ax];rw [ih,Int.mul_add]
theorem CH (n:Nat) (f:Nat→Int):ax n (fun i=>- f i)=- ax n f:=by
 induction n with
 | zero=>rfl
 | succ n ih=>simp only [ax];rw [ih];omega
theorem Ay (n:Nat) (f g:Nat→Int):ax n (fun i=>f i - g i)=ax n f - ax n g:=by
 induction n with
 | zero=>rfl
 | succ n ih=>simp only [ax];rw [ih];omega
theorem pz {n:Nat} {f:Nat→Int} (k:Nat) (hk:k < n) (h:∀ i,i < n→i ≠ k→f i=0):ax n f=f k:=by
 induction n with
 | zero=>omega
 | succ n ih =>
  simp only [ax]
  by_cases hkn:k=n
  ·subst hkn
   rw [mg (fun i hi=>h i (by omega) (by omega))];omega
  ·rw [ih (by omega) (fun i hi hne=>h i (by omega) hne),h n (by omega) (by omega)];omega
theorem ahq {n:Nat} {f:Nat→Int} (k l:Nat) (hk:k < n) (hl:l < n) (arb:k ≠ l) (h:∀ i,i < n→i ≠ k→i ≠ l→f i=0):ax n f=f k+f l:=by
 have e:ax n f=ax n (fun i=>(if i=k then f k else 0)+(if i=l then f l else 0)):=by
  refine dh (fun i hi=>?_)
  by_cases h1:i=k
  ·subst h1;simp [arb]
  ·by_cases h2 : i = l
   ·subst h2;simp [h1]
   ·simp [h1,h2,h i hi h1 h2]
 rw [e,ov,pz k hk (fun i _ hne=>by simp [hne]),pz l hl (fun i _ hne=>by simp [hne])]
 simp
theorem yE (n:Nat) (f:Nat→Int):ax (n+1) f=f 0+ax n (fun i=>f (i+1)):=by
 induction n with
 | zero=>simp [ax]
 | succ n ih =>
  rw [show ax (n+1+1) f=ax (n+1) f+f (n+1) from rfl,ih]
  simp only [ax];omega
theorem yF (n m:Nat) (f:Nat→Nat→Int):ax n (fun i=>ax m (fun j=>f i j))=ax m (fun j=>ax n (fun i=>f i j)):=by
 induction n with
 | zero=>simp only [ax];rw [mg (fun _ _=>rfl)]
 | succ n ih=>simp only [ax];rw [ih,ov]
theorem ahp (n m:Nat) (f:Nat→Int):ax (n+m) f=ax n f+ax m (fun i=>f (n+i)):=by
 induction m with
 | zero=>simp [ax]
 | succ m ih=>rw [← Nat.add_assoc];simp only [ax];rw [ih];omega
theorem ID {n m:Nat} {f:Nat→Int} (h:n≤m) (hz:∀ i,n≤i→i < m→f i=0):ax m f=ax n f:=by
 obtain ⟨d,rfl⟩:=Nat.exists_eq_add_of_le h
 rw [ahp,mg (n:=d) (fun i hi=>hz _ (by omega) (by omega))];omega
theorem ahn (n : Nat) (f : Nat → Nat → Int) :
  ax (n+1) (fun i=>ax n (fun j=>f i j))=ax (n+1) (fun b=>ax b (fun a=>f b a+f a (b-1))):=by
 induction n with
 | zero=>simp [ax]
 | succ n ih =>
  rw [show ax (n+1+1) (fun b=>ax b (fun a=>f b a+f a (b-1)))=ax (n+1) (fun b=>ax b (fun a=>f b a+f a (b-1)))+ax (n+1) (fun a=>f (n+1) a+f a n) from rfl]
  rw [← ih,ov]
  rw [show ax (n+1+1) (fun i=>ax (n+1) (fun j=>f i j))=ax (n+1) (fun i=>ax (n+1) (fun j=>f i j))+ax (n+1) (fun j=>f (n+1) j) from rfl]
  rw [show (fun i=>ax (n+1) (fun j=>f i j))=(fun i=>ax n (fun j=>f i j)+f i n) from rfl,ov]
  have:ax (n+1) (f (n+1))=ax (n+1) (fun j=>f (n+1) j):=rfl
  omega
def aY (i a:Nat):Nat:=if a < i then a else a+1
def fW (i:Nat):Int:=if i % 2=0 then 1 else -1
theorem NC (i:Nat):fW (i+1)=- fW i:=by
 unfold fW;by_cases h:i % 2=0
 ·rw [if_pos h,if_neg (by omega)]
 ·rw [if_neg h,if_pos (by omega)];rfl
theorem ahm:fW 0=1:=rfl
theorem as7 {i a n:Nat} (hi:i < n+1) (ha:a < n):aY i a < n+1:=by unfold aY;split<;>omega
def aE : Nat → (Nat → Nat → Int) → Int
 | 0,_=>1
 | n+1,M=>ax (n+1) (fun i=>fW i * M i 0 * aE n (fun a b=>M (aY i a) (b+1)))
theorem arH (n:Nat) (M:Nat→Nat→Int):aE (n+1) M=ax (n+1) (fun i=>fW i * M i 0 * aE n (fun a b=>M (aY i a) (b+1))):=rfl
theorem iq {n:Nat}:∀ {M N:Nat→Nat→Int},(∀ a b,a < n→b < n→M a b=N a b)→aE n M=aE n N:=by
 induction n with
 | zero=>intros;rfl
 | succ n ih =>
  intro M N h
  rw [arH,arH]
  refine dh (fun i hi=>?_)
  rw [h i 0 hi (by omega),ih (fun a b ha hb=>h _ _ (as7 hi ha) (by omega))]
def bn (M:Nat→Nat→Int) (i:Nat) (r:Nat→Int):Nat→Nat→Int:=fun a b=>if a=i then r b else M a b
def cO (M:Nat→Nat→Int) (j:Nat) (c:Nat→Int):Nat→Nat→Int:=fun a b=>if b=j then c a else M a b
def Az (i a:Nat):Nat:=if a < i then a else a - 1
theorem V8 {i a k:Nat} (h:k ≠ i):aY i a=k↔a=Az i k:=by unfold aY Az;split<;>split<;>omega
theorem ahs {i k n:Nat} (hi:i < n+1) (hk:k < n+1) (h:k ≠ i):Az i k < n:=by unfold Az;split<;>omega
theorem ND (i a:Nat):aY i a ≠ i:=by unfold aY;split<;>omega
theorem Iw {M:Nat→Nat→Int} {i k:Nat} {r:Nat→Int} (h:k ≠ i):(fun a b=>bn M k r (aY i a) (b+1))=bn (fun a b=>M (aY i a) (b+1)) (Az i k) (fun b=>r (b+1)):=by
 funext a b
 unfold bn
 by_cases e:aY i a=k
 ·rw [if_pos e,if_pos ((V8 h).mp e)]
 ·rw [if_neg e,if_neg (fun h'=>e ((V8 h).mpr h'))]
theorem Ix {M:Nat→Nat→Int} {k:Nat} {r:Nat→Int}:(fun a b=>bn M k r (aY k a) (b+1))=(fun a b=>M (aY k a) (b+1)):=by
 funext a b
 unfold bn
 rw [if_neg (ND k a)]
theorem Iv {n:Nat}:∀ (M:Nat→Nat→Int) (k:Nat),k < n→∀ (x y:Int) (r s:Nat→Int),aE n (bn M k (fun b=>x * r b+y * s b))=x * aE n (bn M k r)+y * aE n (bn M k s):=by
 induction n with
 | zero=>intro M k hk;omega
 | succ n ih =>
  intro M k hk x y r s
  rw [arH,arH,arH,← fe,← fe,← ov]
  refine dh (fun i hi=>?_)
  by_cases e:k=i
  ·subst e
   rw [Ix,Ix,Ix]
   simp only [bn,if_true]
   generalize aE n _=D
   grind
  ·rw [Iw e, Iw e, Iw e, ih _ _ (ahs hi hk e)]
   simp only [bn,if_neg (Ne.symm e)]
   generalize aE n _=D
   generalize aE n _=E
   grind
theorem Nw {n:Nat} (M:Nat→Nat→Int) (k:Nat) (hk:k < n) (x:Int) (r:Nat→Int):aE n (bn M k (fun b=>x * r b))=x * aE n (bn M k r):=by
 have:=Iv M k hk x 0 r r
 simpa using this
theorem CE {n:Nat} (M:Nat→Nat→Int) (k:Nat) (hk:k < n) (r s:Nat→Int):aE n (bn M k (fun b=>r b+s b))=aE n (bn M k r)+aE n (bn M k s):=by
 have:=Iv M k hk 1 1 r s
 simpa using this
theorem Ax (M:Nat→Nat→Int) (k:Nat):bn M k (M k)=M:=by
 funext a b;unfold bn;split
 ·case _ h=>rw [h]
 ·rfl
theorem tC (M:Nat→Nat→Int) {k l:Nat} (h:k ≠ l) (r s:Nat→Int):bn (bn M k r) l s=bn (bn M l s) k r:=by
 funext a b;unfold bn;by_cases e:a=l
 ·subst e;simp [Ne.symm h]
 ·simp [e]
theorem ahf {n:Nat} (M:Nat→Nat→Int) (k:Nat) (hk:k < n) (h:∀ b,b < n→M k b=0):aE n M=0:=by
 have e:aE n M=aE n (bn M k (fun b=>0 * M k b)):=by
  refine iq (fun a b _ hb=>?_)
  unfold bn;split
  ·case _ h'=>rw [h',h b hb];simp
  ·rfl
 rw [e,Nw _ _ hk];simp
theorem Ir {n:Nat}:∀ (M:Nat→Nat→Int) (k:Nat),k+1 < n→(∀ b,b < n→M k b=M (k+1) b)→aE n M=0:=by
 induction n with
 | zero=>intro M k hk;omega
 | succ n ih =>
  intro M k hk h
  rw [arH,ahq k (k+1) (by omega) hk (by omega)]
  ·have e:aE n (fun a b=>M (aY k a) (b+1))=aE n (fun a b=>M (aY (k+1) a) (b+1)):=by
    refine iq (fun a b ha hb=>?_)
    by_cases h1:a=k
    ·subst h1
     have e1:aY a a=a+1:=by unfold aY;split<;>omega
     have e2:aY (a+1) a=a:=by unfold aY;split<;>omega
     rw [e1,e2,h _ (by omega)]
    ·have : aY k a = aY (k+1) a := by unfold aY; split <;> split <;> omega
     rw [this]
   rw [e,NC,h 0 (by omega)]
   generalize aE n _=D
   grind
  ·intro i hi h1 h2
   have:aE n (fun a b=>M (aY i a) (b+1))=0:=by
    by_cases hik:i < k
    ·refine ih _ (k-1) (by omega) (fun b hb => ?_)
     have e1:aY i (k-1)=k:=by unfold aY;split<;>omega
     have e2:aY i (k-1+1)=k+1:=by unfold aY;split<;>omega
     simp only [e1,e2];exact h _ (by omega)
    ·refine ih _ k (by omega) (fun b hb => ?_)
     have e1:aY i k=k:=by unfold aY;split<;>omega
     have e2:aY i (k+1)=k+1:=by unfold aY;split<;>omega
     simp only [e1,e2];exact h _ (by omega)
   rw [this];simp
theorem ag' {n:Nat} (M:Nat→Nat→Int) (k:Nat) (hk:k+1 < n) (r s:Nat→Int):aE n (bn (bn M k r) (k+1) s)=- aE n (bn (bn M k s) (k+1) r):=by
 have h0:aE n (bn (bn M k (fun b=>r b+s b)) (k+1) (fun b=>r b+s b))=0 :=
  Ir _ k hk (fun b _=>by simp [bn])
 have hr:aE n (bn (bn M k r) (k+1) r)=0:=Ir _ k hk (fun b _=>by simp [bn])
 have hs:aE n (bn (bn M k s) (k+1) s)=0:=Ir _ k hk (fun b _=>by simp [bn])
 rw [CE _ _ hk,tC _ (show k ≠ k+1 by omega),tC _ (show k ≠ k+1 by omega),CE _ _ (by omega),CE _ _ (by omega)] at h0
 rw [tC _ (show k+1 ≠ k by omega),tC _ (show k+1 ≠ k by omega),tC _ (show k+1 ≠ k by omega),tC _ (show k+1 ≠ k by omega),hr,hs] at h0
 omega
theorem VY {n:Nat}:∀ (d:Nat) (M:Nat→Nat→Int) (k:Nat),k+1+d < n→(∀ b,b < n→M k b=M (k+1+d) b)→aE n M=0:=by
 intro d
 induction d with
 | zero=>intro M k hk h;exact Ir M k hk h
 | succ d ih =>
  intro M k hk h
  have e:M=bn (bn M (k+1+d) (M (k+1+d))) (k+1+d+1) (M (k+1+d+1)):=by
   rw [Ax,Ax]
  rw [e,ag' _ _ (by omega)]
  rw [ih _ k (by omega) (fun b hb=>?_)]
  ·rfl
  ·simp only [bn]
   rw [if_neg (by omega),if_neg (by omega),if_neg (by omega),if_pos trivial]
   exact h b hb
theorem FH {n:Nat} (M:Nat→Nat→Int) (k l:Nat) (hk:k < n) (hl:l < n) (arb:k ≠ l) (h:∀ b,b < n→M k b=M l b):aE n M=0:=by
 rcases Nat.lt_or_gt_of_ne arb with h1|h1
 ·obtain ⟨d, rfl⟩ := Nat.exists_eq_add_of_lt h1
  exact VY d M k (by omega) (fun b hb=>by rw [h b hb];congr 1;omega)
 ·obtain ⟨d, rfl⟩ := Nat.exists_eq_add_of_lt h1
  exact VY d M l (by omega) (fun b hb=>by rw [← h b hb];congr 1;omega)
theorem V3 {n:Nat} (M:Nat→Nat→Int) (k l:Nat) (hk:k < n) (hl:l < n) (arb:k ≠ l) (x:Int):aE n (bn M k (fun b=>M k b+x * M l b))=aE n M:=by
 have h1:=Iv M k hk 1 x (M k) (M l)
 have h2:aE n (bn M k (M l))=0:=FH _ k l hk hl arb (fun b _=>by simp [bn,Ne.symm arb])
 rw [h2,Ax] at h1
 simpa using h1
theorem V4 {n:Nat} (M:Nat→Nat→Int) (l:Nat) (hl:l < n) (x:Nat→Int) (hx:x l=0):aE n (fun a b=>M a b+x a * M l b)=aE n M:=by
 have key:∀ m,m≤n→aE n (fun a b=>if a < m then M a b+x a * M l b else M a b)=aE n M:=by
  intro m
  induction m with
  | zero=>intro _;exact iq (fun a b _ _=>by simp)
  | succ m ih =>
   intro hm
   rw [← ih (by omega)]
   by_cases hml:m=l
   ·subst hml
    refine iq (fun a b _ _=>?_)
    by_cases h1:a < m
    ·rw [if_pos h1,if_pos (by omega)]
    ·by_cases h2 : a = m
     ·subst h2;simp [hx]
     ·rw [if_neg h1,if_neg (by omega)]
   ·rw [← V3 (fun a b => if a < m then M a b + x a * M l b else M a b) m l (by omega) hl hml (x m)]
    refine iq (fun a b _ _=>?_)
    simp only [bn]
    by_cases h2:a=m
    ·subst h2
     by_cases h3:l < a
     ·simp [h3,hx]
     ·simp [h3]
    ·by_cases h1 : a < m
     ·rw [if_pos (by omega),if_neg h2,if_pos h1]
     ·rw [if_neg (by omega),if_neg h2,if_neg h1]
 rw [← key n (Nat.le_refl n)]
 exact iq (fun a b ha _=>by rw [if_pos ha])
theorem V5 {n:Nat} (M:Nat→Nat→Int) (k l:Nat) (hk:k < n) (hl:l < n) (arb:k ≠ l):aE n (bn (bn M k (M l)) l (M k))=- aE n M:=by
 have h0:aE n (bn (bn M k (fun b=>M k b+M l b)) l (fun b=>M k b+M l b))=0 :=
  FH _ k l hk hl arb (fun b _=>by simp [bn,arb])
 have hr:aE n (bn (bn M k (M k)) l (M k))=0:=FH _ k l hk hl arb (fun b _=>by simp [bn,arb])
 have hs:aE n (bn (bn M k (M l)) l (M l))=0:=FH _ k l hk hl arb (fun b _=>by simp [bn,arb])
 rw [CE _ _ hl,tC _ arb,tC _ arb,CE _ _ hk,CE _ _ hk] at h0
 rw [tC _ (Ne.symm arb),tC _ (Ne.symm arb),tC _ (Ne.symm arb),tC _ (Ne.symm arb),hr,hs,Ax,Ax] at h0
 omega
theorem Nz {M:Nat→Nat→Int} {i k:Nat} {c:Nat→Int}:(fun a b=>cO M (k+1) c (aY i a) (b+1))=cO (fun a b=>M (aY i a) (b+1)) k (fun a=>c (aY i a)):=by
 funext a b
 unfold cO
 by_cases e:b=k
 ·subst e;simp
 ·simp [e]
theorem NA {M:Nat→Nat→Int} {i:Nat} {c:Nat→Int}:(fun a b=>cO M 0 c (aY i a) (b+1))=(fun a b=>M (aY i a) (b+1)):=by
 funext a b;unfold cO;simp
theorem Ns {n:Nat}:∀ (M:Nat→Nat→Int) (k:Nat),k < n→∀ (x y:Int) (r s:Nat→Int),aE n (cO M k (fun b=>x * r b+y * s b))=x * aE n (cO M k r)+y * aE n (cO M k s):=by
 induction n with
 | zero=>intro M k hk;omega
 | succ n ih =>
  intro M k hk x y r s
  rw [arH,arH,arH,← fe,← fe,← ov]
  refine dh (fun i hi=>?_)
  cases k with
  | zero =>
   rw [NA,NA,NA]
   simp only [cO,if_true]
   generalize aE n _=D
   grind
  | succ k =>
   rw [Nz,Nz,Nz,ih _ _ (by omega)]
   simp only [cO,if_neg (show ¬ 0=k+1 by omega)]
   generalize aE n _=D
   generalize aE n _=E
   grind
theorem ahb {n:Nat} (M:Nat→Nat→Int) (k:Nat) (hk:k < n) (x:Int) (r:Nat→Int):aE n (cO M k (fun b=>x * r b))=x * aE n (cO M k r):=by
 have:=Ns M k hk x 0 r r
 simpa using this
theorem CD {n:Nat} (M:Nat→Nat→Int) (k:Nat) (hk:k < n) (r s:Nat→Int):aE n (cO M k (fun b=>r b+s b))=aE n (cO M k r)+aE n (cO M k s):=by
 have:=Ns M k hk 1 1 r s
 simpa using this
theorem IA (M:Nat→Nat→Int) (k:Nat):cO M k (fun a=>M a k)=M:=by
 funext a b;unfold cO;split
 ·case _ h=>rw [h]
 ·rfl
theorem tB (M:Nat→Nat→Int) {k l:Nat} (h:k ≠ l) (r s:Nat→Int):cO (cO M k r) l s=cO (cO M l s) k r:=by
 funext a b;unfold cO;by_cases e:b=l
 ·subst e;simp [Ne.symm h]
 ·simp [e]
theorem Nt {n:Nat} (M:Nat→Nat→Int) (k:Nat) (hk:k < n) (h:∀ a,a < n→M a k=0):aE n M=0:=by
 have e:aE n M=aE n (cO M k (fun a=>0 * M a k)):=by
  refine iq (fun a b ha _=>?_)
  unfold cO;split
  ·case _ h'=>rw [h',h a ha];simp
  ·rfl
 rw [e,ahb _ _ hk];simp
theorem Iu {n:Nat}:∀ (M:Nat→Nat→Int) (k:Nat),k+1 < n→(∀ a,a < n→M a k=M a (k+1))→aE n M=0:=by
 induction n with
 | zero=>intro M k hk;omega
 | succ n ih =>
  intro M k hk h
  cases k with
  | succ k =>
   rw [arH]
   refine mg (fun i hi=>?_)
   rw [ih _ k (by omega) (fun a ha=>h _ (as7 hi ha))];simp
  | zero =>
   obtain ⟨m,rfl⟩:∃ m,n=m+1:=⟨n - 1,by omega⟩
   rw [arH]
   have e:ax (m+1+1) (fun i=>fW i * M i 0 * aE (m+1) (fun a b=>M (aY i a) (b+1)))=ax (m+1+1) (fun i=>ax (m+1) (fun j=>fW i * fW j * M i 0 * M (aY i j) 0 * aE m (fun a b=>M (aY i (aY j a)) (b+1+1)))):=by
    refine dh (fun i hi=>?_)
    rw [arH,← fe]
    refine dh (fun j hj=>?_)
    rw [h (aY i j) (as7 hi hj)]
    generalize aE m _=D
    grind
   rw [e,ahn]
   refine mg (fun b hb=>mg (fun a ha=>?_))
   have e1:aY b a=a:=by unfold aY;split<;>omega
   have e2:aY a (b-1)=b:=by unfold aY;split<;>omega
   have e3:∀ c,aY b (aY a c)=aY a (aY (b-1) c):=by intro c;unfold aY;(repeat' split)<;>omega
   have e4:fW b=- fW (b-1):=by rw [← NC];congr 1;omega
   simp only [e1,e2,e3,e4]
   generalize aE m _=D
   grind
theorem aha {n:Nat} (M:Nat→Nat→Int) (k:Nat) (hk:k+1 < n) (r s:Nat→Int):aE n (cO (cO M k r) (k+1) s)=- aE n (cO (cO M k s) (k+1) r):=by
 have h0:aE n (cO (cO M k (fun b=>r b+s b)) (k+1) (fun b=>r b+s b))=0 :=
  Iu _ k hk (fun b _=>by simp [cO])
 have hr:aE n (cO (cO M k r) (k+1) r)=0:=Iu _ k hk (fun b _=>by simp [cO])
 have hs:aE n (cO (cO M k s) (k+1) s)=0:=Iu _ k hk (fun b _=>by simp [cO])
 rw [CD _ _ hk,tB _ (show k ≠ k+1 by omega),tB _ (show k ≠ k+1 by omega),CD _ _ (by omega),CD _ _ (by omega)] at h0
 rw [tB _ (show k+1 ≠ k by omega),tB _ (show k+1 ≠ k by omega),tB _ (show k+1 ≠ k by omega),tB _ (show k+1 ≠ k by omega),hr,hs] at h0
 omega
theorem VZ {n:Nat}:∀ (d:Nat) (M:Nat→Nat→Int) (k:Nat),k+1+d < n→(∀ b,b < n→M b k=M b (k+1+d))→aE n M=0:=by
 intro d
 induction d with
 | zero=>intro M k hk h;exact Iu M k hk h
 | succ d ih =>
  intro M k hk h
  have e:M=cO (cO M (k+1+d) (fun a=>M a (k+1+d))) (k+1+d+1) (fun a=>M a (k+1+d+1)):=by
   rw [IA,IA]
  rw [e,aha _ _ (by omega)]
  rw [ih _ k (by omega) (fun b hb=>?_)]
  ·rfl
  ·simp only [cO]
   rw [if_neg (by omega),if_neg (by omega),if_neg (by omega),if_pos trivial]
   exact h b hb
theorem Nv {n:Nat} (M:Nat→Nat→Int) (k l:Nat) (hk:k < n) (hl:l < n) (arb:k ≠ l) (h:∀ b,b < n→M b k=M b l):aE n M=0:=by
 rcases Nat.lt_or_gt_of_ne arb with h1|h1
 ·obtain ⟨d, rfl⟩ := Nat.exists_eq_add_of_lt h1
  exact VZ d M k (by omega) (fun b hb=>by rw [h b hb];congr 1;omega)
 ·obtain ⟨d, rfl⟩ := Nat.exists_eq_add_of_lt h1
  exact VZ d M l (by omega) (fun b hb=>by rw [← h b hb];congr 1;omega)
theorem ahd {n:Nat} (M:Nat→Nat→Int) (k l:Nat) (hk:k < n) (hl:l < n) (arb:k ≠ l):aE n (cO (cO M k (fun a=>M a l)) l (fun a=>M a k))=- aE n M:=by
 have h0:aE n (cO (cO M k (fun b=>M b k+M b l)) l (fun b=>M b k+M b l))=0 :=
  Nv _ k l hk hl arb (fun b _=>by simp [cO,arb])
 have hr:aE n (cO (cO M k (fun b=>M b k)) l (fun b=>M b k))=0:=Nv _ k l hk hl arb (fun b _=>by simp [cO,arb])
 have hs:aE n (cO (cO M k (fun b=>M b l)) l (fun b=>M b l))=0:=Nv _ k l hk hl arb (fun b _=>by simp [cO,arb])
 rw [CD _ _ hl,tB _ arb,tB _ arb,CD _ _ hk,CD _ _ hk] at h0
 rw [tB _ (Ne.symm arb),tB _ (Ne.symm arb),tB _ (Ne.symm arb),tB _ (Ne.symm arb),hr,hs,IA,IA] at h0
 omega
theorem ahe {n:Nat} (M:Nat→Nat→Int) (h:∀ a,0 < a→a < n+1→M a 0=0):aE (n+1) M=M 0 0 * aE n (fun a b=>M (a+1) (b+1)):=by
 rw [arH,pz 0 (by omega) (fun i hi hne=>by rw [h i (by omega) hi];simp)]
 have:(fun a b=>M (aY 0 a) (b+1))=(fun a b=>M (a+1) (b+1)):=by
  funext a b;have:aY 0 a=a+1:=by unfold aY;split<;>omega
  rw [this]
 rw [this,ahm];simp
theorem V1 {n:Nat}:∀ (M:Nat→Nat→Int),(∀ b,b < n→M n b=0)→aE (n+1) M=M n n * aE n M:=by
 induction n with
 | zero=>intro M _;simp [aE,ax,fW]
 | succ n ih =>
  intro M h
  rw [arH (n+1)]
  rw [show ax (n+1+1) (fun i=>fW i * M i 0 * aE (n+1) (fun a b=>M (aY i a) (b+1)))=ax (n+1) (fun i=>fW i * M i 0 * aE (n+1) (fun a b=>M (aY i a) (b+1)))+fW (n+1) * M (n+1) 0 * aE (n+1) (fun a b=>M (aY (n+1) a) (b+1)) from rfl]
  rw [h 0 (by omega)]
  simp only [Int.mul_zero,Int.zero_mul,Int.add_zero]
  rw [arH n M,← fe]
  refine dh (fun i hi=>?_)
  have e:aY i n=n+1:=by unfold aY;split<;>omega
  rw [ih _ (fun b hb=>by rw [e];exact h _ (by omega))]
  rw [e]
  generalize aE n _=D
  grind
theorem V0 {n:Nat}:∀ (M:Nat→Nat→Int),(∀ a,a < n→M a n=0)→aE (n+1) M=M n n * aE n M:=by
 induction n with
 | zero=>intro M _;simp [aE,ax,fW]
 | succ n ih =>
  intro M h
  rw [arH (n+1)]
  rw [show ax (n+1+1) (fun i=>fW i * M i 0 * aE (n+1) (fun a b=>M (aY i a) (b+1)))=ax (n+1) (fun i=>fW i * M i 0 * aE (n+1) (fun a b=>M (aY i a) (b+1)))+fW (n+1) * M (n+1) 0 * aE (n+1) (fun a b=>M (aY (n+1) a) (b+1)) from rfl]
  have z:aE (n+1) (fun a b=>M (aY (n+1) a) (b+1))=0:=by
   refine Nt _ n (by omega) (fun a ha=>?_)
   have e:aY (n+1) a=a:=by unfold aY;split<;>omega
   rw [e];exact h _ (by omega)
  rw [z]
  simp only [Int.mul_zero,Int.add_zero]
  rw [arH n M,← fe]
  refine dh (fun i hi=>?_)
  have e:aY i n=n+1:=by unfold aY;split<;>omega
  rw [ih _ (fun a ha=>by exact h _ (as7 hi (by omega)))]
  rw [e]
  generalize aE n _=D
  grind
def aqE (j b:Nat):Int:=if b=j then 1 else 0
theorem pq (j:Nat):aqE j j=1:=by simp [aqE]
theorem iY {j b:Nat} (h:b ≠ j):aqE j b=0:=by simp [aqE,h]
theorem V2 (n:Nat):aE n (fun a b=>aqE a b)=1:=by
 induction n with
 | zero=>rfl
 | succ n ih=>rw [V1 _ (fun b hb=>iY (by omega)),ih,pq];rfl
theorem IB {n:Nat} (x:Nat→Int) (b:Nat) (hb:b < n):ax n (fun j=>x j * aqE j b)=x b:=by
 rw [pz b hb (fun i _ hne=>by rw [iY (Ne.symm hne)];simp),pq];simp
theorem IC {n:Nat} (x:Nat→Int) (b:Nat) (hb:b < n):ax n (fun j=>x j * aqE b j)=x b:=by
 rw [pz b hb (fun i _ hne=>by rw [iY hne];simp),pq];simp
theorem Nx {n : Nat} (M : Nat → Nat → Int) (i : Nat) (hi : i < n) (m : Nat) (x : Nat → Int) (r : Nat → Nat → Int) :
  aE n (bn M i (fun b=>ax m (fun j=>x j * r j b)))=ax m (fun j=>x j * aE n (bn M i (r j))):=by
 induction m with
 | zero=>exact ahf _ i hi (fun b _=>by simp [bn,ax])
 | succ m ih =>
  simp only [ax]
  have:=Iv M i hi 1 (x m) (fun b=>ax m (fun j=>x j * r j b)) (r m)
  simp only [Int.one_mul] at this
  rw [this,ih]
theorem ahc {n : Nat} (M : Nat → Nat → Int) (i : Nat) (hi : i < n) (m : Nat) (x : Nat → Int) (r : Nat → Nat → Int) :
  aE n (cO M i (fun b=>ax m (fun j=>x j * r j b)))=ax m (fun j=>x j * aE n (cO M i (r j))):=by
 induction m with
 | zero=>exact Nt _ i hi (fun b _=>by simp [cO,ax])
 | succ m ih =>
  simp only [ax]
  have:=Ns M i hi 1 (x m) (fun b=>ax m (fun j=>x j * r j b)) (r m)
  simp only [Int.one_mul] at this
  rw [this,ih]
def iX (n:Nat) (M:Nat→Nat→Int) (j i:Nat):Int:=aE n (bn M i (aqE j))
theorem CC {n:Nat} (M:Nat→Nat→Int) (k i:Nat) (hi:i < n) (hk:k < n):ax n (fun j=>M k j * iX n M j i)=if k=i then aE n M else 0:=by
 unfold iX
 rw [← Nx M i hi n (M k) (fun j=>aqE j)]
 have e:aE n (bn M i (fun b=>ax n (fun j=>M k j * aqE j b)))=aE n (bn M i (M k)):=by
  refine iq (fun a b _ hb=>?_)
  unfold bn;split
  ·exact IB (M k) b hb
  ·rfl
 rw [e]
 by_cases h:k=i
 ·subst h;rw [Ax,if_pos rfl]
 ·rw [if_neg h]
  exact FH _ i k hi hk (Ne.symm h) (fun b _=>by simp [bn,h])
theorem ag_ (r : Nat) (K : Nat → Nat → Int) :
  aE (r+1) K=K r r * aE r K - ax r (fun j=>ax r (fun i=>K r j * iX r K j i * K i r)):=by
 have hrow:aE (r+1) K=ax (r+1) (fun j=>K r j * aE (r+1) (bn K r (aqE j))):=by
  rw [← Nx K r (by omega) (r+1) (K r) (fun j=>aqE j)]
  refine iq (fun a b _ hb=>?_)
  unfold bn;split
  ·case _ h=>exact (by rw [h]:K a b=K r b).trans (IB (K r) b hb).symm
  ·rfl
 rw [hrow]
 rw [show ax (r+1) (fun j=>K r j * aE (r+1) (bn K r (aqE j)))=ax r (fun j=>K r j * aE (r+1) (bn K r (aqE j)))+K r r * aE (r+1) (bn K r (aqE r)) from rfl]
 have afX:aE (r+1) (bn K r (aqE r))=aE r K:=by
  rw [V1 _ (fun b hb=>by simp [bn,aqE];omega)]
  have:bn K r (aqE r) r r=1:=by simp [bn,aqE]
  rw [this,Int.one_mul]
  exact iq (fun a b ha _=>by unfold bn;rw [if_neg (by omega)])
 have hj:∀ j,j < r→aE (r+1) (bn K r (aqE j))=- ax r (fun i=>iX r K j i * K i r):=by
  intro j hj
  have afz:aE (r+1) (bn K r (aqE j))=ax r (fun i=>K i r * aE (r+1) (cO (bn K r (aqE j)) r (aqE i))):=by
   rw [← ahc (bn K r (aqE j)) r (by omega) r (fun i=>K i r) (fun i=>aqE i)]
   refine iq (fun a b ha _=>?_)
   unfold cO;split
   ·case _ h =>
    subst h
    by_cases h2:a=b
    ·subst h2
     refine Eq.trans ?_ (mg (f:=fun i=>K i a * aqE i a) (fun i hi=>by rw [iY (show a ≠ i by omega)];simp)).symm
     simp [bn,aqE];omega
    ·refine Eq.trans ?_ (IB (fun i => K i b) a (by omega)).symm
     simp [bn,h2]
   ·rfl
  rw [afz,← CH]
  refine dh (fun i hi=>?_)
  have hs:=V5 (cO (bn K r (aqE j)) r (aqE i)) i r (n:=r+1) (by omega) (by omega) (by omega)
  have hx:aE (r+1) (bn (bn (cO (bn K r (aqE j)) r (aqE i)) i (cO (bn K r (aqE j)) r (aqE i) r)) r (cO (bn K r (aqE j)) r (aqE i) i))=iX r K j i:=by
   rw [V0]
   ·unfold iX
    have:bn (bn (cO (bn K r (aqE j)) r (aqE i)) i (cO (bn K r (aqE j)) r (aqE i) r)) r (cO (bn K r (aqE j)) r (aqE i) i) r r=1:=by
     simp [bn,cO,aqE]
    rw [this,Int.one_mul]
    refine iq (fun a b ha hb=>?_)
    unfold bn cO
    have h1:a ≠ r:=by omega
    have h2:b ≠ r:=by omega
    by_cases h3:a=i
    ·subst h3;simp [h1,h2]
    ·simp [h1,h2,h3]
   ·intro a ha
    have h1:a ≠ r:=by omega
    unfold bn cO
    by_cases h3:a=i
    ·subst h3;simp [h1,aqE];omega
    ·simp [h1,h3,aqE]
  rw [hx] at hs
  have:aE (r+1) (cO (bn K r (aqE j)) r (aqE i))=- iX r K j i:=by omega
  rw [this];grind
 rw [afX]
 have e2:ax r (fun j=>K r j * aE (r+1) (bn K r (aqE j)))=- ax r (fun j=>ax r (fun i=>K r j * iX r K j i * K i r)):=by
  rw [← CH]
  refine dh (fun j EO=>?_)
  rw [hj j EO,Int.mul_neg,← fe]
  congr 1
  exact dh (fun i _=>by grind)
 rw [e2];omega
theorem yC {n:Nat} {f g:Nat→Int} {p:Int} (h:∀ i,i < n→p ∣ f i - g i):p ∣ ax n f - ax n g:=by
 rw [← Ay]
 induction n with
 | zero=>exact ⟨0,by simp [ax]⟩
 | succ n ih=>simp only [ax];exact Int.dvd_add (ih (fun i hi=>h i (by omega))) (h n (by omega))
theorem asl {a b c d p:Int} (h1:p ∣ a - b) (h2:p ∣ c - d):p ∣ a * c - b * d:=by
 obtain ⟨x,hx⟩:=h1
 obtain ⟨y,hy⟩:=h2
 exact ⟨x * c+b * y,by grind⟩
theorem Nu {n:Nat} {p:Int}:∀ {M N:Nat→Nat→Int},(∀ a b,a < n→b < n→p ∣ M a b - N a b)→p ∣ aE n M - aE n N:=by
 induction n with
 | zero=>intro M N _;exact ⟨0,by simp [aE]⟩
 | succ n ih =>
  intro M N h
  rw [arH,arH]
  refine yC (fun i hi=>?_)
  refine asl (asl ⟨0,by simp⟩ (h i 0 hi (by omega))) (ih (fun a b ha hb=>h _ _ (as7 hi ha) (by omega)))
def eF (n:Nat) (c:Nat→Int) (u:Int):Int:=ax (n+1) (fun k=>c k * u ^ k)
def jR (c : Nat → Int) : Nat → Int
 | 0=>0
 | k+1=>c k
theorem NB (n:Nat) (c:Nat→Int) (u:Int):eF (n+1) c u=c 0+u * eF n (fun k=>c (k+1)) u:=by
 unfold eF
 rw [yE,← fe]
 congr 1
 ·simp
 ·exact dh (fun i _=>by rw [Int.pow_succ];grind)
theorem CG (n:Nat) (c:Nat→Int) (u:Int):eF (n+1) (jR c) u=u * eF n c u:=by
 rw [NB];show 0+u * eF n c u=_;omega
theorem Aw {n m:Nat} (c:Nat→Int) (u:Int) (h:n≤m) (hz:∀ k,n < k→c k=0):eF m c u=eF n c u:=by
 unfold eF
 exact ID (by omega) (fun i hi _=>by rw [hz i (by omega)];simp)
theorem FI (n:Nat) (c d:Nat→Int) (u:Int):eF n (fun k=>c k+d k) u=eF n c u+eF n d u:=by
 unfold eF;rw [← ov];exact dh (fun i _=>by grind)
theorem ahk (n:Nat) (c d:Nat→Int) (u:Int):eF n (fun k=>c k - d k) u=eF n c u - eF n d u:=by
 unfold eF;rw [← Ay];exact dh (fun i _=>by grind)
theorem FJ (n:Nat) (x:Int) (c:Nat→Int) (u:Int):eF n (fun k=>x * c k) u=x * eF n c u:=by
 unfold eF;rw [← fe];exact dh (fun i _=>by grind)
theorem CF (n m:Nat) (x:Nat→Int) (c:Nat→Nat→Int) (u:Int):eF n (fun k=>ax m (fun i=>x i * c i k)) u=ax m (fun i=>x i * eF n (c i) u):=by
 induction m with
 | zero=>simp only [ax];unfold eF;exact mg (fun _ _=>by simp)
 | succ m ih=>simp only [ax];rw [FI,ih,FJ]
theorem ahl {n:Nat}:∀ {c:Nat→Int},(∀ u:Int,1≤u→eF n c u=0)→∀ k,k≤n→c k=0:=by
 induction n with
 | zero =>
  intro c h k hk
  obtain rfl:k=0:=by omega
  have:=h 1 (by omega);simpa [eF,ax] using this
 | succ n ih =>
  intro c h k hk
  have h0:c 0=0:=by
   have h1:=h ((c 0).natAbs+1) (by omega)
   rw [NB] at h1
   have hd:((c 0).natAbs+1:Int) ∣ c 0:=⟨- eF n (fun k=>c (k+1)) ((c 0).natAbs+1),by rw [Int.mul_neg];omega⟩
   by_cases hc:c 0=0
   ·exact hc
   ·exfalso
    have:=Int.natAbs_dvd_natAbs.mpr hd
    have:=Nat.le_of_dvd (by omega) this
    omega
  cases k with
  | zero=>exact h0
  | succ k =>
   refine ih (c:=fun k=>c (k+1)) (fun u hu=>?_) k (by omega)
   have:=h u hu
   rw [NB,h0,Int.zero_add] at this
   rcases Int.mul_eq_zero.mp this with h'|h'
   ·omega
   ·exact h'
theorem Iz {n:Nat} {c d:Nat→Int} (h:∀ u:Int,1≤u→eF n c u=eF n d u) (k:Nat) (hk:k≤n):c k=d k:=by
 have:=ahl (c:=fun k=>c k - d k) (n:=n) (fun u hu=>by rw [ahk,h u hu];omega) k hk
 omega
def ef : Nat → (Nat → Nat → Int) → (Nat → Nat → Int) → Nat → Int
 | 0,_,_=>fun k=>if k=0 then 1 else 0
 | n+1,P,Q=>fun k=>ax (n+1) (fun i=>fW i * (P i 0 * ef n (fun a b=>P (aY i a) (b+1)) (fun a b=>Q (aY i a) (b+1)) k+Q i 0 * jR (ef n (fun a b=>P (aY i a) (b+1)) (fun a b=>Q (aY i a) (b+1))) k))
theorem Iq (n:Nat) (P Q:Nat→Nat→Int) (k:Nat):ef (n+1) P Q k=ax (n+1) (fun i=>fW i * (P i 0 * ef n (fun a b=>P (aY i a) (b+1)) (fun a b=>Q (aY i a) (b+1)) k+Q i 0 * jR (ef n (fun a b=>P (aY i a) (b+1)) (fun a b=>Q (aY i a) (b+1))) k)):=rfl
theorem asn {n:Nat}:∀ (P Q:Nat→Nat→Int) (k:Nat),n < k→ef n P Q k=0:=by
 induction n with
 | zero=>intro P Q k hk;simp [ef];omega
 | succ n ih =>
  intro P Q k hk
  rw [Iq]
  refine mg (fun i hi=>?_)
  rw [ih _ _ k (by omega)]
  obtain ⟨l,rfl⟩:∃ l,k=l+1:=⟨k - 1,by omega⟩
  show fW i * (P i 0 * 0+Q i 0 * ef n _ _ l)=0
  rw [ih _ _ l (by omega)];simp
theorem wZ {n:Nat}:∀ (P Q:Nat→Nat→Int) (u:Int),aE n (fun a b=>P a b+u * Q a b)=eF n (ef n P Q) u:=by
 induction n with
 | zero=>intro P Q u;simp [aE,eF,ax,ef]
 | succ n ih =>
  intro P Q u
  rw [arH]
  have e:eF (n+1) (ef (n+1) P Q) u=ax (n+1) (fun i=>fW i * eF (n+1) (fun k=>P i 0 * ef n (fun a b=>P (aY i a) (b+1)) (fun a b=>Q (aY i a) (b+1)) k+Q i 0 * jR (ef n (fun a b=>P (aY i a) (b+1)) (fun a b=>Q (aY i a) (b+1))) k) u):=by
   rw [← CF];rfl
  rw [e]
  refine dh (fun i hi=>?_)
  rw [ih,FI,FJ,FJ,CG,Aw _ _ (Nat.le_succ n) (fun k hk=>asn _ _ k hk)]
  grind
def ct : Nat → (Nat → Int) → Int
 | 0,_=>1
 | n+1,f=>ct n f * f n
theorem Iy {n:Nat} {f g:Nat→Int} (h:∀ i,i < n→f i=g i):ct n f=ct n g:=by
 induction n with
 | zero=>rfl
 | succ n ih=>simp only [ct];rw [ih (fun i hi=>h i (by omega)),h n (by omega)]
theorem ahj {n:Nat} {f:Nat→Int} (h:∀ i,i < n→0≤f i):0≤ct n f:=by
 induction n with
 | zero=>simp [ct]
 | succ n ih=>simp only [ct];exact Int.mul_nonneg (ih (fun i hi=>h i (by omega))) (h n (by omega))
theorem V7 {n:Nat} {f g:Nat→Int} (h0:∀ i,i < n→0≤f i) (h:∀ i,i < n→f i≤g i):ct n f≤ct n g:=by
 induction n with
 | zero=>simp [ct]
 | succ n ih =>
  simp only [ct]
  exact Int.mul_le_mul (ih (fun i hi=>h0 i (by omega)) (fun i hi=>h i (by omega))) (h n (by omega)) (h0 n (by omega)) (ahj (fun i hi=>Int.le_trans (h0 i (by omega)) (h i (by omega))))
theorem yD {n:Nat} {f g:Nat→Int} (h:∀ i,i < n→f i≤g i):ax n f≤ax n g:=by
 induction n with
 | zero=>simp [ax]
 | succ n ih=>simp only [ax];have:=ih (fun i hi=>h i (by omega));have:=h n (by omega);omega
theorem NF {n:Nat} {f:Nat→Int} (h:∀ i,i < n→0≤f i):0≤ax n f:=by
 have:=yD (f:=fun _=>0) h
 rwa [mg (fun _ _=>rfl)] at this
theorem ahr {n : Nat} (w R : Nat → Int) (hw : ∀ i, i < n → 0 ≤ w i) (hR : ∀ i, i < n → 0 ≤ R i) :
  ax n (fun i=>w i * ct (n-1) (fun a=>R (aY i a)))≤ct n (fun a=>w a+R a):=by
 induction n with
 | zero=>simp [ax,ct]
 | succ n ih =>
  have ih:=ih (fun i hi=>hw i (by omega)) (fun i hi=>hR i (by omega))
  show ax n (fun i=>w i * ct (n+1-1) (fun a=>R (aY i a)))+w n * ct (n+1-1) (fun a=>R (aY n a))≤ct n (fun a=>w a+R a) * (w n+R n)
  have e1:ax n (fun i=>w i * ct (n+1-1) (fun a=>R (aY i a)))=R n * ax n (fun i=>w i * ct (n-1) (fun a=>R (aY i a))):=by
   rw [← fe]
   refine dh (fun i hi=>?_)
   obtain ⟨m,rfl⟩:∃ m,n=m+1:=⟨n - 1,by omega⟩
   show w i * (ct m _ * R (aY i m))=_
   have:aY i m=m+1:=by unfold aY;split<;>omega
   rw [this]
   show _=R (m+1) * (w i * ct m _)
   grind
  have e2:ct (n+1-1) (fun a=>R (aY n a))=ct n R:=Iy (fun a ha=>by
   have:aY n a=a:=by unfold aY;split<;>omega
   rw [this])
  rw [e1,e2]
  have h1:R n * ax n (fun i=>w i * ct (n-1) (fun a=>R (aY i a)))≤R n * ct n (fun a=>w a+R a):=Int.mul_le_mul_of_nonneg_left ih (hR n (by omega))
  have h2:w n * ct n R≤w n * ct n (fun a=>w a+R a):=Int.mul_le_mul_of_nonneg_left (V7 (fun i hi=>hR i (by omega)) (fun i hi=>by have:=hw i (by omega);omega)) (hw n (by omega))
  have h3:ct n (fun a=>w a+R a) * (w n+R n)=w n * ct n (fun a=>w a+R a)+R n * ct n (fun a=>w a+R a):=by grind
  omega
def cX (x:Int):Int:=(x.natAbs:Int)
theorem wY (x:Int):0≤cX x:=by unfold cX;omega
theorem Nq (x y:Int):cX (x * y)=cX x * cX y:=by unfold cX;rw [Int.natAbs_mul];simp
theorem VU (x y:Int):cX (x+y)≤cX x+cX y:=by unfold cX;omega
theorem ag2 (i:Nat):cX (fW i)=1:=by unfold fW;split<;>rfl
theorem ag4:cX 0=0:=rfl
theorem ag3 (n:Nat) (f:Nat→Int):cX (ax n f)≤ax n (fun i=>cX (f i)):=by
 induction n with
 | zero=>simp [ax,cX]
 | succ n ih=>simp only [ax];have:=VU (ax n f) (f n);omega
theorem ag7 {n:Nat}:∀ (P Q:Nat→Nat→Int),ax (n+1) (fun k=>cX (ef n P Q k))≤ct n (fun a=>ax n (fun b=>cX (P a b)+cX (Q a b))):=by
 induction n with
 | zero=>intro P Q;simp [ax,ct,ef,cX]
 | succ n ih =>
  intro P Q
  have key:∀ i,i < n+1→ax (n+1+1) (fun k=>cX (fW i * (P i 0 * ef n (fun a b=>P (aY i a) (b+1)) (fun a b=>Q (aY i a) (b+1)) k+Q i 0 * jR (ef n (fun a b=>P (aY i a) (b+1)) (fun a b=>Q (aY i a) (b+1))) k)))≤(cX (P i 0)+cX (Q i 0)) * ct n (fun a=>ax n (fun b=>cX (P (aY i a) (b+1))+cX (Q (aY i a) (b+1)))):=by
   intro i hi
   have MS:=ih (fun a b=>P (aY i a) (b+1)) (fun a b=>Q (aY i a) (b+1))
   have htop:=asn (n:=n) (fun a b=>P (aY i a) (b+1)) (fun a b=>Q (aY i a) (b+1))
   generalize ef n (fun a b=>P (aY i a) (b+1)) (fun a b=>Q (aY i a) (b+1))=d at MS htop ⊢
   have h1:ax (n+1+1) (fun k=>cX (d k))=ax (n+1) (fun k=>cX (d k)):=ID (by omega) (fun k hk _=>by rw [htop k (by omega)];rfl)
   have h2:ax (n+1+1) (fun k=>cX (jR d k))=ax (n+1) (fun k=>cX (d k)):=by
    rw [yE];simp [jR,ag4]
   have h3:ax (n+1+1) (fun k=>cX (fW i * (P i 0 * d k+Q i 0 * jR d k)))≤ax (n+1+1) (fun k=>cX (P i 0) * cX (d k)+cX (Q i 0) * cX (jR d k)):=by
    refine yD (fun k _=>?_)
    rw [Nq,ag2,Int.one_mul,← Nq,← Nq]
    exact VU _ _
   rw [ov,fe,fe,h1,h2] at h3
   have h4:=Int.mul_le_mul_of_nonneg_left MS (wY (P i 0))
   have h5:=Int.mul_le_mul_of_nonneg_left MS (wY (Q i 0))
   have h6:=Int.add_mul (cX (P i 0)) (cX (Q i 0)) (ct n (fun a=>ax n (fun b=>cX (P (aY i a) (b+1))+cX (Q (aY i a) (b+1)))))
   omega
  have h1:ax (n+1+1) (fun k=>cX (ef (n+1) P Q k))≤ax (n+1+1) (fun k=>ax (n+1) (fun i=>cX (fW i * (P i 0 * ef n (fun a b=>P (aY i a) (b+1)) (fun a b=>Q (aY i a) (b+1)) k+Q i 0 * jR (ef n (fun a b=>P (aY i a) (b+1)) (fun a b=>Q (aY i a) (b+1))) k)))) :=
   yD (fun k _=>ag3 _ _)
  rw [yF] at h1
  refine Int.le_trans h1 (Int.le_trans (yD key) ?_)
  have h2:=ahr (n:=n+1) (fun i=>cX (P i 0)+cX (Q i 0)) (fun a=>ax n (fun b=>cX (P a (b+1))+cX (Q a (b+1)))) (fun i _=>by have:=wY (P i 0);have:=wY (Q i 0);omega) (fun i _=>NF (fun b _=>by have:=wY (P i (b+1));have:=wY (Q i (b+1));omega))
  refine Int.le_trans h2 (Int.le_of_eq (Iy (fun a _=>?_)))
  rw [yE]
theorem ag1 {n:Nat} (f:Nat→Int) (k:Nat) (hk:k < n):cX (f k)≤ax n (fun i=>cX (f i)):=by
 have h:=yD (n:=n) (f:=fun i=>if i=k then cX (f k) else 0) (g:=fun i=>cX (f i)) (fun i _=>by
  by_cases e:i=k
  ·simp [e]
  ·simp [e,wY])
 rw [pz k hk (fun i _ hne=>by simp [hne])] at h
 simpa using h
theorem aho (n i:Nat) (hi:i < n+1) (f:Nat→Int):ax (n+1) f=f i+ax n (fun t=>f (aY i t)):=by
 induction n with
 | zero =>
      obtain rfl:i=0:=by omega
      simp [ax]
 | succ n ih =>
  by_cases h:i=n+1
  ·subst h
   have:ax (n+1) (fun t=>f (aY (n+1) t))=ax (n+1) f:=dh (fun t ht=>by
    have:aY (n+1) t=t:=by unfold aY;split<;>omega
    rw [this])
   rw [this];show ax (n+1) f+f (n+1)=_;omega
  ·show ax (n+1) f + f (n+1) = f i + (ax n (fun t => f (aY i t)) + f (aY i n))
   rw [ih (by omega)]
   have:aY i n=n+1:=by unfold aY;split<;>omega
   rw [this];omega
theorem aht (i t:Nat):Az i (aY i t)=t:=by
 unfold Az aY;by_cases h1:t < i
 ·simp [h1]
 ·rw [if_neg h1,if_neg (by omega)];omega
def mh:Nat→Int:=fun _=>0
theorem ag8 {n:Nat}:∀ (P Q:Nat→Nat→Int) (k:Nat),(k:Int) * ef n P Q k=ax n (fun t=>ef n (bn P t mh) Q k):=by
 induction n with
 | zero=>intro P Q k;simp only [ef,ax];split<;>simp_all
 | succ n ih =>
  intro P Q k
  have e:ax (n+1) (fun t=>ef (n+1) (bn P t mh) Q k)=ax (n+1) (fun i=>ax (n+1) (fun t=>fW i * ((bn P t mh) i 0 * ef n (fun a b=>(bn P t mh) (aY i a) (b+1)) (fun a b=>Q (aY i a) (b+1)) k+Q i 0 * jR (ef n (fun a b=>(bn P t mh) (aY i a) (b+1)) (fun a b=>Q (aY i a) (b+1))) k))):=by
   rw [yF];exact dh (fun t _=>by rw [Iq])
  rw [e,Iq,← fe]
  refine dh (fun i hi=>?_)
  rw [aho n i hi]
  have e1:(bn P i mh) i 0=0:=by simp [bn,mh]
  rw [e1,Ix]
  have e2:ax n (fun t=>fW i * ((bn P (aY i t) mh) i 0 * ef n (fun a b=>(bn P (aY i t) mh) (aY i a) (b+1)) (fun a b=>Q (aY i a) (b+1)) k+Q i 0 * jR (ef n (fun a b=>(bn P (aY i t) mh) (aY i a) (b+1)) (fun a b=>Q (aY i a) (b+1))) k))=ax n (fun t=>fW i * (P i 0 * ef n (bn (fun a b=>P (aY i a) (b+1)) t mh) (fun a b=>Q (aY i a) (b+1)) k+Q i 0 * jR (ef n (bn (fun a b=>P (aY i a) (b+1)) t mh) (fun a b=>Q (aY i a) (b+1))) k)):=by
   refine dh (fun t ht=>?_)
   rw [Iw (ND i t)]
   rw [aht]
   have:bn P (aY i t) mh i 0=P i 0:=by unfold bn;rw [if_neg (Ne.symm (ND i t))]
   rw [this]
   rfl
  rw [e2,fe,ov,fe,fe,← ih]
  generalize (fun a b=>P (aY i a) (b+1))=P' at *
  generalize (fun a b=>Q (aY i a) (b+1))=Q' at *
  cases k with
  | zero =>
   have:ax n (fun t=>jR (ef n (bn P' t mh) Q') 0)=0:=mg (fun _ _=>rfl)
   rw [this]
   simp [jR]
  | succ k =>
   have:ax n (fun t=>jR (ef n (bn P' t mh) Q') (k+1))=(k:Int) * ef n P' Q' k:=by
    rw [ih];rfl
   rw [this]
   show _=fW i * (0 * _+Q i 0 * ef n P' Q' k)+_
   show ((k+1:Nat):Int) * (fW i * (P i 0 * ef n P' Q' (k+1)+Q i 0 * ef n P' Q' k))=_
   push_cast
   grind
def arG (n:Nat) (P Q:Nat→Nat→Int) (j i k:Nat):Int:=ef n (bn P i (aqE j)) (bn Q i mh) k
theorem Nr (n:Nat) (P Q:Nat→Nat→Int) (u:Int) (j i:Nat):iX n (fun a b=>P a b+u * Q a b) j i=eF n (arG n P Q j i) u:=by
 unfold iX arG
 show _=eF n (ef n (bn P i (aqE j)) (bn Q i mh)) u
 rw [← wZ]
 refine iq (fun a b _ _=>?_)
 unfold bn mh;split<;>simp
theorem ag9 (n:Nat) (P Q:Nat→Nat→Int) (k:Nat) (hk:k≤n):((k+1:Nat):Int) * ef n P Q (k+1)=ax n (fun i=>ax n (fun j=>Q i j * arG n P Q j i k)):=by
 rw [ag8]
 refine dh (fun i hi=>?_)
 have h:∀ u:Int,eF (n+1) (ef n (bn P i mh) Q) u=eF (n+1) (jR (fun k=>ax n (fun j=>Q i j * arG n P Q j i k))) u:=by
  intro u
  rw [CG,Aw _ _ (Nat.le_succ n) (fun k hk=>asn _ _ k hk),← wZ,CF]
  have e1:aE n (fun a b=>bn P i mh a b+u * Q a b)=aE n (bn (fun a b=>P a b+u * Q a b) i (fun b=>u * Q i b)):=by
   refine iq (fun a b _ _=>?_)
   unfold bn mh;split
   ·case _ h=>simp [h]
   ·rfl
  rw [e1,Nw _ _ hi]
  congr 1
  have e2:aE n (bn (fun a b=>P a b+u * Q a b) i (Q i))=aE n (bn (fun a b=>P a b+u * Q a b) i (fun b=>ax n (fun j=>Q i j * aqE j b))):=by
   refine iq (fun a b _ hb=>?_)
   unfold bn;split
   ·exact (IB (Q i) b hb).symm
   ·rfl
  rw [e2,Nx _ i hi]
  refine dh (fun j _=>?_)
  rw [← Nr];rfl
 have:=Iz (fun u _=>h u) (k+1) (by omega)
 rw [this];rfl
theorem VW (n : Nat) (P Q : Nat → Nat → Int) (k i : Nat) (hk : k < n) (hi : i < n) (m : Nat) (hm : m ≤ n + 1) :
  ax n (fun j=>P k j * arG n P Q j i m)+jR (fun m=>ax n (fun j=>Q k j * arG n P Q j i m)) m=if k=i then ef n P Q m else 0:=by
 have h:∀ u:Int,eF (n+1) (fun m=>ax n (fun j=>P k j * arG n P Q j i m)+jR (fun m=>ax n (fun j=>Q k j * arG n P Q j i m)) m) u=eF (n+1) (fun m=>if k=i then ef n P Q m else 0) u:=by
  intro u
  rw [FI,CG,CF,CF,← fe,← ov]
  have h1:=CC (fun a b=>P a b+u * Q a b) k i hi hk
  have h2:ax n (fun j=>(P k j+u * Q k j) * iX n (fun a b=>P a b+u * Q a b) j i)=ax n (fun j=>P k j * eF (n+1) (arG n P Q j i) u+u * (Q k j * eF n (arG n P Q j i) u)):=by
   refine dh (fun j _=>?_)
   rw [Nr,Aw (n:=n) (m:=n+1) (arG n P Q j i) u (Nat.le_succ n) (fun k hk=>asn _ _ k hk)]
   grind
  rw [← h2,h1]
  by_cases e:k=i
  ·simp only [if_pos e]
   rw [wZ,Aw (n:=n) (m:=n+1) _ _ (Nat.le_succ n) (fun k hk=>asn _ _ k hk)]
  ·simp only [if_neg e]
   unfold eF;rw [mg (fun _ _=>by simp)]
 exact Iz (fun u _=>h u) m hm
def aqZ (A:Nat→Nat→Int):Nat→Nat→Int:=fun a b=>- A a b
def bY (n:Nat) (A:Nat→Nat→Int):Nat→Int:=ef n (fun a b=>aqE a b) (aqZ A)
def ou (n : Nat) (A : Nat → Nat → Int) (c : Nat → Int) : Nat → Nat → Nat → Int
 | 0=>fun _ _=>0
 | m+1=>fun k i=>ax n (fun j=>A k j * ou n A c m j i)+(if k=i then c m else 0)
theorem V6 (a b:Nat):aqE a b=aqE b a:=by unfold aqE;by_cases h:a=b<;>simp [h,eq_comm]
theorem VV (n:Nat) (A:Nat→Nat→Int) (m:Nat):m≤n→∀ k i,k < n→i < n→arG n (fun a b=>aqE a b) (aqZ A) k i m=ou n A (bY n A) (m+1) k i:=by
 induction m with
 | zero =>
  intro _ k i hk hi
  have h:=VW n (fun a b=>aqE a b) (aqZ A) k i hk hi 0 (by omega)
  have e:ax n (fun j=>aqE k j * arG n (fun a b=>aqE a b) (aqZ A) j i 0)=arG n (fun a b=>aqE a b) (aqZ A) k i 0:=by
   rw [← IC (fun j=>arG n (fun a b=>aqE a b) (aqZ A) j i 0) k hk];exact dh (fun j _=>by grind)
  rw [e] at h
  simp only [ou,jR] at h ⊢
  rw [mg (fun _ _=>by simp)]
  unfold bY;omega
 | succ m ih =>
  intro hm k i hk hi
  have h:=VW n (fun a b=>aqE a b) (aqZ A) k i hk hi (m+1) (by omega)
  have e:ax n (fun j=>aqE k j * arG n (fun a b=>aqE a b) (aqZ A) j i (m+1))=arG n (fun a b=>aqE a b) (aqZ A) k i (m+1):=by
   rw [← IC (fun j=>arG n (fun a b=>aqE a b) (aqZ A) j i (m+1)) k hk];exact dh (fun j _=>by grind)
  rw [e] at h
  have e2:jR (fun m=>ax n (fun j=>aqZ A k j * arG n (fun a b=>aqE a b) (aqZ A) j i m)) (m+1)=- ax n (fun j=>A k j * ou n A (bY n A) (m+1) j i):=by
   show ax n (fun j=>aqZ A k j * arG n (fun a b=>aqE a b) (aqZ A) j i m)=_
   rw [← CH]
   refine dh (fun j hj=>?_)
   rw [ih (by omega) j i hj hi];unfold aqZ;grind
  rw [e2] at h
  show _=ax n (fun j=>A k j * ou n A (bY n A) (m+1) j i)+(if k=i then bY n A (m+1) else 0)
  unfold bY at *;omega
theorem VX (n:Nat) (A:Nat→Nat→Int):bY n A 0=1:=by
 have h:=wZ (n:=n) (fun a b=>aqE a b) (aqZ A) 0
 have e:aE n (fun a b=>aqE a b+0 * aqZ A a b)=aE n (fun a b=>aqE a b):=iq (fun a b _ _=>by simp)
 rw [e,V2] at h
 unfold eF at h
 rw [yE,mg (fun i _=>by rw [Int.pow_succ];simp)] at h
 unfold bY;simpa using h.symm
theorem ag6 (n:Nat) (A:Nat→Nat→Int) (m:Nat) (hm:m < n):((m+1:Nat):Int) * bY n A (m+1)=- ax n (fun i=>ax n (fun j=>A i j * ou n A (bY n A) (m+1) j i)):=by
 have h:=ag9 n (fun a b=>aqE a b) (aqZ A) m (by omega)
 rw [show ef n (fun a b=>aqE a b) (aqZ A) (m+1)=bY n A (m+1) from rfl] at h
 rw [h,← CH]
 refine dh (fun i hi=>?_)
 rw [← CH]
 refine dh (fun j hj=>?_)
 rw [VV n A m (by omega) j i hj hi,show aqZ A i j=- A i j from rfl];grind
def qm (r : Nat) (A : Nat → Nat → Int) (C : Nat → Int) : Nat → Nat → Int
 | 0=>C
 | k+1=>fun i=>ax r (fun j=>A i j * qm r A C k j)
theorem ahi (r:Nat) (A:Nat→Nat→Int) (c C:Nat→Int) (m:Nat):∀ i,i < r→ax r (fun j=>ou r A c (m+1) i j * C j)=ax (m+1) (fun l=>c l * qm r A C (m-l) i):=by
 induction m with
 | zero =>
  intro i hi
  simp only [ou,ax,qm,Nat.sub_zero,Int.zero_add]
  rw [dh (g:=fun j=>(c 0 * C j) * aqE i j) (fun j _=>by
   rw [mg (fun _ _=>by simp)];unfold aqE;by_cases h:i=j
   ·simp [h]
   ·simp [h,Ne.symm h])]
  rw [IC (fun j=>c 0 * C j) i hi]
 | succ m ih =>
  intro i hi
  have e1:ax r (fun j=>ou r A c (m+1+1) i j * C j)=ax r (fun j=>ax r (fun l=>A i l * ou r A c (m+1) l j) * C j)+c (m+1) * C i:=by
   rw [← IC (fun j=>c (m+1) * C j) i hi,← ov]
   refine dh (fun j _=>?_)
   show (ax r (fun l=>A i l * ou r A c (m+1) l j)+(if i=j then c (m+1) else 0)) * C j=_
   unfold aqE;by_cases h:i=j
   ·simp only [if_pos h,if_pos h.symm];grind
   ·simp only [if_neg h,if_neg (Ne.symm h)];grind
  have e2:ax r (fun j=>ax r (fun l=>A i l * ou r A c (m+1) l j) * C j)=ax r (fun l=>A i l * ax r (fun j=>ou r A c (m+1) l j * C j)):=by
   rw [dh (g:=fun j=>ax r (fun l=>A i l * (ou r A c (m+1) l j * C j))) (fun j _=>by
    rw [Int.mul_comm,← fe];exact dh (fun l _=>by grind))]
   rw [yF]
   exact dh (fun l _=>by rw [fe])
  rw [e1,e2]
  rw [dh (g:=fun l=>A i l * ax (m+1) (fun t=>c t * qm r A C (m-t) l)) (fun l hl=>by rw [ih l hl])]
  show _=ax (m+1) (fun l=>c l * qm r A C (m+1-l) i)+c (m+1) * qm r A C (m+1-(m+1)) i
  rw [Nat.sub_self]
  have e3:ax r (fun l=>A i l * ax (m+1) (fun t=>c t * qm r A C (m-t) l))=ax (m+1) (fun l=>c l * qm r A C (m+1-l) i):=by
   rw [dh (g:=fun l=>ax (m+1) (fun t=>c t * (A i l * qm r A C (m-t) l))) (fun l _=>by
    rw [← fe];exact dh (fun t _=>by grind))]
   rw [yF]
   refine dh (fun t ht=>?_)
   rw [fe]
   have:m+1 - t=(m - t)+1:=by omega
   rw [this];rfl
  rw [e3];rfl
def sy (r : Nat) (A : Nat → Nat → Int) : Nat → Int
 | 0=>1
 | 1=>- A r r
 | k+2=>- ax r (fun i=>A r i * qm r A (fun i=>A i r) k i)
theorem ag5 (r:Nat) (A:Nat→Nat→Int) (m:Nat) (hm:m≤r+1):bY (r+1) A m=ax (m+1) (fun l=>sy r A (m-l) * bY r A l):=by
 have h:∀ u:Int,eF (r+2) (bY (r+1) A) u=eF (r+2) (fun m=>bY r A m+(- A r r) * jR (bY r A) m+(-1) * jR (jR (fun k=>ax r (fun j=>A r j * ax r (fun i=>A i r * arG r (fun a b=>aqE a b) (aqZ A) j i k)))) m) u:=by
  intro u
  rw [FI,FI,FJ,FJ,CG,CG,CG]
  rw [Aw (n:=r+1) (m:=r+2) (bY (r+1) A) u (by omega) (fun k hk=>asn _ _ k hk)]
  rw [Aw (n:=r) (m:=r+2) (bY r A) u (by omega) (fun k hk=>asn _ _ k hk)]
  rw [Aw (n:=r) (m:=r+1) (bY r A) u (by omega) (fun k hk=>asn _ _ k hk)]
  rw [CF]
  rw [dh (g:=fun j=>A r j * ax r (fun i=>A i r * iX r (fun a b=>aqE a b+u * aqZ A a b) j i)) (fun j _=>by
   rw [CF];congr 1;exact dh (fun i _=>by rw [Nr]))]
  unfold bY
  rw [← wZ,← wZ,ag_]
  have e:ax r (fun j=>ax r (fun i=>(aqE r j+u * aqZ A r j) * iX r (fun a b=>aqE a b+u * aqZ A a b) j i * (aqE i r+u * aqZ A i r)))=u * (u * ax r (fun j=>A r j * ax r (fun i=>A i r * iX r (fun a b=>aqE a b+u * aqZ A a b) j i))):=by
   rw [← fe,← fe]
   refine dh (fun j hj=>?_)
   rw [← fe,← fe,← fe]
   refine dh (fun i hi=>?_)
   rw [iY (show j ≠ r by omega),iY (show r ≠ i by omega)]
   unfold aqZ;grind
  rw [e,pq]
  unfold aqZ
  grind
 rw [Iz (fun u _=>h u) m (by omega)]
 cases m with
 | zero=>simp [jR,ax,sy]
 | succ m =>
  cases m with
  | zero=>simp [jR,ax,sy];omega
  | succ m =>
   show bY r A (m+2)+(- A r r) * bY r A (m+1)+(-1) * ax r (fun j=>A r j * ax r (fun i=>A i r * arG r (fun a b=>aqE a b) (aqZ A) j i m))=ax (m+1) (fun l=>sy r A (m+2-l) * bY r A l)+sy r A (m+2-(m+1)) * bY r A (m+1)+sy r A (m+2-(m+2)) * bY r A (m+2)
   have e1:m+2 - (m+1)=1:=by omega
   have e2:m+2 - (m+2)=0:=by omega
   rw [e1,e2]
   have e3:ax r (fun j=>A r j * ax r (fun i=>A i r * arG r (fun a b=>aqE a b) (aqZ A) j i m))=- ax (m+1) (fun l=>sy r A (m+2-l) * bY r A l):=by
    rw [dh (g:=fun j=>A r j * ax (m+1) (fun l=>bY r A l * qm r A (fun i=>A i r) (m-l) j)) (fun j hj=>by
     rw [← ahi r A (bY r A) (fun i=>A i r) m j hj]
     congr 1
     exact dh (fun i hi=>by rw [VV r A m (by omega) j i hj hi];grind))]
    rw [dh (g:=fun j=>ax (m+1) (fun l=>bY r A l * (A r j * qm r A (fun i=>A i r) (m-l) j))) (fun j _=>by
     rw [← fe];exact dh (fun l _=>by grind))]
    rw [yF,← CH]
    refine dh (fun l hl=>?_)
    rw [fe]
    have:m+2 - l=(m - l)+2:=by omega
    rw [this]
    show _=-(- ax r (fun i=>A r i * qm r A (fun i=>A i r) (m-l) i) * bY r A l)
    grind
   rw [e3]
   show bY r A (m+2)+(- A r r) * bY r A (m+1)+(-1) * _=_+(- A r r) * bY r A (m+1)+1 * bY r A (m+2)
   grind
theorem Ny (a b:Nat):aqE a b=if a=b then 1 else 0:=by unfold aqE;by_cases h:a=b<;>simp [h,eq_comm]
def nJ (i m a:Nat):Nat:=if a=i then m else if a=m then i else a
theorem ahg {n : Nat} (M : Nat → Nat → Int) (l : Nat → Nat) (x : Nat → Int) (h : ∀ a, a < n → x a ≠ 0 → l a < n ∧ l a ≠ a ∧ x (l a) = 0) :
  aE n (fun a b=>M a b+x a * M (l a) b)=aE n M:=by
 have key:∀ m,m≤n→aE n (fun a b=>if a < m then M a b+x a * M (l a) b else M a b)=aE n M:=by
  intro m
  induction m with
  | zero=>intro _;exact iq (fun a b _ _=>by simp)
  | succ m ih =>
   intro hm
   rw [← ih (by omega)]
   by_cases hx:x m=0
   ·refine iq (fun a b _ _ => ?_)
    by_cases h1:a < m
    ·rw [if_pos h1,if_pos (by omega)]
    ·by_cases h2 : a = m
     ·subst h2;simp [hx]
     ·rw [if_neg h1,if_neg (by omega)]
   ·obtain ⟨h1, h2, h3⟩ := h m (by omega) hx
    rw [← V3 (fun a b=>if a < m then M a b+x a * M (l a) b else M a b) m (l m) (by omega) h1 (Ne.symm h2) (x m)]
    refine iq (fun a b _ _=>?_)
    simp only [bn]
    by_cases h4:a=m
    ·subst h4
     by_cases h5:l a < a
     ·simp [h5,h3]
     ·simp [h5]
    ·by_cases h5 : a < m
     ·rw [if_pos (by omega),if_neg h4,if_pos h5]
     ·rw [if_neg (by omega),if_neg h4,if_neg h5]
 rw [← key n (Nat.le_refl n)]
 exact iq (fun a b ha _=>by rw [if_pos ha])
theorem ahh (c:Nat):∀ (m:Nat) (M:Nat→Nat→Int),(∀ a b,a < c+m→b < c→M a b=aqE a b)→aE (c+m) M=aE m (fun a b=>M (c+a) (c+b)):=by
 induction c with
 | zero=>intro m M _;rw [Nat.zero_add];exact iq (fun a b _ _=>by simp)
 | succ c ih =>
  intro m M h
  have e:c+1+m=c+m+1:=by omega
  rw [e,ahe M (fun a h0 ha=>by rw [h a 0 (by omega) (by omega),Ny,if_neg (by omega)]),h 0 0 (by omega) (by omega),pq,Int.one_mul]
  rw [ih m _ (fun a b ha hb=>by rw [h (a+1) (b+1) (by omega) (by omega),Ny,Ny];simp)]
  refine iq (fun a b _ _=>?_)
  rw [show c+a+1=c+1+a by omega,show c+b+1=c+1+b by omega]
theorem OB (e:Nat):Int.tdiv (e:Int) 2=((e / 2:Nat):Int):=rfl
theorem WX (e:Nat):Int.tmod (e:Int) 2=((e % 2:Nat):Int):=rfl
/-- Where the directed edge e begins, and where it ends. -/
def nB (l:List (List Int)) (e:Nat):Int:=rd (ah l ((e / 2:Nat):Int)) ((e % 2:Nat):Int)
def eO (l:List (List Int)) (e:Nat):Int:=rd (ah l ((e / 2:Nat):Int)) ((1 - e % 2:Nat):Int)
def two (l:List (List Int)):Prop:=∀ x ∈ l,x.length=2
theorem asm {a:Int} {l:List (List Int)} (h:ee a l=true):two l:=by
 intro x hx
 simp only [ee,Bool.and_eq_true,List.all_eq_true] at h
 have:=h.2.2.2 x hx
 simp only [qh,Bool.and_eq_true,decide_eq_true_eq] at this
 exact this.1
theorem kz {a:Int} {l:List (List Int)} (h:ee a l=true):l.length≤10:=by
 simp only [ee,Bool.and_eq_true,decide_eq_true_eq] at h
 exact h.2.2.1
theorem VM {a:Int} {l:List (List Int)} (h:ee a l=true):1≤a∧a≤8:=by
 simp only [ee,Bool.and_eq_true,decide_eq_true_eq] at h
 exact ⟨h.1,h.2.1⟩
theorem agF {a:Int} {l:List (List Int)} (h:ee a l=true) {x:List Int} (hx:x ∈ l):(0≤rd x 0∧rd x 0≤a - 1)∧(0≤rd x 1∧rd x 1≤a - 1):=by
 have hs:=VM h
 simp only [ee,Bool.and_eq_true,List.all_eq_true] at h
 have:=h.2.2.2 x hx
 simp only [qh,Ec,Bool.and_eq_true,decide_eq_true_eq] at this
 rw [dF (by omega) (by omega)] at this
 exact this.2
theorem W0 {l:List (List Int)} (h2:two l) (e:Nat) (he:e < 2 * l.length):(ah l ((e / 2:Nat):Int)).length=2:=by
 have hi:e / 2 < l.length:=by omega
 rw [tJ l (e / 2) hi]
 exact h2 _ (List.getElem_mem hi)
theorem VS (a:Int) (l:List (List Int)) (hl:l.length≤1048576) (h2:two l) (e:Nat) (he:e < 2 * l.length):rS.f a l e=some (nB l e,eO l e):=by
 have hx:=W0 h2 e he
 unfold rS.f
 rw [OB,WX,dF (by omega) (by omega),if_pos (by omega),if_pos (by omega),hx]
 unfold nB eO
 rcases Nat.mod_two_eq_zero_or_one e with h|h
 ·rw [h];rfl
 ·rw [h];rfl
theorem atf (a:Int) (l:List (List Int)) (hl:l.length≤1048576) (h2:two l) (e:Nat) (he:e < 2 * l.length):oM.f a l e=some (nB l e,eO l e):=by
 have hx:=W0 h2 e he
 unfold oM.f
 rw [OB,WX,dF (by omega) (by omega),if_pos (by omega),if_pos (by omega),hx]
 have hm:e % 2 < 2:=Nat.mod_lt _ (by omega)
 rw [dF (by omega) (by omega),if_pos (by omega),if_pos (by omega),if_pos (by omega),if_pos (by omega)]
 unfold nB eO
 rw [show (1:Int) - ((e % 2:Nat):Int)=((1 - e % 2:Nat):Int) by omega]
/-- The other direction of e's edge. -/
def cl (e:Nat):Nat:=if e % 2=0 then e+1 else e - 1
theorem aj3:((List.range 20).all fun e:Nat=>Go.bits .xor .i64 (e:Int) 1 == ((cl e:Nat):Int))=true:=by kernel_rfl
theorem Xt (e:Nat) (h:e < 20):Go.bits .xor .i64 (e:Int) 1=((cl e:Nat):Int):=by
 have:=List.all_eq_true.1 aj3 e (List.mem_range.2 h)
 exact eq_of_beq this
/-- May f come behind e. -/
def next (l:List (List Int)) (e f:Nat):Bool:=decide (eO l e=nB l f) && !decide (f=cl e)
theorem VT (a:Int) (l:List (List Int)) (hl:l.length≤1048576) (h2:two l) (e f:Nat) (he:e < 2 * l.length) (hf:f < 2 * l.length):tW.f a l e f=some (next l e f):=by
 unfold tW.f
 rw [VS a l hl h2 e he,VS a l hl h2 f hf]
 simp only [Option.bind_some,OB]
 unfold next
 by_cases h:eO l e=nB l f
 ·have e1 : wrap64 ((e / 2 : Nat) : Int) = ((e / 2 : Nat) : Int) := dF (by omega) (by omega)
  have e2:wrap64 ((f / 2:Nat):Int)=((f / 2:Nat):Int):=dF (by omega) (by omega)
  simp only [if_pos h,e1,e2]
  simp only [h,decide_true,Bool.true_and]
  by_cases h3:((e / 2:Nat):Int)=((f / 2:Nat):Int)
  ·rw [if_pos h3]
   congr 1
   rw [Bool.eq_iff_iff]
   unfold cl
   rcases Nat.mod_two_eq_zero_or_one e with h5|h5<;>simp [h5]<;>omega
  ·rw [if_neg h3]
   congr 1
   rw [Bool.eq_iff_iff]
   unfold cl
   rcases Nat.mod_two_eq_zero_or_one e with h5|h5<;>simp [h5]<;>omega
 ·rw [if_neg h]
  simp [h]
def k9 (n:Nat) (g:Nat→Bool) (f:Nat):List Int:=(List.range n).map fun j=>if (decide (j < f) && g j)=true then 1 else 0
theorem NI (n:Nat) (g:Nat→Bool) (f:Nat):(k9 n g f).length=n:=by simp [k9]
theorem Wf (n:Nat) (g:Nat→Bool):k9 n g 0=List.replicate n 0:=by
 apply List.ext_getElem
 ·simp [k9]
 ·intro i h1 h2;simp [k9]
theorem Wd (n:Nat) (g:Nat→Bool) (f:Nat) (hf:f < n) (h:g f=true):(k9 n g f).set f 1=k9 n g (f+1):=by
 apply List.ext_getElem
 ·simp [k9]
 ·intro i h1 h2
  simp only [k9,List.length_map,List.length_range,List.length_set] at h1 h2
  rw [List.getElem_set]
  by_cases hi:f=i
  ·subst hi;simp [k9,h]
  ·rw [if_neg hi]
   simp only [k9,List.getElem_map,List.getElem_range]
   have:decide (i < f)=decide (i < f+1):=by rw [Bool.eq_iff_iff];simp;omega
   rw [this]
theorem We (n:Nat) (g:Nat→Bool) (f:Nat) (h:g f=false):k9 n g f=k9 n g (f+1):=by
 apply List.ext_getElem
 ·simp [k9]
 ·intro i h1 h2
  simp only [k9,List.getElem_map,List.getElem_range]
  by_cases hi:i=f
  ·subst hi;simp [h]
  ·have : decide (i < f) = decide (i < f + 1) := by rw [Bool.eq_iff_iff]; simp; omega
   rw [this]
/-- The edge rows. -/
def mJ (l:List (List Int)):List (List Int):=(List.range (2 * l.length)).map fun e=>k9 (2 * l.length) (next l e) (2 * l.length)
theorem ag0 (a : Int) (l : List (List Int)) (hl : l.length ≤ 10) (h2 : two l) (x3 : List (List Int)) (hx : x3.length < 1048576) (R : List (List Int)) (e : Nat) (he : e < 2 * l.length)
  (hR:Ev (fun k=>gu.l0 k (x3 ++ [k9 (2 * l.length) (next l e) (2 * l.length)]) ((2 * l.length:Nat):Int) ((e:Int)+1) a l) R) :
  ∀ (d f:Nat),2 * l.length - f=d→f≤2 * l.length→Ev (fun k=>gu.l1 k x3 ((2 * l.length:Nat):Int) e (k9 (2 * l.length) (next l e) f) f a l) R:=by
 intro d
 induction d with
 | zero =>
  intro f hd hf
  obtain rfl:f=2 * l.length:=by omega
  refine Ev.step (fun k=>by simp only [gu.l1];rfl) ?_
  simp only [Int.lt_irrefl,if_false,show x3.length < 5864062014805 by omega,if_true,wI ((e:Int)+1) (by omega)]
  exact hR
 | succ d ih =>
  intro f hd hf
  have hfl:f < 2 * l.length:=by omega
  refine Ev.step (fun k=>by simp only [gu.l1];rfl) ?_
  have h:=ih (f+1) (by omega) (by omega)
  simp only [show ((f:Int) < ((2 * l.length:Nat):Int)) by omega,if_true,VT a l (by omega) h2 e f he hfl,Option.bind_some,cx f,NI,Int.toNat_natCast,wI ((f:Int)+1) (by omega)]
  cases hn:next l e f with
  | true=>simp only [if_true];rw [Wd _ _ _ hfl hn];exact h
  | false=>simp only [Bool.false_eq_true,if_false];rw [We _ _ _ hn];exact h
theorem agZ (a:Int) (l:List (List Int)) (hl:l.length≤10) (h2:two l):∀ (d e:Nat),2 * l.length - e=d→e≤2 * l.length→Ev (fun k=>gu.l0 k ((mJ l).take e) ((2 * l.length:Nat):Int) e a l) (mJ l):=by
 have hlen:(mJ l).length=2 * l.length:=by simp [mJ]
 intro d
 induction d with
 | zero =>
  intro e hd he
  refine Ev.step (fun k=>by simp only [gu.l0];rfl) ?_
  simp only [show ¬ ((e:Int) < ((2 * l.length:Nat):Int)) by omega,if_false]
  rw [List.take_of_length_le (by omega)]
  exact Ev.now _
 | succ d ih =>
  intro e hd he
  have hel:e < 2 * l.length:=by omega
  refine Ev.step (fun k=>by simp only [gu.l0];rfl) ?_
  simp only [show ((e:Int) < ((2 * l.length:Nat):Int)) by omega,show (0:Int)≤((2 * l.length:Nat):Int) by omega,show 2 * l.length≤35184372088832 by omega,if_true,Int.toNat_natCast]
  rw [← Wf (2 * l.length) (next l e)]
  refine ag0 a l hl h2 ((mJ l).take e) (by rw [List.length_take];omega) (mJ l) e hel ?_ (2 * l.length) 0 (by omega) (by omega)
  have h:=ih (e+1) (by omega) (by omega)
  have e1:(mJ l).take (e+1)=(mJ l).take e ++ [k9 (2 * l.length) (next l e) (2 * l.length)]:=by
   rw [List.take_succ_eq_append_getElem (by omega)]
   simp [mJ]
  rw [e1] at h
  exact h
theorem Nn (a:Int) (l:List (List Int)) (hl:l.length≤10) (h2:two l):Ev (fun k=>gu.f k a l) (mJ l):=by
 unfold gu.f
 rw [dF (by omega) (by omega),show 2 * (l.length:Int)=((2 * l.length:Nat):Int) by omega]
 exact agZ a l hl h2 (2 * l.length) 0 (by omega) (by omega)
/-- The rows on the way: those above e are whole, that of e up to f. -/
def k8 (l:List (List Int)) (e f:Nat):List (List Int):=(List.range (2 * l.length)).map fun i=>k9 (2 * l.length) (next l i) (if i < e then 2 * l.length else if i=e then f else 0)
theorem Wb (l:List (List Int)) (e f:Nat):(k8 l e f).length=2 * l.length:=by simp [k8]
theorem ahB (l:List (List Int)) (e f:Nat) (he:e < 2 * l.length):ah (k8 l e f) (e:Int)=k9 (2 * l.length) (next l e) f:=by
 rw [tJ _ _ (by rw [Wb];exact he)]
 simp [k8]
theorem ahz (l:List (List Int)) (e f:Nat) (he:e < 2 * l.length) (hf:f < 2 * l.length) (h:next l e f=true):(k8 l e f).set e ((k9 (2 * l.length) (next l e) f).set f 1)=k8 l e (f+1):=by
 rw [Wd _ _ _ hf h]
 apply List.ext_getElem
 ·simp [k8]
 ·intro i h1 h2
  rw [List.getElem_set]
  by_cases hi:e=i
  ·subst hi;simp [k8]
  ·rw [if_neg hi]
   simp [k8,Ne.symm hi]
theorem Wc (l:List (List Int)) (e f:Nat) (h:next l e f=false):k8 l e f=k8 l e (f+1):=by
 unfold k8
 apply List.map_congr_left
 intro i _
 by_cases hi:i < e
 ·simp [hi]
 ·by_cases wR : i = e
  ·subst wR;simp;exact We _ _ _ h
  ·simp [hi,wR]
theorem ahA (l:List (List Int)) (e:Nat):k8 l e (2 * l.length)=k8 l (e+1) 0:=by
 unfold k8
 apply List.map_congr_left
 intro i _
 by_cases hi:i < e
 ·rw [if_pos hi,if_pos (by omega)]
 ·by_cases wR : i = e
  ·subst wR;simp
  ·rw [if_neg hi,if_neg wR,if_neg (by omega)];split<;>rfl
theorem ahy (l:List (List Int)):k8 l (2 * l.length) 0=mJ l:=by
 unfold k8 mJ
 apply List.map_congr_left
 intro i hi
 rw [if_pos (List.mem_range.1 hi)]
theorem aee (a : Int) (l : List (List Int)) (hl : l.length ≤ 10) (h2 : two l) (R : List (List Int)) (e : Nat) (he : e < 2 * l.length)
  (hR:Ev (fun k=>gI.l0 k (k8 l (e+1) 0) ((2 * l.length:Nat):Int) ((e:Int)+1) a l) R) :
  ∀ (d f:Nat),2 * l.length - f=d→f≤2 * l.length→Ev (fun k=>gI.l1 k (k8 l e f) e (eO l e) ((2 * l.length:Nat):Int) e ((2 * l.length:Nat):Int) f a l) R:=by
 intro d
 induction d with
 | zero =>
  intro f hd hf
  obtain rfl:f=2 * l.length:=by omega
  refine Ev.step (fun k=>by simp only [gI.l1];rfl) ?_
  simp only [Int.lt_irrefl,if_false,ahA,wI ((e:Int)+1) (by omega)]
  exact hR
 | succ d ih =>
  intro f hd hf
  have hfl:f < 2 * l.length:=by omega
  refine Ev.step (fun k=>by simp only [gI.l1];rfl) ?_
  have h:=ih (f+1) (by omega) (by omega)
  simp only [show ((f:Int) < ((2 * l.length:Nat):Int)) by omega,if_true,atf a l (by omega) h2 f hfl,Option.bind_some,cx f,cx e,Wb,ahB l e f he,NI,show ((e:Int) < ((2 * l.length:Nat):Int)) by omega,Int.toNat_natCast,Xt e (by omega),wI ((f:Int)+1) (by omega)]
  have hn:next l e f=(decide (eO l e=nB l f) && !decide (f=cl e)):=rfl
  by_cases h3:nB l f=eO l e
  ·simp only [h3, if_true]
   by_cases h4:f=cl e
   ·simp only [eq_true (show (f : Int) = ((cl e : Nat) : Int) by omega), if_true]
    rw [Wc l e f (by rw [hn];simp [h3,h4.symm])]
    exact h
   ·simp only [show ¬ ((f : Int) = ((cl e : Nat) : Int)) by omega, if_false]
    rw [ahz l e f he hfl (by rw [hn];simp [h3,h4])]
    exact h
  ·simp only [h3, if_false]
   rw [Wc l e f (by rw [hn];simp [Ne.symm h3])]
   exact h
theorem aed (a:Int) (l:List (List Int)) (hl:l.length≤10) (h2:two l):∀ (d e:Nat),2 * l.length - e=d→e≤2 * l.length→Ev (fun k=>gI.l0 k (k8 l e 0) ((2 * l.length:Nat):Int) e a l) (mJ l):=by
 intro d
 induction d with
 | zero =>
  intro e hd he
  obtain rfl:e=2 * l.length:=by omega
  refine Ev.step (fun k=>by simp only [gI.l0];rfl) ?_
  simp only [Int.lt_irrefl,if_false,ahy]
  exact Ev.now _
 | succ d ih =>
  intro e hd he
  have hel:e < 2 * l.length:=by omega
  refine Ev.step (fun k=>by simp only [gI.l0];rfl) ?_
  simp only [show ((e:Int) < ((2 * l.length:Nat):Int)) by omega,if_true,atf a l (by omega) h2 e hel,Option.bind_some,oO.f,wI (2 * (l.length:Int)) (by omega)]
  rw [show 2 * (l.length:Int)=((2 * l.length:Nat):Int) by omega]
  exact aee a l hl h2 _ e hel (ih (e+1) (by omega) (by omega)) (2 * l.length) 0 (by omega) (by omega)
theorem ai7 (n:Nat) (hn:n≤1048576):∀ (d i:Nat),n - i=d→i≤n→Ev (fun k=>kL.l0 k n (List.replicate i (List.replicate n 0)) n i) (List.replicate n (List.replicate n 0)):=by
 intro d
 induction d with
 | zero =>
  intro i hd hi
  obtain rfl:i=n:=by omega
  refine Ev.step (fun k=>by simp only [kL.l0];rfl) ?_
  simp only [Int.lt_irrefl,if_false]
  exact Ev.now _
 | succ d ih =>
  intro i hd hi
  refine Ev.step (fun k=>by simp only [kL.l0];rfl) ?_
  simp only [lI i n (by omega),cx n,Int.toNat_natCast,show n≤35184372088832 by omega,List.length_replicate,show i < 5864062014805 by omega,if_true,wI ((i:Int)+1) (by omega)]
  have h:=ih (i+1) (by omega) (by omega)
  rw [List.replicate_succ'] at h
  exact h
theorem Oq (n:Nat) (hn:n≤1048576):Ev (fun k=>kL.f k n) (List.replicate n (List.replicate n 0)):=ai7 n hn n 0 (by omega) (by omega)
theorem ahC (l:List (List Int)):k8 l 0 0=List.replicate (2 * l.length) (List.replicate (2 * l.length) 0):=by
 apply List.ext_getElem
 ·simp [k8]
 ·intro i h1 h2
  simp only [k8,List.getElem_map,List.getElem_range,List.getElem_replicate]
  rw [← Wf (2 * l.length) (next l i)]
  congr 1
  rw [if_neg (by omega)]
  split<;>rfl
theorem L2 (a:Int) (l:List (List Int)) (hl:l.length≤10) (h2:two l):Ev (fun k=>gI.f k a l) (mJ l):=by
 unfold gI.f
 simp only [oO.f,Option.bind_some,wI (2 * (l.length:Int)) (by omega)]
 rw [show 2 * (l.length:Int)=((2 * l.length:Nat):Int) by omega]
 refine Ev.bind (Oq (2 * l.length) (by omega)) ?_
 rw [← ahC]
 exact aed a l hl h2 (2 * l.length) 0 (by omega) (by omega)
theorem aec (l:List (List Int)) (hl:l.length≤10):(mJ l).length≤1048576∧∀ y ∈ mJ l,y.length≤1048576:=by
 refine ⟨by simp [mJ];omega,fun y hy=>?_⟩
 obtain ⟨e,_,rfl⟩:=List.mem_map.1 hy
 rw [NI];omega
def mK (a:Int) (l:List (List Int)):List (List Int) × Int:=if ee a l then (mJ l,0) else ([],1)
theorem ai1 (a:Int) (l:List (List Int)) (hl:l.length≤maxLen):Ev (fun k=>zu.f k a l) (mK a l):=by
 unfold zu.f mK
 refine Ev.bind (FY a l hl) ?_
 cases h:ee a l with
 | false=>simp only [Bool.false_eq_true,if_false];exact Ev.now _
 | true=>simp only [if_true];exact Ev.bind (Nn a l (kz h) (asm h)) (Ev.now _)
theorem agv (a:Int) (l:List (List Int)) (hl:l.length≤maxLen):Ev (fun k=>zx.f k a l) (mK a l):=by
 unfold zx.f mK
 refine Ev.bind (FC a l hl) ?_
 cases h:ee a l with
 | false=>simp only [Bool.false_eq_true,if_false];exact Ev.now _
 | true=>simp only [if_true];exact Ev.bind (L2 a l (kz h) (asm h)) (Ev.now _)
theorem agw (a:Int) (l:List (List Int)) (hl:l.length≤maxLen):Ev (fun k=>zq.f k a l) (mK a l):=by
 unfold zq.f
 exact Ev.bind (agv a l hl) (Ev.now _)
/-- Those of the first i directed edges that may come behind e. -/
def aq7 (l:List (List Int)) (e i:Nat):List Int:=((List.range i).filter (next l e)).map Int.ofNat
theorem HE (l:List (List Int)) (e i:Nat):(aq7 l e i).length≤i:=by
 unfold aq7
 rw [List.length_map]
 have:=List.length_filter_le (next l e) (List.range i)
 rw [List.length_range] at this
 exact this
theorem ath (l:List (List Int)) (e i:Nat) (h:next l e i=true):aq7 l e (i+1)=aq7 l e i ++ [(i:Int)]:=by
 unfold aq7
 rw [List.range_succ,List.filter_append,List.map_append]
 simp [h]
theorem HF (l:List (List Int)) (e i:Nat) (h:next l e i=false):aq7 l e (i+1)=aq7 l e i:=by
 unfold aq7
 rw [List.range_succ,List.filter_append,List.map_append]
 simp [h]
theorem S_ (l:List (List Int)) (e:Nat):aq7 l e 0=[]:=rfl
theorem aev (a:Int) (l:List (List Int)) (hl:l.length≤10) (h2:two l) (e f:Nat) (he:e < 2 * l.length) (hf:f < 2 * l.length):xB.f a l e f=some (next l e f):=by
 unfold xB.f
 rw [atf a l (by omega) h2 e he,atf a l (by omega) h2 f hf]
 simp only [Option.bind_some,Xt e (by omega)]
 have hn:next l e f=(decide (eO l e=nB l f) && !decide (f=cl e)):=rfl
 by_cases h:nB l f=eO l e
 ·rw [if_pos h, hn]
  simp only [h,decide_true,Bool.true_and,Option.some.injEq]
  rw [Bool.eq_iff_iff]
  simp
  omega
 ·rw [if_neg h, hn]
  simp [Ne.symm h]
theorem ai4 (a:Int) (l:List (List Int)) (hl:l.length≤10) (h2:two l) (e:Nat) (he:e < 2 * l.length):∀ (d i:Nat),2 * l.length - i=d→i≤2 * l.length→Ev (fun k=>nc.l0 k e (aq7 l e i) i a l) (aq7 l e (2 * l.length),0):=by
 intro d
 induction d with
 | zero =>
  intro i hd hi
  obtain rfl:i=2 * l.length:=by omega
  refine Ev.step (fun k=>by simp only [nc.l0];rfl) ?_
  simp only [wI (2 * (l.length:Int)) (by omega),show ¬ (((2 * l.length:Nat):Int) < 2 * (l.length:Int)) by omega,if_false]
  exact Ev.now _
 | succ d ih =>
  intro i hd hi
  have hil:i < 2 * l.length:=by omega
  have hlen:=HE l e i
  refine Ev.step (fun k=>by simp only [nc.l0];rfl) ?_
  have h:=ih (i+1) (by omega) (by omega)
  simp only [wI (2 * (l.length:Int)) (by omega),show ((i:Int) < 2 * (l.length:Int)) by omega,if_true,VT a l (by omega) h2 e i he hil,Option.bind_some,show (aq7 l e i).length < 17592186044416 by omega,wI ((i:Int)+1) (by omega)]
  cases hn:next l e i with
  | true=>simp only [if_true];rw [← ath l e i hn];exact h
  | false=>simp only [Bool.false_eq_true,if_false];rw [← HF l e i hn];exact h
theorem agx (a:Int) (l:List (List Int)) (hl:l.length≤10) (h2:two l) (e:Nat) (he:e < 2 * l.length):∀ (d i:Nat),2 * l.length - i=d→i≤2 * l.length→Ev (fun k=>jE.l0 k (aq7 l e i) ((2 * l.length:Nat):Int) i a l e) (aq7 l e (2 * l.length),0):=by
 intro d
 induction d with
 | zero =>
  intro i hd hi
  obtain rfl:i=2 * l.length:=by omega
  refine Ev.step (fun k=>by simp only [jE.l0];rfl) ?_
  simp only [Int.lt_irrefl,if_false]
  exact Ev.now _
 | succ d ih =>
  intro i hd hi
  have hil:i < 2 * l.length:=by omega
  have hlen:=HE l e i
  refine Ev.step (fun k=>by simp only [jE.l0];rfl) ?_
  have h:=ih (i+1) (by omega) (by omega)
  simp only [show ((i:Int) < ((2 * l.length:Nat):Int)) by omega,if_true,aev a l hl h2 e i he hil,Option.bind_some,show (aq7 l e i).length < 17592186044416 by omega,wI ((i:Int)+1) (by omega)]
  cases hn:next l e i with
  | true=>simp only [if_true];rw [← ath l e i hn];exact h
  | false=>simp only [Bool.false_eq_true,if_false];rw [← HF l e i hn];exact h
/-- What both answer. -/
def z5 (a:Int) (l:List (List Int)) (e:Int):List Int × Int:=if ee a l=true then (if (decide (0≤e) && decide (e≤2 * (l.length:Int) - 1))=true then (aq7 l e.toNat (2 * l.length),0) else ([],2)) else ([],1)
theorem ai3 (a:Int) (l:List (List Int)) (e:Int) (hl:l.length≤maxLen):Ev (fun k=>nc.f k a l e) (z5 a l e):=by
 unfold nc.f z5
 refine Ev.bind (FY a l hl) ?_
 cases h:ee a l with
 | false=>simp only [Bool.false_eq_true,if_false];exact Ev.now _
 | true =>
  have rG:=kz h
  simp only [if_true,CA,Option.bind_some,wI (2 * (l.length:Int)) (by omega),wI (2 * (l.length:Int) - 1) (by omega)]
  cases hb:(decide (0≤e) && decide (e≤2 * (l.length:Int) - 1)) with
  | false=>simp only [Bool.false_eq_true,if_false];exact Ev.now _
  | true =>
   simp only [Bool.and_eq_true,decide_eq_true_eq] at hb
   obtain ⟨n,rfl⟩:∃ n:Nat,e=n:=⟨e.toNat,by omega⟩
   simp only [if_true,Int.toNat_natCast]
   rw [← S_ l n]
   exact ai4 a l rG (asm h) n (by omega) (2 * l.length) 0 (by omega) (by omega)
theorem Nh (a:Int) (l:List (List Int)) (e:Int) (hl:l.length≤maxLen):Ev (fun k=>jE.f k a l e) (z5 a l e):=by
 unfold jE.f z5
 have hc:Ev (fun k=>xA.f k a l a l e) (if ee a l=true then (if (decide (0≤e) && decide (e≤2 * (l.length:Int) - 1))=true then 0 else 2) else 1):=by
  unfold xA.f
  refine Ev.bind (FC a l hl) ?_
  cases h:ee a l with
  | false=>simp only [Bool.false_eq_true,if_false];exact Ev.now _
  | true =>
   have rG:=kz h
   simp only [if_true,pW.f,Option.bind_some,List.any_cons,List.any_nil,Bool.or_false,jX,Bool.not_not,wI (2 * (l.length:Int)) (by omega),wI (2 * (l.length:Int) - 1) (by omega)]
   cases (decide (0≤e) && decide (e≤2 * (l.length:Int) - 1)) with
   | false=>exact Ev.now _
   | true=>exact Ev.now _
 refine Ev.bind hc ?_
 cases h:ee a l with
 | false=>simp only [Bool.false_eq_true,if_false,show ¬ ((1:Int)=0) by omega];exact Ev.now _
 | true =>
  have rG:=kz h
  simp only [if_true]
  cases hb:(decide (0≤e) && decide (e≤2 * (l.length:Int) - 1)) with
  | false=>simp only [Bool.false_eq_true,if_false,show ¬ ((2:Int)=0) by omega];exact Ev.now _
  | true =>
   simp only [Bool.and_eq_true,decide_eq_true_eq] at hb
   obtain ⟨n,rfl⟩:∃ n:Nat,e=n:=⟨e.toNat,by omega⟩
   simp only [if_true,Int.toNat_natCast,oO.f,Option.bind_some,wI (2 * (l.length:Int)) (by omega)]
   rw [show 2 * (l.length:Int)=((2 * l.length:Nat):Int) by omega]
   rw [← S_ l n]
   exact agx a l rG (asm h) n (by omega) (2 * l.length) 0 (by omega) (by omega)
theorem Sn (l:List Int) (h:l.length≤1048576):vH.f l=some l:=by
 unfold vH.f
 rw [if_pos (by omega)]
theorem agR (l:List Int) (h:l.length≤1048576):nQ.f l=some l:=by
 unfold nQ.f
 simp only [Option.bind_some,List.length_nil,List.nil_append]
 rw [if_pos (by omega)]
/-- The two ends of edge i of a graph, as numbers below n. -/
def endsIn (n:Nat) (l:List (List Int)):Prop:=∀ i,i < l.length→(ah l (i:Int)).length=2∧∃ u v:Nat,rd (ah l (i:Int)) 0=u∧rd (ah l (i:Int)) 1=v∧u < n∧v < n
theorem Il {a:Int} {l:List (List Int)} (h:ee a l=true):∃ n:Nat,a=n∧1≤n∧n≤8∧endsIn n l:=by
 have hs:=VM h
 refine ⟨a.toNat,by omega,by omega,by omega,fun i hi=>?_⟩
 have hm:l[i] ∈ l:=List.getElem_mem hi
 rw [tJ l i hi]
 have he:=agF h hm
 exact ⟨asm h _ hm,(rd l[i] 0).toNat,(rd l[i] 1).toNat,by omega,by omega,by omega,by omega⟩
/-- How often v is an end of the first i edges. -/
def ec (l : List (List Int)) : Nat → Nat → Nat
 | 0,_=>0
 | i+1,v=>ec l i v+(if rd (ah l (i:Int)) 0=(v:Int) then 1 else 0)+(if rd (ah l (i:Int)) 1=(v:Int) then 1 else 0)
theorem D8 (l:List (List Int)) (i v:Nat):ec l i v≤2 * i:=by
 induction i with
 | zero=>simp [ec]
 | succ i ih =>
  unfold ec
  have h1:(if rd (ah l (i:Int)) 0=(v:Int) then 1 else 0)≤1:=by split<;>omega
  have h2:(if rd (ah l (i:Int)) 1=(v:Int) then 1 else 0)≤1:=by split<;>omega
  omega
theorem agQ (a:Int) (l:List (List Int)) (hl:l.length≤1048576) (h2:two l) (v:Nat):∀ (d i:Nat),l.length - i=d→i≤l.length→Ev (fun k=>jr.l0 k v (ec l i v:Int) i a l) (ec l l.length v:Int):=by
 intro d
 induction d with
 | zero =>
  intro i hd hi
  obtain rfl:i=l.length:=by omega
  refine Ev.step (fun k=>by simp only [jr.l0];rfl) ?_
  simp only [Int.lt_irrefl,if_false]
  exact Ev.now _
 | succ d ih =>
  intro i hd hi
  have hil:i < l.length:=by omega
  have hx:(ah l (i:Int)).length=2:=by rw [tJ l i hil];exact h2 _ (List.getElem_mem hil)
  have hdn:=D8 l i v
  have h:=ih (i+1) (by omega) (by omega)
  have hend:∀ z:Nat,z≤2 * i+2→z=ec l (i+1) v→Ev (fun k=>jr.l1 k v (z:Int) i 2 a l) (ec l l.length v:Int):=by
   intro z hz1 hz
   refine Ev.step (fun k=>by simp only [jr.l1];rfl) ?_
   simp only [Int.lt_irrefl,if_false,wI ((i:Int)+1) (by omega)]
   rw [hz]
   exact h
  have hone:∀ z:Nat,z≤2 * i+1→z=ec l i v+(if rd (ah l (i:Int)) 0=(v:Int) then 1 else 0)→Ev (fun k=>jr.l1 k v (z:Int) i 1 a l) (ec l l.length v:Int):=by
   intro z hz1 hz
   refine Ev.step (fun k=>by simp only [jr.l1];rfl) ?_
   simp only [show ((1:Int) < 2) by omega,show ((0:Int)≤1) by omega,cx i,show ((i:Int) < (l.length:Int)) by omega,hx,show ((1:Int) < ((2:Nat):Int)) by omega,if_true,wI ((1:Int)+1) (by omega)]
   by_cases hc:rd (ah l (i:Int)) 1=(v:Int)
   ·simp only [hc, if_true, wI ((z : Int) + 1) (by omega)]
    have:=hend (z+1) (by omega) (by unfold ec;rw [if_pos hc,← hz])
    simpa using this
   ·simp only [hc, if_false]
    have:=hend z (by omega) (by unfold ec;rw [if_neg hc,← hz];rfl)
    simpa using this
  refine Ev.step (fun k=>by simp only [jr.l0];rfl) ?_
  simp only [show ((i:Int) < (l.length:Int)) by omega,if_true]
  refine Ev.step (fun k=>by simp only [jr.l1];rfl) ?_
  simp only [show ((0:Int) < 2) by omega,cx i,show ((i:Int) < (l.length:Int)) by omega,hx,show ((0:Int)≤0) by omega,show ((0:Int) < ((2:Nat):Int)) by omega,if_true,wI ((0:Int)+1) (by omega)]
  by_cases hc:rd (ah l (i:Int)) 0=(v:Int)
  ·simp only [hc, if_true, dF (show -9223372036854775808 ≤ ((ec l i v : Nat) : Int) + 1 by omega) (by omega)]
   have:=hone (ec l i v+1) (by omega) (by rw [if_pos hc])
   simpa using this
  ·simp only [hc, if_false]
   have:=hone (ec l i v) (by omega) (by rw [if_neg hc];rfl)
   simpa using this
theorem agP (a:Int) (l:List (List Int)) (hl:l.length≤1048576) (h2:two l) (v:Nat):Ev (fun k=>jr.f k a l v) (ec l l.length v:Int) :=
 agQ a l hl h2 v l.length 0 (by omega) (by omega)
/-- The list of the degrees, of the first i edges. -/
def lK (n:Nat) (l:List (List Int)) (i:Nat):List Int:=(List.range n).map fun v=>(ec l i v:Int)
theorem Hu (n:Nat) (l:List (List Int)) (i:Nat):(lK n l i).length=n:=by simp [lK]
theorem SD (n:Nat) (l:List (List Int)) (i v:Nat) (h:v < n):rd (lK n l i) (v:Int)=(ec l i v:Int):=by
 rw [we _ _ (by rw [Hu];exact h)]
 simp [lK]
/-- One more at u. -/
theorem ab7 (x:List Int) (u w:Nat) (hw:w < x.length) (y:Int):rd (x.set u y) (w:Int)=if u=w then y else rd x (w:Int):=by
 rw [we _ _ (by rw [List.length_set];exact hw),we _ _ hw,List.getElem_set]
theorem adM (n : Nat) (l : List (List Int)) (hl : l.length ≤ 1048576) (i u v : Nat) (hi : i < l.length) (hu : rd (ah l (i : Int)) 0 = u) (hv : rd (ah l (i : Int)) 1 = v) (hun : u < n) (vX : v < n) :
  ((lK n l i).set u (wrap64 (rd (lK n l i) u+1))).set v (wrap64 (rd ((lK n l i).set u (wrap64 (rd (lK n l i) u+1))) v+1))=lK n l (i+1):=by
 have hd:=fun w=>D8 l i w
 rw [ab7 _ _ _ (by rw [Hu];exact vX),SD n l i u hun,SD n l i v vX]
 have e1:wrap64 ((ec l i u:Nat)+1:Int)=(ec l i u:Int)+1:=dF (by omega) (by have:=hd u;omega)
 rw [e1]
 apply List.ext_getElem
 ·simp [lK]
 ·intro w h1 h2
  have hwn:w < n:=by simpa [lK] using h2
  rw [List.getElem_set,List.getElem_set]
  have e2:(lK n l i)[w]'(by rw [Hu];exact hwn)=(ec l i w:Int):=by simp [lK]
  have e3:(lK n l (i+1))[w]'h2=(ec l (i+1) w:Int):=by simp [lK]
  rw [e3,show ec l (i+1) w=ec l i w+(if rd (ah l (i:Int)) 0=(w:Int) then 1 else 0)+(if rd (ah l (i:Int)) 1=(w:Int) then 1 else 0) from rfl,hu,hv]
  by_cases h3:v=w
  ·subst h3
   rw [if_pos rfl,if_pos rfl]
   by_cases h4:u=v
   ·subst h4
    simp only [if_true]
    rw [dF (by omega) (by have:=hd u;omega)]
    omega
   ·simp only [h4, if_false, show ¬ ((u : Int) = (v : Int)) by omega]
    rw [dF (by omega) (by have:=hd v;omega)]
    omega
  ·rw [if_neg h3, if_neg (show ¬ ((v : Int) = (w : Int)) by omega)]
   by_cases h4:u=w
   ·subst h4
    simp only [if_true]
    omega
   ·simp only [h4, if_false, show ¬ ((u : Int) = (w : Int)) by omega, e2]
    omega
theorem adP (n:Nat) (l:List (List Int)) (hl:l.length≤1048576) (hE:endsIn n l):∀ (d i:Nat),l.length - i=d→i≤l.length→Ev (fun k=>nh.l0 k (lK n l i) l (l.length:Int) i) (lK n l l.length):=by
 intro d
 induction d with
 | zero =>
  intro i hd hi
  obtain rfl:i=l.length:=by omega
  refine Ev.step (fun k=>by simp only [nh.l0];rfl) ?_
  simp only [Int.lt_irrefl,if_false]
  exact Ev.now _
 | succ d ih =>
  intro i hd hi
  have hil:i < l.length:=by omega
  obtain ⟨hx,u,v,hu,hv,hun,vX⟩:=hE i hil
  have h:=ih (i+1) (by omega) (by omega)
  rw [← adM n l hl i u v hil hu hv hun vX] at h
  refine Ev.step (fun k=>by simp only [nh.l0];rfl) ?_
  simp only [show ((i:Int) < (l.length:Int)) by omega,cx i,hx,hu,hv,Hu,show ((0:Int) < ((2:Nat):Int)) by omega,show ((1:Int) < ((2:Nat):Int)) by omega,cx u,cx v,lI u n (by omega),lI v n (by omega),if_true,Option.bind_some,Int.toNat_natCast,wI ((i:Int)+1) (by omega)]
  exact h
theorem adO (n:Nat) (hn:n≤1048576) (l:List (List Int)) (hl:l.length≤1048576) (hE:endsIn n l):Ev (fun k=>nh.f k n l) (lK n l l.length):=by
 unfold nh.f
 simp only [cx n,Int.toNat_natCast,show n≤35184372088832 by omega,if_true]
 have h:=adP n l hl hE l.length 0 (by omega) (by omega)
 have e:lK n l 0=List.replicate n 0:=by
  apply List.ext_getElem
  ·simp [lK]
  ·intro w h1 h2;simp [lK,ec]
 rw [e] at h
 exact h
theorem agO (a:Int) (l:List (List Int)) (hl:l.length≤1048576) (hx:∀ x ∈ l,x.length≤1048576):∀ (d i:Nat),l.length - i=d→i≤l.length→Ev (fun k=>ir.l0 k i a l a (l.take i)) (a,l):=by
 intro d
 induction d with
 | zero =>
  intro i hd hi
  obtain rfl:i=l.length:=by omega
  refine Ev.step (fun k=>by simp only [ir.l0];rfl) ?_
  simp only [Int.lt_irrefl,if_false,List.take_length]
  exact Ev.now _
 | succ d ih =>
  intro i hd hi
  have hil:i < l.length:=by omega
  refine Ev.step (fun k=>by simp only [ir.l0];rfl) ?_
  have h:=ih (i+1) (by omega) (by omega)
  rw [List.take_succ_eq_append_getElem hil] at h
  simp only [show ((i:Int) < (l.length:Int)) by omega,cx i,if_true,tJ l i hil,agR _ (hx _ (List.getElem_mem hil)),Option.bind_some,show (l.take i).length < 5864062014805 by (rw [List.length_take];omega),wI ((i:Int)+1) (by omega)]
  exact h
theorem Io (a:Int) (l:List (List Int)) (hl:l.length≤1048576) (hx:∀ x ∈ l,x.length≤1048576):Ev (fun k=>ir.f k a l) (a,l):=agO a l hl hx l.length 0 (by omega) (by omega)
/-- A row and a square of numbers, by their places. -/
def b_ (n:Nat) (g:Nat→Int):List Int:=(List.range n).map g
def cL (n:Nat) (f:Nat→Nat→Int):List (List Int):=(List.range n).map fun i=>b_ n (f i)
theorem d_ (n:Nat) (g:Nat→Int):(b_ n g).length=n:=by simp [b_]
theorem kC (n:Nat) (f:Nat→Nat→Int):(cL n f).length=n:=by simp [cL]
theorem gG {n:Nat} {g:Nat→Int} {v:Nat} (h:v < n):rd (b_ n g) (v:Int)=g v:=by
 rw [we _ _ (by rw [d_];exact h)]
 simp [b_]
theorem sB {n:Nat} {f:Nat→Nat→Int} {u:Nat} (h:u < n):ah (cL n f) (u:Int)=b_ n (f u):=by
 rw [tJ _ _ (by rw [kC];exact h)]
 simp [cL]
theorem vt {n:Nat} {g h:Nat→Int} (e:∀ j,j < n→g j=h j):b_ n g=b_ n h:=by
 unfold b_
 apply List.map_congr_left
 intro j hj
 exact e j (List.mem_range.mp hj)
theorem y8 {n:Nat} {f h:Nat→Nat→Int} (e:∀ i j,i < n→j < n→f i j=h i j):cL n f=cL n h:=by
 unfold cL
 apply List.map_congr_left
 intro i hi
 exact vt fun j hj=>e i j (List.mem_range.mp hi) hj
theorem vu {n:Nat} (g:Nat→Int) (v:Nat) (x:Int):(b_ n g).set v x=b_ n (fun j=>if j=v then x else g j):=by
 apply List.ext_getElem
 ·rw [List.length_set,d_,d_]
 intro j h1 h2
 rw [List.getElem_set]
 simp only [b_,List.getElem_map,List.getElem_range]
 by_cases h:v=j
 ·subst h;simp
 ·rw [if_neg h,if_neg (fun e=>h e.symm)]
theorem W7 {n:Nat} (f:Nat→Nat→Int) (u:Nat) (g:Nat→Int):(cL n f).set u (b_ n g)=cL n (fun i j=>if i=u then g j else f i j):=by
 apply List.ext_getElem
 ·rw [List.length_set,kC,kC]
 intro i h1 h2
 rw [List.getElem_set]
 simp only [cL,List.getElem_map,List.getElem_range]
 by_cases h:u=i
 ·subst h;simp
 ·rw [if_neg h];exact vt fun j _=>by rw [if_neg (fun e=>h e.symm)]
theorem W8 (n:Nat):List.replicate n (List.replicate n (0:Int))=cL n (fun _ _=>0):=by
 have h0:∀ m:Nat,b_ m (fun _=>0)=List.replicate m 0:=fun m=>by
  apply List.ext_getElem
  ·simp [b_]
  ·intro i _ _;simp [b_]
 apply List.ext_getElem
 ·simp [cL]
 ·intro i _ _;simp [cL,h0]
theorem Cc {n:Nat} {l:List (List Int)} (hE:endsIn n l) (d:Nat) (hd:d < 2 * l.length):∃ u v:Nat,nB l d=u∧eO l d=v∧u < n∧v < n:=by
 obtain ⟨_,u,v,hu,hv,hun,vX⟩:=hE (d / 2) (by omega)
 unfold nB eO
 rcases Nat.mod_two_eq_zero_or_one d with h|h
 ·rw [h];exact ⟨u,v,hu,hv,hun,vX⟩
 ·rw [h];exact ⟨v,u,hv,hu,vX,hun⟩
def dX (x y:Int):Prop:=(18446744073709551616:Int) ∣ x - y
theorem qJ (x:Int):dX x x:=⟨0,by omega⟩
theorem adv {x y:Int} (h:dX x y):dX y x:=by
 obtain ⟨q,h⟩:=h
 exact ⟨-q,by omega⟩
theorem rE {x y z:Int} (h:dX x y) (h2:dX y z):dX x z:=by
 obtain ⟨q,h⟩:=h
 obtain ⟨r,h2⟩:=h2
 exact ⟨q+r,by omega⟩
theorem r9 (x:Int):dX (wrap64 x) x:=by
 unfold dX wrap64
 exact ⟨-((x+9223372036854775808) / 18446744073709551616),by omega⟩
theorem B8 {x y z w:Int} (h:dX x y) (h2:dX z w):dX (x+z) (y+w):=by
 obtain ⟨q,h⟩:=h
 obtain ⟨r,h2⟩:=h2
 exact ⟨q+r,by omega⟩
theorem Sk {x y:Int} (h:dX x y):dX (-x) (-y):=by
 obtain ⟨q,h⟩:=h
 exact ⟨-q,by omega⟩
theorem DY {x y z w:Int} (h:dX x y) (h2:dX z w):dX (x * z) (y * w):=asl h h2
theorem DZ {n:Nat} {f g:Nat→Int} (h:∀ i,i < n→dX (f i) (g i)):dX (ax n f) (ax n g):=yC h
theorem Xl (x:Int):-9223372036854775808≤wrap64 x∧wrap64 x≤9223372036854775807:=by unfold wrap64;omega
theorem adu {x y:Int} (h:dX x y) (hx:-9223372036854775808≤x∧x≤9223372036854775807) (hy:-9223372036854775808≤y∧y≤9223372036854775807):x=y:=by
 obtain ⟨q,h⟩:=h
 omega
theorem Xk {x y:Int} (h:dX x y) (hy:-9223372036854775808≤y∧y≤9223372036854775807):wrap64 x=y:=adu (rE (r9 x) h) (Xl x) hy
/-- One row of a product, made by program. -/
def nK (f g : Nat → Nat → Int) (i : Nat) : Nat → Nat → Int
 | 0,_=>0
 | k+1,j=>if f i k=0 then nK f g i k j else wrap64 (nK f g i k j+wrap64 (f i k * g k j))
theorem WL (f g:Nat→Nat→Int) (i j:Nat) (m:Nat):dX (nK f g i m j) (ax m (fun k=>f i k * g k j)):=by
 induction m with
 | zero=>exact qJ _
 | succ m ih =>
  unfold nK
  simp only [ax]
  split
  ·case _ h=>rw [h];simpa using ih
  ·exact rE (r9 _) (B8 ih (r9 _))
def qp (f g:Nat→Nat→Int) (n i k j:Nat):Nat→Nat→Int:=fun r c=>if r < i then nK f g r n c else if r=i then (if c < j then nK f g i (k+1) c else nK f g i k c) else 0
theorem aiw (n : Nat) (hn : n ≤ 1048576) (f g : Nat → Nat → Int) (i k : Nat) (hi : i < n) (hk : k < n) (hf : f i k ≠ 0) (R : List (List Int))
  (next:Ev (fun q=>fo.l1 q (cL n g) (cL n (qp f g n i (k+1) 0)) i (cL n f) n i (b_ n (f i)) n ((k:Int)+1)) R) :
  ∀ (d j:Nat),n - j=d→j≤n→Ev (fun q=>fo.l2 q (cL n g) (cL n (qp f g n i k j)) i (f i k) (cL n f) n i (b_ n (f i)) n k (b_ n (g k)) n j) R:=by
 intro d
 induction d with
 | zero =>
  intro j hd hj
  obtain rfl:j=n:=by omega
  refine Ev.step (fun q=>by simp only [fo.l2];rfl) ?_
  simp only [Int.lt_irrefl,if_false,wI ((k:Int)+1) (by omega)]
  refine Ev.congr (fun q=>?_) next
  congr 1
  refine y8 fun r c hr hc=>?_
  unfold qp
  by_cases h1:r < i
  ·rw [if_pos h1,if_pos h1]
  ·rw [if_neg h1, if_neg h1]
   by_cases h2:r=i
   ·rw [if_pos h2,if_pos h2,if_pos hc,if_neg (by omega)]
   ·rw [if_neg h2,if_neg h2]
 | succ d ih =>
  intro j hd hj
  have hjn:j < n:=by omega
  refine Ev.step (fun q=>by simp only [fo.l2];rfl) ?_
  simp only [lI j n (by omega),cx j,cx i,lI i n (by omega),if_true,d_,kC,sB hi,gG hjn,Int.toNat_natCast,wI ((j:Int)+1) (by omega)]
  rw [vu,W7]
  refine Ev.congr (fun q=>?_) (ih (j+1) (by omega) (by omega))
  rw [show ((j+1:Nat):Int)=(j:Int)+1 by omega]
  congr 1
  refine y8 fun r c hr hc=>?_
  have hij:qp f g n i k j i j=nK f g i k j:=by
   unfold qp;rw [if_neg (by omega),if_pos rfl,if_neg (by omega)]
  by_cases h2:r=i
  ·subst h2
   rw [if_pos rfl]
   by_cases h3:c=j
   ·subst h3
    rw [if_pos rfl,hij]
    simp only [qp,Nat.lt_irrefl,if_false,if_true,show c < c+1 by omega]
    show _=(if f r k=0 then _ else _)
    rw [if_neg hf]
   ·rw [if_neg h3]
    simp only [qp,Nat.lt_irrefl,if_false,if_true]
    by_cases h4:c < j
    ·rw [if_pos h4,if_pos (by omega)]
    ·rw [if_neg h4,if_neg (by omega)]
  ·rw [if_neg h2]
   unfold qp
   by_cases h1:r < i
   ·rw [if_pos h1,if_pos h1]
   ·rw [if_neg h1,if_neg h1,if_neg h2,if_neg h2]
theorem aiv (n : Nat) (hn : n ≤ 1048576) (f g : Nat → Nat → Int) (i : Nat) (hi : i < n) (R : List (List Int))
  (next:Ev (fun q=>fo.l0 q (cL n g) (cL n (qp f g n (i+1) 0 0)) (cL n f) n ((i:Int)+1)) R) :
  ∀ (d k:Nat),n - k=d→k≤n→Ev (fun q=>fo.l1 q (cL n g) (cL n (qp f g n i k 0)) i (cL n f) n i (b_ n (f i)) n k) R:=by
 intro d
 induction d with
 | zero =>
  intro k hd hk
  obtain rfl:k=n:=by omega
  refine Ev.step (fun q=>by simp only [fo.l1];rfl) ?_
  simp only [Int.lt_irrefl,if_false,wI ((i:Int)+1) (by omega)]
  refine Ev.congr (fun q=>?_) next
  congr 1
  refine y8 fun r c hr hc=>?_
  unfold qp
  by_cases h1:r < i
  ·rw [if_pos h1,if_pos (by omega)]
  ·rw [if_neg h1]
   by_cases h2:r=i
   ·subst h2;rw [if_pos rfl,if_neg (by omega),if_pos (by omega)]
   ·rw [if_neg h2, if_neg (by omega)]
    by_cases h3:r=i+1
    ·rw [if_pos h3,if_neg (by omega)];rfl
    ·rw [if_neg h3]
 | succ d ih =>
  intro k hd hk
  have hkn:k < n:=by omega
  refine Ev.step (fun q=>by simp only [fo.l1];rfl) ?_
  simp only [lI k n (by omega),cx k,if_true,d_,kC,gG hkn,sB hkn,wI ((k:Int)+1) (by omega)]
  have h:=ih (k+1) (by omega) (by omega)
  rw [show ((k+1:Nat):Int)=(k:Int)+1 by omega] at h
  by_cases hf:f i k=0
  ·simp only [hf, if_true]
   refine Ev.congr (fun q=>?_) h
   congr 1
   refine y8 fun r c hr hc=>?_
   unfold qp
   by_cases h1:r < i
   ·rw [if_pos h1,if_pos h1]
   ·rw [if_neg h1, if_neg h1]
    by_cases h2:r=i
    ·rw [if_pos h2, if_pos h2, if_neg (by omega), if_neg (by omega)]
     show _=(if f i k=0 then _ else _)
     rw [if_pos hf]
    ·rw [if_neg h2,if_neg h2]
  ·simp only [hf, if_false]
   exact aiw n hn f g i k hi hkn hf R h n 0 (by omega) (by omega)
theorem aiu (n:Nat) (hn:n≤1048576) (f g:Nat→Nat→Int):∀ (d i:Nat),n - i=d→i≤n→Ev (fun q=>fo.l0 q (cL n g) (cL n (qp f g n i 0 0)) (cL n f) n i) (cL n (fun r c=>nK f g r n c)):=by
 intro d
 induction d with
 | zero =>
  intro i hd hi
  obtain rfl:i=n:=by omega
  refine Ev.step (fun q=>by simp only [fo.l0];rfl) ?_
  simp only [Int.lt_irrefl,if_false]
  rw [show cL i (qp f g i i 0 0)=cL i (fun r c=>nK f g r i c) from y8 fun r c hr hc=>by unfold qp;rw [if_pos hr]]
  exact Ev.now _
 | succ d ih =>
  intro i hd hi
  have hin:i < n:=by omega
  refine Ev.step (fun q=>by simp only [fo.l0];rfl) ?_
  simp only [lI i n (by omega),cx i,if_true,kC,sB hin,d_]
  have h:=ih (i+1) (by omega) (by omega)
  rw [show ((i+1:Nat):Int)=(i:Int)+1 by omega] at h
  exact aiv n hn f g i hin _ h n 0 (by omega) (by omega)
theorem WJ (n:Nat) (hn:n≤1048576) (f g:Nat→Nat→Int):Ev (fun q=>fo.f q (cL n f) (cL n g)) (cL n (fun r c=>nK f g r n c)):=by
 unfold fo.f
 simp only [kC]
 refine Ev.bind (Oq n hn) ?_
 rw [W8]
 have h:=aiu n hn f g n 0 (by omega) (by omega)
 refine Ev.congr (fun q=>?_) h
 congr 1
 refine y8 fun r c hr hc=>?_
 unfold qp
 rw [if_neg (by omega)]
 split
 ·rw [if_neg (by omega)];rfl
 ·rfl
def asO (h : Nat → Nat → Int) : Nat → Int
 | 0=>0
 | i+1=>wrap64 (asO h i+h i i)
theorem ajl (h:Nat→Nat→Int) (m:Nat):dX (asO h m) (ax m (fun i=>h i i)):=by
 induction m with
 | zero=>exact qJ _
 | succ m ih=>exact rE (r9 _) (B8 ih (qJ _))
theorem ajo (n:Nat) (hn:n≤1048576) (h:Nat→Nat→Int):∀ (d i:Nat),n - i=d→i≤n→Ev (fun q=>kf.l0 q (asO h i) (cL n h) n i) (asO h n):=by
 intro d
 induction d with
 | zero =>
  intro i hd hi
  obtain rfl:i=n:=by omega
  refine Ev.step (fun q=>by simp only [kf.l0];rfl) ?_
  simp only [Int.lt_irrefl,if_false]
  exact Ev.now _
 | succ d ih =>
  intro i hd hi
  have hin:i < n:=by omega
  refine Ev.step (fun q=>by simp only [kf.l0];rfl) ?_
  simp only [lI i n (by omega),cx i,if_true,kC,sB hin,d_,gG hin,wI ((i:Int)+1) (by omega)]
  have h:=ih (i+1) (by omega) (by omega)
  rw [show ((i+1:Nat):Int)=(i:Int)+1 by omega] at h
  exact h
theorem ajn (n:Nat) (hn:n≤1048576) (h:Nat→Nat→Int):Ev (fun q=>kf.f q (cL n h)) (asO h n):=by
 unfold kf.f
 simp only [kC]
 exact ajo n hn h n 0 (by omega) (by omega)
/-- A list without zeros at its end. -/
def iB (l : List Int) : Nat → List Int
 | 0=>[]
 | n+1=>if rd l n=0 then iB l n else l.take (n+1)
theorem OE (l:List Int) (n:Nat):(iB l n).length≤n:=by
 induction n with
 | zero=>simp [iB]
 | succ n ih =>
  unfold iB;split
  ·omega
  ·rw [List.length_take];omega
theorem I9 (l:List Int) (n:Nat):∀ i:Nat,rd (iB l n) i=if i < n then rd l i else 0:=by
 induction n with
 | zero=>intro i;simp [iB,rd]
 | succ n ih =>
  intro i
  unfold iB
  split
  ·case _ h =>
   rw [ih]
   by_cases h1:i < n
   ·rw [if_pos h1,if_pos (by omega)]
   ·rw [if_neg h1]
    by_cases h2:i=n
    ·subst h2;rw [if_pos (by omega),h]
    ·rw [if_neg (by omega)]
  ·unfold rd
   simp only [Int.toNat_natCast,List.getD_eq_getElem?_getD,List.getElem?_take]
   split<;>simp_all
theorem ajr (l:List Int) (hl:l.length≤1048576):∀ n,n≤l.length→Ev (fun q=>nS.l0 q (l.take n)) (iB l n):=by
 intro n
 induction n with
 | zero =>
  intro _
  refine Ev.step (fun q=>by simp only [nS.l0];rfl) ?_
  simp only [List.take_zero,List.length_nil,show ¬ (((0:Nat):Int) > 0) by omega,if_false,Sn [] (by simp),Option.bind_some,iB]
  exact Ev.now _
 | succ n ih =>
  intro hn
  refine Ev.step (fun q=>by simp only [nS.l0];rfl) ?_
  have hlen:((l.take (n+1)).length:Int)=(n:Int)+1:=by rw [List.length_take];omega
  have hr:rd (l.take (n+1)) n=rd l n:=by
   unfold rd
   simp only [Int.toNat_natCast,List.getD_eq_getElem?_getD,List.getElem?_take]
   rw [if_pos (by omega)]
  simp only [hlen,show (n:Int)+1 - 1=n by omega,wI ((n:Int)) (by omega),show (n:Int)+1 > 0 by omega,cx n,show (n:Int) < (n:Int)+1 by omega,show (n:Int)≤(n:Int)+1 by omega,if_true,hr,Int.toNat_natCast,List.take_take,show min n (n+1)=n by omega]
  rw [show iB l (n+1)=if rd l n=0 then iB l n else l.take (n+1) from rfl]
  by_cases h:rd l n=0
  ·simp only [h, if_true]
   exact ih (by omega)
  ·simp only [h, if_false, Sn (l.take (n + 1)) (by rw [List.length_take]; omega), Option.bind_some]
   exact Ev.now _
theorem ajq (l:List Int) (hl:l.length≤1048576):Ev (fun q=>nS.f q l) (iB l l.length):=by
 unfold nS.f
 have h:=ajr l hl l.length (Nat.le_refl _)
 rw [List.take_length] at h
 exact h
/-- The rows with one number added in the diagonal. -/
def uy (h:Nat→Nat→Int) (c:Int) (i:Nat):Nat→Nat→Int:=fun r q=>if r=q∧r < i then wrap64 (h r q+c) else h r q
theorem SC (c:Nat→Int) (n i:Nat) (h:i < n):rd ((List.range n).map c) i=c i:=by
 rw [we _ _ (by simpa using h)];simp
theorem adX (n : Nat) (hn : n ≤ 1048576) (A h : Nat → Nat → Int) (c : Nat → Int) (m : Nat) (hm : m < n) (R : List Int)
  (next:Ev (fun k=>(fo.f k (cL n A) (cL n (uy h (c m) n))).bind fun t119=>((kf.f k t119).bind fun t122=>(if ((m+1:Nat):Int)=0 then (none) else (if ((List.range (m+1)).map c).length < 17592186044416 then (fL.l0 k (cL n A) ((List.range (m+1)).map c ++ [wrap64 (Int.tdiv (wrap64 (-t122)) ((m+1:Nat):Int))]) (cL n (uy h (c m) n)) (wrap64 (((m+1:Nat):Int)+1))) else (none))))) R) :
  ∀ (d i:Nat),n - i=d→i≤n→Ev (fun k=>fL.l1 k (cL n A) ((List.range (m+1)).map c) (cL n (uy h (c m) i)) ((m+1:Nat):Int) n i) R:=by
 intro d
 induction d with
 | zero =>
  intro i hd hi
  obtain rfl:i=n:=by omega
  refine Ev.step (fun q=>by simp only [fL.l1];rfl) ?_
  simp only [Int.lt_irrefl,if_false]
  exact next
 | succ d ih =>
  intro i hd hi
  have hin:i < n:=by omega
  refine Ev.step (fun q=>by simp only [fL.l1];rfl) ?_
  simp only [lI i n (by omega),cx i,if_true,kC,sB hin,d_,gG hin,Int.toNat_natCast,show ((m+1:Nat):Int) - 1=(m:Int) by omega,wI ((m:Int)) (by omega),cx m,List.length_map,List.length_range,show (m:Int) < ((m+1:Nat):Int) by omega,SC c (m+1) m (by omega),wI ((i:Int)+1) (by omega)]
  rw [vu,W7]
  refine Ev.congr (fun q=>?_) (ih (i+1) (by omega) (by omega))
  rw [show ((i+1:Nat):Int)=(i:Int)+1 by omega]
  congr 1
  refine y8 fun r q hr hq=>?_
  unfold uy
  by_cases h1:r=i
  ·subst h1
   rw [if_pos rfl]
   by_cases h2:q=r
   ·subst h2
    rw [if_pos rfl,if_neg (by omega),if_pos ⟨rfl,by omega⟩]
   ·rw [if_neg h2,if_neg (fun e=>h2 e.1.symm),if_neg (fun e=>h2 e.1.symm)]
  ·rw [if_neg h1]
   by_cases h2:r=q∧r < i
   ·rw [if_pos h2,if_pos ⟨h2.1,by omega⟩]
   ·rw [if_neg h2,if_neg (fun e=>h2 ⟨e.1,by omega⟩)]
/-- The numbers of a determinant, as a list. -/
def qL (n:Nat) (A:Nat→Nat→Int):List Int:=(List.range (n+1)).map (bY n A)
theorem SB (n:Nat) (A:Nat→Nat→Int):(qL n A).length=n+1:=by simp [qL]
theorem adW (n : Nat) (hn : n ≤ 1048575) (A : Nat → Nat → Int) (hb : ∀ k : Nat, 1 ≤ k → k ≤ n → -9223372036854775807 ≤ (k : Int) * bY n A k ∧ (k : Int) * bY n A k ≤ 9223372036854775807) :
  ∀ (d m : Nat), n - m = d → m ≤ n → ∀ h : Nat → Nat → Int, (∀ i j, i < n → j < n → dX (h i j) (ou n A (bY n A) m i j)) →
   Ev (fun k=>fL.l0 k (cL n A) ((List.range (m+1)).map (bY n A)) (cL n h) ((m+1:Nat):Int)) (iB (qL n A) (n+1)):=by
 intro d
 induction d with
 | zero =>
  intro m hd hm h _
  obtain rfl:m=n:=by omega
  refine Ev.step (fun q=>by simp only [fL.l0];rfl) ?_
  simp only [kC,show ¬ (((m+1:Nat):Int)≤(m:Int)) by omega,if_false]
  refine Ev.bind (a:=iB (qL m A) (m+1)) ?_ (Ev.now _)
  have h:=ajq (qL m A) (by rw [SB];omega)
  rw [SB] at h
  exact h
 | succ d ih =>
  intro m hd hm h hcg
  have hmn:m < n:=by omega
  refine Ev.step (fun q=>by simp only [fL.l0];rfl) ?_
  simp only [kC,show (((m+1:Nat):Int)≤(n:Int)) by omega,if_true]
  refine Ev.bind (WJ n (by omega) A h) ?_
  simp only [kC]
  have hg:∀ i j,i < n→j < n→dX (uy (fun r c=>nK A h r n c) (bY n A m) n i j) (ou n A (bY n A) (m+1) i j):=by
   intro i j hi hj
   have h1:dX (nK A h i n j) (ax n (fun q=>A i q * ou n A (bY n A) m q j)):=rE (WL A h i j n) (DZ (fun q hq=>DY (qJ _) (hcg q j hq hj)))
   show dX (uy _ _ n i j) (ax n (fun q=>A i q * ou n A (bY n A) m q j)+(if i=j then bY n A m else 0))
   unfold uy
   by_cases e:i=j
   ·rw [if_pos ⟨e, hi⟩, if_pos e]
    exact rE (r9 _) (B8 h1 (qJ _))
   ·rw [if_neg (fun e2 => e e2.1), if_neg e]
    simpa using h1
  have h0:cL n (fun r c=>nK A h r n c)=cL n (uy (fun r c=>nK A h r n c) (bY n A m) 0):=y8 fun r c _ _=>by
   unfold uy;rw [if_neg (by omega)]
  rw [h0]
  refine adX n (by omega) A _ (bY n A) m hmn _ ?_ n 0 (by omega) (by omega)
  refine Ev.bind (WJ n (by omega) A _) ?_
  refine Ev.bind (ajn n (by omega) _) ?_
  have hfl:=ag6 n A m hmn
  have TK:=hb (m+1) (by omega) (by omega)
  have htr:dX (-(asO (fun r c=>nK A (uy (fun r c=>nK A h r n c) (bY n A m) n) r n c) n)) (((m+1:Nat):Int) * bY n A (m+1)):=by
   rw [hfl]
   refine Sk (rE (ajl _ n) (DZ (fun i hi=>rE (WL _ _ i i n) (DZ (fun j hj=>DY (qJ _) (hg j i hj hi))))))
  have hw:wrap64 (-(asO (fun r c=>nK A (uy (fun r c=>nK A h r n c) (bY n A m) n) r n c) n))=((m+1:Nat):Int) * bY n A (m+1):=Xk htr ⟨by omega,by omega⟩
  have hdiv:Int.tdiv (((m+1:Nat):Int) * bY n A (m+1)) ((m+1:Nat):Int)=bY n A (m+1):=Int.mul_tdiv_cancel_left _ (by omega)
  have hsmall:-9223372036854775808≤bY n A (m+1)∧bY n A (m+1)≤9223372036854775807:=by
   have h1:(1:Int)≤((m+1:Nat):Int):=by omega
   generalize ((m+1:Nat):Int)=t at h1 TK
   generalize bY n A (m+1)=c at TK
   constructor
   ·rcases Int.lt_or_le c 0 with hc | hc
    ·have : t * c ≤ 1 * c := Int.mul_le_mul_of_nonpos_right h1 (by omega)
     omega
    ·omega
   ·rcases Int.lt_or_le c 0 with hc | hc
    ·omega
    ·have : 1 * c ≤ t * c := Int.mul_le_mul_of_nonneg_right h1 hc
     omega
  simp only [show ¬ (((m+1:Nat):Int)=0) by omega,if_false,List.length_map,List.length_range,show m+1 < 17592186044416 by omega,if_true,hw,hdiv,dF hsmall.1 hsmall.2,dF (show -9223372036854775808≤((m+1:Nat):Int)+1 by omega) (by omega)]
  have hn2:=ih (m+1) (by omega) (by omega) _ hg
  refine Ev.congr (fun q=>?_) hn2
  rw [show (List.range (m+1+1)).map (bY n A)=(List.range (m+1)).map (bY n A) ++ [bY n A (m+1)] by rw [List.range_succ,List.map_append];rfl]
  rw [show ((m+1+1:Nat):Int)=((m+1:Nat):Int)+1 by omega]
theorem adV (n : Nat) (hn : n ≤ 1048575) (A : Nat → Nat → Int) (hb : ∀ k : Nat, 1 ≤ k → k ≤ n → -9223372036854775807 ≤ (k : Int) * bY n A k ∧ (k : Int) * bY n A k ≤ 9223372036854775807) :
  Ev (fun k=>fL.f k (cL n A)) (iB (qL n A) (n+1)):=by
 unfold fL.f
 simp only [kC]
 refine Ev.bind (Oq n (by omega)) ?_
 rw [W8]
 have h:=adW n hn A hb n 0 (by omega) (by omega) (fun _ _=>0) (fun i j _ _=>qJ _)
 refine Ev.congr (fun q=>?_) h
 rw [show (List.range (0+1)).map (bY n A)=[1] by simp [List.range_succ,VX]]
 rfl
theorem OS (n:Nat) (g:Nat→Int):b_ n g ++ [g n]=b_ (n+1) g:=by
 unfold b_;rw [List.range_succ,List.map_append];rfl
theorem Oo (l:List Int) (h:l.length≤1048576):nQ.f l=some l:=by
 unfold nQ.f
 simp only [Option.bind_some,List.length_nil,List.nil_append,show 0+l.length < 17592186044416 by omega,if_true]
theorem agT (l:List Int) (hl:l.length≤1048576):∀ n:Nat,n≤l.length→Ev (fun q=>pO.l0 q l n) (iB l n):=by
 intro n
 induction n with
 | zero =>
  intro _
  refine Ev.step (fun q=>by simp only [pO.l0];rfl) ?_
  simp only [show ¬ (((0:Nat):Int) > 0) by omega,if_false,show (0:Int)≤((0:Nat):Int) by omega,show ((0:Nat):Int)≤(l.length:Int) by omega,if_true,Int.toNat_natCast,List.take_zero,Oo [] (by simp),Option.bind_some,iB]
  exact Ev.now _
 | succ n ih =>
  intro hn
  refine Ev.step (fun q=>by simp only [pO.l0];rfl) ?_
  simp only [show ((n+1:Nat):Int) > 0 by omega,show ((n+1:Nat):Int) - 1=n by omega,wI ((n:Int)) (by omega),cx n,show (n:Int) < (l.length:Int) by omega,show (0:Int)≤((n+1:Nat):Int) by omega,show ((n+1:Nat):Int)≤(l.length:Int) by omega,if_true,Int.toNat_natCast]
  rw [show iB l (n+1)=if rd l n=0 then iB l n else l.take (n+1) from rfl]
  by_cases h:rd l n=0
  ·simp only [h, if_true]
   exact ih (by omega)
  ·simp only [h, if_false, Oo (l.take (n + 1)) (by rw [List.length_take]; omega), Option.bind_some]
   exact Ev.now _
theorem agS (l:List Int) (hl:l.length≤1048576):Ev (fun q=>pO.f q l) (iB l l.length):=agT l hl l.length (Nat.le_refl _)
theorem abR (n : Nat) (hn : n ≤ 1048575) (A : Nat → Nat → Int) (x3 x5 cY : List Int) (C : Nat → Int) (x8 x9 : Int) (r i : Nat) (hr : r < n) (hi : i < r) (h10 : cY.length = i) (R : List Int)
  (next:∀ v,dX v (ax r (fun j=>A i j * C j))→Ev (fun k=>bA.l3 k (cL n A) x3 r x5 (b_ r C) x8 x9 (cY ++ [v]) ((i:Int)+1)) R) :
  ∀ (d j:Nat),r - j=d→j≤r→∀ v,dX v (ax j (fun j=>A i j * C j))→Ev (fun k=>bA.l4 k (cL n A) x3 r x5 (b_ r C) x8 x9 cY i v j) R:=by
 intro d
 induction d with
 | zero =>
  intro j hd hj v hv
  obtain rfl:j=r:=by omega
  refine Ev.step (fun q=>by simp only [bA.l4];rfl) ?_
  simp only [Int.lt_irrefl,if_false,h10,show i < 17592186044416 by omega,if_true,wI ((i:Int)+1) (by omega)]
  exact next v hv
 | succ d ih =>
  intro j hd hj v hv
  have EO:j < r:=by omega
  refine Ev.step (fun q=>by simp only [bA.l4];rfl) ?_
  simp only [lI j r (by omega),cx j,cx i,kC,lI i n (by omega),if_true,sB (show i < n by omega),d_,lI j n (by omega),gG (show j < n by omega),gG EO,wI ((j:Int)+1) (by omega)]
  have h:=ih (j+1) (by omega) (by omega) (wrap64 (v+wrap64 (A i j * C j))) (rE (r9 _) (B8 hv (r9 _)))
  rw [show ((j+1:Nat):Int)=(j:Int)+1 by omega] at h
  exact h
theorem abQ (n : Nat) (hn : n ≤ 1048575) (A : Nat → Nat → Int) (x3 x5 : List Int) (C : Nat → Int) (x8 : Int) (r : Nat) (hr : r < n) (h5 : x5.length < 17592186044416) (R : List Int)
  (next:∀ (v:Int) (C':Nat→Int),dX v (ax r (fun j=>A r j * C j))→(∀ i,i < r→dX (C' i) (ax r (fun j=>A i j * C j)))→Ev (fun k=>bA.l2 k (cL n A) x3 r (x5 ++ [wrap64 (-v)]) (b_ r C') (wrap64 (x8+1))) R) :
  ∀ (d i:Nat),r - i=d→i≤r→∀ (v:Int) (C':Nat→Int),dX v (ax i (fun j=>A r j * C j))→(∀ l,l < i→dX (C' l) (ax r (fun j=>A l j * C j)))→Ev (fun k=>bA.l3 k (cL n A) x3 r x5 (b_ r C) x8 v (b_ i C') i) R:=by
 intro d
 induction d with
 | zero =>
  intro i hd hi v C' hv hC
  obtain rfl:i=r:=by omega
  refine Ev.step (fun q=>by simp only [bA.l3];rfl) ?_
  simp only [Int.lt_irrefl,if_false,h5,if_true]
  exact next v C' hv hC
 | succ d ih =>
  intro i hd hi v C' hv hC
  have EN:i < r:=by omega
  refine Ev.step (fun q=>by simp only [bA.l3];rfl) ?_
  simp only [lI i r (by omega),cx i,cx r,kC,lI r n (by omega),if_true,sB hr,d_,lI i n (by omega),gG (show i < n by omega),gG EN]
  refine abR n hn A x3 x5 (b_ i C') C x8 _ r i hr EN (d_ _ _) R (fun w hw=>?_) r 0 (by omega) (by omega) 0 (qJ _)
  have h:=ih (i+1) (by omega) (by omega) (wrap64 (v+wrap64 (A r i * C i))) (fun l=>if l < i then C' l else w) (rE (r9 _) (B8 hv (r9 _))) (fun l hl=>by
   by_cases e:l < i
   ·simp only [if_pos e];exact hC l e
   ·simp only [if_neg e]
    obtain rfl:l=i:=by omega
    exact hw)
  refine Ev.congr (fun q=>?_) h
  rw [show ((i+1:Nat):Int)=(i:Int)+1 by omega,← OS]
  rw [if_neg (Nat.lt_irrefl i)]
  congr 2
  exact vt fun j hj=>by rw [if_pos hj]
theorem abP (n : Nat) (hn : n ≤ 1048575) (A : Nat → Nat → Int) (x3 : List Int) (r : Nat) (hr : r < n) (R : List Int)
  (next:∀ T:Nat→Int,(∀ j,j < r+2→dX (T j) (sy r A j))→Ev (fun k=>bA.l5 k (cL n A) x3 r (b_ (r+2) T) (b_ (r+2) (fun _=>0)) 0) R) :
  ∀ (d k:Nat),r - k=d→k≤r→∀ (T C:Nat→Int),(∀ j,j < k+2→dX (T j) (sy r A j))→(∀ i,i < r→dX (C i) (qm r A (fun i=>A i r) k i))→Ev (fun q=>bA.l2 q (cL n A) x3 r (b_ (k+2) T) (b_ r C) k) R:=by
 intro d
 induction d with
 | zero =>
  intro k hd hk T C hT hC
  obtain rfl:k=r:=by omega
  refine Ev.step (fun q=>by simp only [bA.l2];rfl) ?_
  simp only [Int.lt_irrefl,if_false,wI ((k:Int)+2) (by omega),show (0:Int)≤(k:Int)+2 by omega,show ((k:Int)+2).toNat=k+2 by omega,show k+2≤35184372088832 by omega,if_true]
  rw [show List.replicate (k+2) (0:Int)=b_ (k+2) (fun _=>0) by
   apply List.ext_getElem
   ·simp [b_]
   ·intro i _ _;simp [b_]]
  exact next T hT
 | succ d ih =>
  intro k hd hk T C hT hC
  have hkr:k < r:=by omega
  refine Ev.step (fun q=>by simp only [bA.l2];rfl) ?_
  simp only [lI k r (by omega),if_true]
  have h:=abQ n hn A x3 (b_ (k+2) T) C k r hr (by rw [d_];omega) R (fun v C' hv hC'=>?_) r 0 (by omega) (by omega) 0 (fun _=>0) (qJ _) (fun l hl=>by omega)
  ·exact h
  ·have h:=ih (k+1) (by omega) (by omega) (fun j=>if j < k+2 then T j else wrap64 (-v)) C' (fun j hj=>by
    by_cases e:j < k+2
    ·simp only [if_pos e];exact hT j e
    ·simp only [if_neg e]
     obtain rfl:j=k+2:=by omega
     show dX _ (-ax r (fun i=>A r i * qm r A (fun i=>A i r) k i))
     exact rE (r9 _) (Sk (rE hv (DZ (fun i hi=>DY (qJ _) (hC i hi)))))) (fun i hi=>by
    show dX _ (ax r (fun j=>A i j * qm r A (fun i=>A i r) k j))
    exact rE (hC' i hi) (DZ (fun j hj=>DY (qJ _) (hC j hj))))
   refine Ev.congr (fun q=>?_) h
   rw [wI ((k:Int)+1) (by omega),show ((k+1:Nat):Int)=(k:Int)+1 by omega,show k+1+2=(k+2)+1 by omega,← OS (k+2) (fun j=>if j < k+2 then T j else wrap64 (-v))]
   simp only [if_neg (Nat.lt_irrefl (k+2))]
   congr 2
   exact vt fun j hj=>by rw [if_pos hj]
theorem abO (n : Nat) (hn : n ≤ 1048575) (A : Nat → Nat → Int) (x3 x5 : List Int) (r : Nat) (hr : r < n) (R : List Int)
  (next:Ev (fun k=>bA.l2 k (cL n A) x3 r x5 (b_ r (fun i=>A i r)) 0) R) :
  ∀ (d i:Nat),r - i=d→i≤r→Ev (fun k=>bA.l1 k (cL n A) x3 r x5 (b_ i (fun i=>A i r)) i) R:=by
 intro d
 induction d with
 | zero =>
  intro i hd hi
  obtain rfl:i=r:=by omega
  refine Ev.step (fun q=>by simp only [bA.l1];rfl) ?_
  simp only [Int.lt_irrefl,if_false]
  exact next
 | succ d ih =>
  intro i hd hi
  have EN:i < r:=by omega
  refine Ev.step (fun q=>by simp only [bA.l1];rfl) ?_
  simp only [lI i r (by omega),cx i,cx r,kC,lI i n (by omega),lI r n (by omega),if_true,sB (show i < n by omega),d_,show i < 17592186044416 by omega,gG hr,wI ((i:Int)+1) (by omega)]
  have h:=ih (i+1) (by omega) (by omega)
  rw [show ((i+1:Nat):Int)=(i:Int)+1 by omega,← OS] at h
  exact h
def DM (r:Nat) (A:Nat→Nat→Int) (m:Nat) (j:Nat):Int:=ax j (fun l=>sy r A (m - l) * bY r A l)
theorem abT (n : Nat) (hn : n ≤ 1048575) (A : Nat → Nat → Int) (r i : Nat) (hr : r < n) (hi : i < r + 2) (c T : Nat → Int) (hT : ∀ j, j < r + 2 → dX (T j) (sy r A j)) (hc : ∀ l, l ≤ r → dX (c l) (bY r A l)) (R : List Int)
  (next:∀ M:Nat→Int,(∀ m,m≤i→dX (M m) (bY (r+1) A m))→(∀ m,i < m→M m=0)→(∀ m,-9223372036854775808≤M m∧M m≤9223372036854775807)→Ev (fun k=>bA.l5 k (cL n A) (b_ (r+1) c) r (b_ (r+2) T) (b_ (r+2) M) ((i:Int)+1)) R) :
  ∀ (d j:Nat),r+1 - j=d→j≤i+1→j≤r+1→∀ M:Nat→Int,(∀ m,m < i→dX (M m) (bY (r+1) A m))→dX (M i) (DM r A i j)→(∀ m,i < m→M m=0)→(∀ m,-9223372036854775808≤M m∧M m≤9223372036854775807)→Ev (fun k=>bA.l6 k (cL n A) (b_ (r+1) c) r (b_ (r+2) T) (b_ (r+2) M) i j) R:=by
 have fin:∀ j,j≤i+1→(j=i+1∨j=r+1)→DM r A i j=bY (r+1) A i:=by
  intro j tj hj
  rw [ag5 r A i (by omega)]
  rcases hj with rfl|rfl
  ·rfl
  ·unfold DM
   refine (ID (by omega) (fun l h1 h2=>?_)).symm
   rw [show bY r A l=0 from asn _ _ l (by omega)];simp
 have nx:∀ j,j≤i+1→(j=i+1∨j=r+1)→∀ M:Nat→Int,(∀ m,m < i→dX (M m) (bY (r+1) A m))→dX (M i) (DM r A i j)→(∀ m,i < m→M m=0)→(∀ m,-9223372036854775808≤M m∧M m≤9223372036854775807)→Ev (fun k=>bA.l5 k (cL n A) (b_ (r+1) c) r (b_ (r+2) T) (b_ (r+2) M) ((i:Int)+1)) R:=by
  intro j tj hj M h1 h2 h3 h4
  refine next M (fun m hm=>?_) h3 h4
  by_cases e:m=i
  ·subst e;rw [← fin j tj hj];exact h2
  ·exact h1 m (by omega)
 intro d
 induction d with
 | zero =>
  intro j hd tj hj2 M h1 h2 h3 h4
  obtain rfl:j=r+1:=by omega
  refine Ev.step (fun q=>by simp only [bA.l6];rfl) ?_
  simp only [d_,Int.lt_irrefl,if_false,wI ((i:Int)+1) (by omega)]
  exact nx _ tj (Or.inr rfl) M h1 h2 h3 h4
 | succ d ih =>
  intro j hd tj hj2 M h1 h2 h3 h4
  have EO:j < r+1:=by omega
  refine Ev.step (fun q=>by simp only [bA.l6];rfl) ?_
  by_cases hji:j≤i
  ·simp only [d_, show ((j : Int) < ((r + 1 : Nat) : Int)) by omega, show ((j : Int) ≤ (i : Int)) by omega, cx i, show ((i : Int) < ((r + 2 : Nat) : Int)) by omega, cx j, if_true, show (i : Int) - (j : Int) = ((i - j : Nat) : Int) by omega, dF (show -9223372036854775808 ≤ ((i - j : Nat) : Int) by omega) (by omega), show (0 : Int) ≤ ((i - j : Nat) : Int) by omega, show ((i - j : Nat) : Int) < ((r + 2 : Nat) : Int) by omega, gG hi, gG EO, gG (show i - j < r + 2 by omega), Int.toNat_natCast, wI ((j : Int) + 1) (by omega)]
   rw [vu]
   have h:=ih (j+1) (by omega) (by omega) (by omega) (fun m=>if m=i then wrap64 (M i+wrap64 (T (i - j) * c j)) else M m) (fun m hm=>by simp only [if_neg (show m ≠ i by omega)];exact h1 m hm) (by
    simp only [if_true]
    show dX _ (DM r A i j+sy r A (i - j) * bY r A j)
    exact rE (r9 _) (B8 h2 (rE (r9 _) (DY (hT _ (by omega)) (hc _ (by omega)))))) (fun m hm=>by simp only [if_neg (show m ≠ i by omega)];exact h3 m hm) (fun m=>by
    by_cases e:m=i
    ·simp only [if_pos e];exact Xl _
    ·simp only [if_neg e];exact h4 m)
   rw [show ((j+1:Nat):Int)=(j:Int)+1 by omega] at h
   exact h
  ·simp only [d_, show ((j : Int) < ((r + 1 : Nat) : Int)) by omega, show ¬ ((j : Int) ≤ (i : Int)) by omega, if_true, if_false, wI ((i : Int) + 1) (by omega)]
   exact nx j tj (Or.inl (by omega)) M h1 h2 h3 h4
theorem abS (n : Nat) (hn : n ≤ 1048575) (A : Nat → Nat → Int) (r : Nat) (hr : r < n) (c T : Nat → Int) (hT : ∀ j, j < r + 2 → dX (T j) (sy r A j)) (hc : ∀ l, l ≤ r → dX (c l) (bY r A l)) (R : List Int)
  (next:∀ M:Nat→Int,(∀ m,m≤r+1→dX (M m) (bY (r+1) A m))→(∀ m,-9223372036854775808≤M m∧M m≤9223372036854775807)→Ev (fun k=>bA.l0 k (cL n A) (b_ (r+2) M) ((r:Int)+1)) R) :
  ∀ (d i:Nat),r+2 - i=d→i≤r+2→∀ M:Nat→Int,(∀ m,m < i→dX (M m) (bY (r+1) A m))→(∀ m,i≤m→M m=0)→(∀ m,-9223372036854775808≤M m∧M m≤9223372036854775807)→Ev (fun k=>bA.l5 k (cL n A) (b_ (r+1) c) r (b_ (r+2) T) (b_ (r+2) M) i) R:=by
 intro d
 induction d with
 | zero =>
  intro i hd hi M h1 h3 h4
  obtain rfl:i=r+2:=by omega
  refine Ev.step (fun q=>by simp only [bA.l5];rfl) ?_
  simp only [d_,Int.lt_irrefl,if_false,wI ((r:Int)+1) (by omega)]
  exact next M (fun m hm=>h1 m (by omega)) h4
 | succ d ih =>
  intro i hd hi M h1 h3 h4
  have EN:i < r+2:=by omega
  refine Ev.step (fun q=>by simp only [bA.l5];rfl) ?_
  simp only [d_,show ((i:Int) < ((r+2:Nat):Int)) by omega,if_true]
  refine abT n hn A r i hr EN c T hT hc R (fun M' g1 g3 g4=>?_) (r+1) 0 (by omega) (by omega) (by omega) M h1 (by rw [h3 i (by omega)];exact qJ _) (fun m hm=>h3 m (by omega)) h4
  have h:=ih (i+1) (by omega) (by omega) M' (fun m hm=>g1 m (by omega)) (fun m hm=>g3 m (by omega)) g4
  rw [show ((i+1:Nat):Int)=(i:Int)+1 by omega] at h
  exact h
theorem abN (n : Nat) (hn : n ≤ 1048574) (A : Nat → Nat → Int) : ∀ (d r : Nat), n - r = d → r ≤ n → ∀ c : Nat → Int, (∀ l, l ≤ r → dX (c l) (bY r A l)) → (∀ m, -9223372036854775808 ≤ c m ∧ c m ≤ 9223372036854775807) →
  Ev (fun k=>bA.l0 k (cL n A) (b_ (r+1) c) r) (iB (b_ (n+1) (fun l=>wrap64 (bY n A l))) (n+1)):=by
 intro d
 induction d with
 | zero =>
  intro r hd hr c hc hw
  obtain rfl:r=n:=by omega
  refine Ev.step (fun q=>by simp only [bA.l0];rfl) ?_
  simp only [kC,Int.lt_irrefl,if_false]
  refine Ev.bind (a:=iB (b_ (r+1) (fun l=>wrap64 (bY r A l))) (r+1)) ?_ (Ev.now _)
  have h:=agS (b_ (r+1) c) (by rw [d_];omega)
  rw [d_] at h
  rw [show b_ (r+1) (fun l=>wrap64 (bY r A l))=b_ (r+1) c from vt fun l hl=>(Xk (adv (hc l (by omega))) (hw l))]
  exact h
 | succ d ih =>
  intro r hd hr c hc hw
  have E9:r < n:=by omega
  refine Ev.step (fun q=>by simp only [bA.l0];rfl) ?_
  simp only [kC,lI r n (by omega),cx r,if_true,sB E9,d_,gG E9]
  refine abO n (by omega) A _ _ r E9 _ ?_ r 0 (by omega) (by omega)
  have h:=abP n (by omega) A (b_ (r+1) c) r E9 (iB (b_ (n+1) (fun l=>wrap64 (bY n A l))) (n+1)) (fun T hT=>?_) r 0 (by omega) (by omega) (fun j=>if j=0 then 1 else wrap64 (-A r r)) (fun i=>A i r) (fun j hj=>by
   by_cases e:j=0
   ·subst e;simp only [if_true];exact qJ _
   ·obtain rfl : j = 1 := by omega
    simp only [if_neg (show ¬ (1=0) by omega)]
    exact r9 _) (fun i _=>qJ _)
  ·exact h
  ·refine abS n (by omega) A r E9 c T hT hc _ (fun M g1 g4 => ?_) (r + 2) 0 (by omega) (by omega) (fun _ => 0) (fun m hm => by omega) (fun _ _ => rfl) (fun _ => by omega)
   have h:=ih (r+1) (by omega) (by omega) M (fun l hl=>g1 l hl) g4
   rw [show ((r+1:Nat):Int)=(r:Int)+1 by omega] at h
   exact h
theorem abU (n:Nat) (hn:n≤1048574) (A:Nat→Nat→Int):Ev (fun k=>bA.f k (cL n A)) (iB (b_ (n+1) (fun l=>wrap64 (bY n A l))) (n+1)):=by
 unfold bA.f
 exact abN n hn A n 0 (by omega) (by omega) (fun _=>1) (fun l hl=>by
  obtain rfl:l=0:=by omega
  rw [VX];exact qJ _) (fun _=>by omega)
/-- The edge matrix, by its places. -/
def eA (l:List (List Int)) (e f:Nat):Int:=if next l e f=true then 1 else 0
theorem D_ (l:List (List Int)):mJ l=cL (2 * l.length) (eA l):=by
 unfold mJ cL
 apply List.map_congr_left
 intro e _
 unfold k9 b_
 apply List.map_congr_left
 intro f hf
 have hf':f < 2 * l.length:=List.mem_range.mp hf
 unfold eA
 simp [hf']
theorem Wl {n:Nat} {l:List (List Int)} (hl:n=2 * l.length) {e:Nat} (he:e < n):cl e < n:=by unfold cl;split<;>omega
theorem RB (l:List (List Int)) (e:Nat):nB l (cl e)=eO l e:=by
 unfold nB eO cl
 rcases Nat.mod_two_eq_zero_or_one e with h|h
 ·rw [if_pos h,show (e+1) / 2=e / 2 by omega,show (e+1) % 2=1 - e % 2 by omega]
 ·rw [if_neg (by omega),show (e - 1) / 2=e / 2 by omega,show (e - 1) % 2=1 - e % 2 by omega]
theorem Cd (l:List (List Int)) (e f:Nat):eA l e f=(if nB l f=eO l e then 1 else 0) - aqE (cl e) f:=by
 unfold eA next aqE
 by_cases h1:f=cl e
 ·subst h1
  rw [RB];simp
 ·by_cases h2 : nB l f = eO l e
  ·simp [h1,h2]
  ·simp [h1,h2,Ne.symm h2]
theorem abq (l:List (List Int)) (e f:Nat):cX (eA l e f)=eA l e f:=by unfold eA;split<;>rfl
theorem ate (j b:Nat):0≤aqE j b:=by unfold aqE;split<;>omega
theorem FX (n j:Nat):ax n (aqE j)≤1:=by
 by_cases h:j < n
 ·rw [pz j h (fun i _ hne=>iY hne),pq];omega
 ·rw [mg (fun i hi=>iY (by omega))];omega
theorem aiO {n:Nat} {f:Nat→Int} (h0:∀ a,a < n→0≤f a) (h1:∀ a,a < n→f a≤1) (h:∀ a b,a < b→b < n→f a=0∨f b=0):ax n f≤1:=by
 induction n with
 | zero=>simp [ax]
 | succ n ih =>
  simp only [ax]
  by_cases e:f n=0
  ·have:=ih (fun a ha=>h0 a (by omega)) (fun a ha=>h1 a (by omega)) (fun a b ha hb=>h a b ha (by omega));omega
  ·rw [mg (fun i hi => (h i n hi (by omega)).resolve_right e)]
   have:=h1 n (by omega);omega
theorem ah4 (p:Nat→Prop) [DecidablePred p] (n:Nat):∃ c:Nat,(c:Int)=ax n (fun a=>if p a then 1 else 0)∧ct n (fun a=>if p a then 20 else 4)=4 ^ n * 5 ^ c:=by
 induction n with
 | zero=>exact ⟨0,rfl,rfl⟩
 | succ n ih =>
  obtain ⟨c,h1,h2⟩:=ih
  by_cases h:p n
  ·refine ⟨c + 1, ?_, ?_⟩
   ·simp only [ax,if_pos h];omega
   ·simp only [ct,if_pos h,h2,Int.pow_succ];grind
  ·refine ⟨c, ?_, ?_⟩
   ·simp only [ax,if_neg h];omega
   ·simp only [ct,if_neg h,h2,Int.pow_succ];grind
def pg (l:List (List Int)) (a:Nat):Prop:=∀ e,e < a→eO l e ≠ eO l a
instance (l:List (List Int)):DecidablePred (pg l):=fun _=>inferInstanceAs (Decidable (∀ e,e < _→_))
theorem aih (l:List (List Int)) (a:Nat):∃ r,(pg l a→r=a)∧(¬ pg l a→r < a∧pg l r∧eO l r=eO l a):=by
 induction a using Nat.strongRecOn with
 | _ a ih =>
  by_cases h:pg l a
  ·exact ⟨a,fun _=>rfl,fun h2=>absurd h h2⟩
  ·have:∃ e,e < a∧eO l e=eO l a:=by
    apply Classical.byContradiction
    intro hc
    exact h (fun e he h2=>hc ⟨e,he,h2⟩)
   obtain ⟨e,he,h2⟩:=this
   obtain ⟨r,arC,Am⟩:=ih e he
   by_cases h3:pg l e
   ·exact ⟨e,fun h4=>absurd h4 h,fun _=>⟨he,h3,h2⟩⟩
   ·obtain ⟨g1, g2, g3⟩ := Am h3
    exact ⟨r,fun h4=>absurd h4 h,fun _=>⟨by omega,g2,g3.trans h2⟩⟩
theorem aeg (l : List (List Int)) (hl : l.length ≤ 10) (hE : ∀ e, e < 2 * l.length → ∃ v : Nat, eO l e = v ∧ v < 8) (k : Nat) (hk : k ≤ 2 * l.length) :
  cX (bY (2 * l.length) (eA l) k)≤429496729600000000:=by
 obtain ⟨rep,asf⟩:=Classical.axiomOfChoice (aih l)
 generalize hn:2 * l.length=n at hE hk ⊢
 have Vi:n≤20:=by omega
 let x:Nat→Int:=fun a=>if pg l a then 0 else -1
 let P:Nat→Nat→Int:=fun a b=>aqE a b+x a * aqE (rep a) b
 let Q:Nat→Nat→Int:=fun a b=>aqZ (eA l) a b+x a * aqZ (eA l) (rep a) b
 have hdc:∀ k,k≤n→bY n (eA l) k=ef n P Q k:=by
  intro k hk
  refine Iz (n:=n) (fun u _=>?_) k hk
  show eF n (ef n (fun a b=>aqE a b) (aqZ (eA l))) u=_
  rw [← wZ,← wZ,← ahg (fun a b=>aqE a b+u * aqZ (eA l) a b) rep x (fun a ha hx=>?_)]
  ·refine iq (fun a b _ _ => ?_)
   show _=(aqE a b+x a * aqE (rep a) b)+u * (aqZ (eA l) a b+x a * aqZ (eA l) (rep a) b)
   grind
  ·have h1 : ¬ pg l a := fun h => hx (if_pos h)
   obtain ⟨g1,g2,g3⟩:=(asf a).2 h1
   exact ⟨by omega,by omega,if_pos g2⟩
 have hrow:∀ a,a < n→ax n (fun b=>cX (P a b)+cX (Q a b))≤if pg l a then 20 else 4:=by
  intro a ha
  by_cases h:pg l a
  ·rw [if_pos h]
   have e:ax n (fun b=>cX (P a b)+cX (Q a b))=ax n (aqE a)+ax n (fun b=>eA l a b):=by
    rw [← ov]
    refine dh (fun b _=>?_)
    have hx:x a=0:=if_pos h
    show cX (aqE a b+x a * aqE (rep a) b)+cX (aqZ (eA l) a b+x a * aqZ (eA l) (rep a) b)=_
    rw [hx,Int.zero_mul,Int.zero_mul,Int.add_zero,Int.add_zero]
    congr 1
    ·unfold aqE cX;split<;>rfl
    ·unfold aqZ
     rw [← abq]
     unfold cX;omega
   rw [e]
   have h1:=FX n a
   have h2:ax n (fun b=>eA l a b)≤ax n (fun b=>1 - aqE (cl a) b):=yD (fun b _=>by
    rw [Cd];split<;>omega)
   rw [Ay,pz (n:=n) (f:=aqE (cl a)) (cl a) (Wl hn.symm ha) (fun i _ hne=>iY hne),pq] at h2
   have h3:∀ m:Nat,ax m (fun _=>(1:Int))=m:=by
    intro m
    induction m with
    | zero=>rfl
    | succ m ih=>simp only [ax,ih];omega
   rw [h3] at h2
   omega
  ·rw [if_neg h]
   obtain ⟨g1,g2,g3⟩:=(asf a).2 h
   have hx:x a=-1:=if_neg h
   have e:ax n (fun b=>cX (P a b)+cX (Q a b))≤ax n (fun b=>(aqE a b+aqE (rep a) b)+(aqE (cl a) b+aqE (cl (rep a)) b)):=by
    refine yD (fun b _=>?_)
    show cX (aqE a b+x a * aqE (rep a) b)+cX (aqZ (eA l) a b+x a * aqZ (eA l) (rep a) b)≤_
    rw [hx]
    unfold aqZ
    rw [Cd,Cd,g3]
    have:=ate a b
    have:=ate (rep a) b
    have:=ate (cl a) b
    have:=ate (cl (rep a)) b
    generalize aqE a b=e1 at *
    generalize aqE (rep a) b=e2 at *
    generalize aqE (cl a) b=e3 at *
    generalize aqE (cl (rep a)) b=e4 at *
    generalize (if nB l b=eO l a then (1:Int) else 0)=z
    unfold cX
    omega
   rw [ov n (fun b=>aqE a b+aqE (rep a) b) (fun b=>aqE (cl a) b+aqE (cl (rep a)) b),ov n (aqE a) (aqE (rep a)),ov n (aqE (cl a)) (aqE (cl (rep a)))] at e
   have:=FX n a
   have:=FX n (rep a)
   have:=FX n (cl a)
   have:=FX n (cl (rep a))
   omega
 obtain ⟨c,ql,Cg⟩:=ah4 (pg l) n
 have hc8:c≤8:=by
  have h1:ax n (fun a=>if pg l a then (1:Int) else 0)=ax n (fun a=>ax 8 (fun v=>if pg l a∧eO l a=(v:Int) then 1 else 0)):=by
   refine dh (fun a ha=>?_)
   obtain ⟨v,Na,hv2⟩:=hE a ha
   rw [pz v hv2 (fun i _ hne=>if_neg (fun h2=>hne (by have:=h2.2;omega)))]
   by_cases h:pg l a
   ·rw [if_pos h,if_pos ⟨h,Na⟩]
   ·rw [if_neg h,if_neg (fun h2=>h h2.1)]
  rw [yF] at h1
  have h2:ax 8 (fun v=>ax n (fun a=>if pg l a∧eO l a=(v:Int) then (1:Int) else 0))≤ax 8 (fun _=>1):=yD (fun v _=>aiO (fun a _=>by split<;>omega) (fun a _=>by split<;>omega) (fun a b hab hb=>by
   by_cases h:pg l b∧eO l b=(v:Int)
   ·left
    rw [if_neg]
    rintro ⟨h3,h4⟩
    exact h.1 a hab (h4.trans h.2.symm)
   ·right;exact if_neg h))
  have h3:ax 8 (fun _=>(1:Int))=8:=rfl
  omega
 have hb:=ag7 (n:=n) P Q
 have h1:=ag1 (n:=n+1) (ef n P Q) k (by omega)
 have h2:ct n (fun a=>ax n (fun b=>cX (P a b)+cX (Q a b)))≤ct n (fun a=>if pg l a then 20 else 4) :=
  V7 (fun a _=>NF (fun b _=>by have:=wY (P a b);have:=wY (Q a b);omega)) hrow
 rw [Cg] at h2
 have h4:(4:Int) ^ n * 5 ^ c≤4 ^ 20 * 5 ^ 8:=by
  have p4:(4:Int) ^ n≤4 ^ 20:=by
   have:=Nat.pow_le_pow_right (n:=4) (by omega) Vi
   exact_mod_cast this
  have p5:(5:Int) ^ c≤5 ^ 8:=by
   have:=Nat.pow_le_pow_right (n:=5) (by omega) hc8
   exact_mod_cast this
  have q5:(0:Int)≤5 ^ c:=by
   have:(0:Nat)≤5 ^ c:=Nat.zero_le _
   exact_mod_cast this
  exact Int.mul_le_mul p4 p5 q5 (by decide)
 rw [hdc k hk]
 have h5:(4:Int) ^ 20 * 5 ^ 8=429496729600000000:=by decide
 omega
theorem agG {a:Int} {l:List (List Int)} (h:ee a l=true) (e:Nat) (he:e < 2 * l.length):∃ v:Nat,eO l e=v∧v < 8:=by
 obtain ⟨n,_,_,hn8,hE⟩:=Il h
 obtain ⟨u,v,_,hv,_,vX⟩:=Cc hE e he
 exact ⟨v,hv,by omega⟩
theorem Nj {a:Int} {l:List (List Int)} (h:ee a l=true) (k:Nat) (hk:k≤2 * l.length):-429496729600000000≤bY (2 * l.length) (eA l) k∧bY (2 * l.length) (eA l) k≤429496729600000000:=by
 have:=aeg l (kz h) (agG h) k hk
 unfold cX at this
 omega
theorem agE {a:Int} {l:List (List Int)} (h:ee a l=true) (k:Nat) (_:1≤k) (hk:k≤2 * l.length):-9223372036854775807≤(k:Int) * bY (2 * l.length) (eA l) k∧(k:Int) * bY (2 * l.length) (eA l) k≤9223372036854775807:=by
 have h1:=Nj h k hk
 have hl:=kz h
 have aov:(k:Int)≤20:=by omega
 generalize bY (2 * l.length) (eA l) k=c at h1
 have h2:(k:Int) * c≤k * 429496729600000000:=Int.mul_le_mul_of_nonneg_left h1.2 (by omega)
 have h3:(k:Int) * (-429496729600000000)≤k * c:=Int.mul_le_mul_of_nonneg_left h1.1 (by omega)
 omega
theorem Oi (a:Int) (l:List (List Int)) (h:ee a l=true):Ev (fun k=>sR.f k a l) (iB (qL (2 * l.length) (eA l)) (2 * l.length+1)):=by
 have hl:=kz h
 unfold sR.f
 refine Ev.bind (L2 a l hl (asm h)) ?_
 rw [D_]
 exact Ev.bind (adV (2 * l.length) (by omega) (eA l) (agE h)) (Ev.now _)
theorem L0 (n:Nat) (A:Nat→Nat→Int) (k:Nat) (h:k≤n):rd (qL n A) k=bY n A k:=SC _ _ _ (by omega)
theorem abI (l:List Int) (k:Nat):zw.f l k=some (rd l k):=by
 unfold zw.f
 by_cases h:(k:Int) < (l.length:Int)
 ·rw [if_pos h,if_pos (by omega)]
 ·rw [if_neg h]
  congr 1
  unfold rd
  rw [Int.toNat_natCast,List.getD_eq_getElem?_getD,List.getElem?_eq_none (by omega)]
  rfl
def uA (a:Int) (l:List (List Int)):Int × Int:=if ee a l then (bY (2 * l.length) (eA l) (2 * l.length),0) else (0,1)
theorem agu (a:Int) (l:List (List Int)) (hl:l.length≤maxLen):Ev (fun k=>pP.f k a l) (uA a l):=by
 unfold pP.f uA
 refine Ev.bind (FC a l hl) ?_
 cases h:ee a l with
 | false=>simp only [Bool.false_eq_true,if_false];exact Ev.now _
 | true =>
  have h10:=kz h
  simp only [if_true]
  refine Ev.bind (Oi a l h) ?_
  simp only [wI (2 * (l.length:Int)) (by omega)]
  rw [show 2 * (l.length:Int)=((2 * l.length:Nat):Int) by omega,abI,I9,if_pos (by omega),L0 _ _ _ (by omega)]
  exact Ev.now _
theorem ai0 (a:Int) (l:List (List Int)) (hl:l.length≤maxLen):Ev (fun k=>nT.f k a l) (uA a l):=by
 unfold nT.f uA
 refine Ev.bind (FY a l hl) ?_
 cases h:ee a l with
 | false=>simp only [Bool.false_eq_true,if_false];exact Ev.now _
 | true =>
  have h10:=kz h
  simp only [if_true]
  refine Ev.bind (Nn a l h10 (asm h)) ?_
  rw [D_]
  refine Ev.bind (abU (2 * l.length) (by omega) (eA l)) ?_
  simp only [wI (2 * (l.length:Int)) (by omega)]
  rw [show 2 * (l.length:Int)=((2 * l.length:Nat):Int) by omega]
  have hr:=I9 (b_ (2 * l.length+1) (fun j=>wrap64 (bY (2 * l.length) (eA l) j))) (2 * l.length+1) (2 * l.length)
  have hc:=Nj h (2 * l.length) (Nat.le_refl _)
  rw [if_pos (by omega),gG (by omega),dF (by omega) (by omega)] at hr
  have hlen:=OE (b_ (2 * l.length+1) (fun j=>wrap64 (bY (2 * l.length) (eA l) j))) (2 * l.length+1)
  generalize iB (b_ (2 * l.length+1) (fun j=>wrap64 (bY (2 * l.length) (eA l) j))) (2 * l.length+1)=t at hr hlen ⊢
  by_cases ht:(t.length:Int)≤((2 * l.length:Nat):Int)
  ·simp only [ht, if_true]
   have:rd t ((2 * l.length:Nat):Int)=0:=by
    unfold rd
    rw [Int.toNat_natCast,List.getD_eq_getElem?_getD,List.getElem?_eq_none (by omega)]
    rfl
   rw [← hr,this]
   exact Ev.now _
  ·simp only [ht, if_false, show (0 : Int) ≤ ((2 * l.length : Nat) : Int) by omega, show ((2 * l.length : Nat) : Int) < (t.length : Int) by omega, if_true, hr]
   exact Ev.now _
theorem oA {x p:Int} (h:0≤x):Int.tmod x p=x % p:=Int.tmod_eq_emod_of_nonneg h
theorem V_ {p x:Int} (hp:0 < p) (cW:p≤1000000):Int.tmod (wrap64 (Int.tmod x p+p)) p=x % p:=by
 have hb:-p < Int.tmod x p∧Int.tmod x p < p:=by
  rcases Int.le_total 0 x with h|h
  ·rw [oA h]
   have:=Int.emod_nonneg x (show p ≠ 0 by omega)
   have:=Int.emod_lt_of_pos x hp
   omega
  ·have e:Int.tmod x p=-((-x) % p):=by
    rw [← oA (show 0≤-x by omega),Int.neg_tmod];omega
   have:=Int.emod_nonneg (-x) (show p ≠ 0 by omega)
   have:=Int.emod_lt_of_pos (-x) hp
   omega
 rw [dF (by omega) (by omega),oA (by omega)]
 have hd:x=p * Int.tdiv x p+Int.tmod x p:=(Int.mul_tdiv_add_tmod x p).symm
 have:x % p=Int.tmod x p % p:=by
  conv=>lhs;rw [hd]
  rw [Int.add_comm,Int.add_mul_emod_self_left]
 rw [this,Int.add_emod_right]
theorem CB {p x:Int} (hp:0 < p) (cW:p≤1000000):qz.f p x=some (x % p):=by
 unfold qz.f
 rw [if_neg (by omega),V_ hp cW]
theorem NH {p x:Int} (hp:0 < p) (cW:p≤1000000):tX.f x p=some (x % p):=by
 unfold tX.f
 rw [if_neg (by omega),V_ hp cW]
/-- Is a number a prime. -/
def i_ (p:Nat):Bool:=decide (∀ e,e < p→2≤e→e * e≤p→p % e ≠ 0)
theorem Wq {p d:Nat} (hd:2≤d) (h:d * d≤p) (h0:p % d=0):i_ p=false:=by
 unfold i_
 rw [decide_eq_false_iff_not]
 intro hc
 have:d < p:=by
  have:d * 2≤d * d:=Nat.mul_le_mul_left d hd
  omega
 exact hc d this hd h h0
theorem IU {p d:Nat} (h:p < d * d) (hl:∀ e,2≤e→e < d→e * e≤p→p % e ≠ 0):i_ p=true:=by
 unfold i_
 rw [decide_eq_true_iff]
 intro e _ h2 h3
 refine hl e h2 ?_ h3
 apply Classical.byContradiction
 intro hc
 have:d * d≤e * e:=Nat.mul_le_mul (by omega) (by omega)
 omega
theorem WY (p d:Nat):Int.tmod (p:Int) (d:Int)=((p % d:Nat):Int):=rfl
theorem agY (p:Nat) (hp:p≤10007):∀ (m d:Nat),p+1 - d=m→2≤d→d≤p+1→(∀ e,2≤e→e < d→e * e≤p→p % e ≠ 0)→Ev (fun k=>arW.l0 k p d) (i_ p):=by
 intro m
 induction m with
 | zero =>
  intro d hm hd MN hl
  have hdd:p < d * d:=by
   obtain rfl:d=p+1:=by omega
   have:(p+1) * 1≤(p+1) * (p+1):=Nat.mul_le_mul_left _ (by omega)
   omega
  have hs:d * d≤10008 * 10008:=Nat.mul_le_mul (by omega) (by omega)
  refine Ev.step (fun q=>by simp only [arW.l0];rfl) ?_
  rw [IU hdd hl]
  simp only [show ((d:Int) * (d:Int))=((d * d:Nat):Int) by simp,dF (show -9223372036854775808≤((d * d:Nat):Int) by omega) (by omega),show ¬ (((d * d:Nat):Int)≤(p:Int)) by omega,if_false]
  exact Ev.now _
 | succ m ih =>
  intro d hm hd MN hl
  have hs:d * d≤10008 * 10008:=Nat.mul_le_mul (by omega) (by omega)
  refine Ev.step (fun q=>by simp only [arW.l0];rfl) ?_
  simp only [show ((d:Int) * (d:Int))=((d * d:Nat):Int) by simp,dF (show -9223372036854775808≤((d * d:Nat):Int) by omega) (by omega)]
  by_cases h:d * d≤p
  ·simp only [show (((d * d : Nat) : Int) ≤ (p : Int)) by omega, if_true, show ¬ ((d : Int) = 0) by omega, if_false, WY]
   by_cases h0:p % d=0
   ·simp only [h0, show (((0 : Nat) : Int) = 0) by rfl, if_true, Wq hd h h0]
    exact Ev.now _
   ·simp only [show ¬ (((p % d : Nat) : Int) = 0) by omega, if_false, wI ((d : Int) + 1) (by omega)]
    exact ih (d+1) (by omega) (by omega) (by omega) (fun e h1 h2 h3=>by
     by_cases he:e=d
     ·subst he;exact h0
     ·exact hl e h1 (by omega) h3)
  ·rw [IU (by omega) hl]
   simp only [show ¬ (((d * d:Nat):Int)≤(p:Int)) by omega,if_false]
   exact Ev.now _
theorem agI (p:Nat) (hp:p≤10007):∀ (m d:Nat),p+1 - d=m→2≤d→d≤p+1→(∀ e,2≤e→e < d→e * e≤p→p % e ≠ 0)→Ev (fun k=>pX.l0 k p d) (i_ p):=by
 intro m
 induction m with
 | zero =>
  intro d hm hd MN hl
  have hdd:p < d * d:=by
   obtain rfl:d=p+1:=by omega
   have:(p+1) * 1≤(p+1) * (p+1):=Nat.mul_le_mul_left _ (by omega)
   omega
  have hs:d * d≤10008 * 10008:=Nat.mul_le_mul (by omega) (by omega)
  refine Ev.step (fun q=>by simp only [pX.l0];rfl) ?_
  rw [IU hdd hl]
  simp only [show ((d:Int) * (d:Int))=((d * d:Nat):Int) by simp,dF (show -9223372036854775808≤((d * d:Nat):Int) by omega) (by omega),show ¬ (((d * d:Nat):Int)≤(p:Int)) by omega,if_false]
  exact Ev.now _
 | succ m ih =>
  intro d hm hd MN hl
  have hs:d * d≤10008 * 10008:=Nat.mul_le_mul (by omega) (by omega)
  refine Ev.step (fun q=>by simp only [pX.l0];rfl) ?_
  simp only [show ((d:Int) * (d:Int))=((d * d:Nat):Int) by simp,dF (show -9223372036854775808≤((d * d:Nat):Int) by omega) (by omega)]
  by_cases h:d * d≤p
  ·simp only [show (((d * d : Nat) : Int) ≤ (p : Int)) by omega, if_true, show ¬ ((d : Int) = 0) by omega, if_false, WY]
   by_cases h0:p % d=0
   ·simp only [h0, show (((0 : Nat) : Int) = 0) by rfl, if_true, Wq hd h h0]
    exact Ev.now _
   ·simp only [show ¬ (((p % d : Nat) : Int) = 0) by omega, if_false, wI ((d : Int) + 1) (by omega)]
    exact ih (d+1) (by omega) (by omega) (by omega) (fun e h1 h2 h3=>by
     by_cases he:e=d
     ·subst he;exact h0
     ·exact hl e h1 (by omega) h3)
  ·rw [IU (by omega) hl]
   simp only [show ¬ (((d * d:Nat):Int)≤(p:Int)) by omega,if_false]
   exact Ev.now _
/-- Is p a prime of 2..hi. -/
def pE (hi p:Int):Bool:=decide (2≤p) && decide (p≤hi) && i_ p.toNat
theorem agX (p:Int):Ev (fun k=>arW.f k p) (pE 101 p):=by
 unfold arW.f pE
 simp only [CA,Option.bind_some]
 by_cases h:(decide (2≤p) && decide (p≤101))=true
 ·simp only [h, if_true, Bool.true_and]
  simp only [Bool.and_eq_true,decide_eq_true_eq] at h
  obtain ⟨q,rfl⟩:∃ q:Nat,p=q:=⟨p.toNat,by omega⟩
  rw [Int.toNat_natCast]
  exact agY q (by omega) (q - 1) 2 (by omega) (by omega) (by omega) (fun e h1 h2 _=>by omega)
 ·simp only [Bool.not_eq_true] at h
  simp only [h,Bool.false_eq_true,if_false,Bool.false_and]
  exact Ev.now _
theorem agH (p:Int):Ev (fun k=>pX.f k p) (pE 10007 p):=by
 unfold pX.f pE
 simp only [Jj,Option.bind_some]
 by_cases h:(decide (2≤p) && decide (p≤10007))=true
 ·simp only [h, if_true, Bool.true_and]
  simp only [Bool.and_eq_true,decide_eq_true_eq] at h
  obtain ⟨q,rfl⟩:∃ q:Nat,p=q:=⟨p.toNat,by omega⟩
  rw [Int.toNat_natCast]
  exact agI q (by omega) (q - 1) 2 (by omega) (by omega) (by omega) (fun e h1 h2 _=>by omega)
 ·simp only [Bool.not_eq_true] at h
  simp only [h,Bool.false_eq_true,if_false,Bool.false_and]
  exact Ev.now _
theorem agJ (p:Int):Ev (fun k=>zA.f k p) (pE 101 p):=by
 unfold zA.f
 by_cases h:p≤101
 ·simp only [h, if_true]
  refine Ev.bind (agH p) ?_
  have:pE 10007 p=pE 101 p:=by
   unfold pE;simp [h,show p≤10007 by omega]
  rw [this]
  exact Ev.now _
 ·simp only [h, if_false]
  have:pE 101 p=false:=by unfold pE;simp [h]
  rw [this]
  exact Ev.now _
theorem rJ {hi p:Int} (h:pE hi p=true):∃ q:Nat,p=q∧2≤q∧(q:Int)≤hi∧i_ q=true:=by
 unfold pE at h
 simp only [Bool.and_eq_true,decide_eq_true_eq] at h
 exact ⟨p.toNat,by omega,by omega,by omega,h.2⟩
theorem ahZ {p:Nat} (h:i_ p=true) (d:Nat) (h2:2≤d) (hd:d < p):p % d ≠ 0:=by
 unfold i_ at h
 rw [decide_eq_true_iff] at h
 intro h0
 obtain ⟨e,he⟩:=Nat.dvd_of_mod_eq_zero h0
 by_cases hs:d * d≤p
 ·exact h d hd h2 hs h0
 ·have hed:e < d:=by
   apply Classical.byContradiction
   intro hc
   have:d * d≤d * e:=Nat.mul_le_mul_left d (by omega)
   omega
  have he2:2≤e:=by
   apply Classical.byContradiction
   intro hc
   have:e=0∨e=1:=by omega
   rcases this with rfl|rfl
   ·omega
   ·omega
  have hee:e * e≤p:=by
   have:e * e≤d * e:=Nat.mul_le_mul_right e (by omega)
   omega
  exact h e (by omega) he2 hee (by rw [he,Nat.mul_mod_left])
/-- Numbers modulo a prime have inverses. -/
theorem atx {p:Nat} (hp:i_ p=true) (cW:2≤p) (x:Nat):0 < x→x < p→∃ k:Int,(p:Int) ∣ k * x - 1:=by
 induction x using Nat.strongRecOn with
 | _ x ih =>
  intro h0 hx
  by_cases h1:x=1
  ·subst h1;exact ⟨1,0,by omega⟩
  ·have hr := ahZ hp x (by omega) hx
   have hrx:p % x < x:=Nat.mod_lt _ h0
   obtain ⟨k,c,hk⟩:=ih (p % x) hrx (by omega) (by omega)
   have hd:(p:Int)=x * ((p / x:Nat):Int)+((p % x:Nat):Int):=by
    have:=Nat.div_add_mod p x
    exact_mod_cast this.symm
   refine ⟨-(k * ((p / x:Nat):Int)),c - k,?_⟩
   generalize ((p / x:Nat):Int)=q at hd
   generalize ((p % x:Nat):Int)=r at hd hk
   grind
theorem VL {p:Nat} (hp:i_ p=true) (cW:2≤p) {x:Int} (h0:0 < x) (hx:x < p):∃ k:Nat,1≤k∧k < p∧((k:Int) * x) % p=1:=by
 obtain ⟨y,rfl⟩:∃ y:Nat,x=y:=⟨x.toNat,by omega⟩
 obtain ⟨k,c,hk⟩:=atx hp cW y (by omega) (by omega)
 have hn:=Int.emod_nonneg k (show (p:Int) ≠ 0 by omega)
 have hl:=Int.emod_lt_of_pos k (show (0:Int) < p by omega)
 have hm:(k % p * (y:Int)) % p=1:=by
  have:k * (y:Int)=1+p * c:=by omega
  rw [Int.mul_emod,Int.emod_emod,← Int.mul_emod,this,Int.add_mul_emod_self_left]
  exact Int.emod_eq_of_lt (by omega) (by omega)
 refine ⟨(k % p).toNat,?_,by omega,?_⟩
 ·have:k % (p:Int) ≠ 0:=by
   intro h
   rw [h] at hm
   simp at hm
  omega
 ·rw [Int.toNat_of_nonneg hn];exact hm
theorem agW (p:Nat) (cW:2≤p) (Vn:p≤10007) (x:Int) (h0:0 < x) (hx:x < p) (K:Nat) (hK:K < p) (hKx:((K:Int) * x) % p=1):∀ (m k:Nat),K - k=m→1≤k→k≤K→∃ v:Int,Ev (fun q=>pN.l0 q p x k) v∧1≤v∧v < p∧(x * v) % p=1:=by
 intro m
 induction m with
 | zero =>
  intro k hm h1 hk
  obtain rfl:k=K:=by omega
  refine ⟨k,Ev.step (fun q=>by simp only [pN.l0];rfl) ?_,by omega,by omega,by rw [Int.mul_comm];exact hKx⟩
  have hb:(k:Int) * x≤p * p:=Int.mul_le_mul (by omega) (by omega) (by omega) (by omega)
  have hpp:(p:Int) * p≤10007 * 10007:=Int.mul_le_mul (by omega) (by omega) (by omega) (by omega)
  have hb0:0≤(k:Int) * x:=Int.mul_nonneg (by omega) (by omega)
  simp only [lI k p (by omega),if_true,CB (show (0:Int) < p by omega) (by omega),Int.emod_eq_of_lt (show 0≤x by omega) hx,Option.bind_some,show ¬ ((p:Int)=0) by omega,if_false,wI ((k:Int) * x) (by omega),oA hb0,hKx]
  exact Ev.now _
 | succ m ih =>
  intro k hm h1 hk
  have hb:(k:Int) * x≤p * p:=Int.mul_le_mul (by omega) (by omega) (by omega) (by omega)
  have hpp:(p:Int) * p≤10007 * 10007:=Int.mul_le_mul (by omega) (by omega) (by omega) (by omega)
  have hb0:0≤(k:Int) * x:=Int.mul_nonneg (by omega) (by omega)
  by_cases MW:((k:Int) * x) % p=1
  ·refine ⟨k, Ev.step (fun q => by simp only [pN.l0]; rfl) ?_, by omega, by omega, by rw [Int.mul_comm]; exact MW⟩
   simp only [lI k p (by omega),if_true,CB (show (0:Int) < p by omega) (by omega),Int.emod_eq_of_lt (show 0≤x by omega) hx,Option.bind_some,show ¬ ((p:Int)=0) by omega,if_false,wI ((k:Int) * x) (by omega),oA hb0,MW]
   exact Ev.now _
  ·obtain ⟨v, hv, g⟩ := ih (k + 1) (by omega) (by omega) (by omega)
   refine ⟨v,Ev.step (fun q=>by simp only [pN.l0];rfl) ?_,g⟩
   simp only [lI k p (by omega),if_true,CB (show (0:Int) < p by omega) (by omega),Int.emod_eq_of_lt (show 0≤x by omega) hx,Option.bind_some,show ¬ ((p:Int)=0) by omega,if_false,wI ((k:Int) * x) (by omega),oA hb0,MW,wI ((k:Int)+1) (by omega)]
   exact hv
theorem agV {p:Nat} (hp:i_ p=true) (cW:2≤p) (Vn:p≤10007) {x:Int} (h0:0 < x) (hx:x < p):∃ v:Int,Ev (fun q=>pN.f q p x) v∧1≤v∧v < p∧(x * v) % p=1:=by
 obtain ⟨K,h1,h2,h3⟩:=VL hp cW h0 hx
 exact agW p cW Vn x h0 hx K h2 h3 (K - 1) 1 (by omega) (by omega) (by omega)
/-- n rows of m numbers, by their places. -/
def cM (n m:Nat) (f:Nat→Nat→Int):List (List Int):=(List.range n).map fun i=>b_ m (f i)
theorem arj (n m:Nat) (f:Nat→Nat→Int):(cM n m f).length=n:=by simp [cM]
theorem nM {n m:Nat} {f:Nat→Nat→Int} {u:Nat} (h:u < n):ah (cM n m f) (u:Int)=b_ m (f u):=by
 rw [tJ _ _ (by rw [arj];exact h)]
 simp [cM]
theorem pG {n m:Nat} {f h:Nat→Nat→Int} (e:∀ i j,i < n→j < m→f i j=h i j):cM n m f=cM n m h:=by
 unfold cM
 apply List.map_congr_left
 intro i hi
 exact vt fun j hj=>e i j (List.mem_range.mp hi) hj
theorem CU {n m:Nat} (f:Nat→Nat→Int) (u:Nat) (g:Nat→Int):(cM n m f).set u (b_ m g)=cM n m (fun i j=>if i=u then g j else f i j):=by
 apply List.ext_getElem
 ·rw [List.length_set,arj,arj]
 intro i h1 h2
 rw [List.getElem_set]
 simp only [cM,List.getElem_map,List.getElem_range]
 by_cases h:u=i
 ·subst h;simp
 ·rw [if_neg h];exact vt fun j _=>by rw [if_neg (fun e=>h e.symm)]
theorem Jd (n m:Nat) (f:Nat→Nat→Int):cM n m f ++ [b_ m (f n)]=cM (n+1) m f:=by
 unfold cM;rw [List.range_succ,List.map_append];rfl
theorem W9 (n m:Nat) (g:Nat→Int):(b_ (n+m) g).drop n=b_ m (fun j=>g (n+j)):=by
 apply List.ext_getElem
 ·rw [List.length_drop,d_,d_];omega
 intro i h1 h2
 rw [List.getElem_drop]
 simp only [b_,List.getElem_map,List.getElem_range]
theorem Ou (n m:Nat) (f:Nat→Nat→Int) (i j:Nat) (hi:i < n) (hj:j < n):swp (cM n m f) i j=cM n m (fun r=>f (nJ i j r)):=by
 have hg:∀ u,u < n→(cM n m f).getD u []=b_ m (f u):=fun u hu=>by
  rw [List.getD_eq_getElem?_getD,List.getElem?_eq_getElem (by rw [arj];exact hu)]
  simp [cM]
 unfold swp
 rw [Int.toNat_natCast,Int.toNat_natCast,hg i hi,hg j hj,CU,CU]
 refine pG fun r c _ _=>?_
 unfold nJ
 by_cases h1:r=j
 ·subst h1
  by_cases h2:r=i
  ·subst h2;simp
  ·simp [h2]
 ·by_cases h2 : r = i
  ·subst h2;simp [h1]
  ·simp [h1,h2]
end Go.Proofs.Ytapnggjaeehpdaa.A
/- Set with little white space, by a program. -/
