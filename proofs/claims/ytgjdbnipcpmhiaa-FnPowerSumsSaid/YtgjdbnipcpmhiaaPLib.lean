/- Plain lemmas on the Lean functions that FnPowerSums reaches, the first half. No condition. -/
import Derived.Test.YtgjdbnipcpmhiaaPx
namespace Go.Proofs.Ytgjdbnipcpmhiaa.P
open Go.RowKit Go.Proofs.YtgjdbnipcpmhiaaW.PrintWords Go.Proofs.YtgjdbnipcpmhiaaW.PrintLast Go.Proofs.YtgjdbnipcpmhiaaW.PrintMore
set_option linter.unusedVariables false
set_option linter.unusedSimpArgs false
theorem wI (n:Int) (h:-9223372036854775808≤n∧n≤9223372036854775807):wrap64 n=n:=IntWalk.wrap64_in n h
theorem zI' (n:Nat):(0:Int)≤(n:Int):=Int.natCast_nonneg n
theorem lI (a b:Nat) (h:a < b):(a:Int) < (b:Int):=Int.ofNat_lt.2 h
theorem F44.mono_l : ∀ k, (∀ y0 y1 y2, LeO (F44.j0 k y0 y1 y2) (F44.j0 (k + 1) y0 y1 y2)) ∧ (∀ y0 y1 y2, LeO (F44.l0 k y0 y1 y2) (F44.l0 (k + 1) y0 y1 y2))
 | 0=>⟨fun _ _ _ r h=>by simp [F44.j0] at h,fun _ _ _ r h=>by simp [F44.l0] at h⟩
 | k+1=>by
  obtain ⟨ih0,ih1⟩:=F44.mono_l k
  refine ⟨?_, ?_⟩ <;> intros <;> (first | unfold F44.j0 | unfold F44.l0) <;> repeat' first
   | (with_reducible first|exact ih0 _ _ _|exact ih1 _ _ _|exact LeO.refl _|exact LeO.none _|refine LeO.ite ?_ ?_|refine LeO.bind ?_ (fun _=>?_))
   | exact ih0 _ _ _|exact ih1 _ _ _|exact LeO.none _|refine LeO.ite ?_ ?_|refine LeO.bind ?_ (fun _=>?_)
theorem F44.mono:∀ a0 a1 k,LeO (F44.f k a0 a1) (F44.f (k+1) a0 a1):=by
 intro a0 a1 k
 obtain ⟨ih0,ih1⟩:=F44.mono_l k
 unfold F44.f
 repeat' first
  | (with_reducible first|exact ih0 _ _ _|exact ih1 _ _ _|exact LeO.refl _|exact LeO.none _|refine LeO.ite ?_ ?_|refine LeO.bind ?_ (fun _=>?_))
theorem F122.mono_l : ∀ k, (∀ y0 y1 y2 y3 y4, LeO (F122.l0 k y0 y1 y2 y3 y4) (F122.l0 (k + 1) y0 y1 y2 y3 y4))
 | 0=>fun _ _ _ _ _ r h=>by simp [F122.l0] at h
 | k+1=>by
  have ih0:=F122.mono_l k
  ·intro y0 y1 y2 y3 y4
   unfold F122.l0
   repeat' first
    | (with_reducible first|exact ih0 _ _ _ _ _|exact LeO.refl _|exact LeO.none _|refine LeO.ite ?_ ?_|refine LeO.bind ?_ (fun _=>?_))
theorem F122.mono:∀ a0 a1 k,LeO (F122.f k a0 a1) (F122.f (k+1) a0 a1):=by
 intro a0 a1 k
 have ih0:=F122.mono_l k
 unfold F122.f
 repeat' first
  | (with_reducible first|exact ih0 _ _ _ _ _|exact LeO.refl _|exact LeO.none _|refine LeO.ite ?_ ?_|refine LeO.bind ?_ (fun _=>?_))
theorem F123.mono_l : ∀ k, (∀ y0 y1, LeO (F123.j0 k y0 y1) (F123.j0 (k + 1) y0 y1)) ∧ (∀ y0 y1 y2, LeO (F123.l0 k y0 y1 y2) (F123.l0 (k + 1) y0 y1 y2))
 | 0=>⟨fun _ _ r h=>by simp [F123.j0] at h,fun _ _ _ r h=>by simp [F123.l0] at h⟩
 | k+1=>by
  obtain ⟨ih0,ih1⟩:=F123.mono_l k
  refine ⟨?_, ?_⟩ <;> intros <;> (first | unfold F123.j0 | unfold F123.l0) <;> repeat' first
   | (with_reducible first|exact ih0 _ _|exact ih1 _ _ _|exact LeO.refl _|exact LeO.none _|refine LeO.ite ?_ ?_|refine LeO.bind ?_ (fun _=>?_))
   | exact ih0 _ _|exact ih1 _ _ _|exact LeO.none _|refine LeO.ite ?_ ?_|refine LeO.bind ?_ (fun _=>?_)
theorem F123.mono:∀ a0 k,LeO (F123.f k a0) (F123.f (k+1) a0):=by
 intro a0 k
 obtain ⟨ih0,ih1⟩:=F123.mono_l k
 unfold F123.f
 repeat' first
  | (with_reducible first|exact ih0 _ _|exact ih1 _ _ _|exact LeO.refl _|exact LeO.none _|refine LeO.ite ?_ ?_|refine LeO.bind ?_ (fun _=>?_))
theorem F120.mono_l : ∀ k, (∀ y0 y1 y2, LeO (F120.j0 k y0 y1 y2) (F120.j0 (k + 1) y0 y1 y2)) ∧ (∀ y0 y1 y2 y3, LeO (F120.l0 k y0 y1 y2 y3) (F120.l0 (k + 1) y0 y1 y2 y3))
 | 0=>⟨fun _ _ _ r h=>by simp [F120.j0] at h,fun _ _ _ _ r h=>by simp [F120.l0] at h⟩
 | k+1=>by
  obtain ⟨ih0,ih1⟩:=F120.mono_l k
  refine ⟨?_, ?_⟩ <;> intros <;> (first | unfold F120.j0 | unfold F120.l0) <;> repeat' first
   | (with_reducible first|exact ih0 _ _ _|exact ih1 _ _ _ _|exact F44.mono _ _ _|exact F123.mono _ _|exact F122.mono _ _ _|exact LeO.refl _|exact LeO.none _|refine LeO.ite ?_ ?_|refine LeO.bind ?_ (fun _=>?_))
   | exact ih0 _ _ _|exact ih1 _ _ _ _|exact F44.mono _ _ _|exact F123.mono _ _|exact F122.mono _ _ _|exact LeO.none _|refine LeO.ite ?_ ?_|refine LeO.bind ?_ (fun _=>?_)
theorem F120.mono:∀ a0 k,LeO (F120.f k a0) (F120.f (k+1) a0):=by
 intro a0 k
 obtain ⟨ih0,ih1⟩:=F120.mono_l k
 unfold F120.f
 repeat' first
  | (with_reducible first|exact ih0 _ _ _|exact ih1 _ _ _ _|exact F44.mono _ _ _|exact F123.mono _ _|exact F122.mono _ _ _|exact LeO.refl _|exact LeO.none _|refine LeO.ite ?_ ?_|refine LeO.bind ?_ (fun _=>?_))
theorem F116.mono:∀ a0 k,LeO (F116.f k a0) (F116.f (k+1) a0):=by
 intro a0 k
 unfold F116.f
 repeat' first
  | (with_reducible first|exact F120.mono _ _|exact LeO.refl _|exact LeO.none _|refine LeO.ite ?_ ?_|refine LeO.bind ?_ (fun _=>?_))
theorem F86.mono_l : ∀ k, (∀ y0 y1 y2, LeO (F86.l0 k y0 y1 y2) (F86.l0 (k + 1) y0 y1 y2))
 | 0=>fun _ _ _ r h=>by simp [F86.l0] at h
 | k+1=>by
  have ih0:=F86.mono_l k
  ·intro y0 y1 y2
   unfold F86.l0
   repeat' first
    | (with_reducible first|exact ih0 _ _ _|exact LeO.refl _|exact LeO.none _|refine LeO.ite ?_ ?_|refine LeO.bind ?_ (fun _=>?_))
theorem F86.mono:∀ a0 k,LeO (F86.f k a0) (F86.f (k+1) a0):=by
 intro a0 k
 have ih0:=F86.mono_l k
 unfold F86.f
 repeat' first
  | (with_reducible first|exact ih0 _ _ _|exact LeO.refl _|exact LeO.none _|refine LeO.ite ?_ ?_|refine LeO.bind ?_ (fun _=>?_))
theorem F91.mono_l : ∀ k, (∀ y0 y1 y2, LeO (F91.l0 k y0 y1 y2) (F91.l0 (k + 1) y0 y1 y2))
 | 0=>fun _ _ _ r h=>by simp [F91.l0] at h
 | k+1=>by
  have ih0:=F91.mono_l k
  ·intro y0 y1 y2
   unfold F91.l0
   repeat' first
    | (with_reducible first|exact ih0 _ _ _|exact LeO.refl _|exact LeO.none _|refine LeO.ite ?_ ?_|refine LeO.bind ?_ (fun _=>?_))
theorem F91.mono:∀ a0 k,LeO (F91.f k a0) (F91.f (k+1) a0):=by
 intro a0 k
 have ih0:=F91.mono_l k
 unfold F91.f
 repeat' first
  | (with_reducible first|exact ih0 _ _ _|exact LeO.refl _|exact LeO.none _|refine LeO.ite ?_ ?_|refine LeO.bind ?_ (fun _=>?_))
theorem w64 {n:Int} (h0:-9223372036854775808≤n) (h1:n≤9223372036854775807):wrap64 n=n:=IntWalk.wrap64_in n ⟨h0,h1⟩
theorem rd_nat (l:List Int) (i:Nat) (h:i < l.length):rd l (i:Int)=l[i]:=by
 simp [rd,List.getD_eq_getElem?_getD,h]
theorem rdL1_nat (l:List (List Int)) (i:Nat) (h:i < l.length):rd_L1 l (i:Int)=l[i]:=by
 simp [rd_L1,List.getD_eq_getElem?_getD,h]
/-! ### what a graph is -/
def endIn (a n:Int):Bool:=decide (0≤n) && decide (n≤wrap64 (a - 1))
def edgeIn (a:Int) (e:List Int):Bool:=decide (e.length=2) && (endIn a (rd e 0) && endIn a (rd e 1))
def isG (a:Int) (l:List (List Int)):Bool:=decide (1≤a) && (decide (a≤8) && (decide (l.length≤10) && l.all (edgeIn a)))
theorem within_eq (a b c:Int):F70.f a b c=some (decide (b≤a) && decide (a≤c)):=by
 unfold F70.f
 by_cases h:b≤a<;>simp [h]
theorem l01In_eq (a b c:Int):F74.f a b c=some (decide (b≤a) && decide (a≤c)):=by
 unfold F74.f
 by_cases h:b≤a<;>simp [h]
theorem impl_IsGraph_l0 (a:Int) (l:List (List Int)) (hl:l.length≤maxLen):∀ (d i:Nat),l.length - i=d→i≤l.length→Ev (fun k=>F49.l0 k l l.length i a l) ((l.drop i).all (edgeIn a) && (decide (1≤a) && (decide (a≤8) && decide (l.length≤10)))):=by
 unfold maxLen at hl
 intro d
 induction d with
 | zero =>
  intro i hd hi
  refine Ev.step (fun k=>by simp only [F49.l0];rfl) ?_
  simp only [show ¬ ((i:Int) < (l.length:Int)) by omega,if_false,within_eq,Option.bind_some,List.drop_of_length_le (show l.length≤i by omega),List.all_nil,Bool.true_and]
  by_cases h1:1≤a
  ·by_cases h2 : a ≤ 8
   ·simp only [h1, h2, decide_true, Bool.true_and, if_true]
    exact Ev.congr (fun k=>by congr 1;simp;omega) (Ev.now _)
   ·simp only [h1, h2, decide_true, decide_false, Bool.true_and, Bool.false_and, Bool.false_eq_true, if_false]
    exact Ev.now _
  ·simp only [h1, decide_false, Bool.false_and, Bool.false_eq_true, if_false]
   exact Ev.now _
 | succ d ih =>
  intro i hd hi
  have hil:i < l.length:=by omega
  refine Ev.step (fun k=>by simp only [F49.l0];rfl) ?_
  have hdrop:(l.drop i).all (edgeIn a)=(edgeIn a l[i] && (l.drop (i+1)).all (edgeIn a)):=by rw [List.drop_eq_getElem_cons hil,List.all_cons]
  rw [hdrop]
  simp only [show ((i:Int) < (l.length:Int)) by omega,zI' i,if_true,wI ((i:Int)+1) (by omega),rdL1_nat l i hil,within_eq,Option.bind_some]
  unfold edgeIn endIn
  by_cases h2:l[i].length=2
  ·simp only [h2, decide_true, Bool.true_and, show ((2 : Nat) : Int) = 2 from rfl, if_true, show (0 : Int) < 2 by omega, show (1 : Int) < 2 by omega]
   by_cases h3:(decide (0≤rd l[i] 0) && decide (rd l[i] 0≤wrap64 (a - 1)))=true
   ·by_cases h4 : (decide (0 ≤ rd l[i] 1) && decide (rd l[i] 1 ≤ wrap64 (a - 1))) = true
    ·simp only [h3, h4, if_true, Bool.true_and]
     exact ih (i+1) (by omega) (by omega)
    ·simp only [Bool.not_eq_true] at h4
     simp only [h3,h4,if_true,Bool.false_and,Bool.and_false,Bool.false_eq_true,if_false]
     exact Ev.now _
   ·simp only [Bool.not_eq_true] at h3
    simp only [h3,Bool.false_and,Bool.false_eq_true,if_false]
    exact Ev.now _
  ·simp only [show ¬ ((l[i].length : Int) = 2) by omega, h2, decide_false, Bool.false_and, if_false]
   exact Ev.now _
theorem impl_IsGraph_ev (a:Int) (l:List (List Int)) (hl:l.length≤maxLen):Ev (fun k=>F49.f k a l) (isG a l):=by
 unfold F49.f
 have h:=impl_IsGraph_l0 a l hl l.length 0 (by omega) (by omega)
 have e:((l.drop 0).all (edgeIn a) && (decide (1≤a) && (decide (a≤8) && decide (l.length≤10))))=isG a l:=by
  unfold isG
  rw [List.drop_zero]
  cases l.all (edgeIn a)<;>simp
 rw [e] at h
 exact h
def la_sm : Nat → (Nat → Int) → Int
 | 0,_=>0
 | n+1,f=>la_sm n f+f n
theorem la_sm_congr {n:Nat} {f g:Nat→Int} (h:∀ i,i < n→f i=g i):la_sm n f=la_sm n g:=by
 induction n with
 | zero=>rfl
 | succ n ih=>simp only [la_sm];rw [ih (fun i hi=>h i (by omega)),h n (by omega)]
theorem la_sm_zero {n:Nat} {f:Nat→Int} (h:∀ i,i < n→f i=0):la_sm n f=0:=by
 induction n with
 | zero=>rfl
 | succ n ih=>simp only [la_sm];rw [ih (fun i hi=>h i (by omega)),h n (by omega)];rfl
theorem la_sm_add (n:Nat) (f g:Nat→Int):la_sm n (fun i=>f i+g i)=la_sm n f+la_sm n g:=by
 induction n with
 | zero=>rfl
 | succ n ih=>simp only [la_sm];rw [ih];omega
theorem la_sm_mul (n:Nat) (x:Int) (f:Nat→Int):la_sm n (fun i=>x * f i)=x * la_sm n f:=by
 induction n with
 | zero=>simp [la_sm]
 | succ n ih=>simp only [la_sm];rw [ih,Int.mul_add]
theorem la_sm_neg (n:Nat) (f:Nat→Int):la_sm n (fun i=>- f i)=- la_sm n f:=by
 induction n with
 | zero=>rfl
 | succ n ih=>simp only [la_sm];rw [ih];omega
theorem la_sm_sub (n:Nat) (f g:Nat→Int):la_sm n (fun i=>f i - g i)=la_sm n f - la_sm n g:=by
 induction n with
 | zero=>rfl
 | succ n ih=>simp only [la_sm];rw [ih];omega
theorem la_sm_single {n:Nat} {f:Nat→Int} (k:Nat) (hk:k < n) (h:∀ i,i < n→i ≠ k→f i=0):la_sm n f=f k:=by
 induction n with
 | zero=>omega
 | succ n ih =>
  simp only [la_sm]
  by_cases hkn:k=n
  ·subst hkn
   rw [la_sm_zero (fun i hi=>h i (by omega) (by omega))];omega
  ·rw [ih (by omega) (fun i hi hne=>h i (by omega) hne),h n (by omega) (by omega)];omega
theorem la_sm_two {n:Nat} {f:Nat→Int} (k l:Nat) (hk:k < n) (hl:l < n) (hkl:k ≠ l) (h:∀ i,i < n→i ≠ k→i ≠ l→f i=0):la_sm n f=f k+f l:=by
 have e:la_sm n f=la_sm n (fun i=>(if i=k then f k else 0)+(if i=l then f l else 0)):=by
  refine la_sm_congr (fun i hi=>?_)
  by_cases h1:i=k
  ·subst h1;simp [hkl]
  ·by_cases h2 : i = l
   ·subst h2;simp [h1]
   ·simp [h1,h2,h i hi h1 h2]
 rw [e,la_sm_add,la_sm_single k hk (fun i _ hne=>by simp [hne]),la_sm_single l hl (fun i _ hne=>by simp [hne])]
 simp
theorem la_sm_succ' (n:Nat) (f:Nat→Int):la_sm (n+1) f=f 0+la_sm n (fun i=>f (i+1)):=by
 induction n with
 | zero=>simp [la_sm]
 | succ n ih =>
  rw [show la_sm (n+1+1) f=la_sm (n+1) f+f (n+1) from rfl,ih]
  simp only [la_sm];omega
theorem la_sm_swap (n m:Nat) (f:Nat→Nat→Int):la_sm n (fun i=>la_sm m (fun j=>f i j))=la_sm m (fun j=>la_sm n (fun i=>f i j)):=by
 induction n with
 | zero=>simp only [la_sm];rw [la_sm_zero (fun _ _=>rfl)]
 | succ n ih=>simp only [la_sm];rw [ih,la_sm_add]
theorem la_sm_split (n m:Nat) (f:Nat→Int):la_sm (n+m) f=la_sm n f+la_sm m (fun i=>f (n+i)):=by
 induction m with
 | zero=>simp [la_sm]
 | succ m ih=>rw [← Nat.add_assoc];simp only [la_sm];rw [ih];omega
theorem la_sm_ext {n m:Nat} {f:Nat→Int} (h:n≤m) (hz:∀ i,n≤i→i < m→f i=0):la_sm m f=la_sm n f:=by
 obtain ⟨d,rfl⟩:=Nat.exists_eq_add_of_le h
 rw [la_sm_split,la_sm_zero (n:=d) (fun i hi=>hz _ (by omega) (by omega))];omega
def la_sk (i a:Nat):Nat:=if a < i then a else a+1
def la_sg (i:Nat):Int:=if i % 2=0 then 1 else -1
theorem la_sg_succ (i:Nat):la_sg (i+1)=- la_sg i:=by
 unfold la_sg;by_cases h:i % 2=0
 ·rw [if_pos h,if_neg (by omega)]
 ·rw [if_neg h,if_pos (by omega)];rfl
theorem la_sk_lt {i a n:Nat} (hi:i < n+1) (ha:a < n):la_sk i a < n+1:=by unfold la_sk;split<;>omega
def la_det : Nat → (Nat → Nat → Int) → Int
 | 0,_=>1
 | n+1,M=>la_sm (n+1) (fun i=>la_sg i * M i 0 * la_det n (fun a b=>M (la_sk i a) (b+1)))
theorem la_det_succ (n:Nat) (M:Nat→Nat→Int):la_det (n+1) M=la_sm (n+1) (fun i=>la_sg i * M i 0 * la_det n (fun a b=>M (la_sk i a) (b+1))):=rfl
theorem la_det_congr {n:Nat}:∀ {M N:Nat→Nat→Int},(∀ a b,a < n→b < n→M a b=N a b)→la_det n M=la_det n N:=by
 induction n with
 | zero=>intros;rfl
 | succ n ih =>
  intro M N h
  rw [la_det_succ,la_det_succ]
  refine la_sm_congr (fun i hi=>?_)
  rw [h i 0 hi (by omega),ih (fun a b ha hb=>h _ _ (la_sk_lt hi ha) (by omega))]
def la_rr (M:Nat→Nat→Int) (i:Nat) (r:Nat→Int):Nat→Nat→Int:=fun a b=>if a=i then r b else M a b
def la_rc (M:Nat→Nat→Int) (j:Nat) (c:Nat→Int):Nat→Nat→Int:=fun a b=>if b=j then c a else M a b
def la_un (i a:Nat):Nat:=if a < i then a else a - 1
theorem la_sk_eq_iff {i a k:Nat} (h:k ≠ i):la_sk i a=k↔a=la_un i k:=by unfold la_sk la_un;split<;>split<;>omega
theorem la_un_lt {i k n:Nat} (hi:i < n+1) (hk:k < n+1) (h:k ≠ i):la_un i k < n:=by unfold la_un;split<;>omega
theorem la_sk_ne (i a:Nat):la_sk i a ≠ i:=by unfold la_sk;split<;>omega
theorem la_minor_rr {M:Nat→Nat→Int} {i k:Nat} {r:Nat→Int} (h:k ≠ i):(fun a b=>la_rr M k r (la_sk i a) (b+1))=la_rr (fun a b=>M (la_sk i a) (b+1)) (la_un i k) (fun b=>r (b+1)):=by
 funext a b
 unfold la_rr
 by_cases e:la_sk i a=k
 ·rw [if_pos e,if_pos ((la_sk_eq_iff h).mp e)]
 ·rw [if_neg e,if_neg (fun h'=>e ((la_sk_eq_iff h).mpr h'))]
theorem la_minor_rr_self {M:Nat→Nat→Int} {k:Nat} {r:Nat→Int}:(fun a b=>la_rr M k r (la_sk k a) (b+1))=(fun a b=>M (la_sk k a) (b+1)):=by
 funext a b
 unfold la_rr
 rw [if_neg (la_sk_ne k a)]
theorem la_det_row_lin {n:Nat}:∀ (M:Nat→Nat→Int) (k:Nat),k < n→∀ (x y:Int) (r s:Nat→Int),la_det n (la_rr M k (fun b=>x * r b+y * s b))=x * la_det n (la_rr M k r)+y * la_det n (la_rr M k s):=by
 induction n with
 | zero=>intro M k hk;omega
 | succ n ih =>
  intro M k hk x y r s
  rw [la_det_succ,la_det_succ,la_det_succ,← la_sm_mul,← la_sm_mul,← la_sm_add]
  refine la_sm_congr (fun i hi=>?_)
  by_cases e:k=i
  ·subst e
   rw [la_minor_rr_self,la_minor_rr_self,la_minor_rr_self]
   simp only [la_rr,if_true]
   generalize la_det n _=D
   grind
  ·rw [la_minor_rr e, la_minor_rr e, la_minor_rr e, ih _ _ (la_un_lt hi hk e)]
   simp only [la_rr,if_neg (Ne.symm e)]
   generalize la_det n _=D
   generalize la_det n _=E
   grind
theorem la_det_row_smul {n:Nat} (M:Nat→Nat→Int) (k:Nat) (hk:k < n) (x:Int) (r:Nat→Int):la_det n (la_rr M k (fun b=>x * r b))=x * la_det n (la_rr M k r):=by
 have:=la_det_row_lin M k hk x 0 r r
 simpa using this
theorem la_det_row_add {n:Nat} (M:Nat→Nat→Int) (k:Nat) (hk:k < n) (r s:Nat→Int):la_det n (la_rr M k (fun b=>r b+s b))=la_det n (la_rr M k r)+la_det n (la_rr M k s):=by
 have:=la_det_row_lin M k hk 1 1 r s
 simpa using this
theorem la_rr_self (M:Nat→Nat→Int) (k:Nat):la_rr M k (M k)=M:=by
 funext a b;unfold la_rr;split
 ·case _ h=>rw [h]
 ·rfl
theorem la_rr_comm (M:Nat→Nat→Int) {k l:Nat} (h:k ≠ l) (r s:Nat→Int):la_rr (la_rr M k r) l s=la_rr (la_rr M l s) k r:=by
 funext a b;unfold la_rr;by_cases e:a=l
 ·subst e;simp [Ne.symm h]
 ·simp [e]
theorem la_det_row_zero {n:Nat} (M:Nat→Nat→Int) (k:Nat) (hk:k < n) (h:∀ b,b < n→M k b=0):la_det n M=0:=by
 have e:la_det n M=la_det n (la_rr M k (fun b=>0 * M k b)):=by
  refine la_det_congr (fun a b _ hb=>?_)
  unfold la_rr;split
  ·case _ h'=>rw [h',h b hb];simp
  ·rfl
 rw [e,la_det_row_smul _ _ hk];simp
theorem la_det_adj {n:Nat}:∀ (M:Nat→Nat→Int) (k:Nat),k+1 < n→(∀ b,b < n→M k b=M (k+1) b)→la_det n M=0:=by
 induction n with
 | zero=>intro M k hk;omega
 | succ n ih =>
  intro M k hk h
  rw [la_det_succ,la_sm_two k (k+1) (by omega) hk (by omega)]
  ·have e:la_det n (fun a b=>M (la_sk k a) (b+1))=la_det n (fun a b=>M (la_sk (k+1) a) (b+1)):=by
    refine la_det_congr (fun a b ha hb=>?_)
    by_cases h1:a=k
    ·subst h1
     have e1:la_sk a a=a+1:=by unfold la_sk;split<;>omega
     have e2:la_sk (a+1) a=a:=by unfold la_sk;split<;>omega
     rw [e1,e2,h _ (by omega)]
    ·have : la_sk k a = la_sk (k+1) a := by unfold la_sk; split <;> split <;> omega
     rw [this]
   rw [e,la_sg_succ,h 0 (by omega)]
   generalize la_det n _=D
   grind
  ·intro i hi h1 h2
   have:la_det n (fun a b=>M (la_sk i a) (b+1))=0:=by
    by_cases hik:i < k
    ·refine ih _ (k-1) (by omega) (fun b hb => ?_)
     have e1:la_sk i (k-1)=k:=by unfold la_sk;split<;>omega
     have e2:la_sk i (k-1+1)=k+1:=by unfold la_sk;split<;>omega
     simp only [e1,e2];exact h _ (by omega)
    ·refine ih _ k (by omega) (fun b hb => ?_)
     have e1:la_sk i k=k:=by unfold la_sk;split<;>omega
     have e2:la_sk i (k+1)=k+1:=by unfold la_sk;split<;>omega
     simp only [e1,e2];exact h _ (by omega)
   rw [this];simp
theorem la_det_adj_swap {n:Nat} (M:Nat→Nat→Int) (k:Nat) (hk:k+1 < n) (r s:Nat→Int):la_det n (la_rr (la_rr M k r) (k+1) s)=- la_det n (la_rr (la_rr M k s) (k+1) r):=by
 have h0:la_det n (la_rr (la_rr M k (fun b=>r b+s b)) (k+1) (fun b=>r b+s b))=0 :=
  la_det_adj _ k hk (fun b _=>by simp [la_rr])
 have hr:la_det n (la_rr (la_rr M k r) (k+1) r)=0:=la_det_adj _ k hk (fun b _=>by simp [la_rr])
 have hs:la_det n (la_rr (la_rr M k s) (k+1) s)=0:=la_det_adj _ k hk (fun b _=>by simp [la_rr])
 rw [la_det_row_add _ _ hk,la_rr_comm _ (show k ≠ k+1 by omega),la_rr_comm _ (show k ≠ k+1 by omega),la_det_row_add _ _ (by omega),la_det_row_add _ _ (by omega)] at h0
 rw [la_rr_comm _ (show k+1 ≠ k by omega),la_rr_comm _ (show k+1 ≠ k by omega),la_rr_comm _ (show k+1 ≠ k by omega),la_rr_comm _ (show k+1 ≠ k by omega),hr,hs] at h0
 omega
theorem la_det_alt {n:Nat}:∀ (d:Nat) (M:Nat→Nat→Int) (k:Nat),k+1+d < n→(∀ b,b < n→M k b=M (k+1+d) b)→la_det n M=0:=by
 intro d
 induction d with
 | zero=>intro M k hk h;exact la_det_adj M k hk h
 | succ d ih =>
  intro M k hk h
  have e:M=la_rr (la_rr M (k+1+d) (M (k+1+d))) (k+1+d+1) (M (k+1+d+1)):=by
   rw [la_rr_self,la_rr_self]
  rw [e,la_det_adj_swap _ _ (by omega)]
  rw [ih _ k (by omega) (fun b hb=>?_)]
  ·rfl
  ·simp only [la_rr]
   rw [if_neg (by omega),if_neg (by omega),if_neg (by omega),if_pos trivial]
   exact h b hb
theorem la_det_eq_rows {n:Nat} (M:Nat→Nat→Int) (k l:Nat) (hk:k < n) (hl:l < n) (hkl:k ≠ l) (h:∀ b,b < n→M k b=M l b):la_det n M=0:=by
 rcases Nat.lt_or_gt_of_ne hkl with h1|h1
 ·obtain ⟨d, rfl⟩ := Nat.exists_eq_add_of_lt h1
  exact la_det_alt d M k (by omega) (fun b hb=>by rw [h b hb];congr 1;omega)
 ·obtain ⟨d, rfl⟩ := Nat.exists_eq_add_of_lt h1
  exact la_det_alt d M l (by omega) (fun b hb=>by rw [← h b hb];congr 1;omega)
theorem la_det_row_addmul {n:Nat} (M:Nat→Nat→Int) (k l:Nat) (hk:k < n) (hl:l < n) (hkl:k ≠ l) (x:Int):la_det n (la_rr M k (fun b=>M k b+x * M l b))=la_det n M:=by
 have h1:=la_det_row_lin M k hk 1 x (M k) (M l)
 have h2:la_det n (la_rr M k (M l))=0:=la_det_eq_rows _ k l hk hl hkl (fun b _=>by simp [la_rr,Ne.symm hkl])
 rw [h2,la_rr_self] at h1
 simpa using h1
theorem la_det_swap {n:Nat} (M:Nat→Nat→Int) (k l:Nat) (hk:k < n) (hl:l < n) (hkl:k ≠ l):la_det n (la_rr (la_rr M k (M l)) l (M k))=- la_det n M:=by
 have h0:la_det n (la_rr (la_rr M k (fun b=>M k b+M l b)) l (fun b=>M k b+M l b))=0 :=
  la_det_eq_rows _ k l hk hl hkl (fun b _=>by simp [la_rr,hkl])
 have hr:la_det n (la_rr (la_rr M k (M k)) l (M k))=0:=la_det_eq_rows _ k l hk hl hkl (fun b _=>by simp [la_rr,hkl])
 have hs:la_det n (la_rr (la_rr M k (M l)) l (M l))=0:=la_det_eq_rows _ k l hk hl hkl (fun b _=>by simp [la_rr,hkl])
 rw [la_det_row_add _ _ hl,la_rr_comm _ hkl,la_rr_comm _ hkl,la_det_row_add _ _ hk,la_det_row_add _ _ hk] at h0
 rw [la_rr_comm _ (Ne.symm hkl),la_rr_comm _ (Ne.symm hkl),la_rr_comm _ (Ne.symm hkl),la_rr_comm _ (Ne.symm hkl),hr,hs,la_rr_self,la_rr_self] at h0
 omega
theorem la_minor_rc {M:Nat→Nat→Int} {i k:Nat} {c:Nat→Int}:(fun a b=>la_rc M (k+1) c (la_sk i a) (b+1))=la_rc (fun a b=>M (la_sk i a) (b+1)) k (fun a=>c (la_sk i a)):=by
 funext a b
 unfold la_rc
 by_cases e:b=k
 ·subst e;simp
 ·simp [e]
theorem la_minor_rc0 {M:Nat→Nat→Int} {i:Nat} {c:Nat→Int}:(fun a b=>la_rc M 0 c (la_sk i a) (b+1))=(fun a b=>M (la_sk i a) (b+1)):=by
 funext a b;unfold la_rc;simp
theorem la_det_col_lin {n:Nat}:∀ (M:Nat→Nat→Int) (k:Nat),k < n→∀ (x y:Int) (r s:Nat→Int),la_det n (la_rc M k (fun b=>x * r b+y * s b))=x * la_det n (la_rc M k r)+y * la_det n (la_rc M k s):=by
 induction n with
 | zero=>intro M k hk;omega
 | succ n ih =>
  intro M k hk x y r s
  rw [la_det_succ,la_det_succ,la_det_succ,← la_sm_mul,← la_sm_mul,← la_sm_add]
  refine la_sm_congr (fun i hi=>?_)
  cases k with
  | zero =>
   rw [la_minor_rc0,la_minor_rc0,la_minor_rc0]
   simp only [la_rc,if_true]
   generalize la_det n _=D
   grind
  | succ k =>
   rw [la_minor_rc,la_minor_rc,la_minor_rc,ih _ _ (by omega)]
   simp only [la_rc,if_neg (show ¬ 0=k+1 by omega)]
   generalize la_det n _=D
   generalize la_det n _=E
   grind
theorem la_det_col_smul {n:Nat} (M:Nat→Nat→Int) (k:Nat) (hk:k < n) (x:Int) (r:Nat→Int):la_det n (la_rc M k (fun b=>x * r b))=x * la_det n (la_rc M k r):=by
 have:=la_det_col_lin M k hk x 0 r r
 simpa using this
theorem la_det_col_zero {n:Nat} (M:Nat→Nat→Int) (k:Nat) (hk:k < n) (h:∀ a,a < n→M a k=0):la_det n M=0:=by
 have e:la_det n M=la_det n (la_rc M k (fun a=>0 * M a k)):=by
  refine la_det_congr (fun a b ha _=>?_)
  unfold la_rc;split
  ·case _ h'=>rw [h',h a ha];simp
  ·rfl
 rw [e,la_det_col_smul _ _ hk];simp
theorem la_det_last_row {n:Nat}:∀ (M:Nat→Nat→Int),(∀ b,b < n→M n b=0)→la_det (n+1) M=M n n * la_det n M:=by
 induction n with
 | zero=>intro M _;simp [la_det,la_sm,la_sg]
 | succ n ih =>
  intro M h
  rw [la_det_succ (n+1)]
  rw [show la_sm (n+1+1) (fun i=>la_sg i * M i 0 * la_det (n+1) (fun a b=>M (la_sk i a) (b+1)))=la_sm (n+1) (fun i=>la_sg i * M i 0 * la_det (n+1) (fun a b=>M (la_sk i a) (b+1)))+la_sg (n+1) * M (n+1) 0 * la_det (n+1) (fun a b=>M (la_sk (n+1) a) (b+1)) from rfl]
  rw [h 0 (by omega)]
  simp only [Int.mul_zero,Int.zero_mul,Int.add_zero]
  rw [la_det_succ n M,← la_sm_mul]
  refine la_sm_congr (fun i hi=>?_)
  have e:la_sk i n=n+1:=by unfold la_sk;split<;>omega
  rw [ih _ (fun b hb=>by rw [e];exact h _ (by omega))]
  rw [e]
  generalize la_det n _=D
  grind
theorem la_det_last_col {n:Nat}:∀ (M:Nat→Nat→Int),(∀ a,a < n→M a n=0)→la_det (n+1) M=M n n * la_det n M:=by
 induction n with
 | zero=>intro M _;simp [la_det,la_sm,la_sg]
 | succ n ih =>
  intro M h
  rw [la_det_succ (n+1)]
  rw [show la_sm (n+1+1) (fun i=>la_sg i * M i 0 * la_det (n+1) (fun a b=>M (la_sk i a) (b+1)))=la_sm (n+1) (fun i=>la_sg i * M i 0 * la_det (n+1) (fun a b=>M (la_sk i a) (b+1)))+la_sg (n+1) * M (n+1) 0 * la_det (n+1) (fun a b=>M (la_sk (n+1) a) (b+1)) from rfl]
  have z:la_det (n+1) (fun a b=>M (la_sk (n+1) a) (b+1))=0:=by
   refine la_det_col_zero _ n (by omega) (fun a ha=>?_)
   have e:la_sk (n+1) a=a:=by unfold la_sk;split<;>omega
   rw [e];exact h _ (by omega)
  rw [z]
  simp only [Int.mul_zero,Int.add_zero]
  rw [la_det_succ n M,← la_sm_mul]
  refine la_sm_congr (fun i hi=>?_)
  have e:la_sk i n=n+1:=by unfold la_sk;split<;>omega
  rw [ih _ (fun a ha=>by exact h _ (la_sk_lt hi (by omega)))]
  rw [e]
  generalize la_det n _=D
  grind
def la_ee (j b:Nat):Int:=if b=j then 1 else 0
theorem la_ee_self (j:Nat):la_ee j j=1:=by simp [la_ee]
theorem la_ee_ne {j b:Nat} (h:b ≠ j):la_ee j b=0:=by simp [la_ee,h]
theorem la_det_one (n:Nat):la_det n (fun a b=>la_ee a b)=1:=by
 induction n with
 | zero=>rfl
 | succ n ih=>rw [la_det_last_row _ (fun b hb=>la_ee_ne (by omega)),ih,la_ee_self];rfl
theorem la_sm_ee {n:Nat} (x:Nat→Int) (b:Nat) (hb:b < n):la_sm n (fun j=>x j * la_ee j b)=x b:=by
 rw [la_sm_single b hb (fun i _ hne=>by rw [la_ee_ne (Ne.symm hne)];simp),la_ee_self];simp
theorem la_sm_ee' {n:Nat} (x:Nat→Int) (b:Nat) (hb:b < n):la_sm n (fun j=>x j * la_ee b j)=x b:=by
 rw [la_sm_single b hb (fun i _ hne=>by rw [la_ee_ne hne];simp),la_ee_self];simp
theorem la_det_row_sum {n : Nat} (M : Nat → Nat → Int) (i : Nat) (hi : i < n) (m : Nat) (x : Nat → Int) (r : Nat → Nat → Int) :
  la_det n (la_rr M i (fun b=>la_sm m (fun j=>x j * r j b)))=la_sm m (fun j=>x j * la_det n (la_rr M i (r j))):=by
 induction m with
 | zero=>exact la_det_row_zero _ i hi (fun b _=>by simp [la_rr,la_sm])
 | succ m ih =>
  simp only [la_sm]
  have:=la_det_row_lin M i hi 1 (x m) (fun b=>la_sm m (fun j=>x j * r j b)) (r m)
  simp only [Int.one_mul] at this
  rw [this,ih]
theorem la_det_col_sum {n : Nat} (M : Nat → Nat → Int) (i : Nat) (hi : i < n) (m : Nat) (x : Nat → Int) (r : Nat → Nat → Int) :
  la_det n (la_rc M i (fun b=>la_sm m (fun j=>x j * r j b)))=la_sm m (fun j=>x j * la_det n (la_rc M i (r j))):=by
 induction m with
 | zero=>exact la_det_col_zero _ i hi (fun b _=>by simp [la_rc,la_sm])
 | succ m ih =>
  simp only [la_sm]
  have:=la_det_col_lin M i hi 1 (x m) (fun b=>la_sm m (fun j=>x j * r j b)) (r m)
  simp only [Int.one_mul] at this
  rw [this,ih]
def la_adj (n:Nat) (M:Nat→Nat→Int) (j i:Nat):Int:=la_det n (la_rr M i (la_ee j))
theorem la_adj_right {n:Nat} (M:Nat→Nat→Int) (k i:Nat) (hi:i < n) (hk:k < n):la_sm n (fun j=>M k j * la_adj n M j i)=if k=i then la_det n M else 0:=by
 unfold la_adj
 rw [← la_det_row_sum M i hi n (M k) (fun j=>la_ee j)]
 have e:la_det n (la_rr M i (fun b=>la_sm n (fun j=>M k j * la_ee j b)))=la_det n (la_rr M i (M k)):=by
  refine la_det_congr (fun a b _ hb=>?_)
  unfold la_rr;split
  ·exact la_sm_ee (M k) b hb
  ·rfl
 rw [e]
 by_cases h:k=i
 ·subst h;rw [la_rr_self,if_pos rfl]
 ·rw [if_neg h]
  exact la_det_eq_rows _ i k hi hk (Ne.symm h) (fun b _=>by simp [la_rr,h])
theorem la_det_border (r : Nat) (K : Nat → Nat → Int) :
  la_det (r+1) K=K r r * la_det r K - la_sm r (fun j=>la_sm r (fun i=>K r j * la_adj r K j i * K i r)):=by
 have hrow:la_det (r+1) K=la_sm (r+1) (fun j=>K r j * la_det (r+1) (la_rr K r (la_ee j))):=by
  rw [← la_det_row_sum K r (by omega) (r+1) (K r) (fun j=>la_ee j)]
  refine la_det_congr (fun a b _ hb=>?_)
  unfold la_rr;split
  ·case _ h=>exact (by rw [h]:K a b=K r b).trans (la_sm_ee (K r) b hb).symm
  ·rfl
 rw [hrow]
 rw [show la_sm (r+1) (fun j=>K r j * la_det (r+1) (la_rr K r (la_ee j)))=la_sm r (fun j=>K r j * la_det (r+1) (la_rr K r (la_ee j)))+K r r * la_det (r+1) (la_rr K r (la_ee r)) from rfl]
 have hlast:la_det (r+1) (la_rr K r (la_ee r))=la_det r K:=by
  rw [la_det_last_row _ (fun b hb=>by simp [la_rr,la_ee];omega)]
  have:la_rr K r (la_ee r) r r=1:=by simp [la_rr,la_ee]
  rw [this,Int.one_mul]
  exact la_det_congr (fun a b ha _=>by unfold la_rr;rw [if_neg (by omega)])
 have hj:∀ j,j < r→la_det (r+1) (la_rr K r (la_ee j))=- la_sm r (fun i=>la_adj r K j i * K i r):=by
  intro j hj
  have hcol:la_det (r+1) (la_rr K r (la_ee j))=la_sm r (fun i=>K i r * la_det (r+1) (la_rc (la_rr K r (la_ee j)) r (la_ee i))):=by
   rw [← la_det_col_sum (la_rr K r (la_ee j)) r (by omega) r (fun i=>K i r) (fun i=>la_ee i)]
   refine la_det_congr (fun a b ha _=>?_)
   unfold la_rc;split
   ·case _ h =>
    subst h
    by_cases h2:a=b
    ·subst h2
     refine Eq.trans ?_ (la_sm_zero (f:=fun i=>K i a * la_ee i a) (fun i hi=>by rw [la_ee_ne (show a ≠ i by omega)];simp)).symm
     simp [la_rr,la_ee];omega
    ·refine Eq.trans ?_ (la_sm_ee (fun i => K i b) a (by omega)).symm
     simp [la_rr,h2]
   ·rfl
  rw [hcol,← la_sm_neg]
  refine la_sm_congr (fun i hi=>?_)
  have hs:=la_det_swap (la_rc (la_rr K r (la_ee j)) r (la_ee i)) i r (n:=r+1) (by omega) (by omega) (by omega)
  have hx:la_det (r+1) (la_rr (la_rr (la_rc (la_rr K r (la_ee j)) r (la_ee i)) i (la_rc (la_rr K r (la_ee j)) r (la_ee i) r)) r (la_rc (la_rr K r (la_ee j)) r (la_ee i) i))=la_adj r K j i:=by
   rw [la_det_last_col]
   ·unfold la_adj
    have:la_rr (la_rr (la_rc (la_rr K r (la_ee j)) r (la_ee i)) i (la_rc (la_rr K r (la_ee j)) r (la_ee i) r)) r (la_rc (la_rr K r (la_ee j)) r (la_ee i) i) r r=1:=by
     simp [la_rr,la_rc,la_ee]
    rw [this,Int.one_mul]
    refine la_det_congr (fun a b ha hb=>?_)
    unfold la_rr la_rc
    have h1:a ≠ r:=by omega
    have h2:b ≠ r:=by omega
    by_cases h3:a=i
    ·subst h3;simp [h1,h2]
    ·simp [h1,h2,h3]
   ·intro a ha
    have h1:a ≠ r:=by omega
    unfold la_rr la_rc
    by_cases h3:a=i
    ·subst h3;simp [h1,la_ee];omega
    ·simp [h1,h3,la_ee]
  rw [hx] at hs
  have:la_det (r+1) (la_rc (la_rr K r (la_ee j)) r (la_ee i))=- la_adj r K j i:=by omega
  rw [this];grind
 rw [hlast]
 have e2:la_sm r (fun j=>K r j * la_det (r+1) (la_rr K r (la_ee j)))=- la_sm r (fun j=>la_sm r (fun i=>K r j * la_adj r K j i * K i r)):=by
  rw [← la_sm_neg]
  refine la_sm_congr (fun j hjr=>?_)
  rw [hj j hjr,Int.mul_neg,← la_sm_mul]
  congr 1
  exact la_sm_congr (fun i _=>by grind)
 rw [e2];omega
theorem la_sm_dvd {n:Nat} {f g:Nat→Int} {p:Int} (h:∀ i,i < n→p ∣ f i - g i):p ∣ la_sm n f - la_sm n g:=by
 rw [← la_sm_sub]
 induction n with
 | zero=>exact ⟨0,by simp [la_sm]⟩
 | succ n ih=>simp only [la_sm];exact Int.dvd_add (ih (fun i hi=>h i (by omega))) (h n (by omega))
theorem la_mul_dvd_sub {a b c d p:Int} (h1:p ∣ a - b) (h2:p ∣ c - d):p ∣ a * c - b * d:=by
 obtain ⟨x,hx⟩:=h1
 obtain ⟨y,hy⟩:=h2
 exact ⟨x * c+b * y,by grind⟩
def la_pv (n:Nat) (c:Nat→Int) (u:Int):Int:=la_sm (n+1) (fun k=>c k * u ^ k)
def la_up (c : Nat → Int) : Nat → Int
 | 0=>0
 | k+1=>c k
theorem la_pv_head (n:Nat) (c:Nat→Int) (u:Int):la_pv (n+1) c u=c 0+u * la_pv n (fun k=>c (k+1)) u:=by
 unfold la_pv
 rw [la_sm_succ',← la_sm_mul]
 congr 1
 ·simp
 ·exact la_sm_congr (fun i _=>by rw [Int.pow_succ];grind)
theorem la_pv_up (n:Nat) (c:Nat→Int) (u:Int):la_pv (n+1) (la_up c) u=u * la_pv n c u:=by
 rw [la_pv_head];show 0+u * la_pv n c u=_;omega
theorem la_pv_more {n m:Nat} (c:Nat→Int) (u:Int) (h:n≤m) (hz:∀ k,n < k→c k=0):la_pv m c u=la_pv n c u:=by
 unfold la_pv
 exact la_sm_ext (by omega) (fun i hi _=>by rw [hz i (by omega)];simp)
theorem la_pv_add (n:Nat) (c d:Nat→Int) (u:Int):la_pv n (fun k=>c k+d k) u=la_pv n c u+la_pv n d u:=by
 unfold la_pv;rw [← la_sm_add];exact la_sm_congr (fun i _=>by grind)
theorem la_pv_sub (n:Nat) (c d:Nat→Int) (u:Int):la_pv n (fun k=>c k - d k) u=la_pv n c u - la_pv n d u:=by
 unfold la_pv;rw [← la_sm_sub];exact la_sm_congr (fun i _=>by grind)
theorem la_pv_mul (n:Nat) (x:Int) (c:Nat→Int) (u:Int):la_pv n (fun k=>x * c k) u=x * la_pv n c u:=by
 unfold la_pv;rw [← la_sm_mul];exact la_sm_congr (fun i _=>by grind)
theorem la_pv_sm (n m:Nat) (x:Nat→Int) (c:Nat→Nat→Int) (u:Int):la_pv n (fun k=>la_sm m (fun i=>x i * c i k)) u=la_sm m (fun i=>x i * la_pv n (c i) u):=by
 induction m with
 | zero=>simp only [la_sm];unfold la_pv;exact la_sm_zero (fun _ _=>by simp)
 | succ m ih=>simp only [la_sm];rw [la_pv_add,ih,la_pv_mul]
theorem la_pv_zero {n:Nat}:∀ {c:Nat→Int},(∀ u:Int,1≤u→la_pv n c u=0)→∀ k,k≤n→c k=0:=by
 induction n with
 | zero =>
  intro c h k hk
  obtain rfl:k=0:=by omega
  have:=h 1 (by omega);simpa [la_pv,la_sm] using this
 | succ n ih =>
  intro c h k hk
  have h0:c 0=0:=by
   have h1:=h ((c 0).natAbs+1) (by omega)
   rw [la_pv_head] at h1
   have hd:((c 0).natAbs+1:Int) ∣ c 0:=⟨- la_pv n (fun k=>c (k+1)) ((c 0).natAbs+1),by rw [Int.mul_neg];omega⟩
   by_cases hc:c 0=0
   ·exact hc
   ·exfalso
    have:=Int.natAbs_dvd_natAbs.mpr hd
    have:=Nat.le_of_dvd (by omega) this
    omega
  cases k with
  | zero=>exact h0
  | succ k =>
   refine ih (c:=fun k=>c (k+1)) (fun u hu=>?_) k (by omega)
   have:=h u hu
   rw [la_pv_head,h0,Int.zero_add] at this
   rcases Int.mul_eq_zero.mp this with h'|h'
   ·omega
   ·exact h'
theorem la_pv_inj {n:Nat} {c d:Nat→Int} (h:∀ u:Int,1≤u→la_pv n c u=la_pv n d u) (k:Nat) (hk:k≤n):c k=d k:=by
 have:=la_pv_zero (c:=fun k=>c k - d k) (n:=n) (fun u hu=>by rw [la_pv_sub,h u hu];omega) k hk
 omega
def la_dc : Nat → (Nat → Nat → Int) → (Nat → Nat → Int) → Nat → Int
 | 0,_,_=>fun k=>if k=0 then 1 else 0
 | n+1,P,Q=>fun k=>la_sm (n+1) (fun i=>la_sg i * (P i 0 * la_dc n (fun a b=>P (la_sk i a) (b+1)) (fun a b=>Q (la_sk i a) (b+1)) k+Q i 0 * la_up (la_dc n (fun a b=>P (la_sk i a) (b+1)) (fun a b=>Q (la_sk i a) (b+1))) k))
theorem la_dc_succ (n:Nat) (P Q:Nat→Nat→Int) (k:Nat):la_dc (n+1) P Q k=la_sm (n+1) (fun i=>la_sg i * (P i 0 * la_dc n (fun a b=>P (la_sk i a) (b+1)) (fun a b=>Q (la_sk i a) (b+1)) k+Q i 0 * la_up (la_dc n (fun a b=>P (la_sk i a) (b+1)) (fun a b=>Q (la_sk i a) (b+1))) k)):=rfl
theorem la_dc_top {n:Nat}:∀ (P Q:Nat→Nat→Int) (k:Nat),n < k→la_dc n P Q k=0:=by
 induction n with
 | zero=>intro P Q k hk;simp [la_dc];omega
 | succ n ih =>
  intro P Q k hk
  rw [la_dc_succ]
  refine la_sm_zero (fun i hi=>?_)
  rw [ih _ _ k (by omega)]
  obtain ⟨l,rfl⟩:∃ l,k=l+1:=⟨k - 1,by omega⟩
  show la_sg i * (P i 0 * 0+Q i 0 * la_dc n _ _ l)=0
  rw [ih _ _ l (by omega)];simp
theorem la_det_pv {n:Nat}:∀ (P Q:Nat→Nat→Int) (u:Int),la_det n (fun a b=>P a b+u * Q a b)=la_pv n (la_dc n P Q) u:=by
 induction n with
 | zero=>intro P Q u;simp [la_det,la_pv,la_sm,la_dc]
 | succ n ih =>
  intro P Q u
  rw [la_det_succ]
  have e:la_pv (n+1) (la_dc (n+1) P Q) u=la_sm (n+1) (fun i=>la_sg i * la_pv (n+1) (fun k=>P i 0 * la_dc n (fun a b=>P (la_sk i a) (b+1)) (fun a b=>Q (la_sk i a) (b+1)) k+Q i 0 * la_up (la_dc n (fun a b=>P (la_sk i a) (b+1)) (fun a b=>Q (la_sk i a) (b+1))) k) u):=by
   rw [← la_pv_sm];rfl
  rw [e]
  refine la_sm_congr (fun i hi=>?_)
  rw [ih,la_pv_add,la_pv_mul,la_pv_mul,la_pv_up,la_pv_more _ _ (Nat.le_succ n) (fun k hk=>la_dc_top _ _ k hk)]
  grind
def la_pr : Nat → (Nat → Int) → Int
 | 0,_=>1
 | n+1,f=>la_pr n f * f n
theorem la_pr_congr {n:Nat} {f g:Nat→Int} (h:∀ i,i < n→f i=g i):la_pr n f=la_pr n g:=by
 induction n with
 | zero=>rfl
 | succ n ih=>simp only [la_pr];rw [ih (fun i hi=>h i (by omega)),h n (by omega)]
theorem la_pr_nonneg {n:Nat} {f:Nat→Int} (h:∀ i,i < n→0≤f i):0≤la_pr n f:=by
 induction n with
 | zero=>simp [la_pr]
 | succ n ih=>simp only [la_pr];exact Int.mul_nonneg (ih (fun i hi=>h i (by omega))) (h n (by omega))
theorem la_pr_le {n:Nat} {f g:Nat→Int} (h0:∀ i,i < n→0≤f i) (h:∀ i,i < n→f i≤g i):la_pr n f≤la_pr n g:=by
 induction n with
 | zero=>simp [la_pr]
 | succ n ih =>
  simp only [la_pr]
  exact Int.mul_le_mul (ih (fun i hi=>h0 i (by omega)) (fun i hi=>h i (by omega))) (h n (by omega)) (h0 n (by omega)) (la_pr_nonneg (fun i hi=>Int.le_trans (h0 i (by omega)) (h i (by omega))))
theorem la_sm_le {n:Nat} {f g:Nat→Int} (h:∀ i,i < n→f i≤g i):la_sm n f≤la_sm n g:=by
 induction n with
 | zero=>simp [la_sm]
 | succ n ih=>simp only [la_sm];have:=ih (fun i hi=>h i (by omega));have:=h n (by omega);omega
theorem la_sm_nonneg {n:Nat} {f:Nat→Int} (h:∀ i,i < n→0≤f i):0≤la_sm n f:=by
 have:=la_sm_le (f:=fun _=>0) h
 rwa [la_sm_zero (fun _ _=>rfl)] at this
theorem la_sum_prod_le {n : Nat} (w R : Nat → Int) (hw : ∀ i, i < n → 0 ≤ w i) (hR : ∀ i, i < n → 0 ≤ R i) :
  la_sm n (fun i=>w i * la_pr (n-1) (fun a=>R (la_sk i a)))≤la_pr n (fun a=>w a+R a):=by
 induction n with
 | zero=>simp [la_sm,la_pr]
 | succ n ih =>
  have ih:=ih (fun i hi=>hw i (by omega)) (fun i hi=>hR i (by omega))
  show la_sm n (fun i=>w i * la_pr (n+1-1) (fun a=>R (la_sk i a)))+w n * la_pr (n+1-1) (fun a=>R (la_sk n a))≤la_pr n (fun a=>w a+R a) * (w n+R n)
  have e1:la_sm n (fun i=>w i * la_pr (n+1-1) (fun a=>R (la_sk i a)))=R n * la_sm n (fun i=>w i * la_pr (n-1) (fun a=>R (la_sk i a))):=by
   rw [← la_sm_mul]
   refine la_sm_congr (fun i hi=>?_)
   obtain ⟨m,rfl⟩:∃ m,n=m+1:=⟨n - 1,by omega⟩
   show w i * (la_pr m _ * R (la_sk i m))=_
   have:la_sk i m=m+1:=by unfold la_sk;split<;>omega
   rw [this]
   show _=R (m+1) * (w i * la_pr m _)
   grind
  have e2:la_pr (n+1-1) (fun a=>R (la_sk n a))=la_pr n R:=la_pr_congr (fun a ha=>by
   have:la_sk n a=a:=by unfold la_sk;split<;>omega
   rw [this])
  rw [e1,e2]
  have h1:R n * la_sm n (fun i=>w i * la_pr (n-1) (fun a=>R (la_sk i a)))≤R n * la_pr n (fun a=>w a+R a):=Int.mul_le_mul_of_nonneg_left ih (hR n (by omega))
  have h2:w n * la_pr n R≤w n * la_pr n (fun a=>w a+R a):=Int.mul_le_mul_of_nonneg_left (la_pr_le (fun i hi=>hR i (by omega)) (fun i hi=>by have:=hw i (by omega);omega)) (hw n (by omega))
  have h3:la_pr n (fun a=>w a+R a) * (w n+R n)=w n * la_pr n (fun a=>w a+R a)+R n * la_pr n (fun a=>w a+R a):=by grind
  omega
def la_ab (x:Int):Int:=(x.natAbs:Int)
theorem la_ab_nonneg (x:Int):0≤la_ab x:=by unfold la_ab;omega
theorem la_ab_mul (x y:Int):la_ab (x * y)=la_ab x * la_ab y:=by unfold la_ab;rw [Int.natAbs_mul];simp
theorem la_ab_add (x y:Int):la_ab (x+y)≤la_ab x+la_ab y:=by unfold la_ab;omega
theorem la_ab_sg (i:Nat):la_ab (la_sg i)=1:=by unfold la_sg;split<;>rfl
theorem la_ab_zero:la_ab 0=0:=rfl
theorem la_ab_sm (n:Nat) (f:Nat→Int):la_ab (la_sm n f)≤la_sm n (fun i=>la_ab (f i)):=by
 induction n with
 | zero=>simp [la_sm,la_ab]
 | succ n ih=>simp only [la_sm];have:=la_ab_add (la_sm n f) (f n);omega
theorem la_dc_bound {n:Nat}:∀ (P Q:Nat→Nat→Int),la_sm (n+1) (fun k=>la_ab (la_dc n P Q k))≤la_pr n (fun a=>la_sm n (fun b=>la_ab (P a b)+la_ab (Q a b))):=by
 induction n with
 | zero=>intro P Q;simp [la_sm,la_pr,la_dc,la_ab]
 | succ n ih =>
  intro P Q
  have key:∀ i,i < n+1→la_sm (n+1+1) (fun k=>la_ab (la_sg i * (P i 0 * la_dc n (fun a b=>P (la_sk i a) (b+1)) (fun a b=>Q (la_sk i a) (b+1)) k+Q i 0 * la_up (la_dc n (fun a b=>P (la_sk i a) (b+1)) (fun a b=>Q (la_sk i a) (b+1))) k)))≤(la_ab (P i 0)+la_ab (Q i 0)) * la_pr n (fun a=>la_sm n (fun b=>la_ab (P (la_sk i a) (b+1))+la_ab (Q (la_sk i a) (b+1)))):=by
   intro i hi
   have hih:=ih (fun a b=>P (la_sk i a) (b+1)) (fun a b=>Q (la_sk i a) (b+1))
   have htop:=la_dc_top (n:=n) (fun a b=>P (la_sk i a) (b+1)) (fun a b=>Q (la_sk i a) (b+1))
   generalize la_dc n (fun a b=>P (la_sk i a) (b+1)) (fun a b=>Q (la_sk i a) (b+1))=d at hih htop ⊢
   have h1:la_sm (n+1+1) (fun k=>la_ab (d k))=la_sm (n+1) (fun k=>la_ab (d k)):=la_sm_ext (by omega) (fun k hk _=>by rw [htop k (by omega)];rfl)
   have h2:la_sm (n+1+1) (fun k=>la_ab (la_up d k))=la_sm (n+1) (fun k=>la_ab (d k)):=by
    rw [la_sm_succ'];simp [la_up,la_ab_zero]
   have h3:la_sm (n+1+1) (fun k=>la_ab (la_sg i * (P i 0 * d k+Q i 0 * la_up d k)))≤la_sm (n+1+1) (fun k=>la_ab (P i 0) * la_ab (d k)+la_ab (Q i 0) * la_ab (la_up d k)):=by
    refine la_sm_le (fun k _=>?_)
    rw [la_ab_mul,la_ab_sg,Int.one_mul,← la_ab_mul,← la_ab_mul]
    exact la_ab_add _ _
   rw [la_sm_add,la_sm_mul,la_sm_mul,h1,h2] at h3
   have h4:=Int.mul_le_mul_of_nonneg_left hih (la_ab_nonneg (P i 0))
   have h5:=Int.mul_le_mul_of_nonneg_left hih (la_ab_nonneg (Q i 0))
   have h6:=Int.add_mul (la_ab (P i 0)) (la_ab (Q i 0)) (la_pr n (fun a=>la_sm n (fun b=>la_ab (P (la_sk i a) (b+1))+la_ab (Q (la_sk i a) (b+1)))))
   omega
  have h1:la_sm (n+1+1) (fun k=>la_ab (la_dc (n+1) P Q k))≤la_sm (n+1+1) (fun k=>la_sm (n+1) (fun i=>la_ab (la_sg i * (P i 0 * la_dc n (fun a b=>P (la_sk i a) (b+1)) (fun a b=>Q (la_sk i a) (b+1)) k+Q i 0 * la_up (la_dc n (fun a b=>P (la_sk i a) (b+1)) (fun a b=>Q (la_sk i a) (b+1))) k)))) :=
   la_sm_le (fun k _=>la_ab_sm _ _)
  rw [la_sm_swap] at h1
  refine Int.le_trans h1 (Int.le_trans (la_sm_le key) ?_)
  have h2:=la_sum_prod_le (n:=n+1) (fun i=>la_ab (P i 0)+la_ab (Q i 0)) (fun a=>la_sm n (fun b=>la_ab (P a (b+1))+la_ab (Q a (b+1)))) (fun i _=>by have:=la_ab_nonneg (P i 0);have:=la_ab_nonneg (Q i 0);omega) (fun i _=>la_sm_nonneg (fun b _=>by have:=la_ab_nonneg (P i (b+1));have:=la_ab_nonneg (Q i (b+1));omega))
  refine Int.le_trans h2 (Int.le_of_eq (la_pr_congr (fun a _=>?_)))
  rw [la_sm_succ']
theorem la_ab_le_sm {n:Nat} (f:Nat→Int) (k:Nat) (hk:k < n):la_ab (f k)≤la_sm n (fun i=>la_ab (f i)):=by
 have h:=la_sm_le (n:=n) (f:=fun i=>if i=k then la_ab (f k) else 0) (g:=fun i=>la_ab (f i)) (fun i _=>by
  by_cases e:i=k
  ·simp [e]
  ·simp [e,la_ab_nonneg])
 rw [la_sm_single k hk (fun i _ hne=>by simp [hne])] at h
 simpa using h
theorem la_sm_sk (n i:Nat) (hi:i < n+1) (f:Nat→Int):la_sm (n+1) f=f i+la_sm n (fun t=>f (la_sk i t)):=by
 induction n with
 | zero =>
      obtain rfl:i=0:=by omega
      simp [la_sm]
 | succ n ih =>
  by_cases h:i=n+1
  ·subst h
   have:la_sm (n+1) (fun t=>f (la_sk (n+1) t))=la_sm (n+1) f:=la_sm_congr (fun t ht=>by
    have:la_sk (n+1) t=t:=by unfold la_sk;split<;>omega
    rw [this])
   rw [this];show la_sm (n+1) f+f (n+1)=_;omega
  ·show la_sm (n+1) f + f (n+1) = f i + (la_sm n (fun t => f (la_sk i t)) + f (la_sk i n))
   rw [ih (by omega)]
   have:la_sk i n=n+1:=by unfold la_sk;split<;>omega
   rw [this];omega
theorem la_un_sk (i t:Nat):la_un i (la_sk i t)=t:=by
 unfold la_un la_sk;by_cases h1:t < i
 ·simp [h1]
 ·rw [if_neg h1,if_neg (by omega)];omega
def la_z0:Nat→Int:=fun _=>0
theorem la_dc_deriv {n:Nat}:∀ (P Q:Nat→Nat→Int) (k:Nat),(k:Int) * la_dc n P Q k=la_sm n (fun t=>la_dc n (la_rr P t la_z0) Q k):=by
 induction n with
 | zero=>intro P Q k;simp only [la_dc,la_sm];split<;>simp_all
 | succ n ih =>
  intro P Q k
  have e:la_sm (n+1) (fun t=>la_dc (n+1) (la_rr P t la_z0) Q k)=la_sm (n+1) (fun i=>la_sm (n+1) (fun t=>la_sg i * ((la_rr P t la_z0) i 0 * la_dc n (fun a b=>(la_rr P t la_z0) (la_sk i a) (b+1)) (fun a b=>Q (la_sk i a) (b+1)) k+Q i 0 * la_up (la_dc n (fun a b=>(la_rr P t la_z0) (la_sk i a) (b+1)) (fun a b=>Q (la_sk i a) (b+1))) k))):=by
   rw [la_sm_swap];exact la_sm_congr (fun t _=>by rw [la_dc_succ])
  rw [e,la_dc_succ,← la_sm_mul]
  refine la_sm_congr (fun i hi=>?_)
  rw [la_sm_sk n i hi]
  have e1:(la_rr P i la_z0) i 0=0:=by simp [la_rr,la_z0]
  rw [e1,la_minor_rr_self]
  have e2:la_sm n (fun t=>la_sg i * ((la_rr P (la_sk i t) la_z0) i 0 * la_dc n (fun a b=>(la_rr P (la_sk i t) la_z0) (la_sk i a) (b+1)) (fun a b=>Q (la_sk i a) (b+1)) k+Q i 0 * la_up (la_dc n (fun a b=>(la_rr P (la_sk i t) la_z0) (la_sk i a) (b+1)) (fun a b=>Q (la_sk i a) (b+1))) k))=la_sm n (fun t=>la_sg i * (P i 0 * la_dc n (la_rr (fun a b=>P (la_sk i a) (b+1)) t la_z0) (fun a b=>Q (la_sk i a) (b+1)) k+Q i 0 * la_up (la_dc n (la_rr (fun a b=>P (la_sk i a) (b+1)) t la_z0) (fun a b=>Q (la_sk i a) (b+1))) k)):=by
   refine la_sm_congr (fun t ht=>?_)
   rw [la_minor_rr (la_sk_ne i t)]
   rw [la_un_sk]
   have:la_rr P (la_sk i t) la_z0 i 0=P i 0:=by unfold la_rr;rw [if_neg (Ne.symm (la_sk_ne i t))]
   rw [this]
   rfl
  rw [e2,la_sm_mul,la_sm_add,la_sm_mul,la_sm_mul,← ih]
  generalize (fun a b=>P (la_sk i a) (b+1))=P' at *
  generalize (fun a b=>Q (la_sk i a) (b+1))=Q' at *
  cases k with
  | zero =>
   have:la_sm n (fun t=>la_up (la_dc n (la_rr P' t la_z0) Q') 0)=0:=la_sm_zero (fun _ _=>rfl)
   rw [this]
   simp [la_up]
  | succ k =>
   have:la_sm n (fun t=>la_up (la_dc n (la_rr P' t la_z0) Q') (k+1))=(k:Int) * la_dc n P' Q' k:=by
    rw [ih];rfl
   rw [this]
   show _=la_sg i * (0 * _+Q i 0 * la_dc n P' Q' k)+_
   show ((k+1:Nat):Int) * (la_sg i * (P i 0 * la_dc n P' Q' (k+1)+Q i 0 * la_dc n P' Q' k))=_
   push_cast
   grind
def la_bc (n:Nat) (P Q:Nat→Nat→Int) (j i k:Nat):Int:=la_dc n (la_rr P i (la_ee j)) (la_rr Q i la_z0) k
theorem la_adj_pv (n:Nat) (P Q:Nat→Nat→Int) (u:Int) (j i:Nat):la_adj n (fun a b=>P a b+u * Q a b) j i=la_pv n (la_bc n P Q j i) u:=by
 unfold la_adj la_bc
 show _=la_pv n (la_dc n (la_rr P i (la_ee j)) (la_rr Q i la_z0)) u
 rw [← la_det_pv]
 refine la_det_congr (fun a b _ _=>?_)
 unfold la_rr la_z0;split<;>simp
theorem la_dc_trace (n:Nat) (P Q:Nat→Nat→Int) (k:Nat) (hk:k≤n):((k+1:Nat):Int) * la_dc n P Q (k+1)=la_sm n (fun i=>la_sm n (fun j=>Q i j * la_bc n P Q j i k)):=by
 rw [la_dc_deriv]
 refine la_sm_congr (fun i hi=>?_)
 have h:∀ u:Int,la_pv (n+1) (la_dc n (la_rr P i la_z0) Q) u=la_pv (n+1) (la_up (fun k=>la_sm n (fun j=>Q i j * la_bc n P Q j i k))) u:=by
  intro u
  rw [la_pv_up,la_pv_more _ _ (Nat.le_succ n) (fun k hk=>la_dc_top _ _ k hk),← la_det_pv,la_pv_sm]
  have e1:la_det n (fun a b=>la_rr P i la_z0 a b+u * Q a b)=la_det n (la_rr (fun a b=>P a b+u * Q a b) i (fun b=>u * Q i b)):=by
   refine la_det_congr (fun a b _ _=>?_)
   unfold la_rr la_z0;split
   ·case _ h=>simp [h]
   ·rfl
  rw [e1,la_det_row_smul _ _ hi]
  congr 1
  have e2:la_det n (la_rr (fun a b=>P a b+u * Q a b) i (Q i))=la_det n (la_rr (fun a b=>P a b+u * Q a b) i (fun b=>la_sm n (fun j=>Q i j * la_ee j b))):=by
   refine la_det_congr (fun a b _ hb=>?_)
   unfold la_rr;split
   ·exact (la_sm_ee (Q i) b hb).symm
   ·rfl
  rw [e2,la_det_row_sum _ i hi]
  refine la_sm_congr (fun j _=>?_)
  rw [← la_adj_pv];rfl
 have:=la_pv_inj (fun u _=>h u) (k+1) (by omega)
 rw [this];rfl
theorem la_bc_step (n : Nat) (P Q : Nat → Nat → Int) (k i : Nat) (hk : k < n) (hi : i < n) (m : Nat) (hm : m ≤ n + 1) :
  la_sm n (fun j=>P k j * la_bc n P Q j i m)+la_up (fun m=>la_sm n (fun j=>Q k j * la_bc n P Q j i m)) m=if k=i then la_dc n P Q m else 0:=by
 have h:∀ u:Int,la_pv (n+1) (fun m=>la_sm n (fun j=>P k j * la_bc n P Q j i m)+la_up (fun m=>la_sm n (fun j=>Q k j * la_bc n P Q j i m)) m) u=la_pv (n+1) (fun m=>if k=i then la_dc n P Q m else 0) u:=by
  intro u
  rw [la_pv_add,la_pv_up,la_pv_sm,la_pv_sm,← la_sm_mul,← la_sm_add]
  have h1:=la_adj_right (fun a b=>P a b+u * Q a b) k i hi hk
  have h2:la_sm n (fun j=>(P k j+u * Q k j) * la_adj n (fun a b=>P a b+u * Q a b) j i)=la_sm n (fun j=>P k j * la_pv (n+1) (la_bc n P Q j i) u+u * (Q k j * la_pv n (la_bc n P Q j i) u)):=by
   refine la_sm_congr (fun j _=>?_)
   rw [la_adj_pv,la_pv_more (n:=n) (m:=n+1) (la_bc n P Q j i) u (Nat.le_succ n) (fun k hk=>la_dc_top _ _ k hk)]
   grind
  rw [← h2,h1]
  by_cases e:k=i
  ·simp only [if_pos e]
   rw [la_det_pv,la_pv_more (n:=n) (m:=n+1) _ _ (Nat.le_succ n) (fun k hk=>la_dc_top _ _ k hk)]
  ·simp only [if_neg e]
   unfold la_pv;rw [la_sm_zero (fun _ _=>by simp)]
 exact la_pv_inj (fun u _=>h u) m hm
def la_ng (A:Nat→Nat→Int):Nat→Nat→Int:=fun a b=>- A a b
def la_cp (n:Nat) (A:Nat→Nat→Int):Nat→Int:=la_dc n (fun a b=>la_ee a b) (la_ng A)
def la_flB (n : Nat) (A : Nat → Nat → Int) (c : Nat → Int) : Nat → Nat → Nat → Int
 | 0=>fun _ _=>0
 | m+1=>fun k i=>la_sm n (fun j=>A k j * la_flB n A c m j i)+(if k=i then c m else 0)
theorem la_ee_comm (a b:Nat):la_ee a b=la_ee b a:=by unfold la_ee;by_cases h:a=b<;>simp [h,eq_comm]
theorem la_bc_fl (n:Nat) (A:Nat→Nat→Int) (m:Nat):m≤n→∀ k i,k < n→i < n→la_bc n (fun a b=>la_ee a b) (la_ng A) k i m=la_flB n A (la_cp n A) (m+1) k i:=by
 induction m with
 | zero =>
  intro _ k i hk hi
  have h:=la_bc_step n (fun a b=>la_ee a b) (la_ng A) k i hk hi 0 (by omega)
  have e:la_sm n (fun j=>la_ee k j * la_bc n (fun a b=>la_ee a b) (la_ng A) j i 0)=la_bc n (fun a b=>la_ee a b) (la_ng A) k i 0:=by
   rw [← la_sm_ee' (fun j=>la_bc n (fun a b=>la_ee a b) (la_ng A) j i 0) k hk];exact la_sm_congr (fun j _=>by grind)
  rw [e] at h
  simp only [la_flB,la_up] at h ⊢
  rw [la_sm_zero (fun _ _=>by simp)]
  unfold la_cp;omega
 | succ m ih =>
  intro hm k i hk hi
  have h:=la_bc_step n (fun a b=>la_ee a b) (la_ng A) k i hk hi (m+1) (by omega)
  have e:la_sm n (fun j=>la_ee k j * la_bc n (fun a b=>la_ee a b) (la_ng A) j i (m+1))=la_bc n (fun a b=>la_ee a b) (la_ng A) k i (m+1):=by
   rw [← la_sm_ee' (fun j=>la_bc n (fun a b=>la_ee a b) (la_ng A) j i (m+1)) k hk];exact la_sm_congr (fun j _=>by grind)
  rw [e] at h
  have e2:la_up (fun m=>la_sm n (fun j=>la_ng A k j * la_bc n (fun a b=>la_ee a b) (la_ng A) j i m)) (m+1)=- la_sm n (fun j=>A k j * la_flB n A (la_cp n A) (m+1) j i):=by
   show la_sm n (fun j=>la_ng A k j * la_bc n (fun a b=>la_ee a b) (la_ng A) j i m)=_
   rw [← la_sm_neg]
   refine la_sm_congr (fun j hj=>?_)
   rw [ih (by omega) j i hj hi];unfold la_ng;grind
  rw [e2] at h
  show _=la_sm n (fun j=>A k j * la_flB n A (la_cp n A) (m+1) j i)+(if k=i then la_cp n A (m+1) else 0)
  unfold la_cp at *;omega
theorem la_cp_zero (n:Nat) (A:Nat→Nat→Int):la_cp n A 0=1:=by
 have h:=la_det_pv (n:=n) (fun a b=>la_ee a b) (la_ng A) 0
 have e:la_det n (fun a b=>la_ee a b+0 * la_ng A a b)=la_det n (fun a b=>la_ee a b):=la_det_congr (fun a b _ _=>by simp)
 rw [e,la_det_one] at h
 unfold la_pv at h
 rw [la_sm_succ',la_sm_zero (fun i _=>by rw [Int.pow_succ];simp)] at h
 unfold la_cp;simpa using h.symm
theorem la_cp_fl (n:Nat) (A:Nat→Nat→Int) (m:Nat) (hm:m < n):((m+1:Nat):Int) * la_cp n A (m+1)=- la_sm n (fun i=>la_sm n (fun j=>A i j * la_flB n A (la_cp n A) (m+1) j i)):=by
 have h:=la_dc_trace n (fun a b=>la_ee a b) (la_ng A) m (by omega)
 rw [show la_dc n (fun a b=>la_ee a b) (la_ng A) (m+1)=la_cp n A (m+1) from rfl] at h
 rw [h,← la_sm_neg]
 refine la_sm_congr (fun i hi=>?_)
 rw [← la_sm_neg]
 refine la_sm_congr (fun j hj=>?_)
 rw [la_bc_fl n A m (by omega) j i hj hi,show la_ng A i j=- A i j from rfl];grind
def la_colp (r : Nat) (A : Nat → Nat → Int) (C : Nat → Int) : Nat → Nat → Int
 | 0=>C
 | k+1=>fun i=>la_sm r (fun j=>A i j * la_colp r A C k j)
theorem la_fl_col (r:Nat) (A:Nat→Nat→Int) (c C:Nat→Int) (m:Nat):∀ i,i < r→la_sm r (fun j=>la_flB r A c (m+1) i j * C j)=la_sm (m+1) (fun l=>c l * la_colp r A C (m-l) i):=by
 induction m with
 | zero =>
  intro i hi
  simp only [la_flB,la_sm,la_colp,Nat.sub_zero,Int.zero_add]
  rw [la_sm_congr (g:=fun j=>(c 0 * C j) * la_ee i j) (fun j _=>by
   rw [la_sm_zero (fun _ _=>by simp)];unfold la_ee;by_cases h:i=j
   ·simp [h]
   ·simp [h,Ne.symm h])]
  rw [la_sm_ee' (fun j=>c 0 * C j) i hi]
 | succ m ih =>
  intro i hi
  have e1:la_sm r (fun j=>la_flB r A c (m+1+1) i j * C j)=la_sm r (fun j=>la_sm r (fun l=>A i l * la_flB r A c (m+1) l j) * C j)+c (m+1) * C i:=by
   rw [← la_sm_ee' (fun j=>c (m+1) * C j) i hi,← la_sm_add]
   refine la_sm_congr (fun j _=>?_)
   show (la_sm r (fun l=>A i l * la_flB r A c (m+1) l j)+(if i=j then c (m+1) else 0)) * C j=_
   unfold la_ee;by_cases h:i=j
   ·simp only [if_pos h,if_pos h.symm];grind
   ·simp only [if_neg h,if_neg (Ne.symm h)];grind
  have e2:la_sm r (fun j=>la_sm r (fun l=>A i l * la_flB r A c (m+1) l j) * C j)=la_sm r (fun l=>A i l * la_sm r (fun j=>la_flB r A c (m+1) l j * C j)):=by
   rw [la_sm_congr (g:=fun j=>la_sm r (fun l=>A i l * (la_flB r A c (m+1) l j * C j))) (fun j _=>by
    rw [Int.mul_comm,← la_sm_mul];exact la_sm_congr (fun l _=>by grind))]
   rw [la_sm_swap]
   exact la_sm_congr (fun l _=>by rw [la_sm_mul])
  rw [e1,e2]
  rw [la_sm_congr (g:=fun l=>A i l * la_sm (m+1) (fun t=>c t * la_colp r A C (m-t) l)) (fun l hl=>by rw [ih l hl])]
  show _=la_sm (m+1) (fun l=>c l * la_colp r A C (m+1-l) i)+c (m+1) * la_colp r A C (m+1-(m+1)) i
  rw [Nat.sub_self]
  have e3:la_sm r (fun l=>A i l * la_sm (m+1) (fun t=>c t * la_colp r A C (m-t) l))=la_sm (m+1) (fun l=>c l * la_colp r A C (m+1-l) i):=by
   rw [la_sm_congr (g:=fun l=>la_sm (m+1) (fun t=>c t * (A i l * la_colp r A C (m-t) l))) (fun l _=>by
    rw [← la_sm_mul];exact la_sm_congr (fun t _=>by grind))]
   rw [la_sm_swap]
   refine la_sm_congr (fun t ht=>?_)
   rw [la_sm_mul]
   have:m+1 - t=(m - t)+1:=by omega
   rw [this];rfl
  rw [e3];rfl
def la_turnB (r : Nat) (A : Nat → Nat → Int) : Nat → Int
 | 0=>1
 | 1=>- A r r
 | k+2=>- la_sm r (fun i=>A r i * la_colp r A (fun i=>A i r) k i)
theorem la_cp_berkowitz (r:Nat) (A:Nat→Nat→Int) (m:Nat) (hm:m≤r+1):la_cp (r+1) A m=la_sm (m+1) (fun l=>la_turnB r A (m-l) * la_cp r A l):=by
 have h:∀ u:Int,la_pv (r+2) (la_cp (r+1) A) u=la_pv (r+2) (fun m=>la_cp r A m+(- A r r) * la_up (la_cp r A) m+(-1) * la_up (la_up (fun k=>la_sm r (fun j=>A r j * la_sm r (fun i=>A i r * la_bc r (fun a b=>la_ee a b) (la_ng A) j i k)))) m) u:=by
  intro u
  rw [la_pv_add,la_pv_add,la_pv_mul,la_pv_mul,la_pv_up,la_pv_up,la_pv_up]
  rw [la_pv_more (n:=r+1) (m:=r+2) (la_cp (r+1) A) u (by omega) (fun k hk=>la_dc_top _ _ k hk)]
  rw [la_pv_more (n:=r) (m:=r+2) (la_cp r A) u (by omega) (fun k hk=>la_dc_top _ _ k hk)]
  rw [la_pv_more (n:=r) (m:=r+1) (la_cp r A) u (by omega) (fun k hk=>la_dc_top _ _ k hk)]
  rw [la_pv_sm]
  rw [la_sm_congr (g:=fun j=>A r j * la_sm r (fun i=>A i r * la_adj r (fun a b=>la_ee a b+u * la_ng A a b) j i)) (fun j _=>by
   rw [la_pv_sm];congr 1;exact la_sm_congr (fun i _=>by rw [la_adj_pv]))]
  unfold la_cp
  rw [← la_det_pv,← la_det_pv,la_det_border]
  have e:la_sm r (fun j=>la_sm r (fun i=>(la_ee r j+u * la_ng A r j) * la_adj r (fun a b=>la_ee a b+u * la_ng A a b) j i * (la_ee i r+u * la_ng A i r)))=u * (u * la_sm r (fun j=>A r j * la_sm r (fun i=>A i r * la_adj r (fun a b=>la_ee a b+u * la_ng A a b) j i))):=by
   rw [← la_sm_mul,← la_sm_mul]
   refine la_sm_congr (fun j hj=>?_)
   rw [← la_sm_mul,← la_sm_mul,← la_sm_mul]
   refine la_sm_congr (fun i hi=>?_)
   rw [la_ee_ne (show j ≠ r by omega),la_ee_ne (show r ≠ i by omega)]
   unfold la_ng;grind
  rw [e,la_ee_self]
  unfold la_ng
  grind
 rw [la_pv_inj (fun u _=>h u) m (by omega)]
 cases m with
 | zero=>simp [la_up,la_sm,la_turnB]
 | succ m =>
  cases m with
  | zero=>simp [la_up,la_sm,la_turnB];omega
  | succ m =>
   show la_cp r A (m+2)+(- A r r) * la_cp r A (m+1)+(-1) * la_sm r (fun j=>A r j * la_sm r (fun i=>A i r * la_bc r (fun a b=>la_ee a b) (la_ng A) j i m))=la_sm (m+1) (fun l=>la_turnB r A (m+2-l) * la_cp r A l)+la_turnB r A (m+2-(m+1)) * la_cp r A (m+1)+la_turnB r A (m+2-(m+2)) * la_cp r A (m+2)
   have e1:m+2 - (m+1)=1:=by omega
   have e2:m+2 - (m+2)=0:=by omega
   rw [e1,e2]
   have e3:la_sm r (fun j=>A r j * la_sm r (fun i=>A i r * la_bc r (fun a b=>la_ee a b) (la_ng A) j i m))=- la_sm (m+1) (fun l=>la_turnB r A (m+2-l) * la_cp r A l):=by
    rw [la_sm_congr (g:=fun j=>A r j * la_sm (m+1) (fun l=>la_cp r A l * la_colp r A (fun i=>A i r) (m-l) j)) (fun j hj=>by
     rw [← la_fl_col r A (la_cp r A) (fun i=>A i r) m j hj]
     congr 1
     exact la_sm_congr (fun i hi=>by rw [la_bc_fl r A m (by omega) j i hj hi];grind))]
    rw [la_sm_congr (g:=fun j=>la_sm (m+1) (fun l=>la_cp r A l * (A r j * la_colp r A (fun i=>A i r) (m-l) j))) (fun j _=>by
     rw [← la_sm_mul];exact la_sm_congr (fun l _=>by grind))]
    rw [la_sm_swap,← la_sm_neg]
    refine la_sm_congr (fun l hl=>?_)
    rw [la_sm_mul]
    have:m+2 - l=(m - l)+2:=by omega
    rw [this]
    show _=-(- la_sm r (fun i=>A r i * la_colp r A (fun i=>A i r) (m-l) i) * la_cp r A l)
    grind
   rw [e3]
   show la_cp r A (m+2)+(- A r r) * la_cp r A (m+1)+(-1) * _=_+(- A r r) * la_cp r A (m+1)+1 * la_cp r A (m+2)
   grind
theorem la_ee_iff (a b:Nat):la_ee a b=if a=b then 1 else 0:=by unfold la_ee;by_cases h:a=b<;>simp [h,eq_comm]
theorem la_det_rows_mix {n : Nat} (M : Nat → Nat → Int) (l : Nat → Nat) (x : Nat → Int) (h : ∀ a, a < n → x a ≠ 0 → l a < n ∧ l a ≠ a ∧ x (l a) = 0) :
  la_det n (fun a b=>M a b+x a * M (l a) b)=la_det n M:=by
 have key:∀ m,m≤n→la_det n (fun a b=>if a < m then M a b+x a * M (l a) b else M a b)=la_det n M:=by
  intro m
  induction m with
  | zero=>intro _;exact la_det_congr (fun a b _ _=>by simp)
  | succ m ih =>
   intro hm
   rw [← ih (by omega)]
   by_cases hx:x m=0
   ·refine la_det_congr (fun a b _ _ => ?_)
    by_cases h1:a < m
    ·rw [if_pos h1,if_pos (by omega)]
    ·by_cases h2 : a = m
     ·subst h2;simp [hx]
     ·rw [if_neg h1,if_neg (by omega)]
   ·obtain ⟨h1, h2, h3⟩ := h m (by omega) hx
    rw [← la_det_row_addmul (fun a b=>if a < m then M a b+x a * M (l a) b else M a b) m (l m) (by omega) h1 (Ne.symm h2) (x m)]
    refine la_det_congr (fun a b _ _=>?_)
    simp only [la_rr]
    by_cases h4:a=m
    ·subst h4
     by_cases h5:l a < a
     ·simp [h5,h3]
     ·simp [h5]
    ·by_cases h5 : a < m
     ·rw [if_pos (by omega),if_neg h4,if_pos h5]
     ·rw [if_neg (by omega),if_neg h4,if_neg h5]
 rw [← key n (Nat.le_refl n)]
 exact la_det_congr (fun a b ha _=>by rw [if_pos ha])
theorem tdiv2 (e:Nat):Int.tdiv (e:Int) 2=((e / 2:Nat):Int):=rfl
theorem tmod2 (e:Nat):Int.tmod (e:Int) 2=((e % 2:Nat):Int):=rfl
/-- Where the directed edge e begins, and where it ends. -/
def begAt (l:List (List Int)) (e:Nat):Int:=rd (rd_L1 l ((e / 2:Nat):Int)) ((e % 2:Nat):Int)
def endAt (l:List (List Int)) (e:Nat):Int:=rd (rd_L1 l ((e / 2:Nat):Int)) ((1 - e % 2:Nat):Int)
def two (l:List (List Int)):Prop:=∀ x ∈ l,x.length=2
theorem isG_two {a:Int} {l:List (List Int)} (h:isG a l=true):two l:=by
 intro x hx
 simp only [isG,Bool.and_eq_true,List.all_eq_true] at h
 have:=h.2.2.2 x hx
 simp only [edgeIn,Bool.and_eq_true,decide_eq_true_eq] at this
 exact this.1
theorem isG_len {a:Int} {l:List (List Int)} (h:isG a l=true):l.length≤10:=by
 simp only [isG,Bool.and_eq_true,decide_eq_true_eq] at h
 exact h.2.2.1
theorem isG_size {a:Int} {l:List (List Int)} (h:isG a l=true):1≤a∧a≤8:=by
 simp only [isG,Bool.and_eq_true,decide_eq_true_eq] at h
 exact ⟨h.1,h.2.1⟩
theorem isG_edge {a:Int} {l:List (List Int)} (h:isG a l=true) {x:List Int} (hx:x ∈ l):(0≤rd x 0∧rd x 0≤a - 1)∧(0≤rd x 1∧rd x 1≤a - 1):=by
 have hs:=isG_size h
 simp only [isG,Bool.and_eq_true,List.all_eq_true] at h
 have:=h.2.2.2 x hx
 simp only [edgeIn,endIn,Bool.and_eq_true,decide_eq_true_eq] at this
 rw [w64 (by omega) (by omega)] at this
 exact this.2
theorem two_at {l:List (List Int)} (h2:two l) (e:Nat) (he:e < 2 * l.length):(rd_L1 l ((e / 2:Nat):Int)).length=2:=by
 have hi:e / 2 < l.length:=by omega
 rw [rdL1_nat l (e / 2) hi]
 exact h2 _ (List.getElem_mem hi)
theorem l01Ends_eq (a:Int) (l:List (List Int)) (hl:l.length≤1048576) (h2:two l) (e:Nat) (he:e < 2 * l.length):F101.f a l e=some (begAt l e,endAt l e):=by
 have hx:=two_at h2 e he
 unfold F101.f
 rw [tdiv2,tmod2,w64 (by omega) (by omega),if_pos (by omega),if_pos (by omega),hx]
 unfold begAt endAt
 rcases Nat.mod_two_eq_zero_or_one e with h|h
 ·rw [h];rfl
 ·rw [h];rfl
theorem ends_eq (a:Int) (l:List (List Int)) (hl:l.length≤1048576) (h2:two l) (e:Nat) (he:e < 2 * l.length):F113.f a l e=some (begAt l e,endAt l e):=by
 have hx:=two_at h2 e he
 unfold F113.f
 rw [tdiv2,tmod2,w64 (by omega) (by omega),if_pos (by omega),if_pos (by omega),hx]
 have hm:e % 2 < 2:=Nat.mod_lt _ (by omega)
 rw [w64 (by omega) (by omega),if_pos (by omega),if_pos (by omega),if_pos (by omega),if_pos (by omega)]
 unfold begAt endAt
 rw [show (1:Int) - ((e % 2:Nat):Int)=((1 - e % 2:Nat):Int) by omega]
/-- The other direction of e's edge. -/
def opp (e:Nat):Nat:=if e % 2=0 then e+1 else e - 1
theorem xor1_all:((List.range 20).all fun e:Nat=>Go.bits .xor .i64 (e:Int) 1 == ((opp e:Nat):Int))=true:=by kernel_rfl
theorem xor1 (e:Nat) (h:e < 20):Go.bits .xor .i64 (e:Int) 1=((opp e:Nat):Int):=by
 have:=List.all_eq_true.1 xor1_all e (List.mem_range.2 h)
 exact eq_of_beq this
/-- May f come behind e. -/
def next (l:List (List Int)) (e f:Nat):Bool:=decide (endAt l e=begAt l f) && !decide (f=opp e)
theorem l03Next_eq (a:Int) (l:List (List Int)) (hl:l.length≤1048576) (h2:two l) (e f:Nat) (he:e < 2 * l.length) (hf:f < 2 * l.length):F118.f a l e f=some (next l e f):=by
 unfold F118.f
 rw [l01Ends_eq a l hl h2 e he,l01Ends_eq a l hl h2 f hf]
 simp only [Option.bind_some,tdiv2]
 unfold next
 by_cases h:endAt l e=begAt l f
 ·have e1 : wrap64 ((e / 2 : Nat) : Int) = ((e / 2 : Nat) : Int) := w64 (by omega) (by omega)
  have e2:wrap64 ((f / 2:Nat):Int)=((f / 2:Nat):Int):=w64 (by omega) (by omega)
  simp only [if_pos h,e1,e2]
  simp only [h,decide_true,Bool.true_and]
  by_cases h3:((e / 2:Nat):Int)=((f / 2:Nat):Int)
  ·rw [if_pos h3]
   congr 1
   rw [Bool.eq_iff_iff]
   unfold opp
   rcases Nat.mod_two_eq_zero_or_one e with h5|h5<;>simp [h5]<;>omega
  ·rw [if_neg h3]
   congr 1
   rw [Bool.eq_iff_iff]
   unfold opp
   rcases Nat.mod_two_eq_zero_or_one e with h5|h5<;>simp [h5]<;>omega
 ·rw [if_neg h]
  simp [h]
def mrow (n:Nat) (g:Nat→Bool) (f:Nat):List Int:=(List.range n).map fun j=>if (decide (j < f) && g j)=true then 1 else 0
theorem mrow_length (n:Nat) (g:Nat→Bool) (f:Nat):(mrow n g f).length=n:=by simp [mrow]
theorem mrow_zero (n:Nat) (g:Nat→Bool):mrow n g 0=List.replicate n 0:=by
 apply List.ext_getElem
 ·simp [mrow]
 ·intro i h1 h2;simp [mrow]
theorem mrow_hit (n:Nat) (g:Nat→Bool) (f:Nat) (hf:f < n) (h:g f=true):(mrow n g f).set f 1=mrow n g (f+1):=by
 apply List.ext_getElem
 ·simp [mrow]
 ·intro i h1 h2
  simp only [mrow,List.length_map,List.length_range,List.length_set] at h1 h2
  rw [List.getElem_set]
  by_cases hi:f=i
  ·subst hi;simp [mrow,h]
  ·rw [if_neg hi]
   simp only [mrow,List.getElem_map,List.getElem_range]
   have:decide (i < f)=decide (i < f+1):=by rw [Bool.eq_iff_iff];simp;omega
   rw [this]
theorem mrow_miss (n:Nat) (g:Nat→Bool) (f:Nat) (h:g f=false):mrow n g f=mrow n g (f+1):=by
 apply List.ext_getElem
 ·simp [mrow]
 ·intro i h1 h2
  simp only [mrow,List.getElem_map,List.getElem_range]
  by_cases hi:i=f
  ·subst hi;simp [h]
  ·have : decide (i < f) = decide (i < f + 1) := by rw [Bool.eq_iff_iff]; simp; omega
   rw [this]
/-- The edge rows. -/
def edgeM (l:List (List Int)):List (List Int):=(List.range (2 * l.length)).map fun e=>mrow (2 * l.length) (next l e) (2 * l.length)
theorem l09Rows_l1 (a : Int) (l : List (List Int)) (hl : l.length ≤ 10) (h2 : two l) (x3 : List (List Int)) (hx : x3.length < 1048576) (R : List (List Int)) (e : Nat) (he : e < 2 * l.length)
  (hR:Ev (fun k=>F104.l0 k (x3 ++ [mrow (2 * l.length) (next l e) (2 * l.length)]) ((2 * l.length:Nat):Int) ((e:Int)+1) a l) R) :
  ∀ (d f:Nat),2 * l.length - f=d→f≤2 * l.length→Ev (fun k=>F104.l1 k x3 ((2 * l.length:Nat):Int) e (mrow (2 * l.length) (next l e) f) f a l) R:=by
 intro d
 induction d with
 | zero =>
  intro f hd hf
  obtain rfl:f=2 * l.length:=by omega
  refine Ev.step (fun k=>by simp only [F104.l1];rfl) ?_
  simp only [Int.lt_irrefl,if_false,show x3.length < 5864062014805 by omega,if_true,wI ((e:Int)+1) (by omega)]
  exact hR
 | succ d ih =>
  intro f hd hf
  have hfl:f < 2 * l.length:=by omega
  refine Ev.step (fun k=>by simp only [F104.l1];rfl) ?_
  have h:=ih (f+1) (by omega) (by omega)
  simp only [show ((f:Int) < ((2 * l.length:Nat):Int)) by omega,if_true,l03Next_eq a l (by omega) h2 e f he hfl,Option.bind_some,zI' f,mrow_length,Int.toNat_natCast,wI ((f:Int)+1) (by omega)]
  cases hn:next l e f with
  | true=>simp only [if_true];rw [mrow_hit _ _ _ hfl hn];exact h
  | false=>simp only [Bool.false_eq_true,if_false];rw [mrow_miss _ _ _ hn];exact h
theorem l09Rows_l0 (a:Int) (l:List (List Int)) (hl:l.length≤10) (h2:two l):∀ (d e:Nat),2 * l.length - e=d→e≤2 * l.length→Ev (fun k=>F104.l0 k ((edgeM l).take e) ((2 * l.length:Nat):Int) e a l) (edgeM l):=by
 have hlen:(edgeM l).length=2 * l.length:=by simp [edgeM]
 intro d
 induction d with
 | zero =>
  intro e hd he
  refine Ev.step (fun k=>by simp only [F104.l0];rfl) ?_
  simp only [show ¬ ((e:Int) < ((2 * l.length:Nat):Int)) by omega,if_false]
  rw [List.take_of_length_le (by omega)]
  exact Ev.now _
 | succ d ih =>
  intro e hd he
  have hel:e < 2 * l.length:=by omega
  refine Ev.step (fun k=>by simp only [F104.l0];rfl) ?_
  simp only [show ((e:Int) < ((2 * l.length:Nat):Int)) by omega,show (0:Int)≤((2 * l.length:Nat):Int) by omega,show 2 * l.length≤35184372088832 by omega,if_true,Int.toNat_natCast]
  rw [← mrow_zero (2 * l.length) (next l e)]
  refine l09Rows_l1 a l hl h2 ((edgeM l).take e) (by rw [List.length_take];omega) (edgeM l) e hel ?_ (2 * l.length) 0 (by omega) (by omega)
  have h:=ih (e+1) (by omega) (by omega)
  have e1:(edgeM l).take (e+1)=(edgeM l).take e ++ [mrow (2 * l.length) (next l e) (2 * l.length)]:=by
   rw [List.take_succ_eq_append_getElem (by omega)]
   simp [edgeM]
  rw [e1] at h
  exact h
theorem l09Rows_ev (a:Int) (l:List (List Int)) (hl:l.length≤10) (h2:two l):Ev (fun k=>F104.f k a l) (edgeM l):=by
 unfold F104.f
 rw [w64 (by omega) (by omega),show 2 * (l.length:Int)=((2 * l.length:Nat):Int) by omega]
 exact l09Rows_l0 a l hl h2 (2 * l.length) 0 (by omega) (by omega)
/-- The rows on the way: those above e are whole, that of e up to f. -/
def mpart (l:List (List Int)) (e f:Nat):List (List Int):=(List.range (2 * l.length)).map fun i=>mrow (2 * l.length) (next l i) (if i < e then 2 * l.length else if i=e then f else 0)
theorem mpart_length (l:List (List Int)) (e f:Nat):(mpart l e f).length=2 * l.length:=by simp [mpart]
theorem mpart_row (l:List (List Int)) (e f:Nat) (he:e < 2 * l.length):rd_L1 (mpart l e f) (e:Int)=mrow (2 * l.length) (next l e) f:=by
 rw [rdL1_nat _ _ (by rw [mpart_length];exact he)]
 simp [mpart]
theorem mpart_hit (l:List (List Int)) (e f:Nat) (he:e < 2 * l.length) (hf:f < 2 * l.length) (h:next l e f=true):(mpart l e f).set e ((mrow (2 * l.length) (next l e) f).set f 1)=mpart l e (f+1):=by
 rw [mrow_hit _ _ _ hf h]
 apply List.ext_getElem
 ·simp [mpart]
 ·intro i h1 h2
  rw [List.getElem_set]
  by_cases hi:e=i
  ·subst hi;simp [mpart]
  ·rw [if_neg hi]
   simp [mpart,Ne.symm hi]
theorem mpart_miss (l:List (List Int)) (e f:Nat) (h:next l e f=false):mpart l e f=mpart l e (f+1):=by
 unfold mpart
 apply List.map_congr_left
 intro i _
 by_cases hi:i < e
 ·simp [hi]
 ·by_cases hie : i = e
  ·subst hie;simp;exact mrow_miss _ _ _ h
  ·simp [hi,hie]
theorem mpart_next (l:List (List Int)) (e:Nat):mpart l e (2 * l.length)=mpart l (e+1) 0:=by
 unfold mpart
 apply List.map_congr_left
 intro i _
 by_cases hi:i < e
 ·rw [if_pos hi,if_pos (by omega)]
 ·by_cases hie : i = e
  ·subst hie;simp
  ·rw [if_neg hi,if_neg hie,if_neg (by omega)];split<;>rfl
theorem mpart_all (l:List (List Int)):mpart l (2 * l.length) 0=edgeM l:=by
 unfold mpart edgeM
 apply List.map_congr_left
 intro i hi
 rw [if_pos (List.mem_range.1 hi)]
theorem edgeMatrix_l1 (a : Int) (l : List (List Int)) (hl : l.length ≤ 10) (h2 : two l) (R : List (List Int)) (e : Nat) (he : e < 2 * l.length)
  (hR:Ev (fun k=>F83.l0 k (mpart l (e+1) 0) ((2 * l.length:Nat):Int) ((e:Int)+1) a l) R) :
  ∀ (d f:Nat),2 * l.length - f=d→f≤2 * l.length→Ev (fun k=>F83.l1 k (mpart l e f) e (endAt l e) ((2 * l.length:Nat):Int) e ((2 * l.length:Nat):Int) f a l) R:=by
 intro d
 induction d with
 | zero =>
  intro f hd hf
  obtain rfl:f=2 * l.length:=by omega
  refine Ev.step (fun k=>by simp only [F83.l1];rfl) ?_
  simp only [Int.lt_irrefl,if_false,mpart_next,wI ((e:Int)+1) (by omega)]
  exact hR
 | succ d ih =>
  intro f hd hf
  have hfl:f < 2 * l.length:=by omega
  refine Ev.step (fun k=>by simp only [F83.l1];rfl) ?_
  have h:=ih (f+1) (by omega) (by omega)
  simp only [show ((f:Int) < ((2 * l.length:Nat):Int)) by omega,if_true,ends_eq a l (by omega) h2 f hfl,Option.bind_some,zI' f,zI' e,mpart_length,mpart_row l e f he,mrow_length,show ((e:Int) < ((2 * l.length:Nat):Int)) by omega,Int.toNat_natCast,xor1 e (by omega),wI ((f:Int)+1) (by omega)]
  have hn:next l e f=(decide (endAt l e=begAt l f) && !decide (f=opp e)):=rfl
  by_cases h3:begAt l f=endAt l e
  ·simp only [h3, if_true]
   by_cases h4:f=opp e
   ·simp only [eq_true (show (f : Int) = ((opp e : Nat) : Int) by omega), if_true]
    rw [mpart_miss l e f (by rw [hn];simp [h3,h4.symm])]
    exact h
   ·simp only [show ¬ ((f : Int) = ((opp e : Nat) : Int)) by omega, if_false]
    rw [mpart_hit l e f he hfl (by rw [hn];simp [h3,h4])]
    exact h
  ·simp only [h3, if_false]
   rw [mpart_miss l e f (by rw [hn];simp [Ne.symm h3])]
   exact h
theorem edgeMatrix_l0 (a:Int) (l:List (List Int)) (hl:l.length≤10) (h2:two l):∀ (d e:Nat),2 * l.length - e=d→e≤2 * l.length→Ev (fun k=>F83.l0 k (mpart l e 0) ((2 * l.length:Nat):Int) e a l) (edgeM l):=by
 intro d
 induction d with
 | zero =>
  intro e hd he
  obtain rfl:e=2 * l.length:=by omega
  refine Ev.step (fun k=>by simp only [F83.l0];rfl) ?_
  simp only [Int.lt_irrefl,if_false,mpart_all]
  exact Ev.now _
 | succ d ih =>
  intro e hd he
  have hel:e < 2 * l.length:=by omega
  refine Ev.step (fun k=>by simp only [F83.l0];rfl) ?_
  simp only [show ((e:Int) < ((2 * l.length:Nat):Int)) by omega,if_true,ends_eq a l (by omega) h2 e hel,Option.bind_some,F112.f,wI (2 * (l.length:Int)) (by omega)]
  rw [show 2 * (l.length:Int)=((2 * l.length:Nat):Int) by omega]
  exact edgeMatrix_l1 a l hl h2 _ e hel (ih (e+1) (by omega) (by omega)) (2 * l.length) 0 (by omega) (by omega)
theorem square_l0 (n:Nat) (hn:n≤1048576):∀ (d i:Nat),n - i=d→i≤n→Ev (fun k=>F100.l0 k n (List.replicate i (List.replicate n 0)) n i) (List.replicate n (List.replicate n 0)):=by
 intro d
 induction d with
 | zero =>
  intro i hd hi
  obtain rfl:i=n:=by omega
  refine Ev.step (fun k=>by simp only [F100.l0];rfl) ?_
  simp only [Int.lt_irrefl,if_false]
  exact Ev.now _
 | succ d ih =>
  intro i hd hi
  refine Ev.step (fun k=>by simp only [F100.l0];rfl) ?_
  simp only [lI i n (by omega),zI' n,Int.toNat_natCast,show n≤35184372088832 by omega,List.length_replicate,show i < 5864062014805 by omega,if_true,wI ((i:Int)+1) (by omega)]
  have h:=ih (i+1) (by omega) (by omega)
  rw [List.replicate_succ'] at h
  exact h
theorem square_ev (n:Nat) (hn:n≤1048576):Ev (fun k=>F100.f k n) (List.replicate n (List.replicate n 0)):=square_l0 n hn n 0 (by omega) (by omega)
theorem mpart_zero (l:List (List Int)):mpart l 0 0=List.replicate (2 * l.length) (List.replicate (2 * l.length) 0):=by
 apply List.ext_getElem
 ·simp [mpart]
 ·intro i h1 h2
  simp only [mpart,List.getElem_map,List.getElem_range,List.getElem_replicate]
  rw [← mrow_zero (2 * l.length) (next l i)]
  congr 1
  rw [if_neg (by omega)]
  split<;>rfl
theorem edgeMatrix_ev (a:Int) (l:List (List Int)) (hl:l.length≤10) (h2:two l):Ev (fun k=>F83.f k a l) (edgeM l):=by
 unfold F83.f
 simp only [F112.f,Option.bind_some,wI (2 * (l.length:Int)) (by omega)]
 rw [show 2 * (l.length:Int)=((2 * l.length:Nat):Int) by omega]
 refine Ev.bind (square_ev (2 * l.length) (by omega)) ?_
 rw [← mpart_zero]
 exact edgeMatrix_l0 a l hl h2 (2 * l.length) 0 (by omega) (by omega)
theorem clone_ev (l:List Int) (h:l.length≤1048576):F52.f l=some l:=by
 unfold F52.f
 rw [if_pos (by omega)]
theorem l01Own_eq (l:List Int) (h:l.length≤1048576):F94.f l=some l:=by
 unfold F94.f
 simp only [Option.bind_some,List.length_nil,List.nil_append]
 rw [if_pos (by omega)]
/-- The two ends of edge i of a graph, as numbers below n. -/
def endsIn (n:Nat) (l:List (List Int)):Prop:=∀ i,i < l.length→(rd_L1 l (i:Int)).length=2∧∃ u v:Nat,rd (rd_L1 l (i:Int)) 0=u∧rd (rd_L1 l (i:Int)) 1=v∧u < n∧v < n
theorem isG_ends {a:Int} {l:List (List Int)} (h:isG a l=true):∃ n:Nat,a=n∧1≤n∧n≤8∧endsIn n l:=by
 have hs:=isG_size h
 refine ⟨a.toNat,by omega,by omega,by omega,fun i hi=>?_⟩
 have hm:l[i] ∈ l:=List.getElem_mem hi
 rw [rdL1_nat l i hi]
 have he:=isG_edge h hm
 exact ⟨isG_two h _ hm,(rd l[i] 0).toNat,(rd l[i] 1).toNat,by omega,by omega,by omega,by omega⟩
theorem l01Copy_l0 (a:Int) (l:List (List Int)) (hl:l.length≤1048576) (hx:∀ x ∈ l,x.length≤1048576):∀ (d i:Nat),l.length - i=d→i≤l.length→Ev (fun k=>F114.l0 k i a l a (l.take i)) (a,l):=by
 intro d
 induction d with
 | zero =>
  intro i hd hi
  obtain rfl:i=l.length:=by omega
  refine Ev.step (fun k=>by simp only [F114.l0];rfl) ?_
  simp only [Int.lt_irrefl,if_false,List.take_length]
  exact Ev.now _
 | succ d ih =>
  intro i hd hi
  have hil:i < l.length:=by omega
  refine Ev.step (fun k=>by simp only [F114.l0];rfl) ?_
  have h:=ih (i+1) (by omega) (by omega)
  rw [List.take_succ_eq_append_getElem hil] at h
  simp only [show ((i:Int) < (l.length:Int)) by omega,zI' i,if_true,rdL1_nat l i hil,l01Own_eq _ (hx _ (List.getElem_mem hil)),Option.bind_some,show (l.take i).length < 5864062014805 by (rw [List.length_take];omega),wI ((i:Int)+1) (by omega)]
  exact h
theorem l01Copy_ev (a:Int) (l:List (List Int)) (hl:l.length≤1048576) (hx:∀ x ∈ l,x.length≤1048576):Ev (fun k=>F114.f k a l) (a,l):=l01Copy_l0 a l hl hx l.length 0 (by omega) (by omega)
/-- A row and a square of numbers, by their places. -/
def vrow (n:Nat) (g:Nat→Int):List Int:=(List.range n).map g
def vmat (n:Nat) (f:Nat→Nat→Int):List (List Int):=(List.range n).map fun i=>vrow n (f i)
theorem vrow_length (n:Nat) (g:Nat→Int):(vrow n g).length=n:=by simp [vrow]
theorem vmat_length (n:Nat) (f:Nat→Nat→Int):(vmat n f).length=n:=by simp [vmat]
theorem vrow_rd {n:Nat} {g:Nat→Int} {v:Nat} (h:v < n):rd (vrow n g) (v:Int)=g v:=by
 rw [rd_nat _ _ (by rw [vrow_length];exact h)]
 simp [vrow]
theorem vmat_row {n:Nat} {f:Nat→Nat→Int} {u:Nat} (h:u < n):rd_L1 (vmat n f) (u:Int)=vrow n (f u):=by
 rw [rdL1_nat _ _ (by rw [vmat_length];exact h)]
 simp [vmat]
theorem vrow_congr {n:Nat} {g h:Nat→Int} (e:∀ j,j < n→g j=h j):vrow n g=vrow n h:=by
 unfold vrow
 apply List.map_congr_left
 intro j hj
 exact e j (List.mem_range.mp hj)
theorem vmat_congr {n:Nat} {f h:Nat→Nat→Int} (e:∀ i j,i < n→j < n→f i j=h i j):vmat n f=vmat n h:=by
 unfold vmat
 apply List.map_congr_left
 intro i hi
 exact vrow_congr fun j hj=>e i j (List.mem_range.mp hi) hj
theorem vrow_set {n:Nat} (g:Nat→Int) (v:Nat) (x:Int):(vrow n g).set v x=vrow n (fun j=>if j=v then x else g j):=by
 apply List.ext_getElem
 ·rw [List.length_set,vrow_length,vrow_length]
 intro j h1 h2
 rw [List.getElem_set]
 simp only [vrow,List.getElem_map,List.getElem_range]
 by_cases h:v=j
 ·subst h;simp
 ·rw [if_neg h,if_neg (fun e=>h e.symm)]
theorem vmat_set {n:Nat} (f:Nat→Nat→Int) (u:Nat) (g:Nat→Int):(vmat n f).set u (vrow n g)=vmat n (fun i j=>if i=u then g j else f i j):=by
 apply List.ext_getElem
 ·rw [List.length_set,vmat_length,vmat_length]
 intro i h1 h2
 rw [List.getElem_set]
 simp only [vmat,List.getElem_map,List.getElem_range]
 by_cases h:u=i
 ·subst h;simp
 ·rw [if_neg h];exact vrow_congr fun j _=>by rw [if_neg (fun e=>h e.symm)]
theorem vmat_zero (n:Nat):List.replicate n (List.replicate n (0:Int))=vmat n (fun _ _=>0):=by
 have h0:∀ m:Nat,vrow m (fun _=>0)=List.replicate m 0:=fun m=>by
  apply List.ext_getElem
  ·simp [vrow]
  ·intro i _ _;simp [vrow]
 apply List.ext_getElem
 ·simp [vmat]
 ·intro i _ _;simp [vmat,h0]
theorem vrow_of {n:Nat} {c:List Int} (h:c.length=n):c=vrow n (fun w=>rd c (w:Int)):=by
 apply List.ext_getElem
 ·rw [vrow_length];exact h
 ·intro i h1 h2
  simp only [vrow,List.getElem_map,List.getElem_range]
  rw [rd_nat _ _ h1]
theorem dart_ends {n:Nat} {l:List (List Int)} (hE:endsIn n l) (d:Nat) (hd:d < 2 * l.length):∃ u v:Nat,begAt l d=u∧endAt l d=v∧u < n∧v < n:=by
 obtain ⟨_,u,v,hu,hv,hun,hvn⟩:=hE (d / 2) (by omega)
 unfold begAt endAt
 rcases Nat.mod_two_eq_zero_or_one d with h|h
 ·rw [h];exact ⟨u,v,hu,hv,hun,hvn⟩
 ·rw [h];exact ⟨v,u,hv,hu,hvn,hun⟩
def cgM (x y:Int):Prop:=(18446744073709551616:Int) ∣ x - y
theorem cg_refl (x:Int):cgM x x:=⟨0,by omega⟩
theorem cg_symm {x y:Int} (h:cgM x y):cgM y x:=by
 obtain ⟨q,h⟩:=h
 exact ⟨-q,by omega⟩
theorem cg_trans {x y z:Int} (h:cgM x y) (h2:cgM y z):cgM x z:=by
 obtain ⟨q,h⟩:=h
 obtain ⟨r,h2⟩:=h2
 exact ⟨q+r,by omega⟩
theorem cg_wrap (x:Int):cgM (wrap64 x) x:=by
 unfold cgM wrap64
 exact ⟨-((x+9223372036854775808) / 18446744073709551616),by omega⟩
theorem cg_add {x y z w:Int} (h:cgM x y) (h2:cgM z w):cgM (x+z) (y+w):=by
 obtain ⟨q,h⟩:=h
 obtain ⟨r,h2⟩:=h2
 exact ⟨q+r,by omega⟩
theorem cg_neg {x y:Int} (h:cgM x y):cgM (-x) (-y):=by
 obtain ⟨q,h⟩:=h
 exact ⟨-q,by omega⟩
theorem cg_mul {x y z w:Int} (h:cgM x y) (h2:cgM z w):cgM (x * z) (y * w):=la_mul_dvd_sub h h2
theorem cg_sm {n:Nat} {f g:Nat→Int} (h:∀ i,i < n→cgM (f i) (g i)):cgM (la_sm n f) (la_sm n g):=la_sm_dvd h
theorem wrap_range (x:Int):-9223372036854775808≤wrap64 x∧wrap64 x≤9223372036854775807:=by unfold wrap64;omega
theorem cg_eq {x y:Int} (h:cgM x y) (hx:-9223372036854775808≤x∧x≤9223372036854775807) (hy:-9223372036854775808≤y∧y≤9223372036854775807):x=y:=by
 obtain ⟨q,h⟩:=h
 omega
theorem wrap_of_cg {x y:Int} (h:cgM x y) (hy:-9223372036854775808≤y∧y≤9223372036854775807):wrap64 x=y:=cg_eq (cg_trans (cg_wrap x) h) (wrap_range x) hy
/-- One row of a product, made by program. -/
def rtA (f g : Nat → Nat → Int) (i : Nat) : Nat → Nat → Int
 | 0,_=>0
 | k+1,j=>if f i k=0 then rtA f g i k j else wrap64 (rtA f g i k j+wrap64 (f i k * g k j))
theorem rtA_cg (f g:Nat→Nat→Int) (i j:Nat) (m:Nat):cgM (rtA f g i m j) (la_sm m (fun k=>f i k * g k j)):=by
 induction m with
 | zero=>exact cg_refl _
 | succ m ih =>
  unfold rtA
  simp only [la_sm]
  split
  ·case _ h=>rw [h];simpa using ih
  ·exact cg_trans (cg_wrap _) (cg_add ih (cg_wrap _))
def rtS (f g:Nat→Nat→Int) (n i k j:Nat):Nat→Nat→Int:=fun r c=>if r < i then rtA f g r n c else if r=i then (if c < j then rtA f g i (k+1) c else rtA f g i k c) else 0
theorem rowsTimes_l2 (n : Nat) (hn : n ≤ 1048576) (f g : Nat → Nat → Int) (i k : Nat) (hi : i < n) (hk : k < n) (hf : f i k ≠ 0) (R : List (List Int))
  (next:Ev (fun q=>F111.l1 q (vmat n g) (vmat n (rtS f g n i (k+1) 0)) i (vmat n f) n i (vrow n (f i)) n ((k:Int)+1)) R) :
  ∀ (d j:Nat),n - j=d→j≤n→Ev (fun q=>F111.l2 q (vmat n g) (vmat n (rtS f g n i k j)) i (f i k) (vmat n f) n i (vrow n (f i)) n k (vrow n (g k)) n j) R:=by
 intro d
 induction d with
 | zero =>
  intro j hd hj
  obtain rfl:j=n:=by omega
  refine Ev.step (fun q=>by simp only [F111.l2];rfl) ?_
  simp only [Int.lt_irrefl,if_false,wI ((k:Int)+1) (by omega)]
  refine Ev.congr (fun q=>?_) next
  congr 1
  refine vmat_congr fun r c hr hc=>?_
  unfold rtS
  by_cases h1:r < i
  ·rw [if_pos h1,if_pos h1]
  ·rw [if_neg h1, if_neg h1]
   by_cases h2:r=i
   ·rw [if_pos h2,if_pos h2,if_pos hc,if_neg (by omega)]
   ·rw [if_neg h2,if_neg h2]
 | succ d ih =>
  intro j hd hj
  have hjn:j < n:=by omega
  refine Ev.step (fun q=>by simp only [F111.l2];rfl) ?_
  simp only [lI j n (by omega),zI' j,zI' i,lI i n (by omega),if_true,vrow_length,vmat_length,vmat_row hi,vrow_rd hjn,Int.toNat_natCast,wI ((j:Int)+1) (by omega)]
  rw [vrow_set,vmat_set]
  refine Ev.congr (fun q=>?_) (ih (j+1) (by omega) (by omega))
  rw [show ((j+1:Nat):Int)=(j:Int)+1 by omega]
  congr 1
  refine vmat_congr fun r c hr hc=>?_
  have hij:rtS f g n i k j i j=rtA f g i k j:=by
   unfold rtS;rw [if_neg (by omega),if_pos rfl,if_neg (by omega)]
  by_cases h2:r=i
  ·subst h2
   rw [if_pos rfl]
   by_cases h3:c=j
   ·subst h3
    rw [if_pos rfl,hij]
    simp only [rtS,Nat.lt_irrefl,if_false,if_true,show c < c+1 by omega]
    show _=(if f r k=0 then _ else _)
    rw [if_neg hf]
   ·rw [if_neg h3]
    simp only [rtS,Nat.lt_irrefl,if_false,if_true]
    by_cases h4:c < j
    ·rw [if_pos h4,if_pos (by omega)]
    ·rw [if_neg h4,if_neg (by omega)]
  ·rw [if_neg h2]
   unfold rtS
   by_cases h1:r < i
   ·rw [if_pos h1,if_pos h1]
   ·rw [if_neg h1,if_neg h1,if_neg h2,if_neg h2]
theorem rowsTimes_l1 (n : Nat) (hn : n ≤ 1048576) (f g : Nat → Nat → Int) (i : Nat) (hi : i < n) (R : List (List Int))
  (next:Ev (fun q=>F111.l0 q (vmat n g) (vmat n (rtS f g n (i+1) 0 0)) (vmat n f) n ((i:Int)+1)) R) :
  ∀ (d k:Nat),n - k=d→k≤n→Ev (fun q=>F111.l1 q (vmat n g) (vmat n (rtS f g n i k 0)) i (vmat n f) n i (vrow n (f i)) n k) R:=by
 intro d
 induction d with
 | zero =>
  intro k hd hk
  obtain rfl:k=n:=by omega
  refine Ev.step (fun q=>by simp only [F111.l1];rfl) ?_
  simp only [Int.lt_irrefl,if_false,wI ((i:Int)+1) (by omega)]
  refine Ev.congr (fun q=>?_) next
  congr 1
  refine vmat_congr fun r c hr hc=>?_
  unfold rtS
  by_cases h1:r < i
  ·rw [if_pos h1,if_pos (by omega)]
  ·rw [if_neg h1]
   by_cases h2:r=i
   ·subst h2;rw [if_pos rfl,if_neg (by omega),if_pos (by omega)]
   ·rw [if_neg h2, if_neg (by omega)]
    by_cases h3:r=i+1
    ·rw [if_pos h3,if_neg (by omega)];rfl
    ·rw [if_neg h3]
 | succ d ih =>
  intro k hd hk
  have hkn:k < n:=by omega
  refine Ev.step (fun q=>by simp only [F111.l1];rfl) ?_
  simp only [lI k n (by omega),zI' k,if_true,vrow_length,vmat_length,vrow_rd hkn,vmat_row hkn,wI ((k:Int)+1) (by omega)]
  have h:=ih (k+1) (by omega) (by omega)
  rw [show ((k+1:Nat):Int)=(k:Int)+1 by omega] at h
  by_cases hf:f i k=0
  ·simp only [hf, if_true]
   refine Ev.congr (fun q=>?_) h
   congr 1
   refine vmat_congr fun r c hr hc=>?_
   unfold rtS
   by_cases h1:r < i
   ·rw [if_pos h1,if_pos h1]
   ·rw [if_neg h1, if_neg h1]
    by_cases h2:r=i
    ·rw [if_pos h2, if_pos h2, if_neg (by omega), if_neg (by omega)]
     show _=(if f i k=0 then _ else _)
     rw [if_pos hf]
    ·rw [if_neg h2,if_neg h2]
  ·simp only [hf, if_false]
   exact rowsTimes_l2 n hn f g i k hi hkn hf R h n 0 (by omega) (by omega)
theorem rowsTimes_l0 (n:Nat) (hn:n≤1048576) (f g:Nat→Nat→Int):∀ (d i:Nat),n - i=d→i≤n→Ev (fun q=>F111.l0 q (vmat n g) (vmat n (rtS f g n i 0 0)) (vmat n f) n i) (vmat n (fun r c=>rtA f g r n c)):=by
 intro d
 induction d with
 | zero =>
  intro i hd hi
  obtain rfl:i=n:=by omega
  refine Ev.step (fun q=>by simp only [F111.l0];rfl) ?_
  simp only [Int.lt_irrefl,if_false]
  rw [show vmat i (rtS f g i i 0 0)=vmat i (fun r c=>rtA f g r i c) from vmat_congr fun r c hr hc=>by unfold rtS;rw [if_pos hr]]
  exact Ev.now _
 | succ d ih =>
  intro i hd hi
  have hin:i < n:=by omega
  refine Ev.step (fun q=>by simp only [F111.l0];rfl) ?_
  simp only [lI i n (by omega),zI' i,if_true,vmat_length,vmat_row hin,vrow_length]
  have h:=ih (i+1) (by omega) (by omega)
  rw [show ((i+1:Nat):Int)=(i:Int)+1 by omega] at h
  exact rowsTimes_l1 n hn f g i hin _ h n 0 (by omega) (by omega)
theorem rowsTimes_ev (n:Nat) (hn:n≤1048576) (f g:Nat→Nat→Int):Ev (fun q=>F111.f q (vmat n f) (vmat n g)) (vmat n (fun r c=>rtA f g r n c)):=by
 unfold F111.f
 simp only [vmat_length]
 refine Ev.bind (square_ev n hn) ?_
 rw [vmat_zero]
 have h:=rowsTimes_l0 n hn f g n 0 (by omega) (by omega)
 refine Ev.congr (fun q=>?_) h
 congr 1
 refine vmat_congr fun r c hr hc=>?_
 unfold rtS
 rw [if_neg (by omega)]
 split
 ·rw [if_neg (by omega)];rfl
 ·rfl
def trW (h : Nat → Nat → Int) : Nat → Int
 | 0=>0
 | i+1=>wrap64 (trW h i+h i i)
theorem trW_cg (h:Nat→Nat→Int) (m:Nat):cgM (trW h m) (la_sm m (fun i=>h i i)):=by
 induction m with
 | zero=>exact cg_refl _
 | succ m ih=>exact cg_trans (cg_wrap _) (cg_add ih (cg_refl _))
theorem trace_l0 (n:Nat) (hn:n≤1048576) (h:Nat→Nat→Int):∀ (d i:Nat),n - i=d→i≤n→Ev (fun q=>F110.l0 q (trW h i) (vmat n h) n i) (trW h n):=by
 intro d
 induction d with
 | zero =>
  intro i hd hi
  obtain rfl:i=n:=by omega
  refine Ev.step (fun q=>by simp only [F110.l0];rfl) ?_
  simp only [Int.lt_irrefl,if_false]
  exact Ev.now _
 | succ d ih =>
  intro i hd hi
  have hin:i < n:=by omega
  refine Ev.step (fun q=>by simp only [F110.l0];rfl) ?_
  simp only [lI i n (by omega),zI' i,if_true,vmat_length,vmat_row hin,vrow_length,vrow_rd hin,wI ((i:Int)+1) (by omega)]
  have h:=ih (i+1) (by omega) (by omega)
  rw [show ((i+1:Nat):Int)=(i:Int)+1 by omega] at h
  exact h
theorem trace_ev (n:Nat) (hn:n≤1048576) (h:Nat→Nat→Int):Ev (fun q=>F110.f q (vmat n h)) (trW h n):=by
 unfold F110.f
 simp only [vmat_length]
 exact trace_l0 n hn h n 0 (by omega) (by omega)
/-- A list without zeros at its end. -/
def trimN (l : List Int) : Nat → List Int
 | 0=>[]
 | n+1=>if rd l n=0 then trimN l n else l.take (n+1)
theorem trimN_length (l:List Int) (n:Nat):(trimN l n).length≤n:=by
 induction n with
 | zero=>simp [trimN]
 | succ n ih =>
  unfold trimN;split
  ·omega
  ·rw [List.length_take];omega
theorem trimN_rd (l:List Int) (n:Nat):∀ i:Nat,rd (trimN l n) i=if i < n then rd l i else 0:=by
 induction n with
 | zero=>intro i;simp [trimN,rd]
 | succ n ih =>
  intro i
  unfold trimN
  split
  ·case _ h =>
   rw [ih]
   by_cases h1:i < n
   ·rw [if_pos h1,if_pos (by omega)]
   ·rw [if_neg h1]
    by_cases h2:i=n
    ·subst h2;rw [if_pos (by omega),h]
    ·rw [if_neg (by omega)]
  ·unfold rd
   simp only [Int.toNat_natCast,List.getD_eq_getElem?_getD,List.getElem?_take]
   split<;>simp_all
theorem trimmed_l0 (l:List Int) (hl:l.length≤1048576):∀ n,n≤l.length→Ev (fun q=>F77.l0 q (l.take n)) (trimN l n):=by
 intro n
 induction n with
 | zero =>
  intro _
  refine Ev.step (fun q=>by simp only [F77.l0];rfl) ?_
  simp only [List.take_zero,List.length_nil,show ¬ (((0:Nat):Int) > 0) by omega,if_false,clone_ev [] (by simp),Option.bind_some,trimN]
  exact Ev.now _
 | succ n ih =>
  intro hn
  refine Ev.step (fun q=>by simp only [F77.l0];rfl) ?_
  have hlen:((l.take (n+1)).length:Int)=(n:Int)+1:=by rw [List.length_take];omega
  have hr:rd (l.take (n+1)) n=rd l n:=by
   unfold rd
   simp only [Int.toNat_natCast,List.getD_eq_getElem?_getD,List.getElem?_take]
   rw [if_pos (by omega)]
  simp only [hlen,show (n:Int)+1 - 1=n by omega,wI ((n:Int)) (by omega),show (n:Int)+1 > 0 by omega,zI' n,show (n:Int) < (n:Int)+1 by omega,show (n:Int)≤(n:Int)+1 by omega,if_true,hr,Int.toNat_natCast,List.take_take,show min n (n+1)=n by omega]
  rw [show trimN l (n+1)=if rd l n=0 then trimN l n else l.take (n+1) from rfl]
  by_cases h:rd l n=0
  ·simp only [h, if_true]
   exact ih (by omega)
  ·simp only [h, if_false, clone_ev (l.take (n + 1)) (by rw [List.length_take]; omega), Option.bind_some]
   exact Ev.now _
theorem trimmed_ev (l:List Int) (hl:l.length≤1048576):Ev (fun q=>F77.f q l) (trimN l l.length):=by
 unfold F77.f
 have h:=trimmed_l0 l hl l.length (Nat.le_refl _)
 rw [List.take_length] at h
 exact h
/-- The rows with one number added in the diagonal. -/
def diS (h:Nat→Nat→Int) (c:Int) (i:Nat):Nat→Nat→Int:=fun r q=>if r=q∧r < i then wrap64 (h r q+c) else h r q
theorem crange_rd (c:Nat→Int) (n i:Nat) (h:i < n):rd ((List.range n).map c) i=c i:=by
 rw [rd_nat _ _ (by simpa using h)];simp
theorem determinant_l1 (n : Nat) (hn : n ≤ 1048576) (A h : Nat → Nat → Int) (c : Nat → Int) (m : Nat) (hm : m < n) (R : List Int)
  (next:Ev (fun k=>(F111.f k (vmat n A) (vmat n (diS h (c m) n))).bind fun t119=>((F110.f k t119).bind fun t122=>(if ((m+1:Nat):Int)=0 then (none) else (if ((List.range (m+1)).map c).length < 17592186044416 then (F97.l0 k (vmat n A) ((List.range (m+1)).map c ++ [wrap64 (Int.tdiv (wrap64 (-t122)) ((m+1:Nat):Int))]) (vmat n (diS h (c m) n)) (wrap64 (((m+1:Nat):Int)+1))) else (none))))) R) :
  ∀ (d i:Nat),n - i=d→i≤n→Ev (fun k=>F97.l1 k (vmat n A) ((List.range (m+1)).map c) (vmat n (diS h (c m) i)) ((m+1:Nat):Int) n i) R:=by
 intro d
 induction d with
 | zero =>
  intro i hd hi
  obtain rfl:i=n:=by omega
  refine Ev.step (fun q=>by simp only [F97.l1];rfl) ?_
  simp only [Int.lt_irrefl,if_false]
  exact next
 | succ d ih =>
  intro i hd hi
  have hin:i < n:=by omega
  refine Ev.step (fun q=>by simp only [F97.l1];rfl) ?_
  simp only [lI i n (by omega),zI' i,if_true,vmat_length,vmat_row hin,vrow_length,vrow_rd hin,Int.toNat_natCast,show ((m+1:Nat):Int) - 1=(m:Int) by omega,wI ((m:Int)) (by omega),zI' m,List.length_map,List.length_range,show (m:Int) < ((m+1:Nat):Int) by omega,crange_rd c (m+1) m (by omega),wI ((i:Int)+1) (by omega)]
  rw [vrow_set,vmat_set]
  refine Ev.congr (fun q=>?_) (ih (i+1) (by omega) (by omega))
  rw [show ((i+1:Nat):Int)=(i:Int)+1 by omega]
  congr 1
  refine vmat_congr fun r q hr hq=>?_
  unfold diS
  by_cases h1:r=i
  ·subst h1
   rw [if_pos rfl]
   by_cases h2:q=r
   ·subst h2
    rw [if_pos rfl,if_neg (by omega),if_pos ⟨rfl,by omega⟩]
   ·rw [if_neg h2,if_neg (fun e=>h2 e.1.symm),if_neg (fun e=>h2 e.1.symm)]
  ·rw [if_neg h1]
   by_cases h2:r=q∧r < i
   ·rw [if_pos h2,if_pos ⟨h2.1,by omega⟩]
   ·rw [if_neg h2,if_neg (fun e=>h2 ⟨e.1,by omega⟩)]
/-- The numbers of a determinant, as a list. -/
def cpL (n:Nat) (A:Nat→Nat→Int):List Int:=(List.range (n+1)).map (la_cp n A)
theorem cpL_length (n:Nat) (A:Nat→Nat→Int):(cpL n A).length=n+1:=by simp [cpL]
theorem determinant_l0 (n : Nat) (hn : n ≤ 1048575) (A : Nat → Nat → Int) (hb : ∀ k : Nat, 1 ≤ k → k ≤ n → -9223372036854775807 ≤ (k : Int) * la_cp n A k ∧ (k : Int) * la_cp n A k ≤ 9223372036854775807) :
  ∀ (d m : Nat), n - m = d → m ≤ n → ∀ h : Nat → Nat → Int, (∀ i j, i < n → j < n → cgM (h i j) (la_flB n A (la_cp n A) m i j)) →
   Ev (fun k=>F97.l0 k (vmat n A) ((List.range (m+1)).map (la_cp n A)) (vmat n h) ((m+1:Nat):Int)) (trimN (cpL n A) (n+1)):=by
 intro d
 induction d with
 | zero =>
  intro m hd hm h _
  obtain rfl:m=n:=by omega
  refine Ev.step (fun q=>by simp only [F97.l0];rfl) ?_
  simp only [vmat_length,show ¬ (((m+1:Nat):Int)≤(m:Int)) by omega,if_false]
  refine Ev.bind (a:=trimN (cpL m A) (m+1)) ?_ (Ev.now _)
  have h:=trimmed_ev (cpL m A) (by rw [cpL_length];omega)
  rw [cpL_length] at h
  exact h
 | succ d ih =>
  intro m hd hm h hcg
  have hmn:m < n:=by omega
  refine Ev.step (fun q=>by simp only [F97.l0];rfl) ?_
  simp only [vmat_length,show (((m+1:Nat):Int)≤(n:Int)) by omega,if_true]
  refine Ev.bind (rowsTimes_ev n (by omega) A h) ?_
  simp only [vmat_length]
  have hg:∀ i j,i < n→j < n→cgM (diS (fun r c=>rtA A h r n c) (la_cp n A m) n i j) (la_flB n A (la_cp n A) (m+1) i j):=by
   intro i j hi hj
   have h1:cgM (rtA A h i n j) (la_sm n (fun q=>A i q * la_flB n A (la_cp n A) m q j)):=cg_trans (rtA_cg A h i j n) (cg_sm (fun q hq=>cg_mul (cg_refl _) (hcg q j hq hj)))
   show cgM (diS _ _ n i j) (la_sm n (fun q=>A i q * la_flB n A (la_cp n A) m q j)+(if i=j then la_cp n A m else 0))
   unfold diS
   by_cases e:i=j
   ·rw [if_pos ⟨e, hi⟩, if_pos e]
    exact cg_trans (cg_wrap _) (cg_add h1 (cg_refl _))
   ·rw [if_neg (fun e2 => e e2.1), if_neg e]
    simpa using h1
  have h0:vmat n (fun r c=>rtA A h r n c)=vmat n (diS (fun r c=>rtA A h r n c) (la_cp n A m) 0):=vmat_congr fun r c _ _=>by
   unfold diS;rw [if_neg (by omega)]
  rw [h0]
  refine determinant_l1 n (by omega) A _ (la_cp n A) m hmn _ ?_ n 0 (by omega) (by omega)
  refine Ev.bind (rowsTimes_ev n (by omega) A _) ?_
  refine Ev.bind (trace_ev n (by omega) _) ?_
  have hfl:=la_cp_fl n A m hmn
  have hbm:=hb (m+1) (by omega) (by omega)
  have htr:cgM (-(trW (fun r c=>rtA A (diS (fun r c=>rtA A h r n c) (la_cp n A m) n) r n c) n)) (((m+1:Nat):Int) * la_cp n A (m+1)):=by
   rw [hfl]
   refine cg_neg (cg_trans (trW_cg _ n) (cg_sm (fun i hi=>cg_trans (rtA_cg _ _ i i n) (cg_sm (fun j hj=>cg_mul (cg_refl _) (hg j i hj hi))))))
  have hw:wrap64 (-(trW (fun r c=>rtA A (diS (fun r c=>rtA A h r n c) (la_cp n A m) n) r n c) n))=((m+1:Nat):Int) * la_cp n A (m+1):=wrap_of_cg htr ⟨by omega,by omega⟩
  have hdiv:Int.tdiv (((m+1:Nat):Int) * la_cp n A (m+1)) ((m+1:Nat):Int)=la_cp n A (m+1):=Int.mul_tdiv_cancel_left _ (by omega)
  have hsmall:-9223372036854775808≤la_cp n A (m+1)∧la_cp n A (m+1)≤9223372036854775807:=by
   have h1:(1:Int)≤((m+1:Nat):Int):=by omega
   generalize ((m+1:Nat):Int)=t at h1 hbm
   generalize la_cp n A (m+1)=c at hbm
   constructor
   ·rcases Int.lt_or_le c 0 with hc | hc
    ·have : t * c ≤ 1 * c := Int.mul_le_mul_of_nonpos_right h1 (by omega)
     omega
    ·omega
   ·rcases Int.lt_or_le c 0 with hc | hc
    ·omega
    ·have : 1 * c ≤ t * c := Int.mul_le_mul_of_nonneg_right h1 hc
     omega
  simp only [show ¬ (((m+1:Nat):Int)=0) by omega,if_false,List.length_map,List.length_range,show m+1 < 17592186044416 by omega,if_true,hw,hdiv,w64 hsmall.1 hsmall.2,w64 (show -9223372036854775808≤((m+1:Nat):Int)+1 by omega) (by omega)]
  have hn2:=ih (m+1) (by omega) (by omega) _ hg
  refine Ev.congr (fun q=>?_) hn2
  rw [show (List.range (m+1+1)).map (la_cp n A)=(List.range (m+1)).map (la_cp n A) ++ [la_cp n A (m+1)] by rw [List.range_succ,List.map_append];rfl]
  rw [show ((m+1+1:Nat):Int)=((m+1:Nat):Int)+1 by omega]
theorem determinant_ev (n : Nat) (hn : n ≤ 1048575) (A : Nat → Nat → Int) (hb : ∀ k : Nat, 1 ≤ k → k ≤ n → -9223372036854775807 ≤ (k : Int) * la_cp n A k ∧ (k : Int) * la_cp n A k ≤ 9223372036854775807) :
  Ev (fun k=>F97.f k (vmat n A)) (trimN (cpL n A) (n+1)):=by
 unfold F97.f
 simp only [vmat_length]
 refine Ev.bind (square_ev n (by omega)) ?_
 rw [vmat_zero]
 have h:=determinant_l0 n hn A hb n 0 (by omega) (by omega) (fun _ _=>0) (fun i j _ _=>cg_refl _)
 refine Ev.congr (fun q=>?_) h
 rw [show (List.range (0+1)).map (la_cp n A)=[1] by simp [List.range_succ,la_cp_zero]]
 rfl
theorem vrow_snoc (n:Nat) (g:Nat→Int):vrow n g ++ [g n]=vrow (n+1) g:=by
 unfold vrow;rw [List.range_succ,List.map_append];rfl
theorem vrow_take {m n:Nat} (h:m≤n) (g:Nat→Int):(vrow n g).take m=vrow m g:=by
 unfold vrow
 rw [← List.map_take,List.take_range,Nat.min_eq_left h]
theorem spec_l01Own_ev (l:List Int) (h:l.length≤1048576):F94.f l=some l:=by
 unfold F94.f
 simp only [Option.bind_some,List.length_nil,List.nil_append,show 0+l.length < 17592186044416 by omega,if_true]
theorem l01Trim_l0 (l:List Int) (hl:l.length≤1048576):∀ n:Nat,n≤l.length→Ev (fun q=>F90.l0 q l n) (trimN l n):=by
 intro n
 induction n with
 | zero =>
  intro _
  refine Ev.step (fun q=>by simp only [F90.l0];rfl) ?_
  simp only [show ¬ (((0:Nat):Int) > 0) by omega,if_false,show (0:Int)≤((0:Nat):Int) by omega,show ((0:Nat):Int)≤(l.length:Int) by omega,if_true,Int.toNat_natCast,List.take_zero,spec_l01Own_ev [] (by simp),Option.bind_some,trimN]
  exact Ev.now _
 | succ n ih =>
  intro hn
  refine Ev.step (fun q=>by simp only [F90.l0];rfl) ?_
  simp only [show ((n+1:Nat):Int) > 0 by omega,show ((n+1:Nat):Int) - 1=n by omega,wI ((n:Int)) (by omega),zI' n,show (n:Int) < (l.length:Int) by omega,show (0:Int)≤((n+1:Nat):Int) by omega,show ((n+1:Nat):Int)≤(l.length:Int) by omega,if_true,Int.toNat_natCast]
  rw [show trimN l (n+1)=if rd l n=0 then trimN l n else l.take (n+1) from rfl]
  by_cases h:rd l n=0
  ·simp only [h, if_true]
   exact ih (by omega)
  ·simp only [h, if_false, spec_l01Own_ev (l.take (n + 1)) (by rw [List.length_take]; omega), Option.bind_some]
   exact Ev.now _
theorem l01Trim_ev (l:List Int) (hl:l.length≤1048576):Ev (fun q=>F90.f q l) (trimN l l.length):=l01Trim_l0 l hl l.length (Nat.le_refl _)
theorem berk_l4 (n : Nat) (hn : n ≤ 1048575) (A : Nat → Nat → Int) (x3 x5 x10 : List Int) (C : Nat → Int) (x8 x9 : Int) (r i : Nat) (hr : r < n) (hi : i < r) (h10 : x10.length = i) (R : List Int)
  (next:∀ v,cgM v (la_sm r (fun j=>A i j * C j))→Ev (fun k=>F98.l3 k (vmat n A) x3 r x5 (vrow r C) x8 x9 (x10 ++ [v]) ((i:Int)+1)) R) :
  ∀ (d j:Nat),r - j=d→j≤r→∀ v,cgM v (la_sm j (fun j=>A i j * C j))→Ev (fun k=>F98.l4 k (vmat n A) x3 r x5 (vrow r C) x8 x9 x10 i v j) R:=by
 intro d
 induction d with
 | zero =>
  intro j hd hj v hv
  obtain rfl:j=r:=by omega
  refine Ev.step (fun q=>by simp only [F98.l4];rfl) ?_
  simp only [Int.lt_irrefl,if_false,h10,show i < 17592186044416 by omega,if_true,wI ((i:Int)+1) (by omega)]
  exact next v hv
 | succ d ih =>
  intro j hd hj v hv
  have hjr:j < r:=by omega
  refine Ev.step (fun q=>by simp only [F98.l4];rfl) ?_
  simp only [lI j r (by omega),zI' j,zI' i,vmat_length,lI i n (by omega),if_true,vmat_row (show i < n by omega),vrow_length,lI j n (by omega),vrow_rd (show j < n by omega),vrow_rd hjr,wI ((j:Int)+1) (by omega)]
  have h:=ih (j+1) (by omega) (by omega) (wrap64 (v+wrap64 (A i j * C j))) (cg_trans (cg_wrap _) (cg_add hv (cg_wrap _)))
  rw [show ((j+1:Nat):Int)=(j:Int)+1 by omega] at h
  exact h
theorem berk_l3 (n : Nat) (hn : n ≤ 1048575) (A : Nat → Nat → Int) (x3 x5 : List Int) (C : Nat → Int) (x8 : Int) (r : Nat) (hr : r < n) (h5 : x5.length < 17592186044416) (R : List Int)
  (next:∀ (v:Int) (C':Nat→Int),cgM v (la_sm r (fun j=>A r j * C j))→(∀ i,i < r→cgM (C' i) (la_sm r (fun j=>A i j * C j)))→Ev (fun k=>F98.l2 k (vmat n A) x3 r (x5 ++ [wrap64 (-v)]) (vrow r C') (wrap64 (x8+1))) R) :
  ∀ (d i:Nat),r - i=d→i≤r→∀ (v:Int) (C':Nat→Int),cgM v (la_sm i (fun j=>A r j * C j))→(∀ l,l < i→cgM (C' l) (la_sm r (fun j=>A l j * C j)))→Ev (fun k=>F98.l3 k (vmat n A) x3 r x5 (vrow r C) x8 v (vrow i C') i) R:=by
 intro d
 induction d with
 | zero =>
  intro i hd hi v C' hv hC
  obtain rfl:i=r:=by omega
  refine Ev.step (fun q=>by simp only [F98.l3];rfl) ?_
  simp only [Int.lt_irrefl,if_false,h5,if_true]
  exact next v C' hv hC
 | succ d ih =>
  intro i hd hi v C' hv hC
  have hir:i < r:=by omega
  refine Ev.step (fun q=>by simp only [F98.l3];rfl) ?_
  simp only [lI i r (by omega),zI' i,zI' r,vmat_length,lI r n (by omega),if_true,vmat_row hr,vrow_length,lI i n (by omega),vrow_rd (show i < n by omega),vrow_rd hir]
  refine berk_l4 n hn A x3 x5 (vrow i C') C x8 _ r i hr hir (vrow_length _ _) R (fun w hw=>?_) r 0 (by omega) (by omega) 0 (cg_refl _)
  have h:=ih (i+1) (by omega) (by omega) (wrap64 (v+wrap64 (A r i * C i))) (fun l=>if l < i then C' l else w) (cg_trans (cg_wrap _) (cg_add hv (cg_wrap _))) (fun l hl=>by
   by_cases e:l < i
   ·simp only [if_pos e];exact hC l e
   ·simp only [if_neg e]
    obtain rfl:l=i:=by omega
    exact hw)
  refine Ev.congr (fun q=>?_) h
  rw [show ((i+1:Nat):Int)=(i:Int)+1 by omega,← vrow_snoc]
  rw [if_neg (Nat.lt_irrefl i)]
  congr 2
  exact vrow_congr fun j hj=>by rw [if_pos hj]
theorem berk_l2 (n : Nat) (hn : n ≤ 1048575) (A : Nat → Nat → Int) (x3 : List Int) (r : Nat) (hr : r < n) (R : List Int)
  (next:∀ T:Nat→Int,(∀ j,j < r+2→cgM (T j) (la_turnB r A j))→Ev (fun k=>F98.l5 k (vmat n A) x3 r (vrow (r+2) T) (vrow (r+2) (fun _=>0)) 0) R) :
  ∀ (d k:Nat),r - k=d→k≤r→∀ (T C:Nat→Int),(∀ j,j < k+2→cgM (T j) (la_turnB r A j))→(∀ i,i < r→cgM (C i) (la_colp r A (fun i=>A i r) k i))→Ev (fun q=>F98.l2 q (vmat n A) x3 r (vrow (k+2) T) (vrow r C) k) R:=by
 intro d
 induction d with
 | zero =>
  intro k hd hk T C hT hC
  obtain rfl:k=r:=by omega
  refine Ev.step (fun q=>by simp only [F98.l2];rfl) ?_
  simp only [Int.lt_irrefl,if_false,wI ((k:Int)+2) (by omega),show (0:Int)≤(k:Int)+2 by omega,show ((k:Int)+2).toNat=k+2 by omega,show k+2≤35184372088832 by omega,if_true]
  rw [show List.replicate (k+2) (0:Int)=vrow (k+2) (fun _=>0) by
   apply List.ext_getElem
   ·simp [vrow]
   ·intro i _ _;simp [vrow]]
  exact next T hT
 | succ d ih =>
  intro k hd hk T C hT hC
  have hkr:k < r:=by omega
  refine Ev.step (fun q=>by simp only [F98.l2];rfl) ?_
  simp only [lI k r (by omega),if_true]
  have h:=berk_l3 n hn A x3 (vrow (k+2) T) C k r hr (by rw [vrow_length];omega) R (fun v C' hv hC'=>?_) r 0 (by omega) (by omega) 0 (fun _=>0) (cg_refl _) (fun l hl=>by omega)
  ·exact h
  ·have h:=ih (k+1) (by omega) (by omega) (fun j=>if j < k+2 then T j else wrap64 (-v)) C' (fun j hj=>by
    by_cases e:j < k+2
    ·simp only [if_pos e];exact hT j e
    ·simp only [if_neg e]
     obtain rfl:j=k+2:=by omega
     show cgM _ (-la_sm r (fun i=>A r i * la_colp r A (fun i=>A i r) k i))
     exact cg_trans (cg_wrap _) (cg_neg (cg_trans hv (cg_sm (fun i hi=>cg_mul (cg_refl _) (hC i hi)))))) (fun i hi=>by
    show cgM _ (la_sm r (fun j=>A i j * la_colp r A (fun i=>A i r) k j))
    exact cg_trans (hC' i hi) (cg_sm (fun j hj=>cg_mul (cg_refl _) (hC j hj))))
   refine Ev.congr (fun q=>?_) h
   rw [wI ((k:Int)+1) (by omega),show ((k+1:Nat):Int)=(k:Int)+1 by omega,show k+1+2=(k+2)+1 by omega,← vrow_snoc (k+2) (fun j=>if j < k+2 then T j else wrap64 (-v))]
   simp only [if_neg (Nat.lt_irrefl (k+2))]
   congr 2
   exact vrow_congr fun j hj=>by rw [if_pos hj]
theorem berk_l1 (n : Nat) (hn : n ≤ 1048575) (A : Nat → Nat → Int) (x3 x5 : List Int) (r : Nat) (hr : r < n) (R : List Int)
  (next:Ev (fun k=>F98.l2 k (vmat n A) x3 r x5 (vrow r (fun i=>A i r)) 0) R) :
  ∀ (d i:Nat),r - i=d→i≤r→Ev (fun k=>F98.l1 k (vmat n A) x3 r x5 (vrow i (fun i=>A i r)) i) R:=by
 intro d
 induction d with
 | zero =>
  intro i hd hi
  obtain rfl:i=r:=by omega
  refine Ev.step (fun q=>by simp only [F98.l1];rfl) ?_
  simp only [Int.lt_irrefl,if_false]
  exact next
 | succ d ih =>
  intro i hd hi
  have hir:i < r:=by omega
  refine Ev.step (fun q=>by simp only [F98.l1];rfl) ?_
  simp only [lI i r (by omega),zI' i,zI' r,vmat_length,lI i n (by omega),lI r n (by omega),if_true,vmat_row (show i < n by omega),vrow_length,show i < 17592186044416 by omega,vrow_rd hr,wI ((i:Int)+1) (by omega)]
  have h:=ih (i+1) (by omega) (by omega)
  rw [show ((i+1:Nat):Int)=(i:Int)+1 by omega,← vrow_snoc] at h
  exact h
def btS (r:Nat) (A:Nat→Nat→Int) (m:Nat) (j:Nat):Int:=la_sm j (fun l=>la_turnB r A (m - l) * la_cp r A l)
theorem berk_l6 (n : Nat) (hn : n ≤ 1048575) (A : Nat → Nat → Int) (r i : Nat) (hr : r < n) (hi : i < r + 2) (c T : Nat → Int) (hT : ∀ j, j < r + 2 → cgM (T j) (la_turnB r A j)) (hc : ∀ l, l ≤ r → cgM (c l) (la_cp r A l)) (R : List Int)
  (next:∀ M:Nat→Int,(∀ m,m≤i→cgM (M m) (la_cp (r+1) A m))→(∀ m,i < m→M m=0)→(∀ m,-9223372036854775808≤M m∧M m≤9223372036854775807)→Ev (fun k=>F98.l5 k (vmat n A) (vrow (r+1) c) r (vrow (r+2) T) (vrow (r+2) M) ((i:Int)+1)) R) :
  ∀ (d j:Nat),r+1 - j=d→j≤i+1→j≤r+1→∀ M:Nat→Int,(∀ m,m < i→cgM (M m) (la_cp (r+1) A m))→cgM (M i) (btS r A i j)→(∀ m,i < m→M m=0)→(∀ m,-9223372036854775808≤M m∧M m≤9223372036854775807)→Ev (fun k=>F98.l6 k (vmat n A) (vrow (r+1) c) r (vrow (r+2) T) (vrow (r+2) M) i j) R:=by
 have fin:∀ j,j≤i+1→(j=i+1∨j=r+1)→btS r A i j=la_cp (r+1) A i:=by
  intro j hj1 hj
  rw [la_cp_berkowitz r A i (by omega)]
  rcases hj with rfl|rfl
  ·rfl
  ·unfold btS
   refine (la_sm_ext (by omega) (fun l h1 h2=>?_)).symm
   rw [show la_cp r A l=0 from la_dc_top _ _ l (by omega)];simp
 have nx:∀ j,j≤i+1→(j=i+1∨j=r+1)→∀ M:Nat→Int,(∀ m,m < i→cgM (M m) (la_cp (r+1) A m))→cgM (M i) (btS r A i j)→(∀ m,i < m→M m=0)→(∀ m,-9223372036854775808≤M m∧M m≤9223372036854775807)→Ev (fun k=>F98.l5 k (vmat n A) (vrow (r+1) c) r (vrow (r+2) T) (vrow (r+2) M) ((i:Int)+1)) R:=by
  intro j hj1 hj M h1 h2 h3 h4
  refine next M (fun m hm=>?_) h3 h4
  by_cases e:m=i
  ·subst e;rw [← fin j hj1 hj];exact h2
  ·exact h1 m (by omega)
 intro d
 induction d with
 | zero =>
  intro j hd hj1 hj2 M h1 h2 h3 h4
  obtain rfl:j=r+1:=by omega
  refine Ev.step (fun q=>by simp only [F98.l6];rfl) ?_
  simp only [vrow_length,Int.lt_irrefl,if_false,wI ((i:Int)+1) (by omega)]
  exact nx _ hj1 (Or.inr rfl) M h1 h2 h3 h4
 | succ d ih =>
  intro j hd hj1 hj2 M h1 h2 h3 h4
  have hjr:j < r+1:=by omega
  refine Ev.step (fun q=>by simp only [F98.l6];rfl) ?_
  by_cases hji:j≤i
  ·simp only [vrow_length, show ((j : Int) < ((r + 1 : Nat) : Int)) by omega, show ((j : Int) ≤ (i : Int)) by omega, zI' i, show ((i : Int) < ((r + 2 : Nat) : Int)) by omega, zI' j, if_true, show (i : Int) - (j : Int) = ((i - j : Nat) : Int) by omega, w64 (show -9223372036854775808 ≤ ((i - j : Nat) : Int) by omega) (by omega), show (0 : Int) ≤ ((i - j : Nat) : Int) by omega, show ((i - j : Nat) : Int) < ((r + 2 : Nat) : Int) by omega, vrow_rd hi, vrow_rd hjr, vrow_rd (show i - j < r + 2 by omega), Int.toNat_natCast, wI ((j : Int) + 1) (by omega)]
   rw [vrow_set]
   have h:=ih (j+1) (by omega) (by omega) (by omega) (fun m=>if m=i then wrap64 (M i+wrap64 (T (i - j) * c j)) else M m) (fun m hm=>by simp only [if_neg (show m ≠ i by omega)];exact h1 m hm) (by
    simp only [if_true]
    show cgM _ (btS r A i j+la_turnB r A (i - j) * la_cp r A j)
    exact cg_trans (cg_wrap _) (cg_add h2 (cg_trans (cg_wrap _) (cg_mul (hT _ (by omega)) (hc _ (by omega)))))) (fun m hm=>by simp only [if_neg (show m ≠ i by omega)];exact h3 m hm) (fun m=>by
    by_cases e:m=i
    ·simp only [if_pos e];exact wrap_range _
    ·simp only [if_neg e];exact h4 m)
   rw [show ((j+1:Nat):Int)=(j:Int)+1 by omega] at h
   exact h
  ·simp only [vrow_length, show ((j : Int) < ((r + 1 : Nat) : Int)) by omega, show ¬ ((j : Int) ≤ (i : Int)) by omega, if_true, if_false, wI ((i : Int) + 1) (by omega)]
   exact nx j hj1 (Or.inl (by omega)) M h1 h2 h3 h4
theorem berk_l5 (n : Nat) (hn : n ≤ 1048575) (A : Nat → Nat → Int) (r : Nat) (hr : r < n) (c T : Nat → Int) (hT : ∀ j, j < r + 2 → cgM (T j) (la_turnB r A j)) (hc : ∀ l, l ≤ r → cgM (c l) (la_cp r A l)) (R : List Int)
  (next:∀ M:Nat→Int,(∀ m,m≤r+1→cgM (M m) (la_cp (r+1) A m))→(∀ m,-9223372036854775808≤M m∧M m≤9223372036854775807)→Ev (fun k=>F98.l0 k (vmat n A) (vrow (r+2) M) ((r:Int)+1)) R) :
  ∀ (d i:Nat),r+2 - i=d→i≤r+2→∀ M:Nat→Int,(∀ m,m < i→cgM (M m) (la_cp (r+1) A m))→(∀ m,i≤m→M m=0)→(∀ m,-9223372036854775808≤M m∧M m≤9223372036854775807)→Ev (fun k=>F98.l5 k (vmat n A) (vrow (r+1) c) r (vrow (r+2) T) (vrow (r+2) M) i) R:=by
 intro d
 induction d with
 | zero =>
  intro i hd hi M h1 h3 h4
  obtain rfl:i=r+2:=by omega
  refine Ev.step (fun q=>by simp only [F98.l5];rfl) ?_
  simp only [vrow_length,Int.lt_irrefl,if_false,wI ((r:Int)+1) (by omega)]
  exact next M (fun m hm=>h1 m (by omega)) h4
 | succ d ih =>
  intro i hd hi M h1 h3 h4
  have hir:i < r+2:=by omega
  refine Ev.step (fun q=>by simp only [F98.l5];rfl) ?_
  simp only [vrow_length,show ((i:Int) < ((r+2:Nat):Int)) by omega,if_true]
  refine berk_l6 n hn A r i hr hir c T hT hc R (fun M' g1 g3 g4=>?_) (r+1) 0 (by omega) (by omega) (by omega) M h1 (by rw [h3 i (by omega)];exact cg_refl _) (fun m hm=>h3 m (by omega)) h4
  have h:=ih (i+1) (by omega) (by omega) M' (fun m hm=>g1 m (by omega)) (fun m hm=>g3 m (by omega)) g4
  rw [show ((i+1:Nat):Int)=(i:Int)+1 by omega] at h
  exact h
theorem berk_l0 (n : Nat) (hn : n ≤ 1048574) (A : Nat → Nat → Int) : ∀ (d r : Nat), n - r = d → r ≤ n → ∀ c : Nat → Int, (∀ l, l ≤ r → cgM (c l) (la_cp r A l)) → (∀ m, -9223372036854775808 ≤ c m ∧ c m ≤ 9223372036854775807) →
  Ev (fun k=>F98.l0 k (vmat n A) (vrow (r+1) c) r) (trimN (vrow (n+1) (fun l=>wrap64 (la_cp n A l))) (n+1)):=by
 intro d
 induction d with
 | zero =>
  intro r hd hr c hc hw
  obtain rfl:r=n:=by omega
  refine Ev.step (fun q=>by simp only [F98.l0];rfl) ?_
  simp only [vmat_length,Int.lt_irrefl,if_false]
  refine Ev.bind (a:=trimN (vrow (r+1) (fun l=>wrap64 (la_cp r A l))) (r+1)) ?_ (Ev.now _)
  have h:=l01Trim_ev (vrow (r+1) c) (by rw [vrow_length];omega)
  rw [vrow_length] at h
  rw [show vrow (r+1) (fun l=>wrap64 (la_cp r A l))=vrow (r+1) c from vrow_congr fun l hl=>(wrap_of_cg (cg_symm (hc l (by omega))) (hw l))]
  exact h
 | succ d ih =>
  intro r hd hr c hc hw
  have hrn:r < n:=by omega
  refine Ev.step (fun q=>by simp only [F98.l0];rfl) ?_
  simp only [vmat_length,lI r n (by omega),zI' r,if_true,vmat_row hrn,vrow_length,vrow_rd hrn]
  refine berk_l1 n (by omega) A _ _ r hrn _ ?_ r 0 (by omega) (by omega)
  have h:=berk_l2 n (by omega) A (vrow (r+1) c) r hrn (trimN (vrow (n+1) (fun l=>wrap64 (la_cp n A l))) (n+1)) (fun T hT=>?_) r 0 (by omega) (by omega) (fun j=>if j=0 then 1 else wrap64 (-A r r)) (fun i=>A i r) (fun j hj=>by
   by_cases e:j=0
   ·subst e;simp only [if_true];exact cg_refl _
   ·obtain rfl : j = 1 := by omega
    simp only [if_neg (show ¬ (1=0) by omega)]
    exact cg_wrap _) (fun i _=>cg_refl _)
  ·exact h
  ·refine berk_l5 n (by omega) A r hrn c T hT hc _ (fun M g1 g4 => ?_) (r + 2) 0 (by omega) (by omega) (fun _ => 0) (fun m hm => by omega) (fun _ _ => rfl) (fun _ => by omega)
   have h:=ih (r+1) (by omega) (by omega) M (fun l hl=>g1 l hl) g4
   rw [show ((r+1:Nat):Int)=(r:Int)+1 by omega] at h
   exact h
theorem berkowitz_ev (n:Nat) (hn:n≤1048574) (A:Nat→Nat→Int):Ev (fun k=>F98.f k (vmat n A)) (trimN (vrow (n+1) (fun l=>wrap64 (la_cp n A l))) (n+1)):=by
 unfold F98.f
 exact berk_l0 n hn A n 0 (by omega) (by omega) (fun _=>1) (fun l hl=>by
  obtain rfl:l=0:=by omega
  rw [la_cp_zero];exact cg_refl _) (fun _=>by omega)
/-- The edge matrix, by its places. -/
def eA (l:List (List Int)) (e f:Nat):Int:=if next l e f=true then 1 else 0
theorem edgeM_vmat (l:List (List Int)):edgeM l=vmat (2 * l.length) (eA l):=by
 unfold edgeM vmat
 apply List.map_congr_left
 intro e _
 unfold mrow vrow
 apply List.map_congr_left
 intro f hf
 have hf':f < 2 * l.length:=List.mem_range.mp hf
 unfold eA
 simp [hf']
theorem opp_lt {n:Nat} {l:List (List Int)} (hl:n=2 * l.length) {e:Nat} (he:e < n):opp e < n:=by unfold opp;split<;>omega
theorem begAt_opp (l:List (List Int)) (e:Nat):begAt l (opp e)=endAt l e:=by
 unfold begAt endAt opp
 rcases Nat.mod_two_eq_zero_or_one e with h|h
 ·rw [if_pos h,show (e+1) / 2=e / 2 by omega,show (e+1) % 2=1 - e % 2 by omega]
 ·rw [if_neg (by omega),show (e - 1) / 2=e / 2 by omega,show (e - 1) % 2=1 - e % 2 by omega]
theorem eA_eq (l:List (List Int)) (e f:Nat):eA l e f=(if begAt l f=endAt l e then 1 else 0) - la_ee (opp e) f:=by
 unfold eA next la_ee
 by_cases h1:f=opp e
 ·subst h1
  rw [begAt_opp];simp
 ·by_cases h2 : begAt l f = endAt l e
  ·simp [h1,h2]
  ·simp [h1,h2,Ne.symm h2]
theorem ab_eA (l:List (List Int)) (e f:Nat):la_ab (eA l e f)=eA l e f:=by unfold eA;split<;>rfl
theorem ee_nonneg (j b:Nat):0≤la_ee j b:=by unfold la_ee;split<;>omega
theorem sm_ee_le (n j:Nat):la_sm n (la_ee j)≤1:=by
 by_cases h:j < n
 ·rw [la_sm_single j h (fun i _ hne=>la_ee_ne hne),la_ee_self];omega
 ·rw [la_sm_zero (fun i hi=>la_ee_ne (by omega))];omega
theorem sm_one_le {n:Nat} {f:Nat→Int} (h0:∀ a,a < n→0≤f a) (h1:∀ a,a < n→f a≤1) (h:∀ a b,a < b→b < n→f a=0∨f b=0):la_sm n f≤1:=by
 induction n with
 | zero=>simp [la_sm]
 | succ n ih =>
  simp only [la_sm]
  by_cases e:f n=0
  ·have:=ih (fun a ha=>h0 a (by omega)) (fun a ha=>h1 a (by omega)) (fun a b ha hb=>h a b ha (by omega));omega
  ·rw [la_sm_zero (fun i hi => (h i n hi (by omega)).resolve_right e)]
   have:=h1 n (by omega);omega
theorem pr_two (p:Nat→Prop) [DecidablePred p] (n:Nat):∃ c:Nat,(c:Int)=la_sm n (fun a=>if p a then 1 else 0)∧la_pr n (fun a=>if p a then 20 else 4)=4 ^ n * 5 ^ c:=by
 induction n with
 | zero=>exact ⟨0,rfl,rfl⟩
 | succ n ih =>
  obtain ⟨c,h1,h2⟩:=ih
  by_cases h:p n
  ·refine ⟨c + 1, ?_, ?_⟩
   ·simp only [la_sm,if_pos h];omega
   ·simp only [la_pr,if_pos h,h2,Int.pow_succ];grind
  ·refine ⟨c, ?_, ?_⟩
   ·simp only [la_sm,if_neg h];omega
   ·simp only [la_pr,if_neg h,h2,Int.pow_succ];grind
def isRep (l:List (List Int)) (a:Nat):Prop:=∀ e,e < a→endAt l e ≠ endAt l a
instance (l:List (List Int)):DecidablePred (isRep l):=fun _=>inferInstanceAs (Decidable (∀ e,e < _→_))
theorem rep_ex (l:List (List Int)) (a:Nat):∃ r,(isRep l a→r=a)∧(¬ isRep l a→r < a∧isRep l r∧endAt l r=endAt l a):=by
 induction a using Nat.strongRecOn with
 | _ a ih =>
  by_cases h:isRep l a
  ·exact ⟨a,fun _=>rfl,fun h2=>absurd h h2⟩
  ·have:∃ e,e < a∧endAt l e=endAt l a:=by
    apply Classical.byContradiction
    intro hc
    exact h (fun e he h2=>hc ⟨e,he,h2⟩)
   obtain ⟨e,he,h2⟩:=this
   obtain ⟨r,hr1,hr2⟩:=ih e he
   by_cases h3:isRep l e
   ·exact ⟨e,fun h4=>absurd h4 h,fun _=>⟨he,h3,h2⟩⟩
   ·obtain ⟨g1, g2, g3⟩ := hr2 h3
    exact ⟨r,fun h4=>absurd h4 h,fun _=>⟨by omega,g2,g3.trans h2⟩⟩
theorem edge_norm (l : List (List Int)) (hl : l.length ≤ 10) (hE : ∀ e, e < 2 * l.length → ∃ v : Nat, endAt l e = v ∧ v < 8) (k : Nat) (hk : k ≤ 2 * l.length) :
  la_ab (la_cp (2 * l.length) (eA l) k)≤429496729600000000:=by
 obtain ⟨rep,hrep⟩:=Classical.axiomOfChoice (rep_ex l)
 generalize hn:2 * l.length=n at hE hk ⊢
 have hn20:n≤20:=by omega
 let x:Nat→Int:=fun a=>if isRep l a then 0 else -1
 let P:Nat→Nat→Int:=fun a b=>la_ee a b+x a * la_ee (rep a) b
 let Q:Nat→Nat→Int:=fun a b=>la_ng (eA l) a b+x a * la_ng (eA l) (rep a) b
 have hdc:∀ k,k≤n→la_cp n (eA l) k=la_dc n P Q k:=by
  intro k hk
  refine la_pv_inj (n:=n) (fun u _=>?_) k hk
  show la_pv n (la_dc n (fun a b=>la_ee a b) (la_ng (eA l))) u=_
  rw [← la_det_pv,← la_det_pv,← la_det_rows_mix (fun a b=>la_ee a b+u * la_ng (eA l) a b) rep x (fun a ha hx=>?_)]
  ·refine la_det_congr (fun a b _ _ => ?_)
   show _=(la_ee a b+x a * la_ee (rep a) b)+u * (la_ng (eA l) a b+x a * la_ng (eA l) (rep a) b)
   grind
  ·have h1 : ¬ isRep l a := fun h => hx (if_pos h)
   obtain ⟨g1,g2,g3⟩:=(hrep a).2 h1
   exact ⟨by omega,by omega,if_pos g2⟩
 have hrow:∀ a,a < n→la_sm n (fun b=>la_ab (P a b)+la_ab (Q a b))≤if isRep l a then 20 else 4:=by
  intro a ha
  by_cases h:isRep l a
  ·rw [if_pos h]
   have e:la_sm n (fun b=>la_ab (P a b)+la_ab (Q a b))=la_sm n (la_ee a)+la_sm n (fun b=>eA l a b):=by
    rw [← la_sm_add]
    refine la_sm_congr (fun b _=>?_)
    have hx:x a=0:=if_pos h
    show la_ab (la_ee a b+x a * la_ee (rep a) b)+la_ab (la_ng (eA l) a b+x a * la_ng (eA l) (rep a) b)=_
    rw [hx,Int.zero_mul,Int.zero_mul,Int.add_zero,Int.add_zero]
    congr 1
    ·unfold la_ee la_ab;split<;>rfl
    ·unfold la_ng
     rw [← ab_eA]
     unfold la_ab;omega
   rw [e]
   have h1:=sm_ee_le n a
   have h2:la_sm n (fun b=>eA l a b)≤la_sm n (fun b=>1 - la_ee (opp a) b):=la_sm_le (fun b _=>by
    rw [eA_eq];split<;>omega)
   rw [la_sm_sub,la_sm_single (n:=n) (f:=la_ee (opp a)) (opp a) (opp_lt hn.symm ha) (fun i _ hne=>la_ee_ne hne),la_ee_self] at h2
   have h3:∀ m:Nat,la_sm m (fun _=>(1:Int))=m:=by
    intro m
    induction m with
    | zero=>rfl
    | succ m ih=>simp only [la_sm,ih];omega
   rw [h3] at h2
   omega
  ·rw [if_neg h]
   obtain ⟨g1,g2,g3⟩:=(hrep a).2 h
   have hx:x a=-1:=if_neg h
   have e:la_sm n (fun b=>la_ab (P a b)+la_ab (Q a b))≤la_sm n (fun b=>(la_ee a b+la_ee (rep a) b)+(la_ee (opp a) b+la_ee (opp (rep a)) b)):=by
    refine la_sm_le (fun b _=>?_)
    show la_ab (la_ee a b+x a * la_ee (rep a) b)+la_ab (la_ng (eA l) a b+x a * la_ng (eA l) (rep a) b)≤_
    rw [hx]
    unfold la_ng
    rw [eA_eq,eA_eq,g3]
    have:=ee_nonneg a b
    have:=ee_nonneg (rep a) b
    have:=ee_nonneg (opp a) b
    have:=ee_nonneg (opp (rep a)) b
    generalize la_ee a b=e1 at *
    generalize la_ee (rep a) b=e2 at *
    generalize la_ee (opp a) b=e3 at *
    generalize la_ee (opp (rep a)) b=e4 at *
    generalize (if begAt l b=endAt l a then (1:Int) else 0)=z
    unfold la_ab
    omega
   rw [la_sm_add n (fun b=>la_ee a b+la_ee (rep a) b) (fun b=>la_ee (opp a) b+la_ee (opp (rep a)) b),la_sm_add n (la_ee a) (la_ee (rep a)),la_sm_add n (la_ee (opp a)) (la_ee (opp (rep a)))] at e
   have:=sm_ee_le n a
   have:=sm_ee_le n (rep a)
   have:=sm_ee_le n (opp a)
   have:=sm_ee_le n (opp (rep a))
   omega
 obtain ⟨c,hc1,hc2⟩:=pr_two (isRep l) n
 have hc8:c≤8:=by
  have h1:la_sm n (fun a=>if isRep l a then (1:Int) else 0)=la_sm n (fun a=>la_sm 8 (fun v=>if isRep l a∧endAt l a=(v:Int) then 1 else 0)):=by
   refine la_sm_congr (fun a ha=>?_)
   obtain ⟨v,hv1,hv2⟩:=hE a ha
   rw [la_sm_single v hv2 (fun i _ hne=>if_neg (fun h2=>hne (by have:=h2.2;omega)))]
   by_cases h:isRep l a
   ·rw [if_pos h,if_pos ⟨h,hv1⟩]
   ·rw [if_neg h,if_neg (fun h2=>h h2.1)]
  rw [la_sm_swap] at h1
  have h2:la_sm 8 (fun v=>la_sm n (fun a=>if isRep l a∧endAt l a=(v:Int) then (1:Int) else 0))≤la_sm 8 (fun _=>1):=la_sm_le (fun v _=>sm_one_le (fun a _=>by split<;>omega) (fun a _=>by split<;>omega) (fun a b hab hb=>by
   by_cases h:isRep l b∧endAt l b=(v:Int)
   ·left
    rw [if_neg]
    rintro ⟨h3,h4⟩
    exact h.1 a hab (h4.trans h.2.symm)
   ·right;exact if_neg h))
  have h3:la_sm 8 (fun _=>(1:Int))=8:=rfl
  omega
 have hb:=la_dc_bound (n:=n) P Q
 have h1:=la_ab_le_sm (n:=n+1) (la_dc n P Q) k (by omega)
 have h2:la_pr n (fun a=>la_sm n (fun b=>la_ab (P a b)+la_ab (Q a b)))≤la_pr n (fun a=>if isRep l a then 20 else 4) :=
  la_pr_le (fun a _=>la_sm_nonneg (fun b _=>by have:=la_ab_nonneg (P a b);have:=la_ab_nonneg (Q a b);omega)) hrow
 rw [hc2] at h2
 have h4:(4:Int) ^ n * 5 ^ c≤4 ^ 20 * 5 ^ 8:=by
  have p4:(4:Int) ^ n≤4 ^ 20:=by
   have:=Nat.pow_le_pow_right (n:=4) (by omega) hn20
   exact_mod_cast this
  have p5:(5:Int) ^ c≤5 ^ 8:=by
   have:=Nat.pow_le_pow_right (n:=5) (by omega) hc8
   exact_mod_cast this
  have q5:(0:Int)≤5 ^ c:=by
   have:(0:Nat)≤5 ^ c:=Nat.zero_le _
   exact_mod_cast this
  exact Int.mul_le_mul p4 p5 q5 (by decide)
 rw [hdc k hk]
 have h5:(4:Int) ^ 20 * 5 ^ 8=429496729600000000:=by decide
 omega
theorem isG_endAt {a:Int} {l:List (List Int)} (h:isG a l=true) (e:Nat) (he:e < 2 * l.length):∃ v:Nat,endAt l e=v∧v < 8:=by
 obtain ⟨n,_,_,hn8,hE⟩:=isG_ends h
 obtain ⟨u,v,_,hv,_,hvn⟩:=dart_ends hE e he
 exact ⟨v,hv,by omega⟩
theorem isG_cp {a:Int} {l:List (List Int)} (h:isG a l=true) (k:Nat) (hk:k≤2 * l.length):-429496729600000000≤la_cp (2 * l.length) (eA l) k∧la_cp (2 * l.length) (eA l) k≤429496729600000000:=by
 have:=edge_norm l (isG_len h) (isG_endAt h) k hk
 unfold la_ab at this
 omega
theorem isG_cpk {a:Int} {l:List (List Int)} (h:isG a l=true) (k:Nat) (_:1≤k) (hk:k≤2 * l.length):-9223372036854775807≤(k:Int) * la_cp (2 * l.length) (eA l) k∧(k:Int) * la_cp (2 * l.length) (eA l) k≤9223372036854775807:=by
 have h1:=isG_cp h k hk
 have hl:=isG_len h
 have hk20:(k:Int)≤20:=by omega
 generalize la_cp (2 * l.length) (eA l) k=c at h1
 have h2:(k:Int) * c≤k * 429496729600000000:=Int.mul_le_mul_of_nonneg_left h1.2 (by omega)
 have h3:(k:Int) * (-429496729600000000)≤k * c:=Int.mul_le_mul_of_nonneg_left h1.1 (by omega)
 omega
theorem reciprocal_ev (a:Int) (l:List (List Int)) (h:isG a l=true):Ev (fun k=>F56.f k a l) (trimN (cpL (2 * l.length) (eA l)) (2 * l.length+1)):=by
 have hl:=isG_len h
 unfold F56.f
 refine Ev.bind (edgeMatrix_ev a l hl (isG_two h)) ?_
 rw [edgeM_vmat]
 exact Ev.bind (determinant_ev (2 * l.length) (by omega) (eA l) (isG_cpk h)) (Ev.now _)
theorem tmod_nn {x p:Int} (h:0≤x):Int.tmod x p=x % p:=Int.tmod_eq_emod_of_nonneg h
theorem eA_rng (l:List (List Int)) (e f:Nat):0≤eA l e f∧eA l e f≤1:=by unfold eA;split<;>omega
/-- Numbers 0 at the end don't matter to what is trimmed. -/
theorem trimN_vrow (c:Nat→Int):∀ (d m:Nat),(∀ k,m < k→c k=0)→trimN (vrow (m+d+1) c) (m+d+1)=trimN (vrow (m+1) c) (m+1):=by
 intro d
 induction d with
 | zero=>intro m _;rfl
 | succ d ih =>
  intro m hz
  rw [← ih m hz]
  have h0:rd (vrow (m+(d+1)+1) c) ((m+(d+1):Nat):Int)=0:=by rw [vrow_rd (by omega)];exact hz _ (by omega)
  show (if rd (vrow (m+(d+1)+1) c) ((m+(d+1):Nat):Int)=0 then trimN (vrow (m+(d+1)+1) c) (m+(d+1)) else _)=_
  rw [if_pos h0]
  have key:∀ k,k≤m+d+1→trimN (vrow (m+(d+1)+1) c) k=trimN (vrow (m+d+1) c) k:=by
   intro k
   induction k with
   | zero=>intro _;rfl
   | succ k ihk =>
    intro hk
    show (if rd (vrow (m+(d+1)+1) c) (k:Int)=0 then trimN (vrow (m+(d+1)+1) c) k else (vrow (m+(d+1)+1) c).take (k+1))=(if rd (vrow (m+d+1) c) (k:Int)=0 then trimN (vrow (m+d+1) c) k else (vrow (m+d+1) c).take (k+1))
    rw [vrow_rd (by omega),vrow_rd (by omega),ihk (by omega),vrow_take (by omega),vrow_take (by omega)]
  exact key _ (by omega)
theorem and30 (X:Int):0≤Go.bits .and .u64 X 1073741823∧Go.bits .and .u64 X 1073741823≤1073741823:=by
 have h:(BitVec.ofInt 64 X &&& BitVec.ofInt 64 1073741823).toNat≤1073741823:=by
  rw [BitVec.toNat_and]
  exact Nat.and_le_right
 have e:Go.bits .and .u64 X 1073741823=IntKind.u64.wrap ((BitVec.ofInt 64 X &&& BitVec.ofInt 64 1073741823).toNat:Int):=rfl
 rw [e,IntKind.wrap_u64]
 omega
/-- What the code of a draw holds: bytes. -/
def bytesOK (s:List Int):Prop:=s.length≤maxLen∧∀ x ∈ s,0≤x∧x≤255
theorem next_ev {s:List Int} (hs:bytesOK s) (t h n:Int) (ht:0≤t∧t≤s.length):∃ x t' h',F60.f s t h n=some (x,t',h')∧(0≤t'∧t'≤s.length)∧(n < 1→x=0)∧(1≤n→0≤x∧x < n):=by
 have hm:s.length≤9223372036854775807:=hs.1
 unfold F60.f
 by_cases h1:n < 1
 ·rw [if_pos h1]
  exact ⟨0,t,h,rfl,ht,fun _=>rfl,fun h2=>by omega⟩
 ·rw [if_neg h1]
  generalize (IntKind.u64.wrap ((IntKind.u64.wrap (h * 6364136223846793005))+1442695040888963407))=h'
  obtain ⟨a0,a1⟩:=and30 (h' / 2147483648)
  generalize Go.bits .and .u64 (h' / 2147483648) 1073741823=y at a0 a1 ⊢
  rw [w64 (n:=y) (by omega) (by omega)]
  by_cases h2:t < (s.length:Int)
  ·obtain ⟨i, rfl⟩ : ∃ i : Nat, t = i := ⟨t.toNat, by omega⟩
   have hi:i < s.length:=by omega
   have hb:=hs.2 s[i] (List.getElem_mem hi)
   rw [if_pos h2,if_pos ht.1,if_neg (by omega),rd_nat s i hi,w64 (n:=s[i]) (by omega) (by omega),w64 (n:=y+s[i]) (by omega) (by omega),w64 (n:=(i:Int)+1) (by omega) (by omega),tmod_nn (by omega)]
   exact ⟨_,_,_,rfl,⟨by omega,by omega⟩,fun h3=>absurd h3 h1,fun h3=>⟨Int.emod_nonneg _ (by omega),Int.emod_lt_of_pos _ (by omega)⟩⟩
  ·rw [if_neg h2, if_neg (by omega), tmod_nn a0]
   exact ⟨_,_,_,rfl,ht,fun h3=>absurd h3 h1,fun h3=>⟨Int.emod_nonneg _ (by omega),Int.emod_lt_of_pos _ (by omega)⟩⟩
theorem pick_ev {s:List Int} (hs:bytesOK s) (t h:Int) (l:List Int) (hl:0 < l.length) (ht:0≤t∧t≤s.length):∃ x t' h',F67.f s t h l=some (x,t',h')∧(0≤t'∧t'≤s.length)∧x ∈ l:=by
 obtain ⟨x,t',h',e,h1,_,h2⟩:=next_ev hs t h (l.length:Int) ht
 have h2:=h2 (by omega)
 obtain ⟨i,rfl⟩:∃ i:Nat,x=i:=⟨x.toNat,by omega⟩
 unfold F67.f
 rw [e,Option.bind_some]
 simp only [h2.1,h2.2,if_true]
 refine ⟨_,_,_,rfl,h1,?_⟩
 rw [rd_nat l i (by omega)]
 exact List.getElem_mem _
/-- A drawn graph: few edges, short rows. -/
def drawOK (m r:Nat) (l:List (List Int)):Prop:=l.length≤m∧∀ x ∈ l,x.length≤r
theorem drawOK_snoc {m r:Nat} {l:List (List Int)} (h:drawOK m r l) (hl:l.length < m) (x:List Int) (hx:x.length≤r):drawOK m r (l ++ [x]) :=
 ⟨by rw [List.length_append];show _+1≤_;omega,fun y hy=>by
  rcases List.mem_append.1 hy with hy|hy
  ·exact h.2 y hy
  ·rw [List.mem_singleton.1 hy];exact hx⟩
theorem drawOK_small {l:List (List Int)} (h:drawOK 11 3 l):l.length≤1048576∧∀ x ∈ l,x.length≤1048576:=⟨Nat.le_trans h.1 (by decide),fun x hx=>Nat.le_trans (h.2 x hx) (by decide)⟩
theorem drawOK_more {l:List (List Int)} (h:drawOK 10 2 l):drawOK 11 3 l:=⟨Nat.le_trans h.1 (by decide),fun x hx=>Nat.le_trans (h.2 x hx) (by decide)⟩
/-- What a draw of a graph answers. -/
def GraphDrawn (m r:Nat) (s:List Int) (f:Nat→Option (Int × (List (List Int)) × Int × Int)):Prop:=∃ (a:Int) (l:List (List Int)) (t h:Int),Ev f (a,l,t,h)∧drawOK m r l∧0≤t∧t≤s.length
theorem GraphDrawn.step_ {m r:Nat} {s:List Int} {g f:Nat→Option (Int × (List (List Int)) × Int × Int)} (h:∀ k,g (k+1)=f k) (H:GraphDrawn m r s f):GraphDrawn m r s g:=by
 obtain ⟨a,l,t,h',e,r⟩:=H
 exact ⟨a,l,t,h',Ev.step h e,r⟩
end Go.Proofs.Ytgjdbnipcpmhiaa.P
/- Set with little white space, by a program. -/
