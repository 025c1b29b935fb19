/- Plain lemmas on the Lean functions that FnEdgeValues reaches, and its pure statement. No condition. -/
import Derived.Test.YtapnggjaeehpdaaALib
namespace Go.Proofs.Ytapnggjaeehpdaa.A
open Go.RowKit Go.Proofs.bB.dI Go.Proofs.bB.ark Go.Proofs.bB.jd
set_option linter.unusedVariables false
set_option linter.unusedSimpArgs false
/-- What the rows hold while they are solved: the first c columns are units, the right half times the rows M is the left half, and the number det is what the determinant has lost. -/
structure GI (p:Int) (n:Nat) (M:Nat→Nat→Int) (c:Nat) (T:Nat→Nat→Int) (bX:Int):Prop where
 wg:∀ i j,i < n→j < n+n→0≤T i j∧T i j < p
 CR:∀ i j,i < n→j < c→T i j=aqE j i
 inv:∀ i j,i < n→j < n→p ∣ T i j - ax n (fun k=>T i (n+k) * M k j)
 dr:0 < bX∧bX < p
 dt:p ∣ bX * aE n T - aE n M
theorem uz (p x:Int):p ∣ x % p - x:=⟨-(x / p),by have:=Int.mul_ediv_add_emod x p;rw [Int.mul_neg];omega⟩
theorem D9 (p x:Int):p ∣ x - x % p:=⟨x / p,by have:=Int.mul_ediv_add_emod x p;omega⟩
theorem oa {p a b c:Int} (h1:p ∣ a - b) (h2:p ∣ b - c):p ∣ a - c:=by
 have:=Int.dvd_add h1 h2
 rwa [show a - b+(b - c)=a - c by omega] at this
theorem Hz {p a b:Int} (h1:p ∣ a - b):p ∣ b - a:=by
 have:=Int.dvd_neg.2 h1
 rwa [show -(a - b)=b - a by omega] at this
theorem Hy {p a b:Int} (x:Int) (h:p ∣ a - b):p ∣ x * a - x * b:=by
 obtain ⟨q,h⟩:=h
 exact ⟨x * q,by grind⟩
theorem Ek {p a b:Int} (h:p ∣ a - b) (ha:0≤a∧a < p) (hb:0≤b∧b < p):a=b:=by
 obtain ⟨q,h⟩:=h
 have:q=0:=by
  rcases Int.lt_trichotomy q 0 with h1|h1|h1
  ·have : p * q ≤ p * (-1) := Int.mul_le_mul_of_nonneg_left (by omega) (by omega)
   omega
  ·exact h1
  ·have : p * 1 ≤ p * q := Int.mul_le_mul_of_nonneg_left (by omega) (by omega)
   omega
 subst this;omega
/-- A product of two numbers, one of which has an inverse. -/
theorem ahD {p a b v:Int} (hv:(b * v) % p=1) (hp:1 < p) (ha:0 < a∧a < p):0 < (a * b) % p:=by
 have h0:=Int.emod_nonneg (a * b) (show p ≠ 0 by omega)
 rcases Int.lt_or_eq_of_le h0 with h|h
 ·exact h
 ·exfalso
  obtain ⟨q,hq⟩:=Int.dvd_of_emod_eq_zero h.symm
  have h1:=D9 p (b * v)
  rw [hv] at h1
  obtain ⟨r,hr⟩:=h1
  have:p ∣ a - 0:=⟨q * v - a * r,by grind⟩
  have:=Ek this ⟨by omega,by omega⟩ ⟨by omega,by omega⟩
  omega
/-- No pivot in the column c: the determinant is a multiple of p. -/
theorem GI.none {p:Int} {n:Nat} {M:Nat→Nat→Int} {c:Nat} {T:Nat→Nat→Int} {bX:Int} (h:GI p n M c T bX) (hc:c < n) (h0:∀ i,c≤i→i < n→T i c=0):p ∣ aE n M:=by
 have hz:aE n T=0:=by
  obtain ⟨m,rfl⟩:∃ m,n=c+(m+1):=⟨n - c - 1,by omega⟩
  rw [ahh c (m+1) T (fun a b ha hb=>by rw [h.CR a b ha hb,V6])]
  exact Nt _ 0 (by omega) (fun a ha=>h0 _ (by omega) (by omega))
 have:=h.dt
 rw [hz,Int.mul_zero,Int.zero_sub] at this
 exact (Int.dvd_neg.1 this)
/-- Two rows changed for each other. -/
theorem GI.swap {p:Int} (hp:1 < p) {n:Nat} {M:Nat→Nat→Int} {c:Nat} {T:Nat→Nat→Int} {bX:Int} (h:GI p n M c T bX) (i:Nat) (hci:c < i) (hi:i < n):GI p n M c (fun r=>T (nJ i c r)) ((-bX) % p):=by
 have atw:∀ r,r < n→nJ i c r < n:=fun r hr=>by unfold nJ;(repeat' split)<;>omega
 refine ⟨fun r j hr hj=>h.wg _ _ (atw r hr) hj,fun r j hr hj=>?_,fun r j hr hj=>h.inv _ _ (atw r hr) hj,?_,?_⟩
 ·show T (nJ i c r) j = _
  rw [h.CR _ _ (atw r hr) hj]
  unfold nJ
  by_cases h1:r=i
  ·rw [if_pos h1,iY (by omega),iY (by omega)]
  ·rw [if_neg h1]
   by_cases h2:r=c
   ·rw [if_pos h2,iY (by omega),iY (by omega)]
   ·rw [if_neg h2]
 ·have h1 := h.dr
  have h2:=Int.emod_nonneg (-bX) (show p ≠ 0 by omega)
  have h3:=Int.emod_lt_of_pos (-bX) (show 0 < p by omega)
  refine ⟨?_,h3⟩
  rcases Int.lt_or_eq_of_le h2 with h4|h4
  ·exact h4
  ·exfalso
   obtain ⟨q,hq⟩:=Int.dvd_of_emod_eq_zero h4.symm
   have:=Ek (p:=p) (a:=bX) (b:=0) ⟨-q,by rw [Int.mul_neg];omega⟩ ⟨by omega,by omega⟩ ⟨by omega,by omega⟩
   omega
 ·have hs := V5 T i c hi (by omega) (by omega)
  have he:aE n (fun r=>T (nJ i c r))=- aE n T:=by
   rw [← hs]
   refine iq (fun a b _ _=>?_)
   unfold nJ bn
   by_cases h1:a=c
   ·subst h1
    by_cases h2:a=i
    ·omega
    ·simp [h2]
   ·by_cases h2 : a = i
    ·subst h2;simp [h1]
    ·simp [h1,h2]
  rw [he]
  have h1:=asl (uz p (-bX)) (show p ∣ (- aE n T) - (- aE n T) from ⟨0,by omega⟩)
  have h2:=h.dt
  rw [show (-bX) * (- aE n T)=bX * aE n T by rw [Int.neg_mul_neg]] at h1
  exact oa h1 h2
/-- The row c, scaled. -/
def jS (p:Int) (T:Nat→Nat→Int) (c:Nat) (v:Int) (m:Nat):Nat→Nat→Int:=fun r j=>if r=c∧j < m then (T r j * v) % p else T r j
/-- Multiples of the row c taken from the first rows. -/
def aq3 (p:Int) (T:Nat→Nat→Int) (c i m:Nat):Nat→Nat→Int:=fun r j=>if r ≠ c∧(r < i∨r=i∧j < m) then (T r j - T r c * T c j) % p else T r j
theorem GI.step {p : Int} (hp : 1 < p) {n : Nat} {M : Nat → Nat → Int} {c : Nat} {T : Nat → Nat → Int} {bX : Int} (h : GI p n M c T bX) (hc : c < n) (v : Int) (hv : (T c c * v) % p = 1) :
  GI p n M (c+1) (aq3 p (jS p T c v (n+n)) c n 0) ((bX * T c c) % p):=by
 have hem:=fun x:Int=>And.intro (Int.emod_nonneg x (show p ≠ 0 by omega)) (Int.emod_lt_of_pos x (show 0 < p by omega))
 -- the scaled rows
 let S:Nat→Nat→Int:=jS p T c v (n+n)
 have hS:∀ r j,j < n+n→S r j=if r=c then (T r j * v) % p else T r j:=fun r j hj=>by
  show (if r=c∧j < n+n then _ else _)=_
  by_cases h1:r=c
  ·rw [if_pos ⟨h1,hj⟩,if_pos h1]
  ·rw [if_neg (fun e=>h1 e.1),if_neg h1]
 have Mz:∀ r j,j < n+n→p ∣ S r j - (if r=c then T r j * v else T r j):=fun r j hj=>by
  rw [hS r j hj]
  by_cases h1:r=c
  ·rw [if_pos h1,if_pos h1];exact uz p _
  ·rw [if_neg h1,if_neg h1];exact ⟨0,by omega⟩
 have Ey:∀ r j,r < n→j < n+n→0≤S r j∧S r j < p:=fun r j hr hj=>by
  rw [hS r j hj]
  split
  ·exact hem _
  ·exact h.wg r j hr hj
 have TA:S c c=1:=by rw [hS c c (by omega),if_pos rfl];exact hv
 have TB:∀ j,j < c→S c j=0:=fun j hj=>by
  rw [hS c j (by omega),if_pos rfl,h.CR c j hc hj,iY (by omega)];simp
 have MA:∀ r,r ≠ c→∀ j,j < n+n→S r j=T r j:=fun r hr j hj=>by rw [hS r j hj,if_neg hr]
 have ae_:p ∣ aE n S - v * aE n T:=by
  have h1:p ∣ aE n S - aE n (bn T c (fun b=>v * T c b)):=Nu (fun a b ha hb=>by
   refine oa (Mz a b (by omega)) ?_
   unfold bn
   by_cases h1:a=c
   ·subst h1;rw [if_pos rfl,if_pos rfl];exact ⟨0,by show T a b * v - v * T a b=_;rw [Int.mul_comm v];omega⟩
   ·rw [if_neg h1,if_neg h1];exact ⟨0,by omega⟩)
  rw [Nw _ _ hc,Ax] at h1
  exact h1
 have TC:∀ i j,i < n→j < n→p ∣ S i j - ax n (fun k=>S i (n+k) * M k j):=fun i j hi hj=>by
  by_cases h1:i=c
  ·subst h1
   have h2:=Mz i j (by omega)
   rw [if_pos rfl] at h2
   refine oa h2 (oa (b:=v * ax n (fun k=>T i (n+k) * M k j)) ?_ ?_)
   ·rw [Int.mul_comm (T i j) v];exact Hy v (h.inv i j hi hj)
   ·rw [← fe]
    refine yC (fun k hk=>?_)
    have h3:=Mz i (n+k) (by omega)
    rw [if_pos rfl] at h3
    have h4:=asl (Hz h3) (show p ∣ M k j - M k j from ⟨0,by omega⟩)
    rw [show v * (T i (n+k) * M k j)=T i (n+k) * v * M k j by grind]
    exact h4
  ·rw [MA i h1 j (by omega), dh (g := fun k => T i (n + k) * M k j) (fun k hk => by rw [MA i h1 (n + k) (by omega)])]
   exact h.inv i j hi hj
 -- the eliminated rows
 have hE:∀ r j,r < n→aq3 p S c n 0 r j=if r=c then S r j else (S r j - S r c * S c j) % p:=fun r j hr=>by
  unfold aq3
  by_cases h1:r=c
  ·rw [if_neg (fun e=>e.1 h1),if_pos h1]
  ·rw [if_pos ⟨h1,Or.inl hr⟩,if_neg h1]
 have Mr:∀ r j,r < n→p ∣ aq3 p S c n 0 r j - (S r j+(if r=c then 0 else - S r c) * S c j):=fun r j hr=>by
  rw [hE r j hr]
  by_cases h1:r=c
  ·rw [if_pos h1,if_pos h1];exact ⟨0,by omega⟩
  ·rw [if_neg h1, if_neg h1, show S r j + - S r c * S c j = S r j - S r c * S c j by rw [Int.neg_mul]; omega]
   exact uz p _
 refine ⟨fun r j hr hj=>?_,fun r j hr hj=>?_,fun i j hi hj=>?_,⟨?_,(hem _).2⟩,?_⟩
 ·show 0 ≤ aq3 p S c n 0 r j ∧ _
  rw [hE r j hr]
  split
  ·exact Ey r j hr hj
  ·exact hem _
 ·show aq3 p S c n 0 r j = _
  rw [hE r j hr]
  by_cases h2:j=c
  ·subst h2
   by_cases h1:r=j
   ·subst h1;rw [if_pos rfl,TA,pq]
   ·rw [if_neg h1,TA,Int.mul_one,Int.sub_self,iY h1];rfl
  ·have MU : j < c := by omega
   by_cases h1:r=c
   ·subst h1;rw [if_pos rfl,TB j MU,iY (by omega)]
   ·rw [if_neg h1, TB j MU, Int.mul_zero, Int.sub_zero, MA r h1 j (by omega), h.CR r j hr MU]
    unfold aqE
    split
    ·exact Int.emod_eq_of_lt (by omega) hp
    ·rfl
 ·show p ∣ aq3 p S c n 0 i j - ax n (fun k => aq3 p S c n 0 i (n + k) * M k j)
  refine oa (Mr i j hi) ?_
  have h1:p ∣ (S i j+(if i=c then 0 else - S i c) * S c j) - (ax n (fun k=>S i (n+k) * M k j)+(if i=c then 0 else - S i c) * ax n (fun k=>S c (n+k) * M k j)):=by
   have a1:=TC i j hi hj
   have a2:=Hy (if i=c then 0 else - S i c) (TC c j hc hj)
   have:=Int.dvd_add a1 a2
   rwa [show ∀ a b x y:Int,a - b+(x - y)=a+x - (b+y) by intros;omega] at this
  refine oa h1 ?_
  rw [← fe,← ov]
  refine yC (fun k hk=>?_)
  have h3:=asl (Hz (Mr i (n+k) hi)) (show p ∣ M k j - M k j from ⟨0,by omega⟩)
  rw [show S i (n+k) * M k j+(if i=c then 0 else - S i c) * (S c (n+k) * M k j)=(S i (n+k)+(if i=c then 0 else - S i c) * S c (n+k)) * M k j by grind]
  exact h3
 ·exact ahD hv hp h.dr
 ·show p ∣ (bX * T c c) % p * aE n (aq3 p S c n 0) - aE n M
  have h1:p ∣ aE n (aq3 p S c n 0) - aE n S:=by
   have a:=V4 S c hc (fun r=>if r=c then 0 else - S r c) (by simp)
   rw [← a]
   exact Nu (fun r j hr _=>Mr r j hr)
  have h2:=oa h1 ae_
  have h3:=asl (uz p (bX * T c c)) h2
  refine oa h3 (oa (b:=bX * aE n T) ?_ h.dt)
  have h4:=D9 p (T c c * v)
  rw [hv] at h4
  obtain ⟨q,hq⟩:=h4
  exact ⟨bX * aE n T * q,by grind⟩
theorem GI.last {p:Int} {n:Nat} {M T:Nat→Nat→Int} {bX:Int} (h:GI p n M n T bX):p ∣ bX - aE n M∧∀ i j,i < n→j < n→p ∣ ax n (fun k=>T i (n+k) * M k j) - aqE j i:=by
 refine ⟨?_,fun i j hi hj=>?_⟩
 ·have h1 := h.dt
  have e:aE n T=1:=by
   rw [← V2 n]
   exact iq (fun a b ha hb=>by rw [h.CR a b ha hb,V6])
  rwa [e,Int.mul_one] at h1
 ·have h1 := h.inv i j hi hj
  rw [h.CR i j hi hj] at h1
  exact Hz h1
/-- The rows at the start: the unit rows less u times A, and the unit rows. -/
def gT (p u:Int) (n:Nat) (A:Nat→Nat→Int):Nat→Nat→Int:=fun i j=>if j < n then (if j=i then ((-u * A i j) % p+1) % p else (-u * A i j) % p) else if j=n+i then 1 else 0
def gM (u:Int) (A:Nat→Nat→Int):Nat→Nat→Int:=fun a b=>aqE a b+u * aqZ A a b
theorem GI.start {p:Int} (hp:1 < p) (u:Int) (n:Nat) (A:Nat→Nat→Int):GI p n (gM u A) 0 (gT p u n A) 1:=by
 have hem:=fun x:Int=>And.intro (Int.emod_nonneg x (show p ≠ 0 by omega)) (Int.emod_lt_of_pos x (show 0 < p by omega))
 have hd:∀ i j,i < n→j < n→p ∣ gT p u n A i j - gM u A i j:=fun i j hi hj=>by
  unfold gT gM aqZ
  rw [if_pos hj]
  by_cases h1:j=i
  ·subst h1
   rw [if_pos rfl,pq]
   refine oa (uz p _) ?_
   have:=uz p (-u * A j j)
   rwa [show ∀ a b:Int,(a+1) - (1+b)=a - b by intros;omega,show u * -A j j=-u * A j j by grind]
  ·rw [if_neg h1, iY h1, show 0 + u * -A i j = -u * A i j by grind]
   exact uz p _
 refine ⟨fun i j hi hj=>?_,fun i j _ hj=>by omega,fun i j hi hj=>?_,⟨by omega,hp⟩,?_⟩
 ·unfold gT
  split
  ·split
   ·exact hem _
   ·exact hem _
  ·split<;>omega
 ·refine oa (hd i j hi hj) ?_
  have:ax n (fun k=>gT p u n A i (n+k) * gM u A k j)=gM u A i j:=by
   rw [pz i hi (fun k hk hne=>by
    unfold gT;rw [if_neg (by omega),if_neg (by omega)];simp)]
   unfold gT;rw [if_neg (by omega),if_pos rfl];simp
  rw [this];exact ⟨0,by omega⟩
 ·rw [Int.one_mul];exact Nu (fun a b ha hb=>hd a b ha hb)
theorem Ce {p x y:Int} (hp:0 < p) (cW:p≤1000) (hx:0≤x∧x < p) (hy:0≤y∧y < p):0≤x * y∧x * y≤1000000:=by
 have h1:x * y≤1000 * 1000:=Int.mul_le_mul (by omega) (by omega) (by omega) (by omega)
 exact ⟨Int.mul_nonneg hx.1 hy.1,by omega⟩
theorem aiR (p : Nat) (hp : 2 ≤ p) (cW : p ≤ 101) (u : Nat) (hu : u < p) (n : Nat) (hn : n ≤ 20) (A : Nat → Nat → Int) (hA : ∀ i j, A i j = 0 ∨ A i j = 1) (bX : Int) (i : Nat) (hi : i < n) (R : List (List Int) × Int)
  (next:Ev (fun k=>aU.l0 k p u (cL n A) n bX (cM (i+1) (n+n) (gT p u n A)) ((i:Int)+1)) R) :
  ∀ (d j:Nat),n - j=d→j≤n→Ev (fun k=>aU.l1 k p u (cL n A) n bX (cM i (n+n) (gT p u n A)) i (b_ (n+n) (fun q=>if q < j then (-(u:Int) * A i q) % p else 0)) j) R:=by
 have hem:=fun x:Int=>And.intro (Int.emod_nonneg x (show (p:Int) ≠ 0 by omega)) (Int.emod_lt_of_pos x (show (0:Int) < p by omega))
 intro d
 induction d with
 | zero =>
  intro j hd hj
  obtain rfl:j=n:=by omega
  refine Ev.step (fun q=>by simp only [aU.l1];rfl) ?_
  have hg:rd (b_ (j+j) (fun q=>if q < j then (-(u:Int) * A i q) % p else 0)) (i:Int)=(-(u:Int) * A i i) % p:=by rw [gG (by omega),if_pos hi]
  have he:=hem (-(u:Int) * A i i)
  simp only [Int.lt_irrefl,if_false,cx i,if_true,d_,show ((i:Int) < ((j+j:Nat):Int)) by omega,show ¬ ((p:Int)=0) by omega,hg,show (j:Int)+(i:Int)=((j+i:Nat):Int) by omega,dF (show -9223372036854775808≤((j+i:Nat):Int) by omega) (by omega),show (0:Int)≤((j+i:Nat):Int) by omega,show ((j+i:Nat):Int) < ((j+j:Nat):Int) by omega,Int.toNat_natCast,vu,arj,show i < 5864062014805 by omega,wI ((i:Int)+1) (by omega),dF (show -9223372036854775808≤(-(u:Int) * A i i) % p+1 by omega) (by omega),oA (show 0≤(-(u:Int) * A i i) % p+1 by omega)]
  refine Ev.congr (fun q=>?_) next
  rw [← Jd]
  congr 2
  congr 1
  refine vt fun q hq=>?_
  unfold gT
  by_cases h1:q < j
  ·by_cases h2 : q = i
   ·subst h2;simp only [h1,show q ≠ j+q by omega,if_true,if_false]
   ·simp only [h1,h2,show q ≠ j+i by omega,if_true,if_false]
  ·by_cases h2 : q = j + i
   ·subst h2;simp only [h1,if_true,if_false]
   ·simp only [h1,h2,show q ≠ i by omega,if_false]
 | succ d ih =>
  intro j hd hj
  have hjn:j < n:=by omega
  refine Ev.step (fun q=>by simp only [aU.l1];rfl) ?_
  have ha:wrap64 (wrap64 (-(u:Int)) * A i j)=-(u:Int) * A i j:=by
   rw [wI (-(u:Int)) (by omega)]
   rcases hA i j with h|h
   ·rw [h];simp [wrap64]
   ·rw [h,Int.mul_one];exact dF (by omega) (by omega)
  simp only [lI j n (by omega),cx i,cx j,kC,lI i n (by omega),if_true,sB hi,d_,gG hjn,ha,CB (show (0:Int) < (p:Int) by omega) (by omega),Option.bind_some,show ((j:Int) < ((n+n:Nat):Int)) by omega,Int.toNat_natCast,vu,wI ((j:Int)+1) (by omega)]
  refine Ev.congr (fun q=>?_) (ih (j+1) (by omega) (by omega))
  rw [show ((j+1:Nat):Int)=(j:Int)+1 by omega]
  congr 1
  refine vt fun q hq=>?_
  by_cases h1:q=j
  ·subst h1;rw [if_pos rfl,if_pos (by omega)]
  ·rw [if_neg h1]
   by_cases h2:q < j
   ·rw [if_pos h2,if_pos (by omega)]
   ·rw [if_neg h2,if_neg (by omega)]
theorem aiQ (p : Nat) (hp : 2 ≤ p) (cW : p ≤ 101) (u : Nat) (hu : u < p) (n : Nat) (hn : n ≤ 20) (A : Nat → Nat → Int) (hA : ∀ i j, A i j = 0 ∨ A i j = 1) (bX : Int) (R : List (List Int) × Int)
  (next:Ev (fun k=>aU.l2 k p n bX (cM n (n+n) (gT p u n A)) 0) R) :
  ∀ (d i:Nat),n - i=d→i≤n→Ev (fun k=>aU.l0 k p u (cL n A) n bX (cM i (n+n) (gT p u n A)) i) R:=by
 intro d
 induction d with
 | zero =>
  intro i hd hi
  obtain rfl:i=n:=by omega
  refine Ev.step (fun q=>by simp only [aU.l0];rfl) ?_
  simp only [Int.lt_irrefl,if_false]
  exact next
 | succ d ih =>
  intro i hd hi
  have hin:i < n:=by omega
  refine Ev.step (fun q=>by simp only [aU.l0];rfl) ?_
  simp only [lI i n (by omega),if_true,show (2:Int) * (n:Int)=((n+n:Nat):Int) by omega,dF (show -9223372036854775808≤((n+n:Nat):Int) by omega) (by omega),show (0:Int)≤((n+n:Nat):Int) by omega,Int.toNat_natCast,show n+n≤35184372088832 by omega]
  have h:=ih (i+1) (by omega) (by omega)
  rw [show ((i+1:Nat):Int)=(i:Int)+1 by omega] at h
  have h2:=aiR p hp cW u hu n hn A hA bX i hin R h n 0 (by omega) (by omega)
  refine Ev.congr (fun q=>?_) h2
  congr 1
  apply List.ext_getElem
  ·simp [b_]
  ·intro q _ _;simp [b_]
theorem aiX (n:Nat) (hn:n≤20) (T:Nat→Nat→Int) (bX:Int):∀ (d i:Nat),n - i=d→i≤n→Ev (fun k=>aU.l7 k n bX (cM n (n+n) T) (cM i n (fun r j=>T r (n+j))) i) (cM n n (fun r j=>T r (n+j)),bX):=by
 intro d
 induction d with
 | zero =>
  intro i hd hi
  obtain rfl:i=n:=by omega
  refine Ev.step (fun q=>by simp only [aU.l7];rfl) ?_
  simp only [Int.lt_irrefl,if_false]
  exact Ev.now _
 | succ d ih =>
  intro i hd hi
  have hin:i < n:=by omega
  refine Ev.step (fun q=>by simp only [aU.l7];rfl) ?_
  simp only [lI i n (by omega),cx i,if_true,arj,nM hin,d_,cx n,show ((n:Int)≤((n+n:Nat):Int)) by omega,Int.toNat_natCast,W9,Oo (b_ n (fun j=>T i (n+j))) (by rw [d_];omega),Option.bind_some,show i < 5864062014805 by omega,wI ((i:Int)+1) (by omega)]
  have h:=ih (i+1) (by omega) (by omega)
  rw [show ((i+1:Nat):Int)=(i:Int)+1 by omega,← Jd] at h
  exact h
theorem aiW (p : Nat) (hp : 2 ≤ p) (cW : p ≤ 101) (n : Nat) (hn : n ≤ 20) (S : Nat → Nat → Int) (hS : ∀ i j, i < n → j < n + n → 0 ≤ S i j ∧ S i j < p) (bX : Int) (c : Nat) (hc : c < n) (i : Nat) (hi : i < n) (R : List (List Int) × Int)
  (next:Ev (fun k=>aU.l5 k p n bX (cM n (n+n) (aq3 p S c (i+1) 0)) c ((i:Int)+1)) R) :
  ∀ (d j:Nat),n+n - j=d→j≤n+n→Ev (fun k=>aU.l6 k p n bX (cM n (n+n) (aq3 p S c i j)) c i (S i c) j) R:=by
 intro d
 induction d with
 | zero =>
  intro j hd hj
  obtain rfl:j=n+n:=by omega
  refine Ev.step (fun q=>by simp only [aU.l6];rfl) ?_
  simp only [show (2:Int) * (n:Int)=((n+n:Nat):Int) by omega,dF (show -9223372036854775808≤((n+n:Nat):Int) by omega) (by omega),Int.lt_irrefl,if_false,wI ((i:Int)+1) (by omega)]
  refine Ev.congr (fun q=>?_) next
  congr 1
  refine pG fun r q hr hq=>?_
  unfold aq3
  by_cases h1:r ≠ c∧(r < i∨r=i∧q < n+n)
  ·rw [if_pos h1,if_pos ⟨h1.1,by omega⟩]
  ·rw [if_neg h1,if_neg (by omega)]
 | succ d ih =>
  intro j hd hj
  have hj2:j < n+n:=by omega
  refine Ev.step (fun q=>by simp only [aU.l6];rfl) ?_
  simp only [show (2:Int) * (n:Int)=((n+n:Nat):Int) by omega,dF (show -9223372036854775808≤((n+n:Nat):Int) by omega) (by omega),show ((j:Int) < ((n+n:Nat):Int)) by omega,if_true]
  by_cases hic:i=c
  ·subst hic
   simp only [if_true,wI ((i:Int)+1) (by omega)]
   refine Ev.congr (fun q=>?_) next
   congr 1
   refine pG fun r q hr hq=>?_
   unfold aq3
   by_cases h1:r ≠ i∧(r < i∨r=i∧q < j)
   ·rw [if_pos h1,if_pos ⟨h1.1,by omega⟩]
   ·rw [if_neg h1,if_neg (by omega)]
  ·have hci : ¬ ((i : Int) = (c : Int)) := by omega
   have e1:aq3 p S c i j i j=S i j:=by unfold aq3;rw [if_neg (by omega)]
   have e2:aq3 p S c i j c j=S c j:=by unfold aq3;rw [if_neg (by omega)]
   have b1:=hS i j hi hj2
   have b2:=Ce (show (0:Int) < p by omega) (by omega) (hS i c hi (by omega)) (hS c j hc hj2)
   simp only [hci,if_false,cx i,cx j,cx c,if_true,arj,lI i n (by omega),lI c n (by omega),nM hi,nM hc,d_,show ((j:Int) < ((n+n:Nat):Int)) by omega,gG hj2,e1,e2,wI (S i c * S c j) (by omega),wI (S i j - S i c * S c j) (by omega),CB (show (0:Int) < (p:Int) by omega) (by omega),Option.bind_some,Int.toNat_natCast,vu,CU,wI ((j:Int)+1) (by omega)]
   refine Ev.congr (fun q=>?_) (ih (j+1) (by omega) (by omega))
   rw [show ((j+1:Nat):Int)=(j:Int)+1 by omega]
   congr 1
   refine pG fun r q hr hq=>?_
   by_cases h1:r=i
   ·subst h1
    rw [if_pos rfl]
    by_cases h2:q=j
    ·subst h2
     rw [if_pos rfl]
     unfold aq3;rw [if_pos ⟨hic,by omega⟩]
    ·rw [if_neg h2]
     unfold aq3
     by_cases h3:q < j
     ·rw [if_pos ⟨hic,by omega⟩,if_pos ⟨hic,by omega⟩]
     ·rw [if_neg (by omega),if_neg (by omega)]
   ·rw [if_neg h1]
    unfold aq3
    by_cases h3:r ≠ c∧r < i
    ·rw [if_pos ⟨h3.1,by omega⟩,if_pos ⟨h3.1,by omega⟩]
    ·rw [if_neg (by omega),if_neg (by omega)]
theorem aiV (p : Nat) (hp : 2 ≤ p) (cW : p ≤ 101) (n : Nat) (hn : n ≤ 20) (S : Nat → Nat → Int) (hS : ∀ i j, i < n → j < n + n → 0 ≤ S i j ∧ S i j < p) (bX : Int) (c : Nat) (hc : c < n) (R : List (List Int) × Int)
  (next:Ev (fun k=>aU.l2 k p n bX (cM n (n+n) (aq3 p S c n 0)) ((c:Int)+1)) R) :
  ∀ (d i:Nat),n - i=d→i≤n→Ev (fun k=>aU.l5 k p n bX (cM n (n+n) (aq3 p S c i 0)) c i) R:=by
 intro d
 induction d with
 | zero =>
  intro i hd hi
  obtain rfl:i=n:=by omega
  refine Ev.step (fun q=>by simp only [aU.l5];rfl) ?_
  simp only [Int.lt_irrefl,if_false,wI ((c:Int)+1) (by omega)]
  exact next
 | succ d ih =>
  intro i hd hi
  have hin:i < n:=by omega
  refine Ev.step (fun q=>by simp only [aU.l5];rfl) ?_
  have e1:aq3 p S c i 0 i c=S i c:=by unfold aq3;rw [if_neg (by omega)]
  simp only [lI i n (by omega),cx i,cx c,if_true,arj,nM hin,d_,show ((c:Int) < ((n+n:Nat):Int)) by omega,gG (show c < n+n by omega),e1]
  have h:=ih (i+1) (by omega) (by omega)
  rw [show ((i+1:Nat):Int)=(i:Int)+1 by omega] at h
  exact aiW p hp cW n hn S hS bX c hc i hin R h (n+n) 0 (by omega) (by omega)
theorem aiU (p : Nat) (hp : 2 ≤ p) (cW : p ≤ 101) (n : Nat) (hn : n ≤ 20) (T : Nat → Nat → Int) (hT : ∀ i j, i < n → j < n + n → 0 ≤ T i j ∧ T i j < p) (bX v : Int) (hv : 1 ≤ v ∧ v < p) (c : Nat) (hc : c < n) (R : List (List Int) × Int)
  (next:Ev (fun k=>aU.l5 k p n bX (cM n (n+n) (jS p T c v (n+n))) c 0) R) :
  ∀ (d j:Nat),n+n - j=d→j≤n+n→Ev (fun k=>aU.l4 k p n bX (cM n (n+n) (jS p T c v j)) c v j) R:=by
 intro d
 induction d with
 | zero =>
  intro j hd hj
  obtain rfl:j=n+n:=by omega
  refine Ev.step (fun q=>by simp only [aU.l4];rfl) ?_
  simp only [show (2:Int) * (n:Int)=((n+n:Nat):Int) by omega,dF (show -9223372036854775808≤((n+n:Nat):Int) by omega) (by omega),Int.lt_irrefl,if_false]
  exact next
 | succ d ih =>
  intro j hd hj
  have hj2:j < n+n:=by omega
  refine Ev.step (fun q=>by simp only [aU.l4];rfl) ?_
  have e1:jS p T c v j c j=T c j:=by unfold jS;rw [if_neg (by omega)]
  have b2:=Ce (show (0:Int) < p by omega) (by omega) (hT c j hc hj2) (show 0≤v∧v < (p:Int) by omega)
  simp only [show (2:Int) * (n:Int)=((n+n:Nat):Int) by omega,dF (show -9223372036854775808≤((n+n:Nat):Int) by omega) (by omega),show ((j:Int) < ((n+n:Nat):Int)) by omega,if_true,cx c,cx j,arj,lI c n (by omega),nM hc,d_,gG hj2,e1,show ¬ ((p:Int)=0) by omega,if_false,wI (T c j * v) (by omega),oA b2.1,Int.toNat_natCast,vu,CU,wI ((j:Int)+1) (by omega)]
  refine Ev.congr (fun q=>?_) (ih (j+1) (by omega) (by omega))
  rw [show ((j+1:Nat):Int)=(j:Int)+1 by omega]
  congr 1
  refine pG fun r q hr hq=>?_
  by_cases h1:r=c
  ·subst h1
   rw [if_pos rfl]
   by_cases h2:q=j
   ·subst h2
    rw [if_pos rfl]
    unfold jS;rw [if_pos ⟨rfl,by omega⟩]
   ·rw [if_neg h2]
    unfold jS
    by_cases h3:q < j
    ·rw [if_pos ⟨rfl,h3⟩,if_pos ⟨rfl,by omega⟩]
    ·rw [if_neg (by omega),if_neg (by omega)]
  ·rw [if_neg h1]
   unfold jS
   rw [if_neg (by omega),if_neg (by omega)]
/-- What solving answers: D is the determinant. -/
def xP (p:Int) (n:Nat) (M:Nat→Nat→Int) (R:List (List Int) × Int):Prop :=
 (R=([],0)∧p ∣ aE n M)∨∃ (X:Nat→Nat→Int) (bX:Int),R=(cM n n X,bX)∧0 < bX∧bX < p∧p ∣ bX - aE n M∧(∀ i j,i < n→j < n→0≤X i j∧X i j < p)∧∀ i j,i < n→j < n→p ∣ ax n (fun k=>X i k * M k j) - aqE j i
theorem WT (p : Nat) (ku : i_ p = true) (hp : 2 ≤ p) (cW : p ≤ 101) (n : Nat) (hn : n ≤ 20) (M T : Nat → Nat → Int) (bX : Int) (c : Nat) (hc : c < n) (h : GI p n M c T bX) (h0 : T c c ≠ 0)
  (next:∀ T' nF,GI p n M (c+1) T' nF→∃ R,xP p n M R∧Ev (fun k=>aU.l2 k p n nF (cM n (n+n) T') ((c:Int)+1)) R) :
  ∃ R,xP p n M R∧Ev (fun k=>aU.j5 k p n bX (cM n (n+n) T) c) R:=by
 have hr:=GI.wg h c c hc (by omega)
 obtain ⟨v,hv,v1,v2,v3⟩:=agV ku hp (by omega) (x:=T c c) (by omega) hr.2
 obtain ⟨R,hR,hE⟩:=next _ _ (GI.step (by omega) h hc v v3)
 have b:=Ce (show (0:Int) < p by omega) (by omega) (show 0≤bX∧bX < (p:Int) from ⟨by have:=(GI.dr h).1;omega,(GI.dr h).2⟩) hr
 refine ⟨R,hR,Ev.step (fun q=>by simp only [aU.j5];rfl) ?_⟩
 simp only [cx c,if_true,arj,lI c n (by omega),nM hc,d_,show ((c:Int) < ((n+n:Nat):Int)) by omega,gG (show c < n+n by omega),show ¬ ((p:Int)=0) by omega,if_false,wI (bX * T c c) (by omega),oA b.1]
 refine Ev.bind hv ?_
 have Ey:∀ i j,i < n→j < n+n→0≤jS p T c v (n+n) i j∧jS p T c v (n+n) i j < p:=fun i j hi hj=>by
  unfold jS
  split
  ·exact ⟨Int.emod_nonneg _ (by omega),Int.emod_lt_of_pos _ (by omega)⟩
  ·exact GI.wg h i j hi hj
 have h5:=aiV p hp cW n hn (jS p T c v (n+n)) Ey ((bX * T c c) % p) c hc R hE n 0 (by omega) (by omega)
 have h4:=aiU p hp cW n hn T (GI.wg h) ((bX * T c c) % p) v ⟨v1,v2⟩ c hc R (Ev.congr (fun q=>by
  congr 1
  refine pG fun r q hr hq=>?_
  unfold aq3;rw [if_neg (by omega)]) h5) (n+n) 0 (by omega) (by omega)
 refine Ev.congr (fun q=>?_) h4
 congr 1
 refine pG fun r q hr hq=>?_
 unfold jS;rw [if_neg (by omega)]
theorem aiT (p : Nat) (ku : i_ p = true) (hp : 2 ≤ p) (cW : p ≤ 101) (n : Nat) (hn : n ≤ 20) (M T : Nat → Nat → Int) (bX : Int) (c : Nat) (hc : c < n) (h : GI p n M c T bX)
  (next:∀ T' nF,GI p n M (c+1) T' nF→∃ R,xP p n M R∧Ev (fun k=>aU.l2 k p n nF (cM n (n+n) T') ((c:Int)+1)) R) :
  ∀ (d i:Nat),n - i=d→c≤i→i≤n→(∀ r,c≤r→r < i→T r c=0)→∃ R,xP p n M R∧Ev (fun k=>aU.l3 k p n bX (cM n (n+n) T) c i) R:=by
 intro d
 induction d with
 | zero =>
  intro i hd hci hi hz
  obtain rfl:i=n:=by omega
  refine ⟨([],0),Or.inl ⟨rfl,GI.none h hc (fun r h1 h2=>hz r h1 h2)⟩,Ev.step (fun q=>by simp only [aU.l3];rfl) ?_⟩
  simp only [Int.lt_irrefl,if_false]
  refine Ev.step (fun q=>by simp only [aU.j4];rfl) ?_
  simp only [if_true]
  exact Ev.now _
 | succ d ih =>
  intro i hd hci hi hz
  have hin:i < n:=by omega
  by_cases h0:T i c=0
  ·obtain ⟨R,hR,hE⟩:=ih (i+1) (by omega) (by omega) (by omega) (fun r h1 h2=>by
    by_cases hr:r=i
    ·rw [hr];exact h0
    ·exact hz r h1 (by omega))
   refine ⟨R,hR,Ev.step (fun q=>by simp only [aU.l3];rfl) ?_⟩
   simp only [lI i n (by omega),cx i,cx c,if_true,arj,nM hin,d_,show ((c:Int) < ((n+n:Nat):Int)) by omega,gG (show c < n+n by omega),h0,wI ((i:Int)+1) (by omega)]
   rw [show ((i+1:Nat):Int)=(i:Int)+1 by omega] at hE
   exact hE
  ·have hj:∃ R,xP p n M R∧Ev (fun k=>aU.j4 k p n bX (cM n (n+n) T) c i) R:=by
    by_cases hic:i=c
    ·subst hic
     obtain ⟨R,hR,hE⟩:=WT p ku hp cW n hn M T bX i hc h h0 next
     refine ⟨R,hR,Ev.step (fun q=>by simp only [aU.j4];rfl) ?_⟩
     simp only [show ¬ ((i:Int)=(n:Int)) by omega,if_false,if_true]
     exact hE
    ·obtain ⟨R,hR,hE⟩:=WT p ku hp cW n hn M (fun r=>T (nJ i c r)) ((-bX) % p) c hc (GI.swap (by omega) h i (by omega) hin) (by
      show T (nJ i c c) c ≠ 0
      unfold nJ
      rw [if_neg (Ne.symm hic),if_pos rfl];exact h0) next
     have hd:=GI.dr h
     refine ⟨R,hR,Ev.step (fun q=>by simp only [aU.j4];rfl) ?_⟩
     simp only [show ¬ ((i:Int)=(n:Int)) by omega,show ¬ ((i:Int)=(c:Int)) by omega,if_false,cx i,cx c,if_true,arj,lI i n (by omega),lI c n (by omega),wI (-bX) (by omega),CB (show (0:Int) < (p:Int) by omega) (by omega),Option.bind_some,Ou n (n+n) T i c hin hc]
     exact hE
   obtain ⟨R,hR,hE⟩:=hj
   refine ⟨R,hR,Ev.step (fun q=>by simp only [aU.l3];rfl) ?_⟩
   simp only [lI i n (by omega),cx i,cx c,if_true,arj,nM hin,d_,show ((c:Int) < ((n+n:Nat):Int)) by omega,gG (show c < n+n by omega),h0,if_false]
   exact hE
theorem aiS (p:Nat) (ku:i_ p=true) (hp:2≤p) (cW:p≤101) (n:Nat) (hn:n≤20) (M:Nat→Nat→Int):∀ (d c:Nat),n - c=d→c≤n→∀ T bX,GI p n M c T bX→∃ R,xP p n M R∧Ev (fun k=>aU.l2 k p n bX (cM n (n+n) T) c) R:=by
 intro d
 induction d with
 | zero =>
  intro c hd hc T bX h
  obtain rfl:c=n:=by omega
  obtain ⟨g1,g2⟩:=GI.last h
  refine ⟨(cM c c (fun r j=>T r (c+j)),bX),Or.inr ⟨_,_,rfl,(GI.dr h).1,(GI.dr h).2,g1,fun i j hi hj=>GI.wg h i (c+j) hi (by omega),g2⟩,Ev.step (fun q=>by simp only [aU.l2];rfl) ?_⟩
  simp only [Int.lt_irrefl,if_false]
  exact aiX c hn T bX c 0 (by omega) (by omega)
 | succ d ih =>
  intro c hd hc T bX h
  have yg:c < n:=by omega
  obtain ⟨R,hR,hE⟩:=aiT p ku hp cW n hn M T bX c yg h (fun T' nF h'=>by
   obtain ⟨R,hR,hE⟩:=ih (c+1) (by omega) (by omega) T' nF h'
   rw [show ((c+1:Nat):Int)=(c:Int)+1 by omega] at hE
   exact ⟨R,hR,hE⟩) (n - c) c (by omega) (Nat.le_refl _) (by omega) (fun r h1 h2=>by omega)
  refine ⟨R,hR,Ev.step (fun q=>by simp only [aU.l2];rfl) ?_⟩
  simp only [lI c n (by omega),if_true]
  exact hE
theorem SI (l:List (List Int)) (e f:Nat):eA l e f=0∨eA l e f=1:=by unfold eA;split<;>omega
theorem Np {a:Int} {l:List (List Int)} (h:ee a l=true) (p:Nat) (ku:i_ p=true) (hp:2≤p) (cW:p≤101) (u:Nat) (hu:u < p):∃ R,xP p (2 * l.length) (gM u (eA l)) R∧Ev (fun k=>aU.f k a l p u) R:=by
 have hl:=kz h
 obtain ⟨R,hR,hE⟩:=aiS p ku hp cW (2 * l.length) (by omega) (gM u (eA l)) (2 * l.length) 0 (by omega) (by omega) _ _ (GI.start (p:=p) (by omega) u (2 * l.length) (eA l))
 refine ⟨R,hR,?_⟩
 unfold aU.f
 refine Ev.bind (Nn a l hl (asm h)) ?_
 simp only [show ¬ ((p:Int)=0) by omega,if_false,wI (2 * (l.length:Int)) (by omega),show 2 * (l.length:Int)=((2 * l.length:Nat):Int) by omega,D_]
 have h1:(1:Int) % (p:Int)=1:=Int.emod_eq_of_lt (by omega) (by omega)
 rw [h1,dF (show -9223372036854775808≤((2 * l.length:Nat):Int) by omega) (by omega)]
 exact aiQ p hp cW u hu (2 * l.length) (by omega) (eA l) (SI l) 1 R hE (2 * l.length) 0 (by omega) (by omega)
def ja (a:Int) (l:List (List Int)) (p u:Int):Int:=if ee a l then (if pE 101 p then (if 0≤u∧u≤p - 1 then 0 else 2) else 2) else 1
theorem vr {a:Int} {l:List (List Int)} {p u:Int} (h:ja a l p u=0):ee a l=true∧pE 101 p=true∧0≤u∧u < p:=by
 unfold ja at h
 split at h
 ·split at h
  ·split at h
   ·exact ⟨by assumption,by assumption,by omega,by omega⟩
   ·omega
  ·omega
 ·omega
theorem ajE (a:Int) (l:List (List Int)) (p u:Int) (hl:l.length≤maxLen):Ev (fun k=>zz.f k a l p u) (ja a l p u):=by
 unfold zz.f ja
 refine Ev.bind (FC a l hl) ?_
 cases h:ee a l with
 | false=>simp only [Bool.false_eq_true,if_false];exact Ev.now _
 | true =>
  simp only [if_true]
  refine Ev.bind (agJ p) ?_
  cases hp:pE 101 p with
  | false=>simp only [Bool.false_eq_true,if_false];exact Ev.now _
  | true =>
   obtain ⟨q,rfl,h2,h3,_⟩:=rJ hp
   simp only [if_true,Jj,Option.bind_some,wI ((q:Int) - 1) (by omega)]
   by_cases h1:0≤u∧u≤(q:Int) - 1
   ·simp only [h1,decide_true,Bool.and_true,if_true,and_self];exact Ev.now _
   ·have hf:(decide (0≤u) && decide (u≤(q:Int) - 1))=false:=by
     rw [Bool.eq_false_iff]
     intro hc
     simp only [Bool.and_eq_true,decide_eq_true_eq] at hc
     exact h1 hc
    simp only [h1,hf,Bool.false_eq_true,if_false];exact Ev.now _
theorem asQ (a:Int) (l:List (List Int)) (p u:Int) (hl:l.length≤maxLen):Ev (fun k=>mA.f k a l p u) (ja a l p u):=by
 unfold mA.f
 exact Ev.bind (ajE a l p u hl) (Ev.now _)
def CT (a:Int) (l:List (List Int)) (p:Int) (us:List Int):Int:=if ee a l then (if pE 101 p then (if us.all (fun u=>decide (0≤u) && decide (u≤p - 1))=true then 0 else 2) else 2) else 1
theorem agU (p:Int) (hp:2≤p∧p≤101) (us:List Int) (hu:us.length≤1048576):∀ (d i:Nat),us.length - i=d→i≤us.length→Ev (fun k=>iO.l0 k p us i) (if (us.drop i).all (fun u=>decide (0≤u) && decide (u≤p - 1))=true then 0 else 2):=by
 intro d
 induction d with
 | zero =>
  intro i hd hi
  obtain rfl:i=us.length:=by omega
  refine Ev.step (fun q=>by simp only [iO.l0];rfl) ?_
  rw [List.drop_length]
  simp only [Int.lt_irrefl,if_false,List.all_nil,if_true]
  exact Ev.now _
 | succ d ih =>
  intro i hd hi
  have hil:i < us.length:=by omega
  refine Ev.step (fun q=>by simp only [iO.l0];rfl) ?_
  rw [List.drop_eq_getElem_cons hil,List.all_cons]
  simp only [show ((i:Int) < (us.length:Int)) by omega,cx i,if_true,we us i hil,CA,Option.bind_some,wI (p - 1) (by omega),wI ((i:Int)+1) (by omega)]
  cases h:(decide (0≤us[i]) && decide (us[i]≤p - 1)) with
  | false=>simp only [Bool.false_eq_true,if_false,Bool.false_and];exact Ev.now _
  | true =>
   simp only [if_true,Bool.true_and]
   exact ih (i+1) (by omega) (by omega)
theorem Ip (a:Int) (l:List (List Int)) (p:Int) (us:List Int) (hl:l.length≤maxLen) (hu:us.length≤1048576):Ev (fun k=>iO.f k a l p us) (CT a l p us):=by
 unfold iO.f CT
 refine Ev.bind (FY a l hl) ?_
 cases h:ee a l with
 | false=>simp only [Bool.false_eq_true,if_false];exact Ev.now _
 | true =>
  simp only [if_true]
  refine Ev.bind (agX p) ?_
  cases hp:pE 101 p with
  | false=>simp only [Bool.false_eq_true,if_false];exact Ev.now _
  | true =>
   obtain ⟨q,rfl,h2,h3,_⟩:=rJ hp
   simp only [if_true]
   exact agU q ⟨by omega,h3⟩ us hu us.length 0 (by omega) (by omega)
theorem OO (a:Int) (l:List (List Int)) (p u:Int):CT a l p [u]=ja a l p u:=by
 unfold CT ja
 simp only [List.all_cons,List.all_nil,Bool.and_true,Bool.and_eq_true,decide_eq_true_eq]
theorem ajF (a:Int) (l:List (List Int)) (p:Int):CT a l p []=ja a l p 0:=by
 unfold CT ja
 simp only [List.all_nil,if_true]
 split
 ·split
  ·next h1 h2 =>
   obtain ⟨q,rfl,h3,_,_⟩:=rJ h2
   rw [if_pos (by omega)]
  ·rfl
 ·rfl
/-- The value of the first numbers of a list, by Horner's rule, from the place i on. -/
def vW (f : List Int) (u : Int) : Nat → Nat → Int
 | _,0=>0
 | i,d+1=>rd f i+u * vW f u (i+1) d
theorem af0 (f:List Int) (u:Int) (d:Nat):∀ i,vW f u i d=ax d (fun k=>rd f ((i+k:Nat):Int) * u ^ k):=by
 induction d with
 | zero=>intro i;rfl
 | succ d ih =>
  intro i
  rw [yE]
  unfold vW
  rw [ih,← fe]
  congr 1
  ·simp
  ·refine dh (fun k _ => ?_)
   rw [show i+1+k=i+(k+1) by omega,Int.pow_succ];grind
theorem ajH (f : List Int) (p : Nat) (hp : 2 ≤ p) (cW : p ≤ 101) (u : Nat) (hu : u < p) (hf : f.length ≤ 1048576) (hr : ∀ i : Nat, -4611686018427387904 ≤ rd f i ∧ rd f i ≤ 4611686018427387904) :
  ∀ (i:Nat),i≤f.length→∀ v:Int,0≤v∧v < p→(p:Int) ∣ v - vW f u i (f.length - i)→Ev (fun k=>mB.l0 k f u p v ((i:Int) - 1)) (vW f u 0 f.length % p):=by
 intro i
 induction i with
 | zero =>
  intro _ v hv hd
  refine Ev.step (fun q=>by simp only [mB.l0];rfl) ?_
  simp only [show ¬ (((0:Nat):Int) - 1 ≥ 0) by omega,if_false]
  have:v=vW f u 0 f.length % p:=Ek (oa hd (D9 p _)) hv ⟨Int.emod_nonneg _ (by omega),Int.emod_lt_of_pos _ (by omega)⟩
  rw [this]
  exact Ev.now _
 | succ i ih =>
  intro hi v hv hd
  refine Ev.step (fun q=>by simp only [mB.l0];rfl) ?_
  have hb:=Ce (show (0:Int) < p by omega) (by omega) hv (show 0≤(u:Int)∧(u:Int) < p by omega)
  have ht:-(p:Int) < Int.tmod (rd f i) p∧Int.tmod (rd f i) p < p:=by
   rcases Int.le_total 0 (rd f i) with h|h
   ·rw [oA h]
    have:=Int.emod_nonneg (rd f i) (show (p:Int) ≠ 0 by omega)
    have:=Int.emod_lt_of_pos (rd f i) (show (0:Int) < p by omega)
    omega
   ·have e:Int.tmod (rd f i) p=-((-(rd f i)) % p):=by
     rw [← oA (show 0≤-(rd f i) by omega),Int.neg_tmod];omega
    have:=Int.emod_nonneg (-(rd f i)) (show (p:Int) ≠ 0 by omega)
    have:=Int.emod_lt_of_pos (-(rd f i)) (show (0:Int) < p by omega)
    omega
  have htd:(p:Int) ∣ Int.tmod (rd f i) p - rd f i:=⟨-Int.tdiv (rd f i) p,by have:=Int.mul_tdiv_add_tmod (rd f i) p;rw [Int.mul_neg];omega⟩
  simp only [show ((i+1:Nat):Int) - 1=(i:Int) by omega,show (i:Int) ≥ 0 by omega,cx i,show (i:Int) < (f.length:Int) by omega,if_true,show ¬ ((p:Int)=0) by omega,if_false,wI (v * (u:Int)) (by omega),wI (v * (u:Int)+Int.tmod (rd f i) p) (by omega),NH (show (0:Int) < (p:Int) by omega) (by omega),Option.bind_some,wI ((i:Int) - 1) (by omega)]
  refine ih (by omega) _ ⟨Int.emod_nonneg _ (by omega),Int.emod_lt_of_pos _ (by omega)⟩ (oa (uz p _) ?_)
  rw [show f.length - i=(f.length - (i+1))+1 by omega]
  show (p:Int) ∣ v * u+Int.tmod (rd f i) p - (rd f i+u * vW f u (i+1) (f.length - (i+1)))
  have h1:=Hy (u:Int) hd
  have h2:=Int.dvd_add h1 htd
  rwa [show ∀ a b c d:Int,(u:Int) * a - b+(c - d)=a * u+c - (d+b) by intros;grind] at h2
theorem ajG (f:List Int) (p:Nat) (hp:2≤p) (cW:p≤101) (u:Nat) (hu:u < p) (hf:f.length≤1048576) (hr:∀ i:Nat,-4611686018427387904≤rd f i∧rd f i≤4611686018427387904):Ev (fun k=>mB.f k f u p) (vW f u 0 f.length % p):=by
 unfold mB.f
 rw [dF (by omega) (by omega)]
 exact ajH f p hp cW u hu hf hr f.length (Nat.le_refl _) 0 ⟨by omega,by omega⟩ (by rw [Nat.sub_self];exact ⟨0,by simp [vW]⟩)
/-- The value of the reciprocal is the determinant. -/
theorem af1 (l:List (List Int)) (u:Int):vW (iB (qL (2 * l.length) (eA l)) (2 * l.length+1)) u 0 (iB (qL (2 * l.length) (eA l)) (2 * l.length+1)).length=aE (2 * l.length) (gM u (eA l)):=by
 rw [af0]
 have hlen:=OE (qL (2 * l.length) (eA l)) (2 * l.length+1)
 have h1:aE (2 * l.length) (gM u (eA l))=eF (2 * l.length) (bY (2 * l.length) (eA l)) u:=wZ _ _ u
 rw [h1]
 unfold eF
 rw [← ID hlen (fun k hk _=>by
  rw [Nat.zero_add]
  have:rd (iB (qL (2 * l.length) (eA l)) (2 * l.length+1)) (k:Int)=0:=by
   unfold rd
   rw [Int.toNat_natCast,List.getD_eq_getElem?_getD,List.getElem?_eq_none hk]
   rfl
  rw [this];simp)]
 refine dh (fun k hk=>?_)
 rw [Nat.zero_add,I9,if_pos hk,L0 _ _ _ (by omega)]
theorem WC {a:Int} {l:List (List Int)} (h:ee a l=true) (p:Nat) (hp:2≤p) (cW:p≤101) (u:Nat) (hu:u < p):Ev (fun k=>mB.f k (iB (qL (2 * l.length) (eA l)) (2 * l.length+1)) u p) (aE (2 * l.length) (gM u (eA l)) % p):=by
 rw [← af1]
 have hl:=kz h
 have hlen:=OE (qL (2 * l.length) (eA l)) (2 * l.length+1)
 refine ajG _ p hp cW u hu (by omega) (fun i=>?_)
 rw [I9]
 split
 ·next hi =>
  rw [L0 _ _ _ (by omega)]
  have:=Nj h i (by omega)
  omega
 ·omega
theorem WS {p:Nat} (hp:2≤p) {n:Nat} {M:Nat→Nat→Int} {R:List (List Int) × Int} (h:xP p n M R):R.2=aE n M % p:=by
 rcases h with ⟨rfl,h⟩|⟨X,bX,rfl,h1,h2,h3,_⟩
 ·exact (Int.emod_eq_zero_of_dvd h).symm
 ·exact Ek (oa h3 (D9 p _)) ⟨by omega,h2⟩ ⟨Int.emod_nonneg _ (by omega),Int.emod_lt_of_pos _ (by omega)⟩
def Ea (a:Int) (l:List (List Int)) (p u:Int):Int × Int:=if ja a l p u=0 then (aE (2 * l.length) (gM u (eA l)) % p,0) else (0,ja a l p u)
theorem VJ (a:Int) (l:List (List Int)) (p u:Int) (hl:l.length≤maxLen):Ev (fun k=>rq.f k a l p u) (Ea a l p u):=by
 unfold rq.f Ea
 refine Ev.bind (asQ a l p u hl) ?_
 by_cases h:ja a l p u=0
 ·obtain ⟨hg, hp, h0, h1⟩ := vr h
  obtain ⟨q,rfl,h2,h3,_⟩:=rJ hp
  obtain ⟨v,rfl⟩:∃ v:Nat,u=v:=⟨u.toNat,by omega⟩
  simp only [h,if_true]
  refine Ev.bind (Oi a l hg) ?_
  exact Ev.bind (WC hg q h2 (by omega) v (by omega)) (Ev.now _)
 ·simp only [h, if_false]
  exact Ev.now _
theorem ai2 (a:Int) (l:List (List Int)) (p u:Int) (hl:l.length≤maxLen):Ev (fun k=>zv.f k a l p u) (Ea a l p u):=by
 unfold zv.f Ea
 refine Ev.bind (Ip a l p [u] hl (by simp)) ?_
 rw [OO]
 by_cases h:ja a l p u=0
 ·obtain ⟨hg, hp, h0, h1⟩ := vr h
  obtain ⟨q,rfl,h2,h3,hq⟩:=rJ hp
  obtain ⟨v,rfl⟩:∃ v:Nat,u=v:=⟨u.toNat,by omega⟩
  obtain ⟨R,hR,hE⟩:=Np hg q hq h2 (by omega) v (by omega)
  simp only [h,if_true]
  refine Ev.bind hE ?_
  rw [WS h2 hR]
  exact Ev.now _
 ·simp only [h, if_false]
  exact Ev.now _
/-- The roots below i. -/
def q2 (l:List (List Int)) (p:Int) (i:Nat):List Int:=(List.range i).filterMap fun (u:Nat)=>if aE (2 * l.length) (gM u (eA l)) % p=0 then some (u:Int) else none
theorem Oj (l:List (List Int)) (p:Int) (i:Nat):(q2 l p i).length≤i:=by
 unfold q2
 have:=List.length_filterMap_le (fun (u:Nat)=>if aE (2 * l.length) (gM u (eA l)) % p=0 then some (u:Int) else none) (List.range i)
 simpa using this
theorem WI (l:List (List Int)) (p:Int) (i:Nat):q2 l p (i+1)=if aE (2 * l.length) (gM i (eA l)) % p=0 then q2 l p i ++ [(i:Int)] else q2 l p i:=by
 unfold q2
 rw [List.range_succ,List.filterMap_append]
 by_cases h:aE (2 * l.length) (gM i (eA l)) % p=0
 ·simp [h]
 ·simp [h]
def wh (a:Int) (l:List (List Int)) (p:Int):List Int × Int:=if ja a l p 0=0 then (q2 l p p.toNat,0) else ([],ja a l p 0)
theorem ai5 (a:Int) (l:List (List Int)) (p:Int) (hl:l.length≤maxLen):Ev (fun k=>F8.f k a l p) (wh a l p):=by
 unfold F8.f wh
 refine Ev.bind (Ip a l p [] hl (by simp)) ?_
 rw [ajF]
 by_cases h:ja a l p 0=0
 ·obtain ⟨hg, hp, _, _⟩ := vr h
  obtain ⟨q,rfl,h2,h3,hq⟩:=rJ hp
  simp only [h,if_true,Int.toNat_natCast]
  have key:∀ (d i:Nat),q - i=d→i≤q→Ev (fun k=>F8.l0 k q (q2 l q i) i a l) (q2 l q q,0):=by
   intro d
   induction d with
   | zero =>
    intro i hd hi
    obtain rfl:i=q:=by omega
    refine Ev.step (fun k=>by simp only [F8.l0];rfl) ?_
    simp only [Int.lt_irrefl,if_false]
    exact Ev.now _
   | succ d ih =>
    intro i hd hi
    have MT:i < q:=by omega
    obtain ⟨R,hR,hE⟩:=Np hg q hq h2 (by omega) i MT
    have hlen:=Oj l q i
    have hn:=ih (i+1) (by omega) (by omega)
    rw [WI,show ((i+1:Nat):Int)=(i:Int)+1 by omega] at hn
    refine Ev.step (fun k=>by simp only [F8.l0];rfl) ?_
    simp only [lI i q (by omega),if_true]
    refine Ev.bind hE ?_
    rw [WS h2 hR]
    simp only [wI ((i:Int)+1) (by omega),show (q2 l q i).length < 17592186044416 by omega,if_true]
    by_cases h0:aE (2 * l.length) (gM i (eA l)) % q=0
    ·simp only [h0,if_true] at hn ⊢;exact hn
    ·simp only [h0,if_false] at hn ⊢;exact hn
  exact key q 0 (by omega) (by omega)
 ·simp only [h, if_false]
  exact Ev.now _
theorem agz (a:Int) (l:List (List Int)) (p:Int) (hl:l.length≤maxLen):Ev (fun k=>F7.f k a l p) (wh a l p):=by
 unfold F7.f wh
 refine Ev.bind (asQ a l p 0 hl) ?_
 by_cases h:ja a l p 0=0
 ·obtain ⟨hg, hp, _, _⟩ := vr h
  obtain ⟨q,rfl,h2,h3,hq⟩:=rJ hp
  simp only [h,if_true,Int.toNat_natCast]
  refine Ev.bind (Oi a l hg) ?_
  have key:∀ (d i:Nat),q - i=d→i≤q→Ev (fun k=>F7.l0 k q (q2 l q i) (iB (qL (2 * l.length) (eA l)) (2 * l.length+1)) q i) (q2 l q q,0):=by
   intro d
   induction d with
   | zero =>
    intro i hd hi
    obtain rfl:i=q:=by omega
    refine Ev.step (fun k=>by simp only [F7.l0];rfl) ?_
    simp only [Int.lt_irrefl,if_false]
    exact Ev.now _
   | succ d ih =>
    intro i hd hi
    have MT:i < q:=by omega
    have hlen:=Oj l q i
    have hn:=ih (i+1) (by omega) (by omega)
    rw [WI,show ((i+1:Nat):Int)=(i:Int)+1 by omega] at hn
    refine Ev.step (fun k=>by simp only [F7.l0];rfl) ?_
    simp only [lI i q (by omega),if_true]
    refine Ev.bind (WC hg q h2 (by omega) i MT) ?_
    simp only [wI ((i:Int)+1) (by omega),show (q2 l q i).length < 17592186044416 by omega,if_true]
    by_cases h0:aE (2 * l.length) (gM i (eA l)) % q=0
    ·simp only [h0,if_true] at hn ⊢;exact hn
    ·simp only [h0,if_false] at hn ⊢;exact hn
  exact key q 0 (by omega) (by omega)
 ·simp only [h, if_false]
  exact Ev.now _
theorem ab' {n:Nat}:∀ (P Q:Nat→Nat→Int),ef n P Q n=aE n Q:=by
 induction n with
 | zero=>intro P Q;rfl
 | succ n ih =>
  intro P Q
  rw [Iq,arH]
  refine dh (fun i hi=>?_)
  rw [asn _ _ (n+1) (by omega),Int.mul_zero,Int.zero_add]
  show fW i * (Q i 0 * ef n _ _ n)=_
  rw [ih,Int.mul_assoc]
theorem ab_ {n:Nat}:∀ (A:Nat→Nat→Int),aE n (aqZ A)=fW n * aE n A:=by
 induction n with
 | zero=>intro A;rfl
 | succ n ih =>
  intro A
  rw [arH,arH,← fe]
  refine dh (fun i hi=>?_)
  have h:=ih (fun a b=>A (aY i a) (b+1))
  rw [show (fun a b=>aqZ A (aY i a) (b+1))=aqZ (fun a b=>A (aY i a) (b+1)) from rfl,h,NC]
  show fW i * (-(A i 0)) * _=_
  simp only [Int.mul_neg,Int.neg_mul]
  congr 1
  generalize aE n _=x
  rw [Int.mul_left_comm]
theorem ab9 (n:Nat) (A:Nat→Nat→Int):bY n A n=fW n * aE n A:=by
 unfold bY
 rw [ab',ab_]
def FP (c:Int) (x:List Int):Option Bool:=if 0≤c then (if c < (x.length:Int) then some (rd x c != 0) else none) else none
theorem ahL (n c:Nat) (hc:c < n) (g:Nat→Int):FP (c:Int) (b_ n g)=some (g c != 0):=by
 unfold FP
 rw [if_pos (by omega),if_pos (by rw [d_];omega),gG hc]
theorem ai_ (i c r:Nat):nJ i c r=nJ c i r:=by unfold nJ;(repeat' split)<;>omega
/-- How many ways to choose. -/
def aqU : Nat → Nat → Nat
 | _,0=>1
 | 0,_+1=>0
 | n+1,k+1=>aqU n k+aqU n (k+1)
theorem Hi : ∀ n k, n < k → aqU n k = 0
 | 0,0,h=>by omega
 | 0,_+1,_=>rfl
 | _+1,0,h=>by omega
 | n+1,k+1,h=>by
  show aqU n k+aqU n (k+1)=0
  rw [Hi n k (by omega),Hi n (k+1) (by omega)]
theorem Sl : ∀ n, aqU n n = 1
 | 0=>rfl
 | n+1=>by
  show aqU n n+aqU n (n+1)=1
  rw [Sl n,Hi n (n+1) (by omega)]
theorem D0 (n:Nat):aqU n 0=1:=by cases n<;>rfl
theorem Hj : ∀ n k, (k + 1) * aqU (n + 1) (k + 1) = (n + 1) * aqU n k
 | 0,0=>rfl
 | 0,k+1=>by
  show (k+1+1) * (aqU 0 (k+1)+aqU 0 (k+1+1))=_
  simp [aqU]
 | n+1,0=>by
  have h:=Hj n 0
  rw [D0] at h
  show (0+1) * (aqU (n+1) 0+aqU (n+1) (0+1))=(n+1+1) * aqU (n+1) 0
  rw [D0]
  omega
 | n+1,j+1=>by
  have h1:=Hj n j
  have h2:=Hj n (j+1)
  show (j+1+1) * (aqU (n+1) (j+1)+aqU (n+1) (j+1+1))=(n+1+1) * aqU (n+1) (j+1)
  rw [Nat.mul_add,h2,Nat.add_mul (j+1) 1,h1,Nat.add_mul (n+1) 1]
  have h3:aqU (n+1) (j+1)=aqU n j+aqU n (j+1):=rfl
  have h4:(n+1) * aqU (n+1) (j+1)=(n+1) * aqU n j+(n+1) * aqU n (j+1):=by rw [h3,Nat.mul_add]
  omega
theorem RD (a : Int) : ∀ n : Nat, (a + 1) ^ n = ax (n + 1) (fun k => (aqU n k : Int) * a ^ k)
 | 0=>by simp [ax,aqU]
 | n+1=>by
  have ih:=RD a n
  rw [Int.pow_succ,ih,Int.mul_add,Int.mul_one,yE (n+1)]
  have e1:ax (n+1) (fun i=>(aqU (n+1) (i+1):Int) * a ^ (i+1))=ax (n+1) (fun i=>(aqU n i:Int) * a ^ i) * a+ax (n+1) (fun i=>(aqU n (i+1):Int) * a ^ (i+1)):=by
   rw [Int.mul_comm _ a,← fe,← ov]
   refine dh (fun i _=>?_)
   show ((aqU n i+aqU n (i+1):Nat):Int) * a ^ (i+1)=_
   rw [Int.natCast_add,Int.add_mul,Int.pow_succ]
   congr 1
   rw [Int.mul_comm (a ^ i) a,Int.mul_left_comm]
  have e2:ax (n+1) (fun k=>(aqU n k:Int) * a ^ k)=(aqU n 0:Int) * a ^ 0+ax (n+1) (fun i=>(aqU n (i+1):Int) * a ^ (i+1)):=by
   have h:=yE (n+1) (fun k=>(aqU n k:Int) * a ^ k)
   have h2:ax (n+1+1) (fun k=>(aqU n k:Int) * a ^ k)=ax (n+1) (fun k=>(aqU n k:Int) * a ^ k)+(aqU n (n+1):Int) * a ^ (n+1):=rfl
   rw [Hi n (n+1) (by omega)] at h2
   rw [h2] at h
   simpa using h
  rw [e1]
  have e3:((aqU (n+1) 0:Nat):Int) * a ^ 0=(aqU n 0:Int) * a ^ 0:=by rw [D0,D0]
  rw [e3]
  omega
theorem adw {p:Nat} (hp:i_ p=true) (cW:2≤p) (k:Nat) (h0:0 < k) (hk:k < p):(p:Int) ∣ (aqU p k:Int):=by
 obtain ⟨c,hc⟩:=atx hp cW k h0 hk
 obtain ⟨q,rfl⟩:∃ q,p=q+1:=⟨p - 1,by omega⟩
 obtain ⟨j,rfl⟩:∃ j,k=j+1:=⟨k - 1,by omega⟩
 have h:=Hj q j
 have h2:((j+1:Nat):Int) * (aqU (q+1) (j+1):Int)=((q+1:Nat):Int) * (aqU q j:Int):=by rw [← Int.natCast_mul,h,Int.natCast_mul]
 obtain ⟨x,hx⟩:=hc
 refine ⟨c * (aqU q j:Int) - x * (aqU (q+1) (j+1):Int),?_⟩
 have e:(aqU (q+1) (j+1):Int)=c * ((j+1:Nat):Int) * (aqU (q+1) (j+1):Int) - ((q+1:Nat):Int) * x * (aqU (q+1) (j+1):Int):=by
  rw [← Int.sub_mul,← hx]
  rw [show c * ((j+1:Nat):Int) - (c * ((j+1:Nat):Int) - 1)=1 by omega,Int.one_mul]
 rw [Int.mul_assoc,h2] at e
 rw [Int.mul_sub,← Int.mul_assoc ((q+1:Nat):Int) x]
 rw [Int.mul_left_comm ((q+1:Nat):Int) c]
 exact e
theorem S8 {p : Nat} (hp : i_ p = true) (cW : 2 ≤ p) : ∀ a : Nat, (p : Int) ∣ (a : Int) ^ p - a
 | 0=>by
  obtain ⟨q,rfl⟩:∃ q,p=q+1:=⟨p - 1,by omega⟩
  rw [Int.pow_succ]
  exact ⟨0,by simp⟩
 | a+1=>by
  have ih:=S8 hp cW a
  have h:=RD (a:Int) p
  obtain ⟨q,rfl⟩:∃ q,p=q+1:=⟨p - 1,by omega⟩
  have h1:ax (q+1+1) (fun k=>(aqU (q+1) k:Int) * (a:Int) ^ k)=ax (q+1) (fun k=>(aqU (q+1) k:Int) * (a:Int) ^ k)+(aqU (q+1) (q+1):Int) * (a:Int) ^ (q+1):=rfl
  rw [h1,yE,Sl,D0] at h
  have h2:((q+1:Nat):Int) ∣ ax q (fun i=>(aqU (q+1) (i+1):Int) * (a:Int) ^ (i+1)) - ax q (fun _=>0) :=
   yC (fun i hi=>by
    rw [Int.sub_zero]
    exact Int.dvd_trans (adw hp cW (i+1) (by omega) (by omega)) ⟨(a:Int) ^ (i+1),rfl⟩)
  rw [mg (fun _ _=>rfl),Int.sub_zero] at h2
  have h3:=Int.dvd_add h2 ih
  rw [show ((a+1:Nat):Int)=(a:Int)+1 by omega,h]
  simp only [Int.pow_zero,Int.mul_one,Int.one_mul,Int.natCast_one]
  generalize ax q (fun i=>(aqU (q+1) (i+1):Int) * (a:Int) ^ (i+1))=S at h3 ⊢
  generalize (a:Int) ^ (q+1)=P at h3 ⊢
  rw [show 1+S+P - ((a:Int)+1)=S+(P - a) by omega]
  exact h3
theorem aer {p:Nat} (hp:i_ p=true) (cW:2≤p) (a:Nat) (h0:0 < a) (ha:a < p):(p:Int) ∣ (a:Int) * (a:Int) ^ (p - 2) - 1:=by
 have h:=S8 hp cW a
 obtain ⟨k,hk⟩:=atx hp cW a h0 ha
 obtain ⟨q,rfl⟩:∃ q,p=q+2:=⟨p - 2,by omega⟩
 rw [show q+2 - 2=q by omega]
 rw [Int.pow_succ,Int.pow_succ,show (a:Int) ^ q * a * a=a * ((a:Int) * (a:Int) ^ q) by rw [Int.mul_comm,Int.mul_comm ((a:Int) ^ q) a]] at h
 generalize (a:Int) * (a:Int) ^ q=X at h ⊢
 generalize ((q+2:Nat):Int)=P at h hk ⊢
 have e1:P ∣ k * (a * X - a):=Int.dvd_trans h ⟨k,by rw [Int.mul_comm]⟩
 have e2:P ∣ (k * a - 1) * (X - 1):=Int.dvd_trans hk ⟨X - 1,rfl⟩
 have e3:=Int.dvd_sub e1 e2
 rw [show k * (a * X - a) - (k * a - 1) * (X - 1)=X - 1 by
  simp only [Int.mul_sub,Int.sub_mul,Int.one_mul,Int.mul_one,Int.mul_assoc];omega] at e3
 exact e3
theorem NZ {p a b : Int} (h : p ∣ a - b) : ∀ n : Nat, p ∣ a ^ n - b ^ n
 | 0=>⟨0,by simp⟩
 | n+1=>by rw [Int.pow_succ,Int.pow_succ];exact asl (NZ h n) h
theorem agD (p:Nat) (hp:2≤p) (cW:p≤1000000):∀ (k:Nat) (x y:Int),(k:Int)≤1000000→0≤x∧x < p→0≤y∧y < p→∃ r:Int,Ev (fun q=>lC.l0 q x p y k) r∧(0≤r∧r < p)∧(p:Int) ∣ r - y * x ^ k:=by
 have hem:=fun x:Int=>And.intro (Int.emod_nonneg x (show (p:Int) ≠ 0 by omega)) (Int.emod_lt_of_pos x (show (0:Int) < p by omega))
 have hb:∀ x y:Int,0≤x∧x < p→0≤y∧y < p→Int.tmod (wrap64 (x * y)) p=(x * y) % p:=fun x y hx hy=>by
  have h1:x * y≤1000000 * 1000000:=Int.mul_le_mul (by omega) (by omega) (by omega) (by omega)
  have h2:0≤x * y:=Int.mul_nonneg hx.1 hy.1
  rw [dF (by omega) (by omega),oA h2]
 intro k
 induction k using Nat.strongRecOn with
 | _ k ih =>
  intro x y hk hx hy
  by_cases h0:k=0
  ·subst h0
   refine ⟨y,Ev.step (fun q=>by simp only [lC.l0];rfl) ?_,hy,⟨0,by simp⟩⟩
   simp only [show ¬ (((0:Nat):Int) > 0) by omega,if_false]
   exact Ev.now _
  ·have VF := hem (x * x)
   have ht:wrap64 (Int.tdiv (k:Int) 2)=((k / 2:Nat):Int):=by
    rw [show Int.tdiv (k:Int) 2=((k / 2:Nat):Int) from rfl]
    exact dF (by omega) (by omega)
   by_cases h1:(k:Int) % 2=1
   ·obtain ⟨r, h2, h3, h4⟩ := ih (k / 2) (by omega) ((x * x) % p) ((y * x) % p) (by omega) VF (hem _)
    refine ⟨r,Ev.step (fun q=>by simp only [lC.l0];rfl) ?_,h3,?_⟩
    ·simp only [show ((k : Int) > 0) by omega, if_true, show Int.tmod (k : Int) 2 = (k : Int) % 2 from oA (by omega), h1, show ¬ ((p : Int) = 0) by omega, if_false, hb x x hx hx, hb y x hy hx, ht]
     exact h2
    ·have e1 := asl (uz p (y * x)) (NZ (uz p (x * x)) (k / 2))
     have e2:=oa h4 e1
     have e3:y * x * (x * x) ^ (k / 2)=y * x ^ k:=by
      rw [Int.mul_assoc]
      congr 1
      rw [show (x * x) ^ (k / 2)=x ^ (2 * (k / 2)) by rw [Int.pow_mul];congr 1;simp [Int.pow_succ]]
      rw [Int.mul_comm,← Int.pow_succ]
      congr 1
      omega
     rw [e3] at e2
     exact e2
   ·obtain ⟨r, h2, h3, h4⟩ := ih (k / 2) (by omega) ((x * x) % p) y (by omega) VF hy
    refine ⟨r,Ev.step (fun q=>by simp only [lC.l0];rfl) ?_,h3,?_⟩
    ·simp only [show ((k : Int) > 0) by omega, if_true, show Int.tmod (k : Int) 2 = (k : Int) % 2 from oA (by omega), h1, show ¬ ((p : Int) = 0) by omega, if_false, hb x x hx hx, ht]
     exact h2
    ·have e1 := asl (show (p : Int) ∣ y - y from ⟨0, by omega⟩) (NZ (uz p (x * x)) (k / 2))
     have e2:=oa h4 e1
     have e3:y * (x * x) ^ (k / 2)=y * x ^ k:=by
      congr 1
      rw [show (x * x) ^ (k / 2)=x ^ (2 * (k / 2)) by rw [Int.pow_mul];congr 1;simp [Int.pow_succ]]
      congr 1
      omega
     rw [e3] at e2
     exact e2
theorem agC {p:Nat} (hp:i_ p=true) (cW:2≤p) (hp3:p≤1000000) (x:Int) (hx:0 < x∧x < p):∃ v:Int,Ev (fun k=>lC.f k x p) v∧(0≤v∧v < p)∧(x * v) % p=1:=by
 obtain ⟨r,h1,h2,h3⟩:=agD p cW hp3 (p - 2) x 1 (by omega) (by omega) (by omega)
 refine ⟨r,?_,h2,?_⟩
 ·unfold lC.f
  rw [wI ((p:Int) - 2) (by omega),show (p:Int) - 2=((p - 2:Nat):Int) by omega]
  exact h1
 ·obtain ⟨a, rfl⟩ := Int.eq_ofNat_of_zero_le (show 0 ≤ x by omega)
  have h4:=aer hp cW a (by omega) (by omega)
  rw [Int.one_mul] at h3
  have h5:=oa (asl (show (p:Int) ∣ (a:Int) - a from ⟨0,by omega⟩) h3) h4
  have h6:((a:Int) * r) % p=1 % p:=Int.emod_eq_emod_iff_emod_sub_eq_zero.2 (Int.emod_eq_zero_of_dvd h5)
  rw [h6]
  exact Int.emod_eq_of_lt (by omega) (by omega)
theorem aiA (p : Nat) (hp : 2 ≤ p) (cW : p ≤ 101) (u : Nat) (hu : u < p) (n : Nat) (hn : n ≤ 20) (A : Nat → Nat → Int) (hA : ∀ i j, A i j = 0 ∨ A i j = 1) (i : Nat) (hi : i < n) (R : List (List Int) × Bool)
  (next:Ev (fun k=>aX.l0 k p u (cM (i+1) (n+n) (gT p u n A)) n (cL n A) n ((i:Int)+1)) R) :
  ∀ (d j:Nat),n - j=d→j≤n→Ev (fun k=>aX.l1 k p u (cM i (n+n) (gT p u n A)) n i (b_ (n+n) (fun q=>if q < j then (-(u:Int) * A i q) % p else 0)) (cL n A) n i n j) R:=by
 have hem:=fun x:Int=>And.intro (Int.emod_nonneg x (show (p:Int) ≠ 0 by omega)) (Int.emod_lt_of_pos x (show (0:Int) < p by omega))
 intro d
 induction d with
 | zero =>
  intro j hd hj
  obtain rfl:j=n:=by omega
  refine Ev.step (fun q=>by simp only [aX.l1];rfl) ?_
  have hg:rd (b_ (j+j) (fun q=>if q < j then (-(u:Int) * A i q) % p else 0)) (i:Int)=(-(u:Int) * A i i) % p:=by rw [gG (by omega),if_pos hi]
  have he:=hem (-(u:Int) * A i i)
  simp only [Int.lt_irrefl,if_false,cx i,if_true,d_,show ((i:Int) < ((j+j:Nat):Int)) by omega,show ¬ ((p:Int)=0) by omega,hg,show (j:Int)+(i:Int)=((j+i:Nat):Int) by omega,dF (show -9223372036854775808≤((j+i:Nat):Int) by omega) (by omega),show (0:Int)≤((j+i:Nat):Int) by omega,show ((j+i:Nat):Int) < ((j+j:Nat):Int) by omega,Int.toNat_natCast,vu,arj,show i < 5864062014805 by omega,wI ((i:Int)+1) (by omega),dF (show -9223372036854775808≤(-(u:Int) * A i i) % p+1 by omega) (by omega),oA (show 0≤(-(u:Int) * A i i) % p+1 by omega)]
  refine Ev.congr (fun q=>?_) next
  rw [← Jd]
  congr 2
  congr 1
  refine vt fun q hq=>?_
  unfold gT
  by_cases h1:q < j
  ·by_cases h2 : q = i
   ·subst h2;simp only [h1,show q ≠ j+q by omega,if_true,if_false]
   ·simp only [h1,h2,show q ≠ j+i by omega,if_true,if_false]
  ·by_cases h2 : q = j + i
   ·subst h2;simp only [h1,if_true,if_false]
   ·simp only [h1,h2,show q ≠ i by omega,if_false]
 | succ d ih =>
  intro j hd hj
  have hjn:j < n:=by omega
  refine Ev.step (fun q=>by simp only [aX.l1];rfl) ?_
  have ha:wrap64 (wrap64 (-(u:Int)) * A i j)=-(u:Int) * A i j:=by
   rw [wI (-(u:Int)) (by omega)]
   rcases hA i j with h|h
   ·rw [h];simp [wrap64]
   ·rw [h,Int.mul_one];exact dF (by omega) (by omega)
  simp only [lI j n (by omega),cx i,cx j,kC,lI i n (by omega),if_true,sB hi,d_,gG hjn,ha,NH (show (0:Int) < (p:Int) by omega) (by omega),Option.bind_some,show ((j:Int) < ((n+n:Nat):Int)) by omega,Int.toNat_natCast,vu,wI ((j:Int)+1) (by omega)]
  refine Ev.congr (fun q=>?_) (ih (j+1) (by omega) (by omega))
  rw [show ((j+1:Nat):Int)=(j:Int)+1 by omega]
  congr 1
  refine vt fun q hq=>?_
  by_cases h1:q=j
  ·subst h1;rw [if_pos rfl,if_pos (by omega)]
  ·rw [if_neg h1]
   by_cases h2:q < j
   ·rw [if_pos h2,if_pos (by omega)]
   ·rw [if_neg h2,if_neg (by omega)]
theorem aiz (p : Nat) (hp : 2 ≤ p) (cW : p ≤ 101) (u : Nat) (hu : u < p) (n : Nat) (hn : n ≤ 20) (A : Nat → Nat → Int) (hA : ∀ i j, A i j = 0 ∨ A i j = 1) (R : List (List Int) × Bool)
  (next:Ev (fun k=>aX.l2 k p (cM n (n+n) (gT p u n A)) n n 0) R) :
  ∀ (d i:Nat),n - i=d→i≤n→Ev (fun k=>aX.l0 k p u (cM i (n+n) (gT p u n A)) n (cL n A) n i) R:=by
 intro d
 induction d with
 | zero =>
  intro i hd hi
  obtain rfl:i=n:=by omega
  refine Ev.step (fun q=>by simp only [aX.l0];rfl) ?_
  simp only [Int.lt_irrefl,if_false]
  exact next
 | succ d ih =>
  intro i hd hi
  have hin:i < n:=by omega
  refine Ev.step (fun q=>by simp only [aX.l0];rfl) ?_
  simp only [lI i n (by omega),cx i,kC,if_true,show (2:Int) * (n:Int)=((n+n:Nat):Int) by omega,dF (show -9223372036854775808≤((n+n:Nat):Int) by omega) (by omega),show (0:Int)≤((n+n:Nat):Int) by omega,Int.toNat_natCast,show n+n≤35184372088832 by omega,sB hin,d_]
  have h:=ih (i+1) (by omega) (by omega)
  rw [show ((i+1:Nat):Int)=(i:Int)+1 by omega] at h
  have h2:=aiA p hp cW u hu n hn A hA i hin R h n 0 (by omega) (by omega)
  refine Ev.congr (fun q=>?_) h2
  congr 1
  apply List.ext_getElem
  ·simp [b_]
  ·intro q _ _;simp [b_]
theorem aiF (n:Nat) (hn:n≤20) (T:Nat→Nat→Int):∀ (d i:Nat),n - i=d→i≤n→Ev (fun k=>aX.l6 k (cM n (n+n) T) n (cM i n (fun r j=>T r (n+j))) n i) (cM n n (fun r j=>T r (n+j)),true):=by
 intro d
 induction d with
 | zero =>
  intro i hd hi
  obtain rfl:i=n:=by omega
  refine Ev.step (fun q=>by simp only [aX.l6];rfl) ?_
  simp only [Int.lt_irrefl,if_false]
  exact Ev.now _
 | succ d ih =>
  intro i hd hi
  have hin:i < n:=by omega
  refine Ev.step (fun q=>by simp only [aX.l6];rfl) ?_
  simp only [lI i n (by omega),cx i,if_true,arj,nM hin,d_,cx n,show ((n:Int)≤((n+n:Nat):Int)) by omega,Int.toNat_natCast,W9,Option.bind_some,show i < 5864062014805 by omega,wI ((i:Int)+1) (by omega)]
  have h:=ih (i+1) (by omega) (by omega)
  rw [show ((i+1:Nat):Int)=(i:Int)+1 by omega,← Jd] at h
  exact h
theorem aiE (p : Nat) (hp : 2 ≤ p) (cW : p ≤ 101) (n : Nat) (hn : n ≤ 20) (S : Nat → Nat → Int) (hS : ∀ i j, i < n → j < n + n → 0 ≤ S i j ∧ S i j < p) (c : Nat) (hc : c < n) (i : Nat) (hi : i < n) (hic : i ≠ c) (R : List (List Int) × Bool)
  (next:Ev (fun k=>aX.l4 k p (cM n (n+n) (aq3 p S c (i+1) 0)) n n c n ((i:Int)+1) c) R) :
  ∀ (d j:Nat),n+n - j=d→j≤n+n→Ev (fun k=>aX.l5 k p (cM n (n+n) (aq3 p S c i j)) n i (S i c) n c n i ((n+n:Nat):Int) j c) R:=by
 intro d
 induction d with
 | zero =>
  intro j hd hj
  obtain rfl:j=n+n:=by omega
  refine Ev.step (fun q=>by simp only [aX.l5];rfl) ?_
  simp only [Int.lt_irrefl,if_false,wI ((i:Int)+1) (by omega)]
  refine Ev.congr (fun q=>?_) next
  congr 1
  refine pG fun r q hr hq=>?_
  unfold aq3
  by_cases h1:r ≠ c∧(r < i∨r=i∧q < n+n)
  ·rw [if_pos h1,if_pos ⟨h1.1,by omega⟩]
  ·rw [if_neg h1,if_neg (by omega)]
 | succ d ih =>
  intro j hd hj
  have hj2:j < n+n:=by omega
  refine Ev.step (fun q=>by simp only [aX.l5];rfl) ?_
  have e1:aq3 p S c i j i j=S i j:=by unfold aq3;rw [if_neg (by omega)]
  have e2:aq3 p S c i j c j=S c j:=by unfold aq3;rw [if_neg (by omega)]
  have b1:=hS i j hi hj2
  have b2:=Ce (show (0:Int) < p by omega) (by omega) (hS i c hi (by omega)) (hS c j hc hj2)
  simp only [show ((j:Int) < ((n+n:Nat):Int)) by omega,cx j,cx c,if_true,arj,lI c n (by omega),nM hi,nM hc,d_,gG hj2,e1,e2,wI (S i c * S c j) (by omega),wI (S i j - S i c * S c j) (by omega),NH (show (0:Int) < (p:Int) by omega) (by omega),Option.bind_some,Int.toNat_natCast,vu,CU,wI ((j:Int)+1) (by omega)]
  refine Ev.congr (fun q=>?_) (ih (j+1) (by omega) (by omega))
  rw [show ((j+1:Nat):Int)=(j:Int)+1 by omega]
  congr 1
  refine pG fun r q hr hq=>?_
  by_cases h1:r=i
  ·subst h1
   rw [if_pos rfl]
   by_cases h2:q=j
   ·subst h2
    rw [if_pos rfl]
    unfold aq3;rw [if_pos ⟨hic,by omega⟩]
   ·rw [if_neg h2]
    unfold aq3
    by_cases h3:q < j
    ·rw [if_pos ⟨hic,by omega⟩,if_pos ⟨hic,by omega⟩]
    ·rw [if_neg (by omega),if_neg (by omega)]
  ·rw [if_neg h1]
   unfold aq3
   by_cases h3:r ≠ c∧r < i
   ·rw [if_pos ⟨h3.1,by omega⟩,if_pos ⟨h3.1,by omega⟩]
   ·rw [if_neg (by omega),if_neg (by omega)]
theorem aiD (p : Nat) (hp : 2 ≤ p) (cW : p ≤ 101) (n : Nat) (hn : n ≤ 20) (S : Nat → Nat → Int) (hS : ∀ i j, i < n → j < n + n → 0 ≤ S i j ∧ S i j < p) (c : Nat) (hc : c < n) (R : List (List Int) × Bool)
  (next:Ev (fun k=>aX.l2 k p (cM n (n+n) (aq3 p S c n 0)) n n ((c:Int)+1)) R) :
  ∀ (d i:Nat),n - i=d→i≤n→Ev (fun k=>aX.l4 k p (cM n (n+n) (aq3 p S c i 0)) n n c n i c) R:=by
 intro d
 induction d with
 | zero =>
  intro i hd hi
  obtain rfl:i=n:=by omega
  refine Ev.step (fun q=>by simp only [aX.l4];rfl) ?_
  simp only [Int.lt_irrefl,if_false,wI ((c:Int)+1) (by omega)]
  exact next
 | succ d ih =>
  intro i hd hi
  have hin:i < n:=by omega
  refine Ev.step (fun q=>by simp only [aX.l4];rfl) ?_
  have e1:aq3 p S c i 0 i c=S i c:=by unfold aq3;rw [if_neg (by omega)]
  have h:=ih (i+1) (by omega) (by omega)
  rw [show ((i+1:Nat):Int)=(i:Int)+1 by omega] at h
  simp only [lI i n (by omega),cx i,cx c,if_true,arj,nM hin,d_,show ((c:Int) < ((n+n:Nat):Int)) by omega,gG (show c < n+n by omega),e1,wI ((i:Int)+1) (by omega)]
  by_cases hic:i=c
  ·subst hic
   simp only [if_true]
   refine Ev.congr (fun q=>?_) h
   congr 1
   refine pG fun r q hr hq=>?_
   unfold aq3
   by_cases h1:r ≠ i∧(r < i∨r=i∧q < 0)
   ·rw [if_pos h1,if_pos ⟨h1.1,by omega⟩]
   ·rw [if_neg h1,if_neg (by omega)]
  ·have hci : ¬ ((i : Int) = (c : Int)) := by omega
   simp only [hci,if_false]
   by_cases h0:S i c=0
   ·simp only [h0, if_true]
    refine Ev.congr (fun q=>?_) h
    congr 1
    refine pG fun r q hr hq=>?_
    unfold aq3
    by_cases h1:r ≠ c∧(r < i∨r=i∧q < 0)
    ·rw [if_pos h1,if_pos ⟨h1.1,by omega⟩]
    ·rw [if_neg h1]
     by_cases h2:r=i
     ·subst h2
      rw [if_pos ⟨hic,by omega⟩,h0,Int.zero_mul,Int.sub_zero]
      have b:=hS r q hr hq
      exact (Int.emod_eq_of_lt b.1 b.2).symm
     ·rw [if_neg (by omega)]
   ·simp only [h0, if_false]
    exact aiE p hp cW n hn S hS c hc i hin hic R h (n+n) 0 (by omega) (by omega)
theorem aiC (p : Nat) (hp : 2 ≤ p) (cW : p ≤ 101) (n : Nat) (hn : n ≤ 20) (T : Nat → Nat → Int) (hT : ∀ i j, i < n → j < n + n → 0 ≤ T i j ∧ T i j < p) (v : Int) (hv : 0 ≤ v ∧ v < p) (c : Nat) (hc : c < n) (R : List (List Int) × Bool)
  (next:Ev (fun k=>aX.l4 k p (cM n (n+n) (jS p T c v (n+n))) n n c n 0 c) R) :
  ∀ (d j:Nat),n+n - j=d→j≤n+n→Ev (fun k=>aX.l3 k p (cM n (n+n) (jS p T c v j)) n v n c ((n+n:Nat):Int) j c) R:=by
 intro d
 induction d with
 | zero =>
  intro j hd hj
  obtain rfl:j=n+n:=by omega
  refine Ev.step (fun q=>by simp only [aX.l3];rfl) ?_
  simp only [Int.lt_irrefl,if_false,arj]
  exact next
 | succ d ih =>
  intro j hd hj
  have hj2:j < n+n:=by omega
  refine Ev.step (fun q=>by simp only [aX.l3];rfl) ?_
  have e1:jS p T c v j c j=T c j:=by unfold jS;rw [if_neg (by omega)]
  have b2:=Ce (show (0:Int) < p by omega) (by omega) (hT c j hc hj2) hv
  simp only [show ((j:Int) < ((n+n:Nat):Int)) by omega,if_true,cx c,cx j,arj,lI c n (by omega),nM hc,d_,gG hj2,e1,show ¬ ((p:Int)=0) by omega,if_false,wI (T c j * v) (by omega),oA b2.1,Int.toNat_natCast,vu,CU,wI ((j:Int)+1) (by omega)]
  refine Ev.congr (fun q=>?_) (ih (j+1) (by omega) (by omega))
  rw [show ((j+1:Nat):Int)=(j:Int)+1 by omega]
  congr 1
  refine pG fun r q hr hq=>?_
  by_cases h1:r=c
  ·subst h1
   rw [if_pos rfl]
   by_cases h2:q=j
   ·subst h2
    rw [if_pos rfl]
    unfold jS;rw [if_pos ⟨rfl,by omega⟩]
   ·rw [if_neg h2]
    unfold jS
    by_cases h3:q < j
    ·rw [if_pos ⟨rfl,h3⟩,if_pos ⟨rfl,by omega⟩]
    ·rw [if_neg (by omega),if_neg (by omega)]
  ·rw [if_neg h1]
   unfold jS
   rw [if_neg (by omega),if_neg (by omega)]
theorem WK (k:Nat) (l:List (List Int)) (c:Int):xz.f k l c=vZ (FP c) l 0:=rfl
theorem aiy (n m : Nat) (T : Nat → Nat → Int) (c : Nat) (hc : c < m) : ∀ (d r z : Nat), n - r = d → r ≤ n →
  (∃ i,r≤i∧i < n∧T i c ≠ 0∧vZ (FP (c:Int)) ((cM n m T).drop r) z=some ((z+(i - r):Nat):Int)) ∨
  ((∀ i,r≤i→i < n→T i c=0)∧vZ (FP (c:Int)) ((cM n m T).drop r) z=some (-1)):=by
 intro d
 induction d with
 | zero =>
  intro r z hd hr
  refine .inr ⟨fun i h1 h2=>by omega,?_⟩
  rw [List.drop_eq_nil_of_le (by rw [arj];omega)]
  rfl
 | succ d ih =>
  intro r z hd hr
  have hl:r < (cM n m T).length:=by rw [arj];omega
  have hg:(cM n m T)[r]=b_ m (T r):=by simp [cM]
  rw [List.drop_eq_getElem_cons hl,hg]
  simp only [vZ,ahL m c hc,Option.bind_some]
  by_cases h0:T r c=0
  ·simp only [h0, bne_self_eq_false, Bool.false_eq_true, if_false]
   rcases ih (r+1) (z+1) (by omega) (by omega) with ⟨i,h1,h2,h3,h4⟩|⟨h1,h2⟩
   ·exact .inl ⟨i,by omega,h2,h3,by rw [h4];congr 2;omega⟩
   ·refine .inr ⟨fun i h3 h4 => ?_, h2⟩
    by_cases h5:i=r
    ·rw [h5];exact h0
    ·exact h1 i (by omega) h4
  ·have hb : (T r c != 0) = true := by simp [h0]
   simp only [hb,if_true]
   exact .inl ⟨r,Nat.le_refl _,by omega,h0,by congr 2;omega⟩
/-- What solving answers, whether or not there is a solution. -/
def DE (p:Int) (n:Nat) (M:Nat→Nat→Int) (R:List (List Int) × Bool):Prop :=
 (R=([],false)∧p ∣ aE n M)∨∃ (X:Nat→Nat→Int) (bX:Int),R=(cM n n X,true)∧0 < bX∧bX < p∧p ∣ bX - aE n M∧(∀ i j,i < n→j < n→0≤X i j∧X i j < p)∧∀ i j,i < n→j < n→p ∣ ax n (fun k=>X i k * M k j) - aqE j i
theorem aiG (p : Nat) (ku : i_ p = true) (hp : 2 ≤ p) (cW : p ≤ 101) (n : Nat) (hn : n ≤ 20) (M T : Nat → Nat → Int) (bX : Int) (c : Nat) (hc : c < n) (h : GI p n M c T bX) (h0 : T c c ≠ 0)
  (next:∀ T' nF,GI p n M (c+1) T' nF→∃ R,DE p n M R∧Ev (fun k=>aX.l2 k p (cM n (n+n) T') n n ((c:Int)+1)) R) :
  ∃ (v:Int) (R:List (List Int) × Bool),DE p n M R∧Ev (fun k=>lC.f k (T c c) p) v∧Ev (fun k=>aX.l3 k p (cM n (n+n) T) n v n c ((n+n:Nat):Int) 0 c) R:=by
 have hr:=GI.wg h c c hc (by omega)
 obtain ⟨v,hv,v1,v2⟩:=agC ku hp (by omega) (T c c) ⟨by omega,hr.2⟩
 obtain ⟨R,hR,hE⟩:=next _ _ (GI.step (by omega) h hc v v2)
 refine ⟨v,R,hR,hv,?_⟩
 have Ey:∀ i j,i < n→j < n+n→0≤jS p T c v (n+n) i j∧jS p T c v (n+n) i j < p:=fun i j hi hj=>by
  unfold jS
  split
  ·exact ⟨Int.emod_nonneg _ (by omega),Int.emod_lt_of_pos _ (by omega)⟩
  ·exact GI.wg h i j hi hj
 have h5:=aiD p hp cW n hn (jS p T c v (n+n)) Ey c hc R hE n 0 (by omega) (by omega)
 have h4:=aiC p hp cW n hn T (GI.wg h) v v1 c hc R (Ev.congr (fun q=>by
  congr 1
  refine pG fun r q hr hq=>?_
  unfold aq3;rw [if_neg (by omega)]) h5) (n+n) 0 (by omega) (by omega)
 refine Ev.congr (fun q=>?_) h4
 congr 1
 refine pG fun r q hr hq=>?_
 unfold jS;rw [if_neg (by omega)]
theorem aiB (p:Nat) (ku:i_ p=true) (hp:2≤p) (cW:p≤101) (n:Nat) (hn:n≤20) (M:Nat→Nat→Int):∀ (d c:Nat),n - c=d→c≤n→∀ T bX,GI p n M c T bX→∃ R,DE p n M R∧Ev (fun k=>aX.l2 k p (cM n (n+n) T) n n c) R:=by
 intro d
 induction d with
 | zero =>
  intro c hd hc T bX h
  obtain rfl:c=n:=by omega
  obtain ⟨g1,g2⟩:=GI.last h
  refine ⟨(cM c c (fun r j=>T r (c+j)),true),Or.inr ⟨_,_,rfl,(GI.dr h).1,(GI.dr h).2,g1,fun i j hi hj=>GI.wg h i (c+j) hi (by omega),g2⟩,Ev.step (fun q=>by simp only [aX.l2];rfl) ?_⟩
  simp only [Int.lt_irrefl,if_false,arj]
  exact aiF c hn T c 0 (by omega) (by omega)
 | succ d ih =>
  intro c hd hc T bX h
  have yg:c < n:=by omega
  have nxt:∀ T' nF,GI p n M (c+1) T' nF→∃ R,DE p n M R∧Ev (fun k=>aX.l2 k p (cM n (n+n) T') n n ((c:Int)+1)) R:=fun T' nF h'=>by
   obtain ⟨R,hR,hE⟩:=ih (c+1) (by omega) (by omega) T' nF h'
   rw [show ((c+1:Nat):Int)=(c:Int)+1 by omega] at hE
   exact ⟨R,hR,hE⟩
  rcases aiy n (n+n) T c (by omega) (n - c) c 0 rfl hc with ⟨i,h1,h2,h3,h4⟩|⟨h1,h2⟩
  ·have hT:∃ (T':Nat→Nat→Int) (nF:Int),GI p n M c T' nF∧T' c c ≠ 0∧swp (cM n (n+n) T) (c:Int) (i:Int)=cM n (n+n) T':=by
    by_cases hic:i=c
    ·subst hic
     refine ⟨T,bX,h,h3,?_⟩
     rw [Ou n (n+n) T i i yg yg]
     refine pG fun r q _ _=>?_
     unfold nJ
     by_cases h5:r=i
     ·rw [if_pos h5,h5]
     ·rw [if_neg h5,if_neg h5]
    ·refine ⟨fun r => T (nJ i c r), (-bX) % p, GI.swap (by omega) h i (by omega) h2, ?_, ?_⟩
     ·show T (nJ i c c) c ≠ 0
      unfold nJ
      rw [if_neg (Ne.symm hic),if_pos rfl];exact h3
     ·rw [Ou n (n + n) T c i yg h2]
      refine pG fun r q _ _=>?_
      rw [ai_]
   obtain ⟨T',nF,hg,hn0,hsw⟩:=hT
   obtain ⟨v,R,hR,hv,hE⟩:=aiG p ku hp cW n hn M T' nF c yg hg hn0 nxt
   simp only [Nat.zero_add] at h4
   have e1:¬ (((i - c:Nat):Int) < 0):=by omega
   have e2:wrap64 ((c:Int)+((i - c:Nat):Int))=(i:Int):=by rw [dF (by omega) (by omega)];omega
   have e4:(0:Int)≤(i:Int):=by omega
   have e5:(i:Int) < (n:Int):=by omega
   have e6:(c:Int) < ((n+n:Nat):Int):=by omega
   have e7:(c:Int) < (n:Int):=by omega
   have e8:(c:Int)≤(n:Int):=by omega
   have e9:(0:Int)≤(c:Int):=by omega
   refine ⟨R,hR,Ev.step (fun q=>?_) (Ev.bind (f:=fun k x=>aX.l3 k p (cM n (n+n) T') n x n c ((n+n:Nat):Int) 0 c) hv hE)⟩
   simp only [aX.l2,WK]
   rw [if_pos e7,if_pos e9,arj,if_pos e8,Int.toNat_natCast,h4,Option.bind_some,if_neg e1,e2,if_pos e4,if_pos e5,if_pos e7,Option.bind_some,hsw,nM yg,d_,if_pos e6,gG (show c < n+n by omega)]
  ·refine ⟨([], false), Or.inl ⟨rfl, GI.none h yg (fun r h3 h4 => h1 r h3 h4)⟩, Ev.step (fun q => by simp only [aX.l2, WK]; rfl) ?_⟩
   simp only [lI c n (by omega),if_true,cx c,arj,show ((c:Int)≤(n:Int)) by omega,Int.toNat_natCast]
   rw [h2]
   simp only [Option.bind_some,show ((-1:Int) < 0) by omega,if_true]
   exact Ev.now _
theorem WE {a:Int} {l:List (List Int)} (h:ee a l=true) (p:Nat) (ku:i_ p=true) (hp:2≤p) (cW:p≤101) (u:Nat) (hu:u < p):∃ R,DE p (2 * l.length) (gM u (eA l)) R∧Ev (fun k=>aX.f k a l p u) R:=by
 have hl:=kz h
 obtain ⟨R,hR,hE⟩:=aiB p ku hp cW (2 * l.length) (by omega) (gM u (eA l)) (2 * l.length) 0 (by omega) (by omega) _ _ (GI.start (p:=p) (by omega) u (2 * l.length) (eA l))
 refine ⟨R,hR,?_⟩
 unfold aX.f
 refine Ev.bind (L2 a l hl (asm h)) ?_
 simp only [show 2 * (l.length:Int)=((2 * l.length:Nat):Int) by omega,dF (show -9223372036854775808≤((2 * l.length:Nat):Int) by omega) (by omega),D_,kC]
 exact aiz p hp cW u hu (2 * l.length) (by omega) (eA l) (SI l) R hE (2 * l.length) 0 (by omega) (by omega)
theorem Wt {p:Nat} (ku:i_ p=true) (hp:2≤p) {a b:Int} (h:(p:Int) ∣ a * b) (hb:¬ (p:Int) ∣ b):(p:Int) ∣ a:=by
 have h0:0 < b % p:=by
  have h1:=Int.emod_nonneg b (show (p:Int) ≠ 0 by omega)
  have h2:b % p ≠ 0:=fun e=>hb (Int.dvd_of_emod_eq_zero e)
  omega
 obtain ⟨k,_,_,hk⟩:=VL ku hp h0 (Int.emod_lt_of_pos b (by omega))
 obtain ⟨q,hq⟩:=h
 have e1:(p:Int) ∣ (k:Int) * (b % p) - 1:=Int.dvd_of_emod_eq_zero (by rw [Int.sub_emod,hk,Int.emod_eq_of_lt (a:=1) (by omega) (by omega)];rfl)
 have e2:(p:Int) ∣ (k:Int) * b - 1:=by
  have h3:(p:Int) ∣ (k:Int) * b - (k:Int) * (b % p):=Hy _ (D9 p b)
  have:=Int.dvd_add h3 e1
  rwa [show (k:Int) * b - (k:Int) * (b % p)+((k:Int) * (b % p) - 1)=(k:Int) * b - 1 by omega] at this
 obtain ⟨r,hr⟩:=e2
 refine ⟨k * q - a * r,?_⟩
 have:a * (k * b - 1)=a * (p * r):=by rw [hr]
 grind
/-- What is left inverse modulo p is one. -/
theorem inv_one {p : Nat} (ku : i_ p = true) (hp : 2 ≤ p) {n : Nat} {M X Y : Nat → Nat → Int} (hd : ¬ (p : Int) ∣ aE n M) (hX : ∀ i j, i < n → j < n → (p : Int) ∣ ax n (fun k => X i k * M k j) - aqE j i)
  (hY:∀ i j,i < n→j < n→(p:Int) ∣ ax n (fun k=>Y i k * M k j) - aqE j i) (i j:Nat) (hi:i < n) (hj:j < n):(p:Int) ∣ X i j - Y i j:=by
 refine Wt ku hp (b:=aE n M) ?_ hd
 have key:∀ Z:Nat→Nat→Int,ax n (fun m=>ax n (fun k=>Z i k * M k m) * iX n M m j)=Z i j * aE n M:=fun Z=>by
  have s1:ax n (fun m=>ax n (fun k=>Z i k * M k m) * iX n M m j)=ax n (fun m=>ax n (fun k=>Z i k * (M k m * iX n M m j))):=dh fun m _=>by
   rw [Int.mul_comm,← fe];exact dh fun k _=>by grind
  have s2:ax n (fun k=>ax n (fun m=>Z i k * (M k m * iX n M m j)))=Z i j * aE n M:=by
   rw [pz j hj (fun k hk hkj=>by rw [fe,CC M k j hj hk,if_neg hkj,Int.mul_zero]),fe,CC M j j hj hj,if_pos rfl]
  rw [s1,yF,s2]
 have hz:(p:Int) ∣ ax n (fun m=>ax n (fun k=>X i k * M k m) * iX n M m j) - ax n (fun m=>ax n (fun k=>Y i k * M k m) * iX n M m j):=by
  refine yC fun m hm=>?_
  rw [← Int.sub_mul]
  exact Int.dvd_trans (oa (hX i m hi hm) (Hz (hY i m hi hm))) (Int.dvd_mul_right _ _)
 rw [key X,key Y] at hz
 rwa [Int.sub_mul]
/-- Both ways to solve answer alike. -/
theorem WD {a : Int} {l : List (List Int)} (h : ee a l = true) (p : Nat) (ku : i_ p = true) (hp : 2 ≤ p) (cW : p ≤ 101) (u : Nat) (hu : u < p) : ∃ (R1 : List (List Int) × Int) (R2 : List (List Int) × Bool),
  Ev (fun k=>aU.f k a l p u) R1∧Ev (fun k=>aX.f k a l p u) R2 ∧
  ((R1.2=0∧R2.2=false)∨(R1.2 ≠ 0∧R2.2=true∧∃ X:Nat→Nat→Int,R1.1=cM (2 * l.length) (2 * l.length) X∧R2.1=cM (2 * l.length) (2 * l.length) X∧∀ i j,i < 2 * l.length→j < 2 * l.length→0≤X i j∧X i j < p)):=by
 obtain ⟨R1,h1,e1⟩:=Np h p ku hp cW u hu
 obtain ⟨R2,h2,e2⟩:=WE h p ku hp cW u hu
 refine ⟨R1,R2,e1,e2,?_⟩
 have nz:∀ bX:Int,0 < bX→bX < p→(p:Int) ∣ bX - aE (2 * l.length) (gM u (eA l))→¬ (p:Int) ∣ aE (2 * l.length) (gM u (eA l)):=fun bX d1 d2 d3 d4=>by
  have:=Int.dvd_add d3 d4
  rw [Int.sub_add_cancel] at this
  have:=Int.le_of_dvd d1 this
  omega
 rcases h1 with ⟨r1,z1⟩|⟨X,bX,r1,d1,d2,d3,x1,x2⟩
 ·rcases h2 with ⟨r2, z2⟩ | ⟨Y, nF, r2, d1, d2, d3, y1, y2⟩
  ·exact .inl ⟨by rw [r1],by rw [r2]⟩
  ·exact absurd z1 (nz _ d1 d2 d3)
 ·rcases h2 with ⟨r2, z2⟩ | ⟨Y, nF, r2, _, _, _, y1, y2⟩
  ·exact absurd z2 (nz _ d1 d2 d3)
  ·refine .inr ⟨by rw [r1]; show bX ≠ 0; omega, by rw [r2], X, by rw [r1], ?_, x1⟩
   rw [r2]
   exact pG fun i j hi hj=>Ek (inv_one ku hp (nz _ d1 d2 d3) y2 x2 i j hi hj) (y1 i j hi hj) (x1 i j hi hj)
theorem Nm (x m:Int):aq4.f x 0 m=some (!(jX m x)):=by
 rw [CA];unfold jX;rw [Bool.not_not]
theorem I6 (a:Int) (l:List (List Int)) (p u e f c:Int) (b:Bool) (R:Int × Int) (h:Ev (fun k=>eY.j1 k p u e f (if b=true then 2 else c) a l) R):Ev (fun k=>eY.j0 k p u e f c b a l) R:=by
 refine Ev.step (fun k=>by simp only [eY.j0];rfl) ?_
 cases b with
 | true=>simp only [if_true] at h ⊢;exact h
 | false=>simp only [Bool.false_eq_true,if_false] at h ⊢;exact h
theorem aip (a:Int) (l:List (List Int)) (p u e f:Int) (hl:l.length≤maxLen):∃ r c:Int,Ev (fun k=>eY.f k a l p u e f) (r,c)∧Ev (fun k=>jU.f k a l p u e f) (r,c):=by
 have hs:=Ip a l p [u] hl (by simp)
 have hi:=asQ a l p u hl
 rw [OO] at hs
 by_cases h:ja a l p u=0
 ·obtain ⟨hg, hp, h0, h1⟩ := vr h
  obtain ⟨q,rfl,h2,h3,hq⟩:=rJ hp
  obtain ⟨v,rfl⟩:∃ v:Nat,u=v:=⟨u.toNat,by omega⟩
  have rG:=kz hg
  rw [h] at hs hi
  have ew:wrap64 (wrap64 (2 * (l.length:Int)) - 1)=2 * (l.length:Int) - 1:=by rw [dF (n:=2 * (l.length:Int)) (by omega) (by omega),dF (by omega) (by omega)]
  by_cases hd:jX (2 * (l.length:Int) - 1) e=true∨jX (2 * (l.length:Int) - 1) f=true
  ·refine ⟨0, 2, ?_, ?_⟩
   ·unfold eY.f
    refine Ev.bind hs ?_
    simp only [if_true,ew,Nm,Option.bind_some]
    have hj:Ev (fun k=>eY.j0 k q v e f 0 true a l) (0,2):=I6 a l q v e f 0 true _ (by
     refine Ev.step (fun k=>by simp only [eY.j1];rfl) ?_
     simp only [if_true,show ¬ ((2:Int)=0) by omega,if_false]
     exact Ev.now _)
    cases hb:jX (2 * (l.length:Int) - 1) e with
    | true=>simp only [Bool.not_true,Bool.false_eq_true,if_false];exact hj
    | false =>
     simp only [Bool.not_false,if_true]
     rcases hd with hd|hd
     ·rw [hd] at hb;cases hb
     ·rw [hd];exact hj
   ·unfold jU.f
    refine Ev.bind hi ?_
    have hb:([e,f].any (jX (2 * (l.length:Int) - 1)))=true:=by
     simp only [List.any_cons,List.any_nil,Bool.or_false,Bool.or_eq_true];exact hd
    simp only [if_true,pW.f,ew,Option.bind_some,hb,Bool.not_true,Bool.false_eq_true,if_false]
    exact Ev.now _
  ·have he : jX (2 * (l.length : Int) - 1) e = false := by cases hb : jX (2 * (l.length : Int) - 1) e with | true => exact absurd (Or.inl hb) hd | false => rfl
   have hf:jX (2 * (l.length:Int) - 1) f=false:=by cases hb:jX (2 * (l.length:Int) - 1) f with|true=>exact absurd (Or.inr hb) hd|false=>rfl
   have e1:0≤e∧e≤2 * (l.length:Int) - 1:=by unfold jX at he;simpa using he
   have f1:0≤f∧f≤2 * (l.length:Int) - 1:=by unfold jX at hf;simpa using hf
   obtain ⟨i,rfl⟩:∃ i:Nat,e=i:=⟨e.toNat,by omega⟩
   obtain ⟨j,rfl⟩:∃ j:Nat,f=j:=⟨f.toNat,by omega⟩
   obtain ⟨R1,R2,s1,s2,hR⟩:=WD hg q hq h2 (by omega) v (by omega)
   have Ez:(!([(i:Int),(j:Int)].any (jX (2 * (l.length:Int) - 1))))=true:=by simp only [List.any_cons,List.any_nil,he,hf,Bool.or_false,Bool.not_false]
   rcases hR with ⟨r1,r2⟩|⟨r1,r2,X,x1,x2,x3⟩
   ·refine ⟨0, 5, ?_, ?_⟩
    ·unfold eY.f
     refine Ev.bind hs ?_
     simp only [if_true,ew,Nm,Option.bind_some,he,hf,Bool.not_false,Bool.not_true]
     refine I6 a l q v i j 0 false _ ?_
     refine Ev.step (fun k=>by simp only [eY.j1];rfl) ?_
     simp only [Bool.false_eq_true,if_false,if_true]
     refine Ev.bind s1 ?_
     simp only [r1,if_true]
     exact Ev.now _
    ·unfold jU.f
     refine Ev.bind hi ?_
     simp only [if_true,pW.f,ew,Option.bind_some,Ez]
     refine Ev.bind s2 ?_
     simp only [r2,Bool.false_eq_true,if_false]
     exact Ev.now _
   ·have il : i < 2 * l.length := by omega
    have jl:j < 2 * l.length:=by omega
    refine ⟨X i j,0,?_,?_⟩
    ·unfold eY.f
     refine Ev.bind hs ?_
     simp only [if_true,ew,Nm,Option.bind_some,he,hf,Bool.not_false,Bool.not_true]
     refine I6 a l q v i j 0 false _ ?_
     refine Ev.step (fun k=>by simp only [eY.j1];rfl) ?_
     simp only [Bool.false_eq_true,if_false,if_true]
     refine Ev.bind s1 ?_
     simp only [r1,if_false,x1,arj,nM il,d_,gG jl,cx i,cx j,show (i:Int) < ((2 * l.length:Nat):Int) by omega,show (j:Int) < ((2 * l.length:Nat):Int) by omega,if_true]
     exact Ev.now _
    ·unfold jU.f
     refine Ev.bind hi ?_
     simp only [if_true,pW.f,ew,Option.bind_some,Ez]
     refine Ev.bind s2 ?_
     simp only [r2,x2,arj,nM il,d_,gG jl,cx i,cx j,show (i:Int) < ((2 * l.length:Nat):Int) by omega,show (j:Int) < ((2 * l.length:Nat):Int) by omega,if_true]
     exact Ev.now _
 ·refine ⟨0, ja a l p u, ?_, ?_⟩
  ·unfold eY.f
   refine Ev.bind hs ?_
   simp only [h,if_false]
   refine I6 a l p u e f _ false _ ?_
   refine Ev.step (fun k=>by simp only [eY.j1];rfl) ?_
   simp only [Bool.false_eq_true,if_false,h]
   exact Ev.now _
  ·unfold jU.f
   refine Ev.bind hi ?_
   simp only [h,if_false]
   exact Ev.now _
def I8 (n:Nat) (X:Nat→Nat→Int):Int:=ax n (fun i=>X i i)
theorem WZ {n:Nat} {X:Nat→Nat→Int} {p:Int} (hX:∀ i j,i < n→j < n→0≤X i j∧X i j < p):∀ i,i≤n→0≤ax i (fun i=>X i i)∧ax i (fun i=>X i i)≤i * p:=by
 intro i
 induction i with
 | zero=>intro _;exact ⟨Int.le_refl _,by show (0:Int)≤_;simp⟩
 | succ i ih =>
  intro hi
  have h:=ih (by omega)
  have hx:=hX i i (by omega) (by omega)
  show 0≤ax i (fun i=>X i i)+X i i∧ax i (fun i=>X i i)+X i i≤_
  rw [show ((i+1:Nat):Int) * p=i * p+p by rw [Int.natCast_add,Int.add_mul];simp]
  omega
theorem aiH (n:Nat) (hn:n≤20) (X:Nat→Nat→Int) (p:Int) (hp:p≤101) (hX:∀ i j,i < n→j < n→0≤X i j∧X i j < p):∀ (d i:Nat),n - i=d→i≤n→Ev (fun k=>kf.l0 k (ax i (fun i=>X i i)) (cM n n X) n i) (I8 n X):=by
 intro d
 induction d with
 | zero =>
  intro i hd hi
  obtain rfl:i=n:=by omega
  refine Ev.step (fun q=>by simp only [kf.l0];rfl) ?_
  simp only [Int.lt_irrefl,if_false]
  exact Ev.now _
 | succ d ih =>
  intro i hd hi
  have hin:i < n:=by omega
  refine Ev.step (fun q=>by simp only [kf.l0];rfl) ?_
  have h:=WZ hX i (by omega)
  have h2:(i:Int) * p≤20 * 101:=by
   have hx:=hX i i hin hin
   exact Int.mul_le_mul (by omega) hp (by omega) (by omega)
  have hx:=hX i i hin hin
  have hh:=ih (i+1) (by omega) (by omega)
  rw [show ((i+1:Nat):Int)=(i:Int)+1 by omega] at hh
  simp only [lI i n (by omega),cx i,arj,nM hin,d_,gG hin,if_true,wI (ax i (fun i=>X i i)+X i i) (by omega),wI ((i:Int)+1) (by omega)]
  exact hh
theorem aiY (n:Nat) (hn:n≤20) (X:Nat→Nat→Int) (p:Int) (hp0:2≤p) (hp:p≤101) (hX:∀ i j,i < n→j < n→0≤X i j∧X i j < p):∀ (d i:Nat),n - i=d→i≤n→Ev (fun k=>m_.l0 k p (cM n n X) (ax i (fun i=>X i i)) i) (Int.tmod (I8 n X) p,0):=by
 intro d
 induction d with
 | zero =>
  intro i hd hi
  obtain rfl:i=n:=by omega
  refine Ev.step (fun q=>by simp only [m_.l0];rfl) ?_
  simp only [arj,Int.lt_irrefl,if_false,show ¬ (p=0) by omega]
  exact Ev.now _
 | succ d ih =>
  intro i hd hi
  have hin:i < n:=by omega
  refine Ev.step (fun q=>by simp only [m_.l0];rfl) ?_
  have h:=WZ hX i (by omega)
  have h2:(i:Int) * p≤20 * 101:=Int.mul_le_mul (by omega) hp (by omega) (by omega)
  have hx:=hX i i hin hin
  have hh:=ih (i+1) (by omega) (by omega)
  rw [show ((i+1:Nat):Int)=(i:Int)+1 by omega] at hh
  simp only [lI i n (by omega),cx i,arj,nM hin,d_,gG hin,if_true,wI (ax i (fun i=>X i i)+X i i) (by omega),wI ((i:Int)+1) (by omega)]
  exact hh
theorem ajm (a:Int) (l:List (List Int)) (p u:Int) (hl:l.length≤maxLen):∃ r c:Int,Ev (fun k=>m_.f k a l p u) (r,c)∧Ev (fun k=>nR.f k a l p u) (r,c):=by
 have hs:=Ip a l p [u] hl (by simp)
 have hi:=asQ a l p u hl
 rw [OO] at hs
 by_cases h:ja a l p u=0
 ·obtain ⟨hg, hp, h0, h1⟩ := vr h
  obtain ⟨q,rfl,h2,h3,hq⟩:=rJ hp
  obtain ⟨v,rfl⟩:∃ v:Nat,u=v:=⟨u.toNat,by omega⟩
  have rG:=kz hg
  rw [h] at hs hi
  obtain ⟨R1,R2,s1,s2,hR⟩:=WD hg q hq h2 (by omega) v (by omega)
  rcases hR with ⟨r1,r2⟩|⟨r1,r2,X,x1,x2,x3⟩
  ·refine ⟨0, 5, ?_, ?_⟩
   ·unfold m_.f
    refine Ev.bind hs ?_
    simp only [if_true]
    refine Ev.bind s1 ?_
    simp only [r1,if_true]
    exact Ev.now _
   ·unfold nR.f
    refine Ev.bind hi ?_
    simp only [if_true]
    refine Ev.bind s2 ?_
    simp only [r2,Bool.false_eq_true,if_false]
    exact Ev.now _
  ·refine ⟨Int.tmod (I8 (2 * l.length) X) q, 0, ?_, ?_⟩
   ·unfold m_.f
    refine Ev.bind hs ?_
    simp only [if_true]
    refine Ev.bind s1 ?_
    simp only [r1,if_false,x1]
    exact aiY (2 * l.length) (by omega) X q (by omega) (by omega) x3 (2 * l.length) 0 (by omega) (by omega)
   ·unfold nR.f
    refine Ev.bind hi ?_
    simp only [if_true]
    refine Ev.bind s2 ?_
    simp only [r2,x2,if_true]
    have ht:Ev (fun k=>kf.f k (cM (2 * l.length) (2 * l.length) X)) (I8 (2 * l.length) X):=by
     unfold kf.f
     rw [arj]
     exact aiH (2 * l.length) (by omega) X q (by omega) x3 (2 * l.length) 0 (by omega) (by omega)
    refine Ev.bind ht ?_
    simp only [show ¬ ((q:Int)=0) by omega,if_false]
    exact Ev.now _
 ·refine ⟨0, ja a l p u, ?_, ?_⟩
  ·unfold m_.f
   refine Ev.bind hs ?_
   simp only [h,if_false]
   exact Ev.now _
  ·unfold nR.f
   refine Ev.bind hi ?_
   simp only [h,if_false]
   exact Ev.now _
theorem abG (X:Int):0≤Go.bits .and .u64 X 1073741823∧Go.bits .and .u64 X 1073741823≤1073741823:=by
 have h:(BitVec.ofInt 64 X &&& BitVec.ofInt 64 1073741823).toNat≤1073741823:=by
  rw [BitVec.toNat_and]
  exact Nat.and_le_right
 have e:Go.bits .and .u64 X 1073741823=IntKind.u64.wrap ((BitVec.ofInt 64 X &&& BitVec.ofInt 64 1073741823).toNat:Int):=rfl
 rw [e,IntKind.wrap_u64]
 omega
/-- What the code of a draw holds: bytes. -/
def arK (s:List Int):Prop:=s.length≤maxLen∧∀ x ∈ s,0≤x∧x≤255
theorem ow {s:List Int} (hs:arK s) (t h n:Int) (ht:0≤t∧t≤s.length):∃ x t' h',dK.f s t h n=some (x,t',h')∧(0≤t'∧t'≤s.length)∧(n < 1→x=0)∧(1≤n→0≤x∧x < n):=by
 have hm:s.length≤9223372036854775807:=hs.1
 unfold dK.f
 by_cases h1:n < 1
 ·rw [if_pos h1]
  exact ⟨0,t,h,rfl,ht,fun _=>rfl,fun h2=>by omega⟩
 ·rw [if_neg h1]
  generalize (IntKind.u64.wrap ((IntKind.u64.wrap (h * 6364136223846793005))+1442695040888963407))=h'
  obtain ⟨a0,a1⟩:=abG (h' / 2147483648)
  generalize Go.bits .and .u64 (h' / 2147483648) 1073741823=y at a0 a1 ⊢
  rw [dF (n:=y) (by omega) (by omega)]
  by_cases h2:t < (s.length:Int)
  ·obtain ⟨i, rfl⟩ : ∃ i : Nat, t = i := ⟨t.toNat, by omega⟩
   have hi:i < s.length:=by omega
   have hb:=hs.2 s[i] (List.getElem_mem hi)
   rw [if_pos h2,if_pos ht.1,if_neg (by omega),we s i hi,dF (n:=s[i]) (by omega) (by omega),dF (n:=y+s[i]) (by omega) (by omega),dF (n:=(i:Int)+1) (by omega) (by omega),oA (by omega)]
   exact ⟨_,_,_,rfl,⟨by omega,by omega⟩,fun h3=>absurd h3 h1,fun h3=>⟨Int.emod_nonneg _ (by omega),Int.emod_lt_of_pos _ (by omega)⟩⟩
  ·rw [if_neg h2, if_neg (by omega), oA a0]
   exact ⟨_,_,_,rfl,ht,fun h3=>absurd h3 h1,fun h3=>⟨Int.emod_nonneg _ (by omega),Int.emod_lt_of_pos _ (by omega)⟩⟩
theorem AL {s:List Int} (hs:arK s) (t h:Int) (l:List Int) (hl:0 < l.length) (ht:0≤t∧t≤s.length):∃ x t' h',jo.f s t h l=some (x,t',h')∧(0≤t'∧t'≤s.length)∧x ∈ l:=by
 obtain ⟨x,t',h',e,h1,_,h2⟩:=ow hs t h (l.length:Int) ht
 have h2:=h2 (by omega)
 obtain ⟨i,rfl⟩:∃ i:Nat,x=i:=⟨x.toNat,by omega⟩
 unfold jo.f
 rw [e,Option.bind_some]
 simp only [h2.1,h2.2,if_true]
 refine ⟨_,_,_,rfl,h1,?_⟩
 rw [we l i (by omega)]
 exact List.getElem_mem _
/-- A drawn graph: few edges, short rows. -/
def mI (m r:Nat) (l:List (List Int)):Prop:=l.length≤m∧∀ x ∈ l,x.length≤r
theorem Hv {m r:Nat} {l:List (List Int)} (h:mI m r l) (hl:l.length < m) (x:List Int) (hx:x.length≤r):mI m r (l ++ [x]) :=
 ⟨by rw [List.length_append];show _+1≤_;omega,fun y hy=>by
  rcases List.mem_append.1 hy with hy|hy
  ·exact h.2 y hy
  ·rw [List.mem_singleton.1 hy];exact hx⟩
theorem ad5 {l:List (List Int)} (h:mI 11 3 l):l.length≤1048576∧∀ x ∈ l,x.length≤1048576:=⟨Nat.le_trans h.1 (by decide),fun x hx=>Nat.le_trans (h.2 x hx) (by decide)⟩
theorem ad4 {l:List (List Int)} (h:mI 10 2 l):mI 11 3 l:=⟨Nat.le_trans h.1 (by decide),fun x hx=>Nat.le_trans (h.2 x hx) (by decide)⟩
/-- What a draw of a graph answers. -/
def jV (m r:Nat) (s:List Int) (f:Nat→Option (Int × (List (List Int)) × Int × Int)):Prop:=∃ (a:Int) (l:List (List Int)) (t h:Int),Ev f (a,l,t,h)∧mI m r l∧0≤t∧t≤s.length
theorem jV.tL {m r:Nat} {s:List Int} {g f:Nat→Option (Int × (List (List Int)) × Int × Int)} (h:∀ k,g (k+1)=f k) (H:jV m r s f):jV m r s g:=by
 obtain ⟨a,l,t,h',e,r⟩:=H
 exact ⟨a,l,t,h',Ev.step h e,r⟩
theorem SH {s:List Int} (hs:arK s) (size arx:Int) (h1:1≤size∧size≤8) (he:0≤arx∧arx≤10) (a:Int):∀ (d:Nat) (c t h:Int) (l:List (List Int)),c≤d→0≤c→c≤10→mI 10 2 l→l.length≤10→0≤t∧t≤s.length→jV 10 2 s (fun k=>c_.l1 k size arx c s t h a l):=by
 intro d
 induction d with
 | zero =>
  intro c t h l hc hc0 _ hl rG ht
  refine jV.tL (fun k=>by simp only [c_.l1];rfl) ?_
  simp only [show ¬ (c > 0) by omega,if_false]
  refine jV.tL (fun k=>by simp only [c_.j3];rfl) ?_
  simp only [Bool.false_eq_true,if_false]
  exact ⟨a,l,t,h,Ev.now _,hl,ht⟩
 | succ d ih =>
  intro c t h l hc hc0 anQ hl rG ht
  have stop:jV 10 2 s (fun k=>c_.j3 k size arx c false s t h a l):=by
   refine jV.tL (fun k=>by simp only [c_.j3];rfl) ?_
   simp only [Bool.false_eq_true,if_false]
   exact ⟨a,l,t,h,Ev.now _,hl,ht⟩
  refine jV.tL (fun k=>by simp only [c_.l1];rfl) ?_
  by_cases ql:c > 0
  ·simp only [ql, if_true]
   by_cases hb:(l.length:Int) < arx
   ·simp only [hb, decide_true]
    refine jV.tL (fun k=>by simp only [c_.j3];rfl) ?_
    obtain ⟨x,t1,g1,e1,b1,_,r1⟩:=ow hs t h size ht
    obtain ⟨y,t2,g2,e2,b2,_,r2⟩:=ow hs t1 g1 size b1
    have hcap:l.length < 5864062014805:=by omega
    have cont:∀ (z:List Int) (t' h':Int),z.length≤2→0≤t'∧t'≤s.length→jV 10 2 s (fun k=>c_.l1 k size arx (c - 1) s t' h' a (l ++ [z])):=fun z t' h' hz ht' =>
     ih (c - 1) t' h' (l ++ [z]) (by omega) (by omega) (by omega) (Hv hl (by omega) z hz) (by rw [List.length_append];show l.length+1≤10;omega) ht'
    simp only [e1,e2,Option.bind_some,hcap,if_true,wI (c - 1) (by omega)]
    by_cases hxy:x=y
    ·obtain ⟨q, t3, g3, e3, b3, _, r3⟩ := ow hs t2 g2 3 b2
     simp only [hxy,if_true,e3,Option.bind_some]
     by_cases hq:q > 0
     ·simp only [hq, if_true, show ¬ (size = 0) by omega, if_false]
      exact cont _ _ _ (by simp) b3
     ·simp only [hq, if_false]
      exact cont _ _ _ (by simp) b3
    ·simp only [hxy, if_false]
     exact cont _ _ _ (by simp) b2
   ·simp only [hb, decide_false]
    exact stop
  ·simp only [ql, if_false]
   exact stop
theorem ad7 {s:List Int} (hs:arK s) (size arx:Int) (h1:1≤size∧size≤8) (he:0≤arx∧arx≤10) (j:Bool) (a:Int):∀ (d:Nat) (v t h:Int) (l:List (List Int)),size - v≤d→1≤v→v≤9→mI 10 2 l→l.length≤10→0≤t∧t≤s.length→jV 10 2 s (fun k=>c_.l0 k size arx j v s t h a l):=by
 intro d
 induction d with
 | zero =>
  intro v t h l hv Na hv9 hl rG ht
  refine jV.tL (fun k=>by simp only [c_.l0];rfl) ?_
  simp only [show ¬ (v < size) by omega,if_false]
  refine jV.tL (fun k=>by simp only [c_.j1];rfl) ?_
  obtain ⟨x,t1,g1,e1,b1,z1,r1⟩:=ow hs t h (arx+1) ht
  simp only [Bool.false_eq_true,if_false,wI (arx+1) (by omega),e1,Option.bind_some]
  have hx:=r1 (by omega)
  exact SH hs size arx h1 he a 10 x t1 g1 l (by omega) (by omega) (by omega) hl rG b1
 | succ d ih =>
  intro v t h l hv Na hv9 hl rG ht
  have stop:jV 10 2 s (fun k=>c_.j1 k size arx j v false s t h a l):=by
   refine jV.tL (fun k=>by simp only [c_.j1];rfl) ?_
   obtain ⟨x,t1,g1,e1,b1,z1,r1⟩:=ow hs t h (arx+1) ht
   simp only [Bool.false_eq_true,if_false,wI (arx+1) (by omega),e1,Option.bind_some]
   have hx:=r1 (by omega)
   exact SH hs size arx h1 he a 10 x t1 g1 l (by omega) (by omega) (by omega) hl rG b1
  refine jV.tL (fun k=>by simp only [c_.l0];rfl) ?_
  by_cases hc:v < size
  ·simp only [hc, if_true]
   cases j with
   | false=>simp only [Bool.false_eq_true,if_false];exact stop
   | true =>
    simp only [if_true]
    by_cases hb:(l.length:Int) < arx
    ·simp only [hb, decide_true]
     refine jV.tL (fun k=>by simp only [c_.j1];rfl) ?_
     obtain ⟨x,t1,g1,e1,b1,_,r1⟩:=ow hs t h v ht
     obtain ⟨y,t2,g2,e2,b2,_,r2⟩:=ow hs t1 g1 2 b1
     have hcap:l.length < 5864062014805:=by omega
     have cont:∀ (z:List Int),z.length≤2→jV 10 2 s (fun k=>c_.l0 k size arx true (v+1) s t2 g2 a (l ++ [z])):=fun z hz =>
      ih (v+1) t2 g2 (l ++ [z]) (by omega) (by omega) (by omega) (Hv hl (by omega) z hz) (by rw [List.length_append];show l.length+1≤10;omega) b2
     simp only [e1,e2,Option.bind_some,hcap,if_true,wI (v+1) (by omega)]
     by_cases hy:y=0
     ·simp only [hy,if_true];exact cont _ (by simp)
     ·simp only [hy,if_false];exact cont _ (by simp)
    ·simp only [hb,decide_false];exact stop
  ·simp only [hc,if_false];exact stop
theorem ad6 {s:List Int} (hs:arK s) (size arx t h:Int) (h1:1≤size∧size≤8) (he:0≤arx∧arx≤10) (ht:0≤t∧t≤s.length):jV 10 2 s (fun k=>c_.f k s t h size arx):=by
 obtain ⟨x,t1,g1,e1,b1,_,_⟩:=ow hs t h 3 ht
 unfold c_.f
 simp only [e1,Option.bind_some]
 exact ad7 hs size arx h1 he _ size 8 1 t1 g1 [] (by omega) (by omega) (by omega) ⟨by simp,fun x hx=>by cases hx⟩ (by simp) b1
def FN:List ByteArray:=(zo.f).getD []
theorem ahG:zo.f=some FN:=rfl
theorem ahH:FN.length=14:=by kernel_rfl
theorem ahE:((List.range 14).all fun i:Nat=>match rT.f 64 (gy ByteArray.empty FN (i:Int)) with|some r=>decide (r.2.1.length≤10) && r.2.1.all (fun x=>decide (x.length≤2))|none=>false)=true:=by kernel_rfl
theorem ahF (i:Nat) (hi:i < 14):∃ (a:Int) (l:List (List Int)) (b:Bool),Ev (fun k=>rT.f k (gy ByteArray.empty FN (i:Int))) (a,l,b)∧mI 10 2 l:=by
 have h:=List.all_eq_true.1 ahE i (List.mem_range.2 hi)
 cases e:rT.f 64 (gy ByteArray.empty FN (i:Int)) with
 | none=>rw [e] at h;cases h
 | some r =>
  rw [e] at h
  simp only [Bool.and_eq_true,decide_eq_true_eq,List.all_eq_true] at h
  exact ⟨r.1,r.2.1,r.2.2,Ev.of (fun k=>rT.mono _ k) e,⟨h.1,h.2⟩⟩
theorem ad_ {s:List Int} (hs:arK s) (t h:Int) (ht:0≤t∧t≤s.length):∃ (a:Int) (l:List (List Int)) (t' h':Int),Ev (fun k=>zy.f k s t h) (a,l,t',h')∧mI 10 2 l∧0≤t'∧t'≤s.length:=by
 obtain ⟨x,t1,g1,e1,b1,_,_⟩:=ow hs t h 4 ht
 unfold zy.f
 by_cases hx:x=0
 ·obtain ⟨i, t2, g2, e2, b2, _, r2⟩ := ow hs t1 g1 14 b1
  have r2:=r2 (by omega)
  obtain ⟨q,rfl⟩:∃ q:Nat,i=q:=⟨i.toNat,by omega⟩
  obtain ⟨a,l,b,en,hl⟩:=ahF q (by omega)
  refine ⟨a,l,t2,g2,?_,hl,b2⟩
  simp only [e1,Option.bind_some,hx,if_true,ahG,ahH,show ((14:Nat):Int)=14 from rfl,e2,r2.1,r2.2]
  exact Ev.bind en (Ev.now _)
 ·obtain ⟨y, t2, g2, e2, b2, _, r2⟩ := ow hs t1 g1 8 b1
  have r2:=r2 (by omega)
  have hw:wrap64 (1+y)=1+y:=dF (by omega) (by omega)
  obtain ⟨z,t3,g3,e3,b3,r3⟩:=AL hs t2 g2 [1,2,3,3,4,4,5,6,wrap64 (1+y)] (by simp) b2
  obtain ⟨m,t4,g4,e4,b4,r4⟩:=AL hs t3 g3 [2,4,6,6,8,10] (by simp) b3
  have hz:1≤z∧z≤8:=by
   rw [hw] at r3
   simp only [List.mem_cons,List.not_mem_nil,or_false] at r3
   omega
  have hm:0≤m∧m≤10:=by
   simp only [List.mem_cons,List.not_mem_nil,or_false] at r4
   omega
  obtain ⟨a,l,t5,g5,ed,hl,b5⟩:=ad6 hs z m t4 g4 hz hm b4
  refine ⟨a,l,t5,g5,?_,hl,b5⟩
  simp only [e1,Option.bind_some,hx,if_false,e2,e3,e4]
  exact Ev.bind ed (Ev.now _)
theorem abL (s:List Int) (t h a:Int) (ht:0≤t∧t≤s.length):∀ (d:Nat) (l:List (List Int)),11 - l.length≤d→mI 11 3 l→jV 11 3 s (fun k=>js.l0 k s t h a l):=by
 intro d
 induction d with
 | zero =>
  intro l hd hl
  refine jV.tL (fun k=>by simp only [js.l0];rfl) ?_
  simp only [show ¬ ((l.length:Int)≤10) by omega,if_false]
  exact ⟨a,l,t,h,Ev.now _,hl,ht⟩
 | succ d ih =>
  intro l hd hl
  refine jV.tL (fun k=>by simp only [js.l0];rfl) ?_
  by_cases hc:(l.length:Int)≤10
  ·simp only [hc, if_true, show l.length < 5864062014805 by omega]
   exact ih _ (by rw [List.length_append];show 11 - (l.length+1)≤d;omega) (Hv hl (by omega) _ (by simp))
  ·simp only [hc, if_false]
   exact ⟨a,l,t,h,Ev.now _,hl,ht⟩
theorem abK {s:List Int} (hs:arK s) (t h a:Int) (l:List (List Int)) (hl:mI 10 2 l) (ht:0≤t∧t≤s.length):jV 11 3 s (fun k=>js.f k s t h a l):=by
 have hd:mI 11 3 l:=ad4 hl
 have yo:=hl.1
 obtain ⟨x,t1,g1,e1,b1,_,r1⟩:=ow hs t h 40 ht
 obtain ⟨c1,c2⟩:=ad5 hd
 unfold js.f
 simp only [e1,Option.bind_some]
 by_cases h0:x=0
 ·obtain ⟨z, t2, g2, e2, b2, _⟩ := AL hs t1 g1 [0, 9, wrap64 (a - 1)] (by simp) b1
  simp only [h0,if_true,e2,Option.bind_some]
  exact ⟨_,_,_,_,Ev.now _,hd,b2⟩
 ·simp only [h0, if_false]
  by_cases h1:x=1
  ·simp only [h1, if_true]
   refine ⟨a,l ++ [[0,a]],t1,g1,Ev.bind (Io a l c1 c2) ?_,Hv hd (by omega) _ (by simp),b1⟩
   simp only [show l.length < 5864062014805 by omega,if_true]
   exact Ev.now _
  ·simp only [h1, if_false]
   by_cases h2:x=2
   ·simp only [h2, if_true]
    by_cases hn:(l.length:Int) > 0
    ·obtain ⟨i, t2, g2, e2, b2, _, r2⟩ := ow hs t1 g1 (l.length : Int) b1
     have r2:=r2 (by omega)
     obtain ⟨q,rfl⟩:∃ q:Nat,i=q:=⟨i.toNat,by omega⟩
     have hq:q < l.length:=by omega
     have hx:=hl.2 l[q] (List.getElem_mem hq)
     refine ⟨a,l.set q (ah l (q:Int) ++ [0]),t2,g2,Ev.bind (Io a l c1 c2) ?_,⟨by rw [List.length_set];omega,fun y hy=>?_⟩,b2⟩
     ·simp only [hn, if_true, e2, Option.bind_some, r2.1, r2.2, show (ah l (q : Int)).length < 17592186044416 by rw [tJ l q hq]; omega, Int.toNat_natCast]
      exact Ev.now _
     ·rcases List.mem_or_eq_of_mem_set hy with hy | hy
      ·exact hd.2 y hy
      ·rw [hy,List.length_append,tJ l q hq];show _+1≤3;omega
    ·refine ⟨a, l, t1, g1, Ev.bind (Io a l c1 c2) ?_, hd, b1⟩
     simp only [hn,if_false]
     exact Ev.now _
   ·simp only [h2, if_false]
    by_cases h3:x=3
    ·simp only [h3, if_true]
     obtain ⟨a',l',t2,g2,e2,hl',b2⟩:=abL s t1 g1 a b1 11 l (by omega) hd
     exact ⟨a',l',t2,g2,Ev.bind (Io a l c1 c2) e2,hl',b2⟩
    ·simp only [h3, if_false]
     exact ⟨a,l,t1,g1,Ev.now _,hd,b1⟩
theorem aew (s z:List Int):∀ (d i:Nat) (t h:Int),s.length - i=d→i≤s.length→s.length≤maxLen→∃ h',Ev (fun k=>aq5.l0 k s i z t h) (z,t,h'):=by
 intro d
 induction d with
 | zero =>
  intro i t h hd hi _
  refine ⟨h,Ev.step (fun k=>by simp only [aq5.l0];rfl) ?_⟩
  simp only [show ¬ ((i:Int) < (s.length:Int)) by omega,if_false]
  exact Ev.now _
 | succ d ih =>
  intro i t h hd hi hm
  by_cases h4:(i:Int) < 4096
  ·obtain ⟨h', e⟩ := ih (i + 1) t (IntKind.u64.wrap ((IntKind.u64.wrap ((IntKind.u64.wrap (h * 1099511628211)) + (IntKind.u64.wrap (rd s (i : Int))))) + 109)) (by omega) (by omega) hm
   refine ⟨h',Ev.step (fun k=>by simp only [aq5.l0];rfl) ?_⟩
   rw [show ((i+1:Nat):Int)=(i:Int)+1 by omega] at e
   simp only [show ((i:Int) < (s.length:Int)) by omega,if_true,h4,cx i,wI ((i:Int)+1) (by omega)]
   exact e
  ·refine ⟨h, Ev.step (fun k => by simp only [aq5.l0]; rfl) ?_⟩
   simp only [show ((i:Int) < (s.length:Int)) by omega,if_true,h4,if_false]
   exact Ev.now _
theorem z6 {s:List Int} (hs:arK s):∃ h,Ev (fun k=>aq5.f k s) (s,0,h):=by
 unfold aq5.f
 exact aew s s s.length 0 0 _ (by omega) (by omega) hs.1
theorem AY {s:List Int} (hs:arK s) (t h:Int) (ht:0≤t∧t≤s.length):jV 11 3 s (fun k=>ng.f k s t h):=by
 obtain ⟨a,l,t1,h1,e1,d1,b1⟩:=ad_ hs t h ht
 obtain ⟨a2,l2,t2,h2,e2,d2,b2⟩:=abK hs t1 h1 a l d1 b1
 exact ⟨a2,l2,t2,h2,Ev.bind e1 (Ev.bind e2 (Ev.now _)),d2,b2⟩
theorem ahw (l:List Int) (hl:l.length≤1048576):∀ (d i:Nat),l.length - i=d→i≤l.length→Ev (fun k=>F9.l0 k l l i) true:=by
 intro d
 induction d with
 | zero =>
  intro i hd hi
  refine Ev.step (fun k=>by simp only [F9.l0];rfl) ?_
  simp only [show ¬ ((i:Int) < (l.length:Int)) by omega,if_false]
  exact Ev.now _
 | succ d ih =>
  intro i hd hi
  refine Ev.step (fun k=>by simp only [F9.l0];rfl) ?_
  simp only [show ((i:Int) < (l.length:Int)) by omega,cx i,if_true,wI ((i:Int)+1) (by omega)]
  exact ih (i+1) (by omega) (by omega)
theorem NG (l:List Int) (hl:l.length≤1048576):Ev (fun k=>F9.f k l l) true:=by
 unfold F9.f
 simp only [if_true]
 exact ahw l hl l.length 0 (by omega) (by omega)
theorem ab8 {s:List Int} (hm:s.length≤maxLen) (hb:∀ x ∈ s,(Lit.int .u8 x).wf=true):arK s:=⟨hm,fun x hx=>by
 have h:=hb x hx
 simp [Lit.wf,IntKind.min,IntKind.max,IntKind.signed,IntKind.bits] at h
 omega⟩
theorem aiP (n:Nat) (f:Nat→Int):ax (n+1) f=ax n f+f n:=rfl
/-- Rows that stay, added to rows that none takes. -/
theorem SE {n:Nat} (M X:Nat→Nat→Int) (hX:∀ a l,a < n→l < n→X a l ≠ 0→∀ r,r < n→X l r=0):∀ j,j≤n→aE n (fun a b=>M a b+ax j (fun l=>X a l * M l b))=aE n M:=by
 intro j
 induction j with
 | zero =>
  intro _
  exact iq fun a b _ _=>by show M a b+0=M a b;omega
 | succ j ih =>
  intro hj
  have wS:X j j=0:=by
   by_cases h:X j j=0
   ·exact h
   ·exact hX j j (by omega) (by omega) h j (by omega)
  rw [← ih (by omega),← V4 (fun a b=>M a b+ax j (fun l=>X a l * M l b)) j (by omega) (fun a=>X a j) wS]
  refine iq fun a b ha hb=>?_
  show M a b+(ax j (fun l=>X a l * M l b)+X a j * M j b)=M a b+ax j (fun l=>X a l * M l b)+X a j * (M j b+ax j (fun l=>X j l * M l b))
  by_cases h:X a j=0
  ·rw [h,Int.zero_mul,Int.zero_mul];omega
  ·rw [mg (f := fun l => X j l * M l b) (fun l hl => by rw [hX a j ha (by omega) h l (by omega), Int.zero_mul]), Int.add_zero]
   omega
theorem asq (n:Nat) (f:Nat→Int):ct (n+1) f=ct n f * f n:=rfl
theorem ah2 (n:Nat) (f g:Nat→Int):ct n (fun i=>f i * g i)=ct n f * ct n g:=by
 induction n with
 | zero=>rfl
 | succ n ih =>
  rw [asq,asq,asq,ih,Int.mul_assoc,Int.mul_assoc]
  congr 1
  rw [← Int.mul_assoc,Int.mul_comm (ct n g),Int.mul_assoc]
theorem Ws {n:Nat} {f:Nat→Int} (h:∀ i,i < n→f i=1):ct n f=1:=by
 induction n with
 | zero=>rfl
 | succ n ih=>rw [asq,ih (fun i hi=>h i (by omega)),h n (by omega)];rfl
theorem ah0 {n:Nat} (c:Nat) (hc:c < n) (x:Int):ct n (fun v=>if c=v then x else 1)=x:=by
 induction n with
 | zero=>omega
 | succ n ih =>
  rw [asq]
  by_cases e:c=n
  ·subst e
   rw [Ws (fun i hi=>if_neg (by omega)),if_pos rfl,Int.one_mul]
  ·rw [ih (by omega),if_neg e,Int.mul_one]
def iH (cls : Nat → Nat) (v : Nat) : Nat → Nat
 | 0=>0
 | n+1=>iH cls v n+(if cls n=v then 1 else 0)
theorem ah1 (C:Nat) (cls:Nat→Nat) (w:Nat→Int):∀ n,(∀ e,e < n→cls e < C)→ct n w=ct C (fun v=>ct n (fun e=>if cls e=v then w e else 1)):=by
 intro n
 induction n with
 | zero=>intro _;exact (Ws (fun _ _=>rfl)).symm
 | succ n ih =>
  intro h
  rw [asq,ih (fun e he=>h e (by omega)),show (fun v=>ct (n+1) (fun e=>if cls e=v then w e else 1))=fun v=>ct n (fun e=>if cls e=v then w e else 1) * (if cls n=v then w n else 1) from rfl,ah2,ah0 (cls n) (h n (by omega))]
theorem adA (cls:Nat→Nat) (v:Nat) (A B:Int):∀ n,ct n (fun e=>if cls e=v then (if iH cls v e=0 then A else B) else 1)=if iH cls v n=0 then 1 else A * B ^ (iH cls v n - 1):=by
 intro n
 induction n with
 | zero=>rfl
 | succ n ih =>
  rw [asq,ih]
  by_cases h:cls n=v
  ·have e : iH cls v (n + 1) = iH cls v n + 1 := by show _ + _ = _; rw [if_pos h]
   rw [if_pos h,e,if_neg (show ¬ iH cls v n+1=0 by omega),Nat.add_sub_cancel]
   by_cases h2:iH cls v n=0
   ·rw [if_pos h2,if_pos h2,h2,Int.pow_zero,Int.one_mul,Int.mul_one]
   ·rw [if_neg h2,if_neg h2,Int.mul_assoc,← Int.pow_succ,show (iH cls v n - 1).succ=iH cls v n by omega]
  ·have e : iH cls v (n + 1) = iH cls v n := by show _ + _ = _; rw [if_neg h]; omega
   rw [if_neg h,e,Int.mul_one]
theorem adD (cls:Nat→Nat) (v:Nat):∀ n,iH cls v n ≠ 0→∃ r,r < n∧cls r=v∧iH cls v r=0:=by
 intro n
 induction n with
 | zero=>intro h;exact absurd rfl h
 | succ n ih =>
  intro h
  by_cases h2:iH cls v n=0
  ·by_cases h3 : cls n = v
   ·exact ⟨n,by omega,h3,h2⟩
   ·exact absurd (show iH cls v (n+1)=0 by show _+_=_;rw [h2,if_neg h3]) h
  ·obtain ⟨r, h3, h4, h5⟩ := ih h2
   exact ⟨r,by omega,h4,h5⟩
def gF (l:List (List Int)) (e:Nat):Nat:=(eO l e).toNat
def cC (l:List (List Int)) (e:Nat):Prop:=iH (gF l) (gF l e) e=0
instance (l:List (List Int)):DecidablePred (cC l):=fun _=>inferInstanceAs (Decidable (_=_))
theorem as4 {n:Nat} {l:List (List Int)} (hE:endsIn n l) {e f:Nat} (he:e < 2 * l.length) (hf:f < 2 * l.length):gF l e=gF l f↔eO l e=eO l f:=by
 obtain ⟨_,v,_,h1,_,_⟩:=Cc hE e he
 obtain ⟨_,v',_,h2,_,_⟩:=Cc hE f hf
 unfold gF
 rw [h1,h2]
 omega
theorem aix {n:Nat} {l:List (List Int)} (hE:endsIn n l) (e:Nat):∃ r,e < 2 * l.length→(cC l e→r=e)∧(¬ cC l e→r < e∧eO l r=eO l e∧cC l r):=by
 by_cases he:e < 2 * l.length
 ·by_cases h : cC l e
  ·exact ⟨e,fun _=>⟨fun _=>rfl,fun h2=>absurd h h2⟩⟩
  ·obtain ⟨r, h1, h2, h3⟩ := adD (gF l) (gF l e) e h
   exact ⟨r,fun _=>⟨fun h4=>absurd h4 h,fun _=>⟨h1,(as4 hE (by omega) he).1 h2,by unfold cC;rw [h2];exact h3⟩⟩⟩
 ·exact ⟨0,fun h=>absurd h he⟩
theorem aei {n:Nat} {l:List (List Int)} (hE:endsIn n l) {e:Nat} (he:e < 2 * l.length):∀ k,k≤2 * l.length→ax k (fun f=>if eO l f=eO l e then (1:Int) else 0)=(iH (gF l) (gF l e) k:Int):=by
 intro k
 induction k with
 | zero=>intro _;rfl
 | succ k ih =>
  intro hk
  rw [aiP,ih (by omega)]
  have h:=as4 hE (show k < 2 * l.length by omega) he
  show _=((iH (gF l) (gF l e) k+(if gF l k=gF l e then 1 else 0):Nat):Int)
  by_cases g:eO l k=eO l e
  ·rw [if_pos g,if_pos (h.2 g)];omega
  ·rw [if_neg g,if_neg (fun g2=>g (h.1 g2))];omega
/-- How many edges begin where e ends. -/
def r_ (l:List (List Int)) (e:Nat):Nat:=iH (gF l) (gF l e) (2 * l.length)
theorem adS {n:Nat}:∀ (M:Nat→Nat→Int),(∀ a b,a < b→b < n→M a b=0)→aE n M=ct n (fun i=>M i i):=by
 induction n with
 | zero=>intro M _;rfl
 | succ n ih =>
  intro M h
  rw [V0 M (fun a ha=>h a n ha (by omega)),ih M (fun a b h1 h2=>h a b h1 (by omega)),asq]
  exact Int.mul_comm _ _
theorem Wm (k:Nat):cl (2 * k)=2 * k+1∧cl (2 * k+1)=2 * k:=by unfold cl;constructor<;>split<;>omega
theorem NJ (e:Nat):cl (cl e)=e:=by unfold cl;(repeat' split)<;>omega
/-- Columns changed for those of the opposite darts. -/
theorem adT {m:Nat} (M:Nat→Nat→Int):∀ k,k≤m→aE (2 * m) (fun a b=>if b < 2 * k then M a (cl b) else M a b)=aE (2 * m) M∨aE (2 * m) (fun a b=>if b < 2 * k then M a (cl b) else M a b)=-aE (2 * m) M:=by
 intro k
 induction k with
 | zero=>intro _;exact Or.inl (iq fun a b _ _=>if_neg (by omega))
 | succ k ih =>
  intro hk
  have h1:=ahd (n:=2 * m) (fun a b=>if b < 2 * k then M a (cl b) else M a b) (2 * k) (2 * k+1) (by omega) (by omega) (by omega)
  have e1:aE (2 * m) (cO (cO (fun a b=>if b < 2 * k then M a (cl b) else M a b) (2 * k) (fun a=>(fun a b=>if b < 2 * k then M a (cl b) else M a b) a (2 * k+1))) (2 * k+1) (fun a=>(fun a b=>if b < 2 * k then M a (cl b) else M a b) a (2 * k)))=aE (2 * m) (fun a b=>if b < 2 * (k+1) then M a (cl b) else M a b):=iq fun a b _ _=>by
   simp only [cO]
   by_cases h2:b=2 * k+1
   ·rw [if_pos h2,if_neg (by omega),if_pos (by omega),h2,(Wm k).2]
   ·rw [if_neg h2]
    by_cases h3:b=2 * k
    ·rw [if_pos h3,if_neg (by omega),if_pos (by omega),h3,(Wm k).1]
    ·rw [if_neg h3]
     by_cases h4:b < 2 * k
     ·rw [if_pos h4,if_pos (by omega)]
     ·rw [if_neg h4,if_neg (by omega)]
  rw [e1] at h1
  rcases ih (by omega) with i|i<;>rw [i] at h1
  ·exact Or.inr h1
  ·exact Or.inl (by rw [h1,Int.neg_neg])
theorem adU {m:Nat} (M:Nat→Nat→Int):aE (2 * m) (fun a b=>M a (cl b))=aE (2 * m) M∨aE (2 * m) (fun a b=>M a (cl b))=-aE (2 * m) M:=by
 have h:=adT M m (Nat.le_refl _)
 rw [show aE (2 * m) (fun a b=>if b < 2 * m then M a (cl b) else M a b)=aE (2 * m) (fun a b=>M a (cl b)) from iq fun a b _ hb=>if_pos hb] at h
 exact h
theorem Sp (cls:Nat→Nat) (v:Nat):∀ n,iH cls v n=0→∀ r,r < n→cls r ≠ v:=by
 intro n
 induction n with
 | zero=>intro _ r hr;omega
 | succ n ih =>
  intro h r hr
  have h2:iH cls v n+(if cls n=v then 1 else 0)=0:=h
  by_cases h3:r=n
  ·intro h4
   rw [h3] at h4
   rw [if_pos h4] at h2
   omega
  ·exact ih (by omega) r (by omega)
theorem ati {l:List (List Int)} {a b:Nat} (ha:cC l a) (hb:cC l b) (h:gF l a=gF l b):a=b:=by
 rcases Nat.lt_trichotomy a b with h2|h2|h2
 ·exact absurd h (Sp _ _ _ hb a h2)
 ·exact h2
 ·exact absurd h.symm (Sp _ _ _ ha b h2)
theorem Eb (x b:Nat):aqE (cl x) b=aqE x (cl b):=by
 unfold aqE
 by_cases h:b=cl x
 ·rw [if_pos h,if_pos (by rw [h,NJ])]
 ·rw [if_neg h,if_neg (fun h2=>h (by rw [← h2,NJ]))]
/-- The determinant of the edge rows: a number for each dart, up to the sign. -/
theorem adR {n:Nat} {l:List (List Int)} (hE:endsIn n l):aE (2 * l.length) (eA l)=ct (2 * l.length) (fun e=>if cC l e then (r_ l e:Int) - 1 else -1)∨aE (2 * l.length) (eA l)=-ct (2 * l.length) (fun e=>if cC l e then (r_ l e:Int) - 1 else -1):=by
 obtain ⟨rp,yu⟩:=Classical.axiomOfChoice (aix hE)
 have hX1:∀ a l',a < 2 * l.length→l' < 2 * l.length→(if cC l a then (0:Int) else if l'=rp a then -1 else 0) ≠ 0→∀ r,r < 2 * l.length→(if cC l l' then (0:Int) else if r=rp l' then -1 else 0)=0:=by
  intro a l' ha _ h r _
  by_cases g:cC l a
  ·exact absurd (if_pos g) h
  ·rw [if_neg g] at h
   by_cases g2:l'=rp a
   ·rw [g2];exact if_pos (((yu a ha).2 g).2).2
   ·exact absurd (if_neg g2) h
 have hX2:∀ a l',a < 2 * l.length→l' < 2 * l.length→(if ¬ cC l l'∧cC l a∧rp l'=a then (1:Int) else 0) ≠ 0→∀ r,r < 2 * l.length→(if ¬ cC l r∧cC l l'∧rp r=l' then (1:Int) else 0)=0:=by
  intro a l' _ _ h r _
  by_cases g:¬ cC l l'∧cC l a∧rp l'=a
  ·exact if_neg fun h2=>g.1 h2.2.1
  ·exact absurd (if_neg g) h
 have h1:=SE (eA l) (fun a l'=>if cC l a then (0:Int) else if l'=rp a then -1 else 0) hX1 (2 * l.length) (Nat.le_refl _)
 have e1:∀ a b,a < 2 * l.length→b < 2 * l.length→eA l a b+ax (2 * l.length) (fun l'=>(if cC l a then (0:Int) else if l'=rp a then -1 else 0) * eA l l' b)=if cC l a then eA l a b else aqE (cl (rp a)) b - aqE (cl a) b:=by
  intro a b ha _
  by_cases h:cC l a
  ·rw [if_pos h,mg fun i _=>by rw [if_pos h,Int.zero_mul],Int.add_zero]
  ·obtain ⟨g1, g2, g3⟩ := (yu a ha).2 h
   rw [if_neg h,pz (rp a) (by omega) (fun i _ hne=>by rw [if_neg h,if_neg hne,Int.zero_mul]),if_neg h,if_pos rfl,Cd,Cd,g2]
   omega
 rw [iq e1] at h1
 have h2:=SE (fun a b=>if cC l a then eA l a b else aqE (cl (rp a)) b - aqE (cl a) b) (fun a l'=>if ¬ cC l l'∧cC l a∧rp l'=a then (1:Int) else 0) hX2 (2 * l.length) (Nat.le_refl _)
 rw [h1] at h2
 have e2:∀ a b,a < 2 * l.length→b < 2 * l.length→(fun a b=>if cC l a then eA l a b else aqE (cl (rp a)) b - aqE (cl a) b) a b+ax (2 * l.length) (fun l'=>(if ¬ cC l l'∧cC l a∧rp l'=a then (1:Int) else 0) * (fun a b=>if cC l a then eA l a b else aqE (cl (rp a)) b - aqE (cl a) b) l' b)=(fun a c=>if cC l a then ((r_ l a:Int) - 1) * aqE a c else aqE (rp a) c - aqE a c) a (cl b):=by
  intro a b ha hb
  show (if cC l a then eA l a b else aqE (cl (rp a)) b - aqE (cl a) b)+ax (2 * l.length) (fun l'=>(if ¬ cC l l'∧cC l a∧rp l'=a then (1:Int) else 0) * (if cC l l' then eA l l' b else aqE (cl (rp l')) b - aqE (cl l') b))=if cC l a then ((r_ l a:Int) - 1) * aqE a (cl b) else aqE (rp a) (cl b) - aqE a (cl b)
  by_cases h:cC l a
  ·rw [if_pos h, if_pos h]
   have HV:=Wl rfl hb
   have s1:ax (2 * l.length) (fun l'=>(if ¬ cC l l'∧cC l a∧rp l'=a then (1:Int) else 0) * (if cC l l' then eA l l' b else aqE (cl (rp l')) b - aqE (cl l') b))=ax (2 * l.length) (fun l'=>(if ¬ cC l l'∧cC l a∧rp l'=a then (1:Int) else 0) * aqE a (cl b)) - ax (2 * l.length) (fun l'=>(if ¬ cC l l'∧cC l a∧rp l'=a then (1:Int) else 0) * aqE l' (cl b)):=by
    rw [← Ay]
    refine dh fun i _=>?_
    by_cases g:¬ cC l i∧cC l a∧rp i=a
    ·rw [if_pos g,if_neg g.1,g.2.2,Eb,Eb];omega
    ·rw [if_neg g];omega
   have s2:ax (2 * l.length) (fun l'=>(if ¬ cC l l'∧cC l a∧rp l'=a then (1:Int) else 0) * aqE l' (cl b))=(if ¬ cC l (cl b)∧cC l a∧rp (cl b)=a then (1:Int) else 0):=by
    rw [pz (cl b) HV (fun i _ hne=>by rw [iY (Ne.symm hne),Int.mul_zero]),pq,Int.mul_one]
   have s3:ax (2 * l.length) (fun l'=>(if ¬ cC l l'∧cC l a∧rp l'=a then (1:Int) else 0) * aqE a (cl b))=((r_ l a:Int) - 1) * aqE a (cl b):=by
    have t1:ax (2 * l.length) (fun l'=>if ¬ cC l l'∧cC l a∧rp l'=a then (1:Int) else 0)+ax (2 * l.length) (aqE a)=r_ l a:=by
     have t2:=aei hE ha (2 * l.length) (Nat.le_refl _)
     rw [← ov]
     refine Eq.trans (dh fun i hi=>?_) t2
     have wR:=as4 hE hi ha
     by_cases g:eO l i=eO l a
     ·rw [if_pos g]
      by_cases f:cC l i
      ·rw [if_neg (fun h3=>h3.1 f),ati f h (wR.2 g),pq];rfl
      ·obtain ⟨_, g2, g3⟩ := (yu i hi).2 f
       have hr:rp i=a:=ati g3 h ((as4 hE (by omega) ha).2 (g2.trans g))
       rw [if_pos ⟨f,h,hr⟩,iY (fun h4=>f (by rw [h4];exact h))];rfl
     ·rw [if_neg g, iY (fun h4 => g (by rw [h4]))]
      by_cases f:¬ cC l i∧cC l a∧rp i=a
      ·obtain ⟨_, g2, _⟩ := (yu i hi).2 f.1
       exact absurd (by rw [← g2,f.2.2]) g
      ·rw [if_neg f];rfl
    have t3:ax (2 * l.length) (aqE a)=1:=by rw [pz a ha (fun i _ hne=>iY hne),pq]
    rw [show (fun l'=>(if ¬ cC l l'∧cC l a∧rp l'=a then (1:Int) else 0) * aqE a (cl b))=fun l'=>aqE a (cl b) * (if ¬ cC l l'∧cC l a∧rp l'=a then (1:Int) else 0) from by funext l';exact Int.mul_comm _ _,fe,Int.mul_comm]
    congr 1
    omega
   rw [s1,s2,s3,Cd,Eb]
   -- who begins where a ends: the opposite of a, or of one of its class
   have hbe:nB l b=eO l (cl b):=by rw [← RB,NJ]
   have wR:=as4 hE HV ha
   have s4:(if nB l b=eO l a then (1:Int) else 0)=aqE a (cl b)+(if ¬ cC l (cl b)∧cC l a∧rp (cl b)=a then (1:Int) else 0):=by
    rw [hbe]
    by_cases g:eO l (cl b)=eO l a
    ·rw [if_pos g]
     by_cases f:cC l (cl b)
     ·rw [if_neg (fun h3=>h3.1 f),ati f h (wR.2 g),pq];rfl
     ·obtain ⟨g1, g2, g3⟩ := (yu _ HV).2 f
      have hr:rp (cl b)=a:=ati g3 h ((as4 hE (by omega) ha).2 (g2.trans g))
      rw [if_pos ⟨f,h,hr⟩,iY (fun h4=>f (by rw [h4];exact h))];rfl
    ·rw [if_neg g, iY (fun h4 => g (by rw [h4]))]
     by_cases f:¬ cC l (cl b)∧cC l a∧rp (cl b)=a
     ·obtain ⟨_, g2, _⟩ := (yu _ HV).2 f.1
      exact absurd (by rw [← g2,f.2.2]) g
     ·rw [if_neg f];rfl
   rw [s4]
   omega
  ·rw [if_neg h,if_neg h,mg fun i _=>by rw [if_neg (fun h3=>h h3.2.1),Int.zero_mul],Int.add_zero,Eb,Eb]
 rw [iq e2] at h2
 have h3:aE (2 * l.length) (fun a c=>if cC l a then ((r_ l a:Int) - 1) * aqE a c else aqE (rp a) c - aqE a c)=ct (2 * l.length) (fun e=>if cC l e then (r_ l e:Int) - 1 else -1):=by
  rw [adS]
  ·refine Iy fun e he => ?_
   by_cases h:cC l e
   ·rw [if_pos h,if_pos h,pq,Int.mul_one]
   ·obtain ⟨g1, _, _⟩ := (yu e he).2 h
    rw [if_neg h,if_neg h,pq,iY (by omega)];rfl
  ·intro a b hab hb
   by_cases h:cC l a
   ·rw [if_pos h,iY (by omega),Int.mul_zero]
   ·obtain ⟨g1, _, _⟩ := (yu a (by omega)).2 h
    rw [if_neg h,iY (by omega),iY (by omega)];rfl
 rw [← h3,← h2]
 exact adU (fun a c=>if cC l a then ((r_ l a:Int) - 1) * aqE a c else aqE (rp a) c - aqE a c)
theorem ah3 {f g:Nat→Int}:∀ n,(∀ v,v < n→f v=g v∨f v=-g v)→ct n f=ct n g∨ct n f=-ct n g:=by
 intro n
 induction n with
 | zero=>intro _;exact Or.inl rfl
 | succ n ih =>
  intro h
  rw [asq,asq]
  rcases ih (fun v hv=>h v (by omega)) with i|i<;>rcases h n (by omega) with j|j<;>rw [i,j]
  ·exact Or.inl rfl
  ·exact Or.inr (Int.mul_neg _ _)
  ·exact Or.inr (Int.neg_mul _ _)
  ·exact Or.inl (by rw [Int.neg_mul_neg])
theorem ahK (k:Nat):(-1:Int) ^ k=1∨(-1:Int) ^ k=-1:=by
 induction k with
 | zero=>exact Or.inl rfl
 | succ k ih=>rw [Int.pow_succ];rcases ih with h|h<;>rw [h]<;>decide
theorem adN {n:Nat} {l:List (List Int)} (hE:endsIn n l) (v:Nat):∀ m,m≤l.length→ec l m v=iH (gF l) v (2 * m):=by
 intro m
 induction m with
 | zero=>intro _;rfl
 | succ m ih =>
  intro hm
  obtain ⟨u0,v0,_,h1,_,_⟩:=Cc hE (2 * m) (by omega)
  obtain ⟨u1,v1,_,h2,_,_⟩:=Cc hE (2 * m+1) (by omega)
  have d0:gF l (2 * m)=v0:=by unfold gF;rw [h1];rfl
  have d1:gF l (2 * m+1)=v1:=by unfold gF;rw [h2];rfl
  unfold eO at h1 h2
  rw [show 2 * m / 2=m by omega,show 1 - 2 * m % 2=1 by omega] at h1
  rw [show (2 * m+1) / 2=m by omega,show 1 - (2 * m+1) % 2=0 by omega] at h2
  show ec l m v+(if rd (ah l (m:Int)) 0=(v:Int) then 1 else 0)+(if rd (ah l (m:Int)) 1=(v:Int) then 1 else 0)=iH (gF l) v (2 * m)+(if gF l (2 * m)=v then 1 else 0)+(if gF l (2 * m+1)=v then 1 else 0)
  rw [ih (by omega),d0,d1,show rd (ah l (m:Int)) 0=(v1:Int) from h2,show rd (ah l (m:Int)) 1=(v0:Int) from h1]
  have i0:(if (v0:Int)=(v:Int) then 1 else 0)=(if v0=v then 1 else 0):=by
   by_cases h:v0=v
   ·rw [if_pos h,if_pos (by omega)]
   ·rw [if_neg h,if_neg (by omega)]
  have i1:(if (v1:Int)=(v:Int) then 1 else 0)=(if v1=v then 1 else 0):=by
   by_cases h:v1=v
   ·rw [if_pos h,if_pos (by omega)]
   ·rw [if_neg h,if_neg (by omega)]
  rw [i0,i1]
  omega
/-- The determinant is the product of the degrees less 1, up to the sign. -/
theorem adQ {n:Nat} {l:List (List Int)} (hE:endsIn n l):aE (2 * l.length) (eA l)=ct n (fun v=>(ec l l.length v:Int) - 1)∨aE (2 * l.length) (eA l)=-ct n (fun v=>(ec l l.length v:Int) - 1):=by
 have h1:ct (2 * l.length) (fun e=>if cC l e then (r_ l e:Int) - 1 else -1)=ct n (fun v=>(ec l l.length v:Int) - 1)∨ct (2 * l.length) (fun e=>if cC l e then (r_ l e:Int) - 1 else -1)=-ct n (fun v=>(ec l l.length v:Int) - 1):=by
  rw [ah1 n (gF l) _ (2 * l.length) (fun e he=>by
   obtain ⟨_,v,_,hv,_,vX⟩:=Cc hE e he
   unfold gF
   rw [hv]
   exact vX)]
  refine ah3 n fun v _=>?_
  have e1:ct (2 * l.length) (fun e=>if gF l e=v then (if cC l e then (r_ l e:Int) - 1 else -1) else 1)=ct (2 * l.length) (fun e=>if gF l e=v then (if iH (gF l) v e=0 then ((iH (gF l) v (2 * l.length):Nat):Int) - 1 else -1) else 1):=Iy fun e _=>by
   by_cases h:gF l e=v
   ·rw [if_pos h, if_pos h]
    by_cases f:cC l e
    ·have f2 : iH (gF l) v e = 0 := by rw [← h]; exact f
     rw [if_pos f,if_pos f2]
     unfold r_
     rw [h]
    ·have f2 : ¬ iH (gF l) v e = 0 := fun h2 => f (by unfold cC; rw [h]; exact h2)
     rw [if_neg f,if_neg f2]
   ·rw [if_neg h,if_neg h]
  rw [e1,adA,adN hE v l.length (Nat.le_refl _)]
  by_cases h:iH (gF l) v (2 * l.length)=0
  ·rw [if_pos h,h];exact Or.inr rfl
  ·rw [if_neg h]
   rcases ahK (iH (gF l) v (2 * l.length) - 1) with j|j<;>rw [j]
   ·exact Or.inl (Int.mul_one _)
   ·exact Or.inr (by rw [Int.mul_neg,Int.mul_one])
 rcases adR hE with i|i<;>rcases h1 with j|j<;>rw [i,j]
 ·exact Or.inl rfl
 ·exact Or.inr rfl
 ·exact Or.inr rfl
 ·exact Or.inl (Int.neg_neg _)
/-- What is an inverse on the left is one on the right, modulo a prime. -/
theorem agB {p:Nat} (ku:i_ p=true) (hp:2≤p) {n:Nat} {M X:Nat→Nat→Int} (hd:¬ (p:Int) ∣ aE n M) (hX:∀ i j,i < n→j < n→(p:Int) ∣ ax n (fun k=>X i k * M k j) - aqE j i) (i j:Nat) (hi:i < n) (hj:j < n):(p:Int) ∣ ax n (fun k=>M i k * X k j) - aqE j i:=by
 refine Wt ku hp (b:=aE n M) ?_ hd
 have key:∀ k,k < n→(p:Int) ∣ X k j * aE n M - iX n M k j:=fun k hk=>by
  have s1:ax n (fun m=>ax n (fun q=>X k q * M q m) * iX n M m j)=X k j * aE n M:=by
   have s2:ax n (fun m=>ax n (fun q=>X k q * M q m) * iX n M m j)=ax n (fun m=>ax n (fun q=>X k q * (M q m * iX n M m j))):=dh fun m _=>by
    rw [Int.mul_comm,← fe];exact dh fun q _=>by grind
   rw [s2,yF,pz j hj (fun q hq hqj=>by rw [fe,CC M q j hj hq,if_neg hqj,Int.mul_zero]),fe,CC M j j hj hj,if_pos rfl]
  have s3:ax n (fun m=>aqE m k * iX n M m j)=iX n M k j:=by
   rw [pz k hk (fun m _ hne=>by rw [iY (Ne.symm hne),Int.zero_mul]),pq,Int.one_mul]
  rw [← s1,← s3,← Ay]
  have hz:=yC (p:=(p:Int)) (n:=n) (f:=fun m=>ax n (fun q=>X k q * M q m) * iX n M m j) (g:=fun m=>aqE m k * iX n M m j) (fun m hm=>by
   rw [← Int.sub_mul]
   exact Int.dvd_trans (hX k m hk hm) (Int.dvd_mul_right _ _))
  rw [← Ay] at hz
  exact hz
 have hz:=yC (p:=(p:Int)) (n:=n) (f:=fun k=>M i k * (X k j * aE n M)) (g:=fun k=>M i k * iX n M k j) (fun k hk=>by
  rw [← Int.mul_sub]
  exact Int.dvd_trans (key k hk) (Int.dvd_mul_left _ _))
 rw [CC M i j hj hi] at hz
 have s4:ax n (fun k=>M i k * (X k j * aE n M))=ax n (fun k=>M i k * X k j) * aE n M:=by
  rw [Int.mul_comm,← fe];exact dh fun k _=>by grind
 rw [s4] at hz
 rw [Int.sub_mul]
 have s5:aqE j i * aE n M=if i=j then aE n M else 0:=by
  unfold aqE
  by_cases h:i=j
  ·rw [if_pos h,if_pos h,Int.one_mul]
  ·rw [if_neg h,if_neg h,Int.zero_mul]
 rw [s5]
 exact hz
theorem atg {α:Type} {g:Nat→Option α} {r s:α} (h1:Ev g r) (h2:Ev g s):r=s:=by
 obtain ⟨K,hK⟩:=h1
 obtain ⟨L,hL⟩:=h2
 have e:=(hK (max K L) (Nat.le_max_left _ _)).symm.trans (hL (max K L) (Nat.le_max_right _ _))
 exact Option.some.inj e
/-- What the inverse of the rows is, if there is one. -/
def Dt (q:Nat) (n:Nat) (M X:Nat→Nat→Int):Prop:=(∀ i j,i < n→j < n→0≤X i j∧X i j < q)∧∀ i j,i < n→j < n→(q:Int) ∣ ax n (fun k=>M i k * X k j) - aqE j i
theorem WG {a : Int} {l : List (List Int)} (hg : ee a l = true) (q : Nat) (hq : i_ q = true) (h2 : 2 ≤ q) (h3 : q ≤ 101) (v : Nat) (hv : v < q) :
  (Ev (fun k=>aX.f k a l q v) ([],false)∧(q:Int) ∣ aE (2 * l.length) (gM v (eA l)))∨(¬ (q:Int) ∣ aE (2 * l.length) (gM v (eA l)))∧∃ X,Dt q (2 * l.length) (gM v (eA l)) X∧Ev (fun k=>aX.f k a l q v) (cM (2 * l.length) (2 * l.length) X,true):=by
 obtain ⟨R,h,e⟩:=WE hg q hq h2 h3 v hv
 rcases h with ⟨rfl,z⟩|⟨X,bX,rfl,d1,d2,d3,x1,x2⟩
 ·exact Or.inl ⟨e,z⟩
 ·have nz:¬ (q:Int) ∣ aE (2 * l.length) (gM v (eA l)):=fun d4=>by
   have:=Int.dvd_add d3 d4
   rw [Int.sub_add_cancel] at this
   have:=Int.le_of_dvd d1 this
   omega
  exact Or.inr ⟨nz,X,⟨x1,fun i j hi hj=>agB hq h2 nz x2 i j hi hj⟩,e⟩
theorem ajp {a:Int} {l:List (List Int)} {q v:Nat} (hl:l.length≤maxLen) (h:ja a l q v=0) (hz:(q:Int) ∣ aE (2 * l.length) (gM v (eA l))):Ev (fun k=>nR.f k a l q v) (0,5):=by
 obtain ⟨hg,hp,h0,h1⟩:=vr h
 obtain ⟨q',e,h2,h3,hq⟩:=rJ hp
 obtain rfl:q=q':=by omega
 have hi:=asQ a l q v hl
 rw [h] at hi
 rcases WG hg q hq h2 (by omega) v (by omega) with ⟨e,_⟩|⟨n,_⟩
 ·unfold nR.f
  refine Ev.bind hi ?_
  simp only [if_true]
  refine Ev.bind e ?_
  simp only [Bool.false_eq_true,if_false]
  exact Ev.now _
 ·exact absurd hz n
theorem SF {m e:Int} (h:jX m e=false):0≤e∧e≤m:=by unfold jX at h;simpa using h
theorem SG {m e:Int} (h:0≤e∧e≤m):jX m e=false:=by unfold jX;simpa using h
/-- The resolvent at all darts, where it is asked for rightly. -/
theorem aim {a : Int} {l : List (List Int)} {q v : Nat} (hl : l.length ≤ maxLen) (h : ja a l q v = 0) :
  (∀ e f:Nat,e < 2 * l.length→f < 2 * l.length→Ev (fun k=>jU.f k a l q v e f) (0,5))∨∃ X,Dt q (2 * l.length) (gM v (eA l)) X∧∀ e f:Nat,e < 2 * l.length→f < 2 * l.length→Ev (fun k=>jU.f k a l q v e f) (X e f,0):=by
 obtain ⟨hg,hp,h0,h1⟩:=vr h
 obtain ⟨q',e,h2,h3,hq⟩:=rJ hp
 obtain rfl:q=q':=by omega
 have rG:=kz hg
 have hi:=asQ a l q v hl
 rw [h] at hi
 have ew:wrap64 (wrap64 (2 * (l.length:Int)) - 1)=2 * (l.length:Int) - 1:=by rw [dF (n:=2 * (l.length:Int)) (by omega) (by omega),dF (by omega) (by omega)]
 have Ez:∀ i j:Nat,i < 2 * l.length→j < 2 * l.length→(!([(i:Int),(j:Int)].any (jX (2 * (l.length:Int) - 1))))=true:=fun i j il jl=>by
  simp only [List.any_cons,List.any_nil,SG (m:=2 * (l.length:Int) - 1) (e:=i) ⟨by omega,by omega⟩,SG (m:=2 * (l.length:Int) - 1) (e:=j) ⟨by omega,by omega⟩,Bool.or_false,Bool.not_false]
 rcases WG hg q hq h2 (by omega) v (by omega) with ⟨s2,_⟩|⟨_,X,hX,s2⟩
 ·refine Or.inl fun i j il jl => ?_
  unfold jU.f
  refine Ev.bind hi ?_
  simp only [if_true,pW.f,ew,Option.bind_some,Ez i j il jl]
  refine Ev.bind s2 ?_
  simp only [Bool.false_eq_true,if_false]
  exact Ev.now _
 ·refine Or.inr ⟨X, hX, fun i j il jl => ?_⟩
  unfold jU.f
  refine Ev.bind hi ?_
  simp only [if_true,pW.f,ew,Option.bind_some,Ez i j il jl]
  refine Ev.bind s2 ?_
  simp only [arj,nM il,d_,gG jl,cx i,cx j,show (i:Int) < ((2 * l.length:Nat):Int) by omega,show (j:Int) < ((2 * l.length:Nat):Int) by omega,if_true]
  exact Ev.now _
/-- Where the resolvent is told: all is in range, and the resolvent is the inverse. -/
theorem ain {a:Int} {l:List (List Int)} {p u e f r:Int} (hl:l.length≤maxLen) (h:Ev (fun k=>jU.f k a l p u e f) (r,0)):∃ (q v i j:Nat) (X:Nat→Nat→Int),p=q∧u=v∧e=i∧f=j∧2≤q∧q≤101∧v < q∧i < 2 * l.length∧j < 2 * l.length∧ee a l=true∧r=X i j∧Dt q (2 * l.length) (gM v (eA l)) X∧∀ e f:Nat,e < 2 * l.length→f < 2 * l.length→Ev (fun k=>jU.f k a l q v e f) (X e f,0):=by
 have hi:=asQ a l p u hl
 by_cases hv:ja a l p u=0
 ·obtain ⟨hg, hp, h0, h1⟩ := vr hv
  obtain ⟨q,rfl,h2,h3,hq⟩:=rJ hp
  obtain ⟨v,rfl⟩:∃ v:Nat,u=v:=⟨u.toNat,by omega⟩
  have rG:=kz hg
  have ew:wrap64 (wrap64 (2 * (l.length:Int)) - 1)=2 * (l.length:Int) - 1:=by rw [dF (n:=2 * (l.length:Int)) (by omega) (by omega),dF (by omega) (by omega)]
  rw [hv] at hi
  by_cases hd:([e,f].any (jX (2 * (l.length:Int) - 1)))=true
  ·have h5:Ev (fun k=>jU.f k a l q v e f) (0,2):=by
    unfold jU.f
    refine Ev.bind hi ?_
    simp only [if_true,pW.f,ew,Option.bind_some,hd,Bool.not_true,Bool.false_eq_true,if_false]
    exact Ev.now _
   have:=congrArg Prod.snd (atg h h5)
   simp at this
  ·simp only [List.any_cons, List.any_nil, Bool.or_false, Bool.not_eq_true, Bool.or_eq_false_iff] at hd
   have e1:=SF hd.1
   have f1:=SF hd.2
   obtain ⟨i,rfl⟩:∃ i:Nat,e=i:=⟨e.toNat,by omega⟩
   obtain ⟨j,rfl⟩:∃ j:Nat,f=j:=⟨f.toNat,by omega⟩
   rcases aim hl hv with hA|⟨X,hX,hA⟩
   ·have := congrArg Prod.snd (atg h (hA i j (by omega) (by omega)))
    simp at this
   ·have hr := congrArg Prod.fst (atg h (hA i j (by omega) (by omega)))
    exact ⟨q,v,i,j,X,rfl,rfl,rfl,rfl,h2,by omega,by omega,by omega,by omega,hg,hr,hX,hA⟩
 ·have h5:Ev (fun k=>jU.f k a l p u e f) (0,ja a l p u):=by
   unfold jU.f
   refine Ev.bind hi ?_
   simp only [hv,if_false]
   exact Ev.now _
  exact absurd (congrArg Prod.snd (atg h h5)).symm hv
/-- The sum over all that follow. -/
theorem aeu (l:List (List Int)) (X:Nat→Int) (e:Nat):∀ i:Nat,ax i (fun k=>eA l e k * X k)=((aq7 l e i).map fun g=>X g.toNat).sum:=by
 intro i
 induction i with
 | zero=>rfl
 | succ i ih =>
  rw [show ax (i+1) (fun k=>eA l e k * X k)=ax i (fun k=>eA l e k * X k)+eA l e i * X i from rfl,ih]
  cases hn:next l e i with
  | true =>
   rw [ath l e i hn,List.map_append,List.sum_append]
   unfold eA
   rw [if_pos hn,Int.one_mul]
   simp
  | false =>
   rw [HF l e i hn]
   unfold eA
   rw [if_neg (by rw [hn];decide),Int.zero_mul,Int.add_zero]
theorem aet (l:List (List Int)) (e:Nat):∀ i:Nat,ax i (fun k=>eA l e k)=((aq7 l e i).length:Int):=by
 intro i
 induction i with
 | zero=>rfl
 | succ i ih =>
  rw [show ax (i+1) (fun k=>eA l e k)=ax i (fun k=>eA l e k)+eA l e i from rfl,ih]
  cases hn:next l e i with
  | true =>
   rw [ath l e i hn,List.length_append]
   unfold eA
   rw [if_pos hn]
   simp
  | false =>
   rw [HF l e i hn]
   unfold eA
   rw [if_neg (by rw [hn];decide),Int.add_zero]
theorem Tb (l:List (List Int)) (e i:Nat):∀ g ∈ aq7 l e i,0≤g∧g < i:=by
 intro g hg
 unfold aq7 at hg
 simp only [List.mem_map,List.mem_filter,List.mem_range] at hg
 obtain ⟨x,⟨h1,_⟩,rfl⟩:=hg
 exact ⟨Int.natCast_nonneg _,Int.ofNat_lt.2 h1⟩
/-- The resolvent's equation. -/
theorem aio {q v n:Nat} {l:List (List Int)} {X:Nat→Nat→Int} (hn:n=2 * l.length) (hX:Dt q n (gM v (eA l)) X) (i j:Nat) (hi:i < n) (hj:j < n):(q:Int) ∣ X i j - (v:Int) * ((aq7 l i n).map fun g=>X g.toNat j).sum - (if i=j then 1 else 0):=by
 have h:=hX.2 i j hi hj
 have e1:ax n (fun k=>gM v (eA l) i k * X k j)=X i j - (v:Int) * ax n (fun k=>eA l i k * X k j):=by
  rw [← fe]
  have e2:ax n (fun k=>aqE i k * X k j)=X i j:=by rw [pz i hi (fun k _ hne=>by rw [iY hne,Int.zero_mul]),pq,Int.one_mul]
  rw [← e2,← Ay]
  refine dh fun k _=>?_
  unfold gM aqZ
  grind
 rw [e1,aeu l (fun k=>X k j) i n] at h
 have e3:aqE j i=if i=j then (1:Int) else 0:=rfl
 rw [e3] at h
 exact h
theorem air {l:List (List Int)} {p:Int} {n:Nat} {u:Int} (h:u ∈ q2 l p n):∃ v:Nat,u=v∧v < n∧aE (2 * l.length) (gM v (eA l)) % p=0:=by
 unfold q2 at h
 obtain ⟨v,h1,h2⟩:=List.mem_filterMap.1 h
 by_cases hd:aE (2 * l.length) (gM v (eA l)) % p=0
 ·rw [if_pos hd] at h2
  exact ⟨v,(Option.some.inj h2).symm,List.mem_range.1 h1,hd⟩
 ·rw [if_neg hd] at h2;cases h2
theorem ait (l:List (List Int)) (hl:l.length≤1048576) (hx:∀ x ∈ l,x.length≤1048576):∀ (d i:Nat),l.length - i=d→i≤l.length→Ev (fun k=>pS.l0 k l l i) true:=by
 intro d
 induction d with
 | zero =>
  intro i hd hi
  refine Ev.step (fun k=>by simp only [pS.l0];rfl) ?_
  simp only [show ¬ ((i:Int) < (l.length:Int)) by omega,if_false]
  exact Ev.now _
 | succ d ih =>
  intro i hd hi
  have hil:i < l.length:=by omega
  refine Ev.step (fun k=>by simp only [pS.l0];rfl) ?_
  simp only [show ((i:Int) < (l.length:Int)) by omega,cx i,if_true,wI ((i:Int)+1) (by omega)]
  refine Ev.bind (NG (ah l (i:Int)) (by rw [tJ l i hil];exact hx _ (List.getElem_mem hil))) ?_
  simp only [if_true]
  exact ih (i+1) (by omega) (by omega)
theorem ais (l:List (List Int)) (hl:l.length≤1048576) (hx:∀ x ∈ l,x.length≤1048576):Ev (fun k=>pS.f k l l) true:=by
 unfold pS.f
 simp only [if_true]
 exact ait l hl hx l.length 0 (by omega) (by omega)
theorem CI {s:List Int} (hs:arK s) (t h a:Int) (ht:0≤t∧t≤s.length):∃ x t' h',jF.f s t h a=some (x,t',h')∧(0≤t'∧t'≤s.length):=by
 unfold jF.f
 obtain ⟨x,t1,h1,e1,r1,_⟩:=ow hs t h 14 ht
 rw [e1,Option.bind_some]
 by_cases hx:x=0
 ·obtain ⟨y, t2, h2, e2, r2, _⟩ := AL hs t1 h1 [(-1), wrap64 (a + 1), 1099511627776, (-4611686018427387904)] (by simp) r1
  simp only [hx,if_true,e2,Option.bind_some]
  exact ⟨_,_,_,rfl,r2⟩
 ·obtain ⟨y, t2, h2, e2, r2, _⟩ := ow hs t1 h1 (wrap64 (a + 1)) r1
  simp only [hx,if_false,e2,Option.bind_some]
  exact ⟨_,_,_,rfl,r2⟩
theorem Hw {s:List Int} (hs:arK s) (t h:Int) (ht:0≤t∧t≤s.length):∃ x t' h',rU.f s t h=some (x,t',h')∧(0≤t'∧t'≤s.length):=by
 unfold rU.f
 obtain ⟨x,t1,h1,e1,r1,_⟩:=ow hs t h 20 ht
 rw [e1,Option.bind_some]
 by_cases hx:x=0
 ·obtain ⟨y, t2, h2, e2, r2, _⟩ := AL hs t1 h1 [0, 1, 4, 91, 103] (by simp) r1
  simp only [hx,if_true,e2,Option.bind_some]
  exact ⟨_,_,_,rfl,r2⟩
 ·obtain ⟨y, t2, h2, e2, r2, _⟩ := AL hs t1 h1 [2, 3, 5, 7, 11, 13, 31, 101] (by simp) r1
  simp only [hx,if_false,e2,Option.bind_some]
  exact ⟨_,_,_,rfl,r2⟩
theorem ad9 {s:List Int} (hs:arK s):∃ a l p,Ev (fun k=>F6.f k s) (a,l,p)∧mI 11 3 l:=by
 obtain ⟨h0,e0⟩:=z6 hs
 obtain ⟨a,l,t1,h1,e1,d1,b1⟩:=AY hs 0 h0 ⟨by omega,by omega⟩
 obtain ⟨x,t2,h2,e2,b2,_⟩:=ow hs t1 h1 20 b1
 unfold F6.f
 by_cases hx:x=0
 ·obtain ⟨p, t3, h3, e3, b3⟩ := Hw hs t2 h2 b2
  refine ⟨a,l,p,Ev.bind e0 (Ev.bind e1 ?_),d1⟩
  simp only [e2,Option.bind_some,hx,if_true,e3]
  exact Ev.now _
 ·obtain ⟨p, t3, h3, e3, b3, _⟩ := AL hs t2 h2 [2, 3, 5, 7, 11, 13] (by simp) b2
  refine ⟨a,l,p,Ev.bind e0 (Ev.bind e1 ?_),d1⟩
  simp only [e2,Option.bind_some,hx,if_false,e3]
  exact Ev.now _
theorem ad8 {s:List Int} (hs:arK s):∃ a l p u e f,Ev (fun k=>jT.f k s) (a,l,p,u,e,f)∧mI 11 3 l:=by
 obtain ⟨h0,e0⟩:=z6 hs
 obtain ⟨a,l,t1,h1,e1,d1,b1⟩:=AY hs 0 h0 ⟨by omega,by omega⟩
 obtain ⟨p,t2,h2,e2,b2⟩:=Hw hs t1 h1 b1
 obtain ⟨u,t3,h3,e3,b3⟩:=CI hs t2 h2 (mx (wrap64 (p - 1)) 0) b2
 obtain ⟨e,t4,h4,e4,b4⟩:=CI hs t3 h3 (mx (wrap64 ((wrap64 (2 * (l.length:Int))) - 1)) 0) b3
 obtain ⟨f,t5,h5,e5,b5⟩:=CI hs t4 h4 (mx (wrap64 ((wrap64 (2 * (l.length:Int))) - 1)) 0) b4
 unfold jT.f
 refine ⟨a,l,p,u,e,f,Ev.bind e0 (Ev.bind e1 ?_),d1⟩
 simp only [e2,e3,e4,e5,Option.bind_some]
 exact Ev.now _
theorem ad0 {s:List Int} (hs:arK s):∃ a l,Ev (fun k=>Bk.f k s) (a,l)∧mI 11 3 l:=by
 obtain ⟨h0,e0⟩:=z6 hs
 obtain ⟨a,l,t1,h1,e1,d1,b1⟩:=AY hs 0 h0 ⟨by omega,by omega⟩
 exact ⟨a,l,Ev.bind e0 (Ev.bind e1 (Ev.now _)),d1⟩
theorem ad1 {s:List Int} (hs:arK s):∃ a l,Ev (fun k=>Bl.f k s) (a,l)∧mI 11 3 l:=by
 obtain ⟨h0,e0⟩:=z6 hs
 obtain ⟨a,l,t1,h1,e1,d1,b1⟩:=AY hs 0 h0 ⟨by omega,by omega⟩
 exact ⟨a,l,Ev.bind e0 (Ev.bind e1 (Ev.now _)),d1⟩
theorem ad2 {s:List Int} (hs:arK s):∃ a l p u,Ev (fun k=>pT.f k s) (a,l,p,u)∧mI 11 3 l:=by
 obtain ⟨h0,e0⟩:=z6 hs
 obtain ⟨a,l,t1,h1,e1,d1,b1⟩:=AY hs 0 h0 ⟨by omega,by omega⟩
 obtain ⟨p,t2,h2,e2,b2⟩:=Hw hs t1 h1 b1
 obtain ⟨u,t3,h3,e3,b3⟩:=CI hs t2 h2 (mx (wrap64 (p - 1)) 0) b2
 unfold pT.f
 refine ⟨a,l,p,u,Ev.bind e0 (Ev.bind e1 ?_),d1⟩
 simp only [e2,e3,Option.bind_some]
 exact Ev.now _
theorem atK {s:List Int} (hs:arK s):∃ a l p u,Ev (fun k=>pU.f k s) (a,l,p,u)∧mI 11 3 l:=by
 obtain ⟨h0,e0⟩:=z6 hs
 obtain ⟨a,l,t1,h1,e1,d1,b1⟩:=AY hs 0 h0 ⟨by omega,by omega⟩
 obtain ⟨p,t2,h2,e2,b2⟩:=Hw hs t1 h1 b1
 obtain ⟨u,t3,h3,e3,b3⟩:=CI hs t2 h2 (mx (wrap64 (p - 1)) 0) b2
 unfold pU.f
 refine ⟨a,l,p,u,Ev.bind e0 (Ev.bind e1 ?_),d1⟩
 simp only [e2,e3,Option.bind_some]
 exact Ev.now _
theorem ad3 {s:List Int} (hs:arK s):∃ a l e,Ev (fun k=>pV.f k s) (a,l,e)∧mI 11 3 l:=by
 obtain ⟨h0,e0⟩:=z6 hs
 obtain ⟨a,l,t1,h1,e1,d1,b1⟩:=AY hs 0 h0 ⟨by omega,by omega⟩
 obtain ⟨e,t4,h4,e4,b4⟩:=CI hs t1 h1 (mx (wrap64 ((wrap64 (2 * (l.length:Int))) - 1)) 0) b1
 unfold pV.f
 refine ⟨a,l,e,Ev.bind e0 (Ev.bind e1 ?_),d1⟩
 simp only [e4,Option.bind_some]
 exact Ev.now _
/-! the product of the degrees less 1 -/
theorem Wr {f : Nat → Int} : ∀ n, (∀ v, v < n → (f v).natAbs ≤ 21) → (ct n f).natAbs ≤ 21 ^ n
 | 0,_=>by simp [ct]
 | n+1,h=>by
  show (ct n f * f n).natAbs≤21 ^ n * 21
  rw [Int.natAbs_mul]
  exact Nat.mul_le_mul (Wr n fun v hv=>h v (by omega)) (h n (by omega))
theorem N0 {f:Nat→Int} {n:Nat} (hn:n≤8) (h:∀ v,v < n→(f v).natAbs≤21):-40000000000≤ct n f∧ct n f≤40000000000:=by
 have h1:=Wr n h
 have h2:21 ^ n≤21 ^ 8:=Nat.pow_le_pow_right (by decide) hn
 have h3:(21:Nat) ^ 8=37822859361:=by decide
 omega
theorem L1 {l:List (List Int)} (hl:l.length≤10) (v:Nat):((ec l l.length v:Int) - 1).natAbs≤21:=by
 have:=D8 l l.length v
 omega
def wQ (a:Int) (l:List (List Int)):Int × Int:=if ee a l then (ct a.toNat (fun v=>(ec l l.length v:Int) - 1),0) else (0,1)
theorem adY {l:List (List Int)} (hl:l.length≤10) {n:Nat} (hn:n≤8):∀ (d i:Nat),n - i=d→i≤n→Ev (fun k=>pQ.l0 k (ct i (fun v=>(ec l l.length v:Int) - 1)) (b_ n (fun v=>(ec l l.length v:Int))) n i) (ct n (fun v=>(ec l l.length v:Int) - 1),0):=by
 intro d
 induction d with
 | zero =>
  intro i hd hi
  obtain rfl:i=n:=by omega
  refine Ev.step (fun k=>by simp only [pQ.l0];rfl) ?_
  simp only [show ¬ ((i:Int) < (i:Int)) by omega,if_false]
  exact Ev.now _
 | succ d ih =>
  intro i hd hi
  have h1:=D8 l l.length i
  have h2:=N0 (n:=i+1) (f:=fun v=>(ec l l.length v:Int) - 1) (by omega) (fun v _=>L1 hl v)
  have h3:ct (i+1) (fun v=>(ec l l.length v:Int) - 1)=ct i (fun v=>(ec l l.length v:Int) - 1) * ((ec l l.length i:Int) - 1):=rfl
  rw [h3] at h2
  refine Ev.step (fun k=>by simp only [pQ.l0];rfl) ?_
  simp only [lI i n (by omega),cx i,d_,gG (show i < n by omega),if_true,wI ((ec l l.length i:Int) - 1) (by omega),wI ((i:Int)+1) (by omega)]
  rw [dF (by omega) (by omega),← h3]
  exact ih (i+1) (by omega) (by omega)
theorem adZ {l:List (List Int)} (hl:l.length≤10) (h2:two l) {n:Nat} (hn:n≤8):∀ (d i:Nat),n - i=d→i≤n→Ev (fun k=>pR.l0 k (ct i (fun v=>(ec l l.length v:Int) - 1)) i n l) (ct n (fun v=>(ec l l.length v:Int) - 1),0):=by
 intro d
 induction d with
 | zero =>
  intro i hd hi
  obtain rfl:i=n:=by omega
  refine Ev.step (fun k=>by simp only [pR.l0];rfl) ?_
  simp only [show ¬ ((i:Int) < (i:Int)) by omega,if_false]
  exact Ev.now _
 | succ d ih =>
  intro i hd hi
  have h1:=D8 l l.length i
  have h4:=N0 (n:=i+1) (f:=fun v=>(ec l l.length v:Int) - 1) (by omega) (fun v _=>L1 hl v)
  have h3:ct (i+1) (fun v=>(ec l l.length v:Int) - 1)=ct i (fun v=>(ec l l.length v:Int) - 1) * ((ec l l.length i:Int) - 1):=rfl
  rw [h3] at h4
  refine Ev.step (fun k=>by simp only [pR.l0];rfl) ?_
  simp only [lI i n (by omega),if_true]
  refine Ev.bind (agP n l (by omega) h2 i) ?_
  simp only [wI ((ec l l.length i:Int) - 1) (by omega),wI ((i:Int)+1) (by omega)]
  rw [dF (by omega) (by omega),← h3]
  exact ih (i+1) (by omega) (by omega)
theorem agt (a:Int) (l:List (List Int)) (hl:l.length≤maxLen):Ev (fun k=>pQ.f k a l) (wQ a l):=by
 unfold pQ.f wQ
 refine Ev.bind (FC a l hl) ?_
 cases h:ee a l with
 | false=>simp only [Bool.false_eq_true,if_false];exact Ev.now _
 | true =>
  obtain ⟨n,rfl,h1,h8,hE⟩:=Il h
  have h10:=kz h
  simp only [if_true,Int.toNat_natCast]
  refine Ev.bind (adO n (by omega) l (by omega) hE) ?_
  rw [show lK n l l.length=b_ n (fun v=>(ec l l.length v:Int)) from rfl,d_]
  exact adY h10 h8 n 0 (by omega) (by omega)
theorem aiZ (a:Int) (l:List (List Int)) (hl:l.length≤maxLen):Ev (fun k=>pR.f k a l) (wQ a l):=by
 unfold pR.f wQ
 refine Ev.bind (FY a l hl) ?_
 cases h:ee a l with
 | false=>simp only [Bool.false_eq_true,if_false];exact Ev.now _
 | true =>
  obtain ⟨n,rfl,h1,h8,hE⟩:=Il h
  have h10:=kz h
  simp only [if_true,Int.toNat_natCast]
  exact adZ h10 (asm h) h8 n 0 (by omega) (by omega)
theorem aeb {a:Int} {l:List (List Int)} (h:ee a l=true):(uA a l).2=0∧(wQ a l).2=0∧((uA a l).1=(wQ a l).1∨(uA a l).1=wrap64 (-(wQ a l).1)):=by
 obtain ⟨n,rfl,h1,h8,hE⟩:=Il h
 have h10:=kz h
 have hb:=N0 (n:=n) (f:=fun v=>(ec l l.length v:Int) - 1) h8 (fun v _=>L1 h10 v)
 unfold uA wQ
 simp only [h,if_true,Int.toNat_natCast]
 refine ⟨trivial,trivial,?_⟩
 rw [ab9,show fW (2 * l.length)=1 by unfold fW;rw [if_pos (by omega)],Int.one_mul,dF (by omega) (by omega)]
 exact adQ hE
/-! sums of rows -/
theorem ai' {n:Nat} (hn:n≤20) {g:Nat→Int} (hg:∀ v,v < n→0≤g v∧g v≤1):∀ (d i:Nat),n - i=d→i≤n→Ev (fun k=>oN.l0 k (b_ n g) (ax i g) i) (ax n g):=by
 intro d
 induction d with
 | zero =>
  intro i hd hi
  obtain rfl:i=n:=by omega
  refine Ev.step (fun k=>by simp only [oN.l0];rfl) ?_
  simp only [d_,show ¬ ((i:Int) < (i:Int)) by omega,if_false]
  exact Ev.now _
 | succ d ih =>
  intro i hd hi
  have h0:=hg i (by omega)
  have h1:0≤ax i g:=NF fun v hv=>(hg v (by omega)).1
  have h2:ax i g≤i:=by
   have:∀ j:Nat,j≤n→ax j g≤j:=by
    intro j
    induction j with
    | zero=>intro _;exact Int.le_refl _
    | succ j ihj=>intro hj;have:=ihj (by omega);have:=(hg j (by omega)).2;show ax j g+g j≤_;omega
   exact this i (by omega)
  refine Ev.step (fun k=>by simp only [oN.l0];rfl) ?_
  simp only [d_,lI i n (by omega),cx i,gG (show i < n by omega),if_true,wI ((i:Int)+1) (by omega)]
  rw [dF (by omega) (by omega)]
  exact ih (i+1) (by omega) (by omega)
theorem ai9 {n:Nat} (hn:n≤20) {g:Nat→Int} (hg:∀ v,v < n→0≤g v∧g v≤1):Ev (fun k=>oN.f k (b_ n g)) (ax n g):=by
 unfold oN.f
 exact ai' hn hg n 0 (by omega) (by omega)
theorem aef {a p:Int} {l:List (List Int)} (hl:l.length≤maxLen):∀ u ∈ (wh a l p).1,Ev (fun k=>rq.f k a l p u) (0,0)∧Ev (fun k=>nR.f k a l p u) (0,5):=by
 intro u hu
 unfold wh at hu
 by_cases h:ja a l p 0=0
 ·simp only [h, if_true] at hu
  obtain ⟨hg,hp,_,_⟩:=vr h
  obtain ⟨q,rfl,h2,h3,hq⟩:=rJ hp
  rw [Int.toNat_natCast] at hu
  obtain ⟨v,rfl,hv,hd⟩:=air hu
  have hc:ja a l q v=0:=by unfold ja;rw [if_pos hg,if_pos hp,if_pos ⟨by omega,by omega⟩]
  refine ⟨?_,ajp hl hc (Int.dvd_of_emod_eq_zero hd)⟩
  have:=VJ a l q v hl
  unfold Ea at this
  rw [if_pos hc,hd] at this
  exact this
 ·simp only [h, if_false] at hu
  cases hu
theorem aep (s:List Int) (a:Int) (l:List (List Int)) (p:Int) (rs:List Int) (hrs:rs.length≤1048576) (hok:∀ u ∈ rs,Ev (fun k=>rq.f k a l p u) (0,0)∧Ev (fun k=>nR.f k a l p u) (0,5)) (hT:Ev (fun k=>F3.l0 k s p rs (rs.length:Int) a l) true):∀ (d i:Nat),rs.length - i=d→i≤rs.length→Ev (fun k=>F3.l0 k s p rs i a l) true:=by
 intro d
 induction d with
 | zero =>
  intro i hd hi
  obtain rfl:i=rs.length:=by omega
  exact hT
 | succ d ih =>
  intro i hd hi
  have hm:rd rs (i:Int) ∈ rs:=by rw [we rs i (by omega)];exact List.getElem_mem _
  refine Ev.step (fun k=>by simp only [F3.l0];rfl) ?_
  simp only [show ((i:Int) < (rs.length:Int)) by omega,cx i,if_true,wI ((i:Int)+1) (by omega)]
  refine Ev.bind (hok _ hm).1 (Ev.bind (hok _ hm).2 ?_)
  simp only [if_true]
  exact ih (i+1) (by omega) (by omega)
theorem WW {q D:Int} (hq:2≤q∧q≤101) (h:q ∣ D):Int.tmod (wrap64 (Int.tmod D q+q)) q=0:=by
 rw [Int.tmod_eq_zero_of_dvd h,Int.zero_add,dF (by omega) (by omega),Int.tmod_self]
theorem aes {q:Nat} {X:Int→Int} {fl:List Int} (h:∀ g ∈ fl,0≤X g∧X g < q):∀ c:Nat,0≤((fl.take c).map X).sum∧((fl.take c).map X).sum≤c * (q:Int):=by
 induction fl with
 | nil=>intro c;rw [List.take_nil];exact ⟨Int.le_refl _,Int.mul_nonneg (Int.natCast_nonneg _) (Int.natCast_nonneg _)⟩
 | cons x t ih =>
  intro c
  cases c with
  | zero=>exact ⟨Int.le_refl _,by simp⟩
  | succ c =>
   have h1:=ih (fun g hg=>h g (List.mem_cons_of_mem _ hg)) c
   have h2:=h x (List.mem_cons_self ..)
   rw [List.take_succ_cons,List.map_cons,List.sum_cons,show ((c+1:Nat):Int) * (q:Int)=(c:Int) * q+q by rw [Int.natCast_add,Int.add_mul];simp]
   omega
theorem WV {X : Int → Int} : ∀ (fl : List Int) (c : Nat) (h : c < fl.length), ((fl.take (c + 1)).map X).sum = ((fl.take c).map X).sum + X fl[c]
 | x :: t,0,_=>by simp
 | x :: t,c+1,h=>by
  rw [List.take_succ_cons,List.map_cons,List.sum_cons,WV t c (by simpa using h),List.take_succ_cons,List.map_cons,List.sum_cons,List.getElem_cons_succ]
  omega
theorem aeo {q v n i j : Nat} {a : Int} {l : List (List Int)} {X : Nat → Nat → Int} (hn : n = 2 * l.length) (Vi : n ≤ 20) (h2 : 2 ≤ q) (h101 : q ≤ 101) (hv : v < q) (hX : Dt q n (gM v (eA l)) X) (hi : i < n) (hj : j < n) (hR : ∀ e f : Nat, e < n → f < n → Ev (fun k => jU.f k a l q v e f) (X e f, 0)) (s : List Int) (hT : Ev (fun k => F3.j4 k s) true) : ∀ (d c : Nat), (aq7 l i n).length - c = d → c ≤ (aq7 l i n).length →
  Ev (fun k=>F3.l1 k s q v i j (X i j) (aq7 l i n) (((aq7 l i n).take c).map fun g=>X g.toNat j).sum 0 c a l) true:=by
 have hlen:=HE l i n
 have hb:=aes (q:=q) (X:=fun g=>X g.toNat j) (fl:=aq7 l i n) (fun g hg=>by
  have:=Tb l i n g hg
  exact hX.1 g.toNat j (by omega) hj)
 intro d
 induction d with
 | zero =>
  intro c hd hc
  obtain rfl:c=(aq7 l i n).length:=by omega
  have hr:=aio hn hX i j hi hj
  have fc:=hb (aq7 l i n).length
  have hx:=hX.1 i j hi hj
  rw [List.take_length] at fc ⊢
  generalize ((aq7 l i n).map fun g=>X g.toNat j).sum=T at hr fc ⊢
  have TD:T≤20 * 101:=Int.le_trans fc.2 (Int.mul_le_mul (by omega) (by omega) (by omega) (by omega))
  have hvT:(v:Int) * T≤101 * (20 * 101):=Int.mul_le_mul (by omega) TD fc.1 (by omega)
  have hv0:0≤(v:Int) * T:=Int.mul_nonneg (by omega) fc.1
  refine Ev.step (fun k=>by simp only [F3.l1];rfl) ?_
  simp only [show ¬ (((aq7 l i n).length:Int) < ((aq7 l i n).length:Int)) by omega,if_false,show ¬ ((q:Int)=0) by omega]
  rw [dF (n:=(v:Int) * T) (by omega) (by omega),dF (n:=X i j - (v:Int) * T) (by omega) (by omega),dF (n:=X i j - (v:Int) * T - 1) (by omega) (by omega),dF (n:=X i j - (v:Int) * T - 0) (by omega) (by omega)]
  by_cases hij:i=j
  ·rw [if_pos hij] at hr
   simp only [show ((i:Int)=(j:Int)) by omega,if_true,WW ⟨by omega,by omega⟩ hr]
   exact hT
  ·rw [if_neg hij] at hr
   simp only [show ¬ ((i:Int)=(j:Int)) by omega,if_false,if_true,WW ⟨by omega,by omega⟩ hr]
   exact hT
 | succ d ih =>
  intro c hd hc
  have arU:c < (aq7 l i n).length:=by omega
  have hm:=Tb l i n _ (List.getElem_mem arU)
  have hg:=hX.1 ((aq7 l i n)[c]).toNat j (by omega) hj
  have fc:=hb c
  have TD:(c:Int) * (q:Int)≤20 * 101:=Int.mul_le_mul (by omega) (by omega) (by omega) (by omega)
  have e:rd (aq7 l i n) (c:Int)=(((aq7 l i n)[c]).toNat:Int):=by rw [we _ c arU];omega
  have hts:=WV (X:=fun g=>X g.toNat j) (aq7 l i n) c arU
  refine Ev.step (fun k=>by simp only [F3.l1];rfl) ?_
  simp only [show ((c:Int) < ((aq7 l i n).length:Int)) by omega,cx c,if_true,wI ((c:Int)+1) (by omega),e]
  refine Ev.bind (hR _ j (by omega) hj) ?_
  simp only [if_true]
  rw [dF (by omega) (by omega),← hts]
  exact ih (c+1) (by omega) (by omega)
theorem Ta {a:Int} {l:List (List Int)} (hg:ee a l=true) {i:Nat} (hi:i < 2 * l.length):z5 a l i=(aq7 l i (2 * l.length),0):=by
 unfold z5
 rw [if_pos hg,if_pos (by simp only [Bool.and_eq_true,decide_eq_true_eq];omega),Int.toNat_natCast]
theorem aek (s:List Int) {a:Int} {l:List (List Int)} {p u e f r c:Int} (hl:l.length≤maxLen) (h:Ev (fun k=>jU.f k a l p u e f) (r,c)) (hT:Ev (fun k=>F3.j4 k s) true):Ev (fun k=>F3.j2 k s p u e f r c false a l) true:=by
 refine Ev.step (fun k=>by simp only [F3.j2];rfl) ?_
 simp only [Bool.false_eq_true,if_false]
 by_cases hc:c=0
 ·subst hc
  obtain ⟨q,v,i,j,X,rfl,rfl,rfl,rfl,h2,h101,hv,hi,hj,hg,rfl,hX,hR⟩:=ain hl h
  have h10:=kz hg
  simp only [if_true]
  refine Ev.bind (Nh a l i hl) ?_
  rw [Ta hg hi]
  simp only [if_true]
  exact aeo rfl (by omega) h2 h101 hv hX hi hj hR s hT _ 0 rfl (Nat.zero_le _)
 ·simp only [hc, if_false]
  exact hT
theorem ael {s:List Int} (hs:arK s) (hT:Ev (fun k=>F3.j5 k s false) true):Ev (fun k=>F3.j4 k s) true:=by
 obtain ⟨a,l,ed,d⟩:=ad0 hs
 have hl:l.length≤maxLen:=Nat.le_trans d.1 (by decide)
 refine Ev.step (fun k=>by simp only [F3.j4];rfl) ?_
 refine Ev.bind ed (Ev.bind (agu a l hl) (Ev.bind (ai0 a l hl) (Ev.bind (agt a l hl) (Ev.bind (aiZ a l hl) ?_))))
 simp only [if_true]
 cases hg:ee a l with
 | false =>
  have hz:¬ (uA a l).2=0:=by unfold uA;simp [hg]
  simp only [hz,if_false]
  exact hT
 | true =>
  obtain ⟨h1,_,h3⟩:=aeb hg
  simp only [h1,if_true]
  by_cases e:(uA a l).1=(wQ a l).1
  ·simp only [e,if_true];exact hT
  ·simp only [e, if_false]
   rcases h3 with h3|h3
   ·exact absurd h3 e
   ·simp only [h3,bne_self_eq_false];exact hT
theorem aea (l:List (List Int)) (e f:Nat):0≤eA l e f∧eA l e f≤1:=by unfold eA;split<;>omega
theorem aen (s:List Int) {a:Int} {l:List (List Int)} (hl:l.length≤maxLen) (hT:Ev (fun k=>F3.l2 k s (mK a l).1 ((mK a l).1.length:Int) a l) true):∀ (d i:Nat),(mK a l).1.length - i=d→i≤(mK a l).1.length→Ev (fun k=>F3.l2 k s (mK a l).1 i a l) true:=by
 intro d
 induction d with
 | zero =>
  intro i hd hi
  obtain rfl:i=(mK a l).1.length:=by omega
  exact hT
 | succ d ih =>
  intro i hd hi
  have hil:i < (mK a l).1.length:=by omega
  have hg:ee a l=true:=by
   cases h:ee a l with
   | true=>rfl
   | false=>unfold mK at hil;rw [h] at hil;simp at hil
  have h10:=kz hg
  have er:(mK a l).1=cL (2 * l.length) (eA l):=by unfold mK;rw [if_pos hg,D_]
  have hi2:i < 2 * l.length:=by rw [er,kC] at hil;exact hil
  refine Ev.step (fun k=>by simp only [F3.l2];rfl) ?_
  simp only [show ((i:Int) < ((mK a l).1.length:Int)) by omega,cx i,if_true,wI ((i:Int)+1) (by omega)]
  refine Ev.bind (Nh a l i hl) ?_
  rw [Ta hg hi2]
  simp only [if_true]
  rw [show ah (mK a l).1 (i:Int)=b_ (2 * l.length) (eA l i) by rw [er,sB hi2]]
  refine Ev.bind (ai9 (by omega) (fun v _=>aea l i v)) ?_
  have e:ax (2 * l.length) (eA l i)=((aq7 l i (2 * l.length)).length:Int):=aet l i (2 * l.length)
  simp only [e,if_true]
  exact ih (i+1) (by omega) (by omega)
theorem aej {s:List Int} (hs:arK s) (x:List (List Int)) (a:Int) (l:List (List Int)):Ev (fun k=>F3.l2 k s x (x.length:Int) a l) true:=by
 obtain ⟨a1,l1,p1,u1,e1,d1⟩:=ad2 hs
 obtain ⟨a2,l2,p2,u2,e2,d2⟩:=atK hs
 obtain ⟨a3,l3,x3,e3,d3⟩:=ad3 hs
 have yo:l1.length≤maxLen:=Nat.le_trans d1.1 (by decide)
 have Aj:l2.length≤maxLen:=Nat.le_trans d2.1 (by decide)
 have Vg:l3.length≤maxLen:=Nat.le_trans d3.1 (by decide)
 obtain ⟨tr,tc,ts,ti⟩:=ajm a2 l2 p2 u2 Aj
 refine Ev.step (fun k=>by simp only [F3.l2];rfl) ?_
 simp only [show ¬ ((x.length:Int) < (x.length:Int)) by omega,if_false]
 refine Ev.bind e1 (Ev.bind (VJ a1 l1 p1 u1 yo) (Ev.bind (ai2 a1 l1 p1 u1 yo) (Ev.bind e2 (Ev.bind ti (Ev.bind ts (Ev.bind e3 (Ev.bind (Nh a3 l3 x3 Vg) (Ev.bind (ai3 a3 l3 x3 Vg) ?_))))))))
 simp only [if_true]
 refine Ev.bind (NG _ ?_) (Ev.now _)
 unfold z5
 cases h:ee a3 l3 with
 | false=>simp
 | true =>
  have h1:=kz h
  cases hb:(decide (0≤x3) && decide (x3≤2 * (l3.length:Int) - 1)) with
  | false=>simp
  | true =>
   simp only [if_true]
   have:=HE l3 x3.toNat (2 * l3.length)
   omega
theorem aem {s:List Int} (hs:arK s):Ev (fun k=>F3.j5 k s false) true:=by
 obtain ⟨a,l,ed,d⟩:=ad1 hs
 have hl:l.length≤maxLen:=Nat.le_trans d.1 (by decide)
 refine Ev.step (fun k=>by simp only [F3.j5];rfl) ?_
 simp only [Bool.false_eq_true,if_false]
 refine Ev.bind ed (Ev.bind (agw a l hl) (Ev.bind (ai1 a l hl) ?_))
 simp only [if_true]
 have Vr:(mK a l).1.length≤1048576∧∀ y ∈ (mK a l).1,y.length≤1048576:=by
  unfold mK
  cases h:ee a l with
  | false=>simp
  | true=>exact aec l (kz h)
 refine Ev.bind (ais _ Vr.1 Vr.2) ?_
 refine Ev.step (fun k=>by simp only [F3.j6];rfl) ?_
 simp only [Bool.not_true,Bool.false_eq_true,if_false]
 exact aen s hl (aej hs _ a l) _ 0 rfl (Nat.zero_le _)
end Go.Proofs.Ytapnggjaeehpdaa.A
namespace Go.Proofs.Ytapnggjaeehpdaa.Pure
open Go.RowKit Go.Proofs.bB.dI Go.Proofs.bB.ark Go.Proofs.bB.jd Go.Proofs.Ytapnggjaeehpdaa.A
theorem YO:F3.Pure:=by
 intro s hm _ hb
 have hs:=ab8 hm hb
 refine Ev.rounds (r:=true) ?_
 unfold F3.f F5.f
 simp only [Option.bind_some]
 by_cases TE:(s.length:Int) > 4096
 ·simp only [TE,decide_true,if_true];exact Ev.now _
 ·simp only [TE, decide_false, Bool.false_eq_true, if_false]
  obtain ⟨a,l,p,ed,d⟩:=ad9 hs
  have hl:l.length≤maxLen:=Nat.le_trans d.1 (by decide)
  have hlen:(wh a l p).1.length≤1048576:=by
   unfold wh
   by_cases h:ja a l p 0=0
   ·obtain ⟨_, hp, _, _⟩ := vr h
    obtain ⟨q,rfl,h2,h3,hq⟩:=rJ hp
    simp only [h,if_true,Int.toNat_natCast]
    have:=Oj l q q
    omega
   ·simp only [h, if_false]
    simp
  refine Ev.bind ed (Ev.bind (agz a l p hl) (Ev.bind (ai5 a l p hl) ?_))
  simp only [if_true]
  refine Ev.bind (NG _ hlen) ?_
  refine Ev.step (fun k=>by simp only [F3.j0];rfl) ?_
  simp only [Bool.not_true,Bool.false_eq_true,if_false]
  refine aep s a l p _ hlen (aef hl) ?_ _ 0 rfl (Nat.zero_le _)
  obtain ⟨a1,l1,p1,u1,e1,f1,ed1,d1⟩:=ad8 hs
  have yo:l1.length≤maxLen:=Nat.le_trans d1.1 (by decide)
  obtain ⟨r1,c1,es,ei⟩:=aip a1 l1 p1 u1 e1 f1 yo
  refine Ev.step (fun k=>by simp only [F3.l0];rfl) ?_
  simp only [show ¬ (((wh a l p).1.length:Int) < ((wh a l p).1.length:Int)) by omega,if_false]
  refine Ev.bind ed1 (Ev.bind ei (Ev.bind es ?_))
  simp only [if_true,bne_self_eq_false]
  exact aek s yo ei (ael hs (aem hs))
end Go.Proofs.Ytapnggjaeehpdaa.Pure
/- Set with little white space, by a program. -/
