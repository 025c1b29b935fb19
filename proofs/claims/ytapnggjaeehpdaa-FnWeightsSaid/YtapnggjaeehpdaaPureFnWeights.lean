/- Plain lemmas on the Lean functions that FnWeights reaches, and its pure statement. No condition. -/
import Derived.Test.YtapnggjaeehpdaaBLib
namespace Go.Proofs.Ytapnggjaeehpdaa.B
open Go.RowKit Go.Proofs.bz.dI Go.Proofs.bz.iY Go.Proofs.bz.jn
set_option linter.unusedVariables false
set_option linter.unusedSimpArgs false
theorem HI.swap {p:Int} {n:Nat} {A:Nat→Nat→Int} {m:Nat} {H:Nat→Nat→Int} (h:HI p n A m H) (hm:1≤m) (i:Nat) (ng:m≤i) (hi:i < n):HI p n A m (fun a b=>H (fq i m a) (fq i m b)):=by
 have hlt:∀ r,r < n→fq i m r < n:=fun r hr=>by unfold fq;(repeat' split)<;>omega
 refine ⟨fun a b ha hb=>h.xb _ _ (hlt a ha) (hlt b hb),fun u=>?_,fun a b ha h1 h2=>?_⟩
 ·rw [On (fun u=>aiQ H i m hi (by omega) u) u];exact h.E8 u
 ·show H (fq i m a) (fq i m b) = 0
  rw [show fq i m b=b by unfold fq;rw [if_neg (by omega),if_neg (by omega)]]
  refine h.By _ b (hlt a ha) ?_ h2
  unfold fq;(repeat' split)<;>omega
/-- The row op and the column op, with rests. -/
def aug (p:Int) (H:Nat→Nat→Int) (i m:Nat) (t:Int):Nat→Nat→Int:=fun a b=>if a=i then (H a b - t * H m b) % p else H a b
def ya (p:Int) (H:Nat→Nat→Int) (i m:Nat) (t:Int):Nat→Nat→Int:=fun a b=>if b=m then (H a b+t * H a i) % p else H a b
structure HJ (p:Int) (n:Nat) (A:Nat→Nat→Int) (m i:Nat) (v:Int) (H:Nat→Nat→Int):Prop where
 hi:HI p n A m H
 dn:∀ a,m < a→a < i→a < n→H a (m - 1)=0
 iv:(H m (m - 1) * v) % p=1
theorem HJ.skip {p:Int} {n:Nat} {A:Nat→Nat→Int} {m i:Nat} {v:Int} {H:Nat→Nat→Int} (hp:1 < p) (h:HJ p n A m i v H) (hm:1≤m) (ng:m < i) (hi:i < n) (h0:(H i (m - 1) * v) % p=0):HJ p n A m (i+1) v H :=
 ⟨h.hi,fun a h1 h2 h3=>by
  by_cases e:a < i
  ·exact h.dn a h1 e h3
  ·obtain rfl : a = i := by omega
   have hr:=h.hi.xb a (m - 1) hi (by omega)
   have h4:p ∣ H a (m - 1) * v:=Int.dvd_of_emod_eq_zero h0
   have h5:p ∣ H m (m - 1) * v - 1:=by
    have:=U2 p (H m (m - 1) * v);rwa [h.iv] at this
   have h6:=Int.dvd_sub (Int.dvd_trans h4 (show H a (m - 1) * v ∣ H a (m - 1) * v * H m (m - 1) from ⟨_,rfl⟩)) (Oo (H a (m - 1)) (show p ∣ H m (m - 1) * v - 1 from h5))
   rw [Int.mul_one,show H a (m - 1) * v * H m (m - 1) - (H a (m - 1) * (H m (m - 1) * v) - H a (m - 1))=H a (m - 1) by rw [Int.mul_assoc,Int.mul_comm v];omega] at h6
   exact afv (p:=p) (by rw [Int.sub_zero];exact h6) hr ⟨Int.le_refl _,by omega⟩,h.iv⟩
theorem HJ.step {p : Int} {n : Nat} {A : Nat → Nat → Int} {m i : Nat} {v : Int} {H : Nat → Nat → Int} (hp : 1 < p) (h : HJ p n A m i v H) (hm : 1 ≤ m) (ng : m < i) (hi : i < n) :
  HJ p n A m (i+1) v (ya p (aug p H i m ((H i (m - 1) * v) % p)) i m ((H i (m - 1) * v) % p)):=by
 have ht:∀ t,t=(H i (m - 1) * v) % p→HJ p n A m (i+1) v (ya p (aug p H i m t) i m t):=by
  intro t et
  have hem:=fun x:Int=>And.intro (Int.emod_nonneg x (show p ≠ 0 by omega)) (Int.emod_lt_of_pos x (show 0 < p by omega))
  have z1:∀ b,b ≠ m→ya p (aug p H i m t) i m t i b=(H i b - t * H m b) % p:=fun b hb=>by unfold ya aug;rw [if_neg hb,if_pos rfl]
  have z2:∀ a b,a ≠ i→b ≠ m→ya p (aug p H i m t) i m t a b=H a b:=fun a b ha hb=>by unfold ya aug;rw [if_neg hb,if_neg ha]
  refine ⟨⟨fun a b ha hb=>?_,fun u=>?_,fun a b ha h1 h2=>?_⟩,fun a h1 h2 h3=>?_,?_⟩
  ·unfold ya
   split
   ·exact hem _
   ·unfold aug
    split
    ·exact hem _
    ·exact h.hi.xb a b ha hb
  ·refine Gn (UX (G := fun a b => (if a = i then H a b - t * H m b else H a b) + (if b = m then t * (if a = i then H a i - t * H m i else H a i) else 0)) (fun a b ha hb => ?_) u) (by rw [On (fun u => aiP H i m hi (by omega) (by omega) t u) u]; exact h.hi.E8 u)
   have g:∀ b,p ∣ aug p H i m t a b - (if a=i then H a b - t * H m b else H a b):=fun b=>by
    unfold aug
    by_cases e:a=i
    ·rw [if_pos e,if_pos e];exact r8 p _
    ·rw [if_neg e,if_neg e];exact ⟨0,by omega⟩
   unfold ya
   by_cases e:b=m
   ·subst e
    rw [if_pos rfl,if_pos rfl]
    have g1:=Int.dvd_add (g b) (Oo t (g i))
    refine Gn (r8 p _) ?_
    rw [show aug p H i b t a b+t * aug p H i b t a i - ((if a=i then H a b - t * H b b else H a b)+t * (if a=i then H a i - t * H b i else H a i))=aug p H i b t a b - (if a=i then H a b - t * H b b else H a b)+(t * aug p H i b t a i - t * (if a=i then H a i - t * H b i else H a i)) by omega]
    exact g1
   ·rw [if_neg e,if_neg e,Int.add_zero];exact g b
  ·by_cases e : a = i
   ·subst e
    rw [z1 b (by omega),h.hi.By a b ha h1 h2,h.hi.By m b (by omega) (by omega) h2]
    simp
   ·rw [z2 a b e (by omega)];exact h.hi.By a b ha h1 h2
  ·by_cases e : a = i
   ·subst e
    rw [z1 (m - 1) (by omega)]
    refine Int.emod_eq_zero_of_dvd ?_
    have h5:p ∣ H m (m - 1) * v - 1:=by
     have:=U2 p (H m (m - 1) * v);rwa [h.iv] at this
    have h6:p ∣ t - H a (m - 1) * v:=by rw [et];exact r8 p _
    have h7:=Int.dvd_add (sC h6 (show p ∣ H m (m - 1) - H m (m - 1) from ⟨0,by omega⟩)) (Oo (H a (m - 1)) h5)
    rw [Int.mul_one,show t * H m (m - 1) - H a (m - 1) * v * H m (m - 1)+(H a (m - 1) * (H m (m - 1) * v) - H a (m - 1))=-(H a (m - 1) - t * H m (m - 1)) by rw [Int.mul_assoc (H a (m - 1)) v,Int.mul_comm v];omega] at h7
    exact Int.dvd_neg.1 h7
   ·rw [z2 a (m - 1) e (by omega)];exact h.dn a h1 (by omega) h3
  ·rw [z2 m (m - 1) (by omega) (by omega)];exact h.iv
 exact ht _ rfl
theorem HJ.done {p:Int} {n:Nat} {A:Nat→Nat→Int} {m:Nat} {v:Int} {H:Nat→Nat→Int} (h:HJ p n A m n v H) (hm:1≤m):HI p n A (m+1) H :=
 ⟨h.hi.xb,h.hi.E8,fun a b ha h1 h2=>by
  by_cases e:b+1 < m
  ·exact h.hi.By a b ha h1 e
  ·obtain rfl : b = m - 1 := by omega
   exact h.dn a (by omega) ha ha⟩
def HF (p:Int) (n:Nat) (A G:Nat→Nat→Int):Prop:=(∀ i j,i < n→j < n→0≤G i j∧G i j < p)∧(∀ u,p ∣ aM n G u - aM n A u)∧(∀ a b,a < n→b+1 < a→G a b=0)
theorem Ik {p x y z:Int} (cz:p≤10007) (hx:0≤x∧x < p) (hy:0≤y∧y < p) (hz:0≤z∧z < p):wrap64 (x - wrap64 (y * z))=x - y * z∧wrap64 (x+wrap64 (y * z))=x+y * z∧0≤x+y * z∧wrap64 (y * z)=y * z∧0≤y * z:=by
 have h5:y * z≤10007 * 10007:=Int.mul_le_mul (by omega) (by omega) (by omega) (by omega)
 have h6:0≤y * z:=Int.mul_nonneg hy.1 hz.1
 rw [fE (n:=y * z) (by omega) (by omega)]
 exact ⟨fE (by omega) (by omega),fE (by omega) (by omega),by omega,rfl,h6⟩
def zv (p:Int) (H:Nat→Nat→Int) (i m:Nat) (t:Int) (j:Nat):Nat→Nat→Int:=fun a b=>if a=i∧b < j then (H a b - t * H m b) % p else H a b
def au8 (p:Int) (G:Nat→Nat→Int) (i m:Nat) (t:Int) (r:Nat):Nat→Nat→Int:=fun a b=>if b=m∧a < r then (G a b+t * G a i) % p else G a b
theorem aj0 (p : Int) (hp : 0 < p) (cz : p ≤ 10007) (n : Nat) (hn : n ≤ 1048575) (G : Nat → Nat → Int) (hG : ∀ i j, i < n → j < n → 0 ≤ G i j ∧ G i j < p) (i m : Nat) (hi : i < n) (hm : m < n) (uF : i ≠ m) (t v : Int) (ht : 0 ≤ t ∧ t < p) (R : List (List Int))
  (next:Ev (fun k=>ata.l5 k p (as7 n (ya p G i m t)) n m v ((i:Int)+1)) R) :
  ∀ (d r:Nat),n - r=d→r≤n→Ev (fun k=>ata.l7 k p (as7 n (au8 p G i m t r)) n m v i t n r) R:=by
 intro d
 induction d with
 | zero =>
  intro r hd hr
  obtain rfl:r=n:=by omega
  refine Ev.step (fun q=>by simp only [ata.l7];rfl) ?_
  simp only [Int.lt_irrefl,if_false,wI ((i:Int)+1) (by omega)]
  refine Ev.congr (fun q=>?_) next
  congr 1
  refine kM fun a b ha hb=>?_
  unfold ya au8
  by_cases e:b=m
  ·rw [if_pos e,if_pos ⟨e,ha⟩]
  ·rw [if_neg e,if_neg (fun h=>e h.1)]
 | succ d ih =>
  intro r hd hr
  have pI:r < n:=by omega
  refine Ev.step (fun q=>by simp only [ata.l7];rfl) ?_
  have e1:au8 p G i m t r r m=G r m:=by unfold au8;rw [if_neg (by omega)]
  have e2:au8 p G i m t r r i=G r i:=by unfold au8;rw [if_neg (by omega)]
  have hs:=Ik cz (hG r m pI hm) ht (hG r i pI hi)
  simp only [lI r n (by omega),cv r,eM,cv m,lI m n (by omega),cv i,lI i n (by omega),if_true,iH pI,ato,gz hm,gz hi,e1,e2,show ¬ (p=0) by omega,if_false,hs.2.1,oR hs.2.2.1,Int.toNat_natCast,yo,Fb,wI ((r:Int)+1) (by omega)]
  have h:=ih (r+1) (by omega) (by omega)
  rw [show ((r+1:Nat):Int)=(r:Int)+1 by omega] at h
  refine Ev.congr (fun q=>?_) h
  congr 1
  refine kM fun a b ha hb=>?_
  unfold au8
  by_cases g1:a=r
  ·subst g1
   rw [if_pos rfl]
   by_cases g2:b=m
   ·subst g2;rw [if_pos rfl,if_pos ⟨rfl,by omega⟩]
   ·rw [if_neg g2,if_neg (fun h=>g2 h.1),if_neg (fun h=>g2 h.1)]
  ·rw [if_neg g1]
   by_cases g2:b=m∧a < r
   ·rw [if_pos g2,if_pos ⟨g2.1,by omega⟩]
   ·rw [if_neg g2,if_neg (by omega)]
theorem ajZ (p : Int) (hp : 0 < p) (cz : p ≤ 10007) (n : Nat) (hn : n ≤ 1048575) (H : Nat → Nat → Int) (hH : ∀ i j, i < n → j < n → 0 ≤ H i j ∧ H i j < p) (i m : Nat) (hi : i < n) (hm : m < n) (uF : i ≠ m) (t v : Int) (ht : 0 ≤ t ∧ t < p) (R : List (List Int))
  (next:Ev (fun k=>ata.l7 k p (as7 n (aug p H i m t)) n m v i t n 0) R) :
  ∀ (d j:Nat),n - j=d→j≤n→Ev (fun k=>ata.l6 k p (as7 n (zv p H i m t j)) n m v i t n j) R:=by
 intro d
 induction d with
 | zero =>
  intro j hd hj
  obtain rfl:j=n:=by omega
  refine Ev.step (fun q=>by simp only [ata.l6];rfl) ?_
  simp only [Int.lt_irrefl,if_false]
  refine Ev.congr (fun q=>?_) next
  congr 1
  refine kM fun a b ha hb=>?_
  unfold aug zv
  by_cases e:a=i
  ·rw [if_pos e,if_pos ⟨e,hb⟩]
  ·rw [if_neg e,if_neg (fun h=>e h.1)]
 | succ d ih =>
  intro j hd hj
  have hjn:j < n:=by omega
  refine Ev.step (fun q=>by simp only [ata.l6];rfl) ?_
  have e1:zv p H i m t j i j=H i j:=by unfold zv;rw [if_neg (by omega)]
  have e2:zv p H i m t j m j=H m j:=by unfold zv;rw [if_neg (by omega)]
  have hs:=Ik cz (hH i j hi hjn) ht (hH m j hm hjn)
  simp only [lI j n (by omega),cv j,eM,cv m,lI m n (by omega),cv i,lI i n (by omega),if_true,iH hi,iH hm,ato,gz hjn,e1,e2,hs.1,K1 hp (show p≤1000000 by omega),Option.bind_some,Int.toNat_natCast,yo,Fb,wI ((j:Int)+1) (by omega)]
  have h:=ih (j+1) (by omega) (by omega)
  rw [show ((j+1:Nat):Int)=(j:Int)+1 by omega] at h
  refine Ev.congr (fun q=>?_) h
  congr 1
  refine kM fun a b ha hb=>?_
  unfold zv
  by_cases g1:a=i
  ·subst g1
   rw [if_pos rfl]
   by_cases g2:b=j
   ·subst g2;rw [if_pos rfl,if_pos ⟨rfl,by omega⟩]
   ·rw [if_neg g2]
    by_cases g3:b < j
    ·rw [if_pos ⟨rfl,g3⟩,if_pos ⟨rfl,by omega⟩]
    ·rw [if_neg (by omega),if_neg (by omega)]
  ·rw [if_neg g1,if_neg (fun h=>g1 h.1),if_neg (fun h=>g1 h.1)]
theorem ajY (p : Int) (hp : 1 < p) (cz : p ≤ 10007) (n : Nat) (hn : n ≤ 1048575) (A : Nat → Nat → Int) (m : Nat) (pH : 1 ≤ m) (hm : m < n) (v : Int) (hv : 0 ≤ v ∧ v < p)
  (next:∀ H:Nat→Nat→Int,HI p n A (m+1) H→∃ G,HF p n A G∧Ev (fun k=>ata.l2 k p (as7 n H) n ((m:Int)+1)) (as7 n G)) :
  ∀ (d i:Nat),n - i=d→i≤n→m < i→∀ H:Nat→Nat→Int,HJ p n A m i v H→∃ G,HF p n A G∧Ev (fun k=>ata.l5 k p (as7 n H) n m v i) (as7 n G):=by
 intro d
 induction d with
 | zero =>
  intro i hd hi ng H h
  obtain rfl:i=n:=by omega
  obtain ⟨G,g1,g2⟩:=next H (HJ.done h pH)
  refine ⟨G,g1,Ev.step (fun q=>by simp only [ata.l5];rfl) ?_⟩
  simp only [Int.lt_irrefl,if_false,wI ((m:Int)+1) (by omega)]
  exact g2
 | succ d ih =>
  intro i hd hi ng H h
  have hin:i < n:=by omega
  have hs:=Ik cz hv (h.hi.xb i (m - 1) hin (by omega)) hv
  have em:(m:Int) - 1=((m - 1:Nat):Int):=by omega
  by_cases h0:(H i (m - 1) * v) % p=0
  ·obtain ⟨G, g1, g2⟩ := ih (i + 1) (by omega) (by omega) (by omega) H (HJ.skip hp h pH ng hin h0)
   rw [show ((i+1:Nat):Int)=(i:Int)+1 by omega] at g2
   refine ⟨G,g1,Ev.step (fun q=>by simp only [ata.l5];rfl) ?_⟩
   simp only [em,fE (show -9223372036854775808≤((m - 1:Nat):Int) by omega) (by omega),lI i n (by omega),cv i,eM,show (0:Int)≤((m - 1:Nat):Int) by omega,show (((m - 1:Nat):Int) < (n:Int)) by omega,if_true,iH hin,ato,gz (show m - 1 < n by omega),hs.2.2.2.1,oR hs.2.2.2.2,h0,show ¬ (p=0) by omega,if_false,wI ((i:Int)+1) (by omega)]
   exact g2
  ·have ht := And.intro (Int.emod_nonneg (H i (m - 1) * v) (show p ≠ 0 by omega)) (Int.emod_lt_of_pos (H i (m - 1) * v) (show 0 < p by omega))
   obtain ⟨G,g1,g2⟩:=ih (i+1) (by omega) (by omega) (by omega) _ (HJ.step hp h pH ng hin)
   rw [show ((i+1:Nat):Int)=(i:Int)+1 by omega] at g2
   have ahi:∀ a b,a < n→b < n→0≤aug p H i m ((H i (m - 1) * v) % p) a b∧aug p H i m ((H i (m - 1) * v) % p) a b < p:=fun a b ha hb=>by
    unfold aug
    split
    ·exact ⟨Int.emod_nonneg _ (by omega),Int.emod_lt_of_pos _ (by omega)⟩
    ·exact h.hi.xb a b ha hb
   have g7:=aj0 p (by omega) cz n hn _ ahi i m hin hm (by omega) _ v ht _ g2 n 0 (by omega) (by omega)
   have e7:as7 n (au8 p (aug p H i m ((H i (m - 1) * v) % p)) i m ((H i (m - 1) * v) % p) 0)=as7 n (aug p H i m ((H i (m - 1) * v) % p)):=kM fun a b _ _=>by unfold au8;rw [if_neg (by omega)]
   rw [e7] at g7
   have g6:=ajZ p (by omega) cz n hn H h.hi.xb i m hin hm (by omega) _ v ht _ g7 n 0 (by omega) (by omega)
   have e6:as7 n (zv p H i m ((H i (m - 1) * v) % p) 0)=as7 n H:=kM fun a b _ _=>by unfold zv;rw [if_neg (by omega)]
   rw [e6] at g6
   refine ⟨G,g1,Ev.step (fun q=>by simp only [ata.l5];rfl) ?_⟩
   simp only [em,fE (show -9223372036854775808≤((m - 1:Nat):Int) by omega) (by omega),lI i n (by omega),cv i,eM,show (0:Int)≤((m - 1:Nat):Int) by omega,show (((m - 1:Nat):Int) < (n:Int)) by omega,if_true,iH hin,ato,gz (show m - 1 < n by omega),hs.2.2.2.1,oR hs.2.2.2.2,h0,show ¬ (p=0) by omega,if_false]
   exact g6
def Es (H:Nat→Nat→Int) (i m r:Nat):Nat→Nat→Int:=fun a b=>if a < r then H a (fq i m b) else H a b
theorem ajX (p : Nat) (hp : ni p = true) (uK : 2 ≤ p) (cz : p ≤ 10007) (n : Nat) (hn : n ≤ 1048575) (A : Nat → Nat → Int) (m : Nat) (pH : 1 ≤ m) (hm : m < n) (i : Nat) (hi : i < n) (H : Nat → Nat → Int)
  (next:∀ H:Nat→Nat→Int,HI p n A (m+1) H→∃ G,HF p n A G∧Ev (fun k=>ata.l2 k p (as7 n H) n ((m:Int)+1)) (as7 n G))
  (h:HI p n A m (fun a b=>H a (fq i m b))) (h0:H m (fq i m (m - 1)) ≠ 0) :
  ∀ (d r:Nat),n - r=d→r≤n→∃ G,HF p n A G∧Ev (fun k=>ata.l4 k p (as7 n (Es H i m r)) n m i n r) (as7 n G):=by
 have bX:=h.xb m (m - 1) hm (by omega)
 obtain ⟨v,v1,v2,v3⟩:=ahX hp uK (by omega) (H m (fq i m (m - 1))) ⟨by omega,bX.2⟩
 obtain ⟨G,g1,g2⟩:=ajY p (by omega) (by omega) n hn A m pH hm v v2 next (n - (m+1)) (m+1) rfl (by omega) (by omega) _ ⟨h,fun a a1 a2 _=>by omega,v3⟩
 rw [show ((m+1:Nat):Int)=(m:Int)+1 by omega] at g2
 intro d
 induction d with
 | zero =>
  intro r hd hr
  obtain rfl:r=n:=by omega
  refine ⟨G,g1,Ev.step (fun q=>by simp only [ata.l4];rfl) ?_⟩
  have e:as7 r (Es H i m r)=as7 r (fun a b=>H a (fq i m b)):=kM fun a b ha _=>by unfold Es;rw [if_pos ha]
  have em:(m:Int) - 1=((m - 1:Nat):Int):=by omega
  simp only [e,em,fE (show -9223372036854775808≤((m - 1:Nat):Int) by omega) (by omega),Int.lt_irrefl,if_false,cv m,eM,lI m r (by omega),show (0:Int)≤((m - 1:Nat):Int) by omega,show (((m - 1:Nat):Int) < (r:Int)) by omega,if_true,iH hm,ato,gz (show m - 1 < r by omega),wI ((m:Int)+1) (by omega)]
  exact Ev.bind v1 g2
 | succ d ih =>
  intro r hd hr
  have pI:r < n:=by omega
  obtain ⟨G',g1',VE⟩:=ih (r+1) (by omega) (by omega)
  rw [show ((r+1:Nat):Int)=(r:Int)+1 by omega] at VE
  refine ⟨G',g1',Ev.step (fun q=>by simp only [ata.l4];rfl) ?_⟩
  simp only [lI r n (by omega),cv r,eM,cv m,lI m n (by omega),cv i,lI i n (by omega),if_true,iH pI,ato,gz hm,gz hi,Option.bind_some,Int.toNat_natCast,List.set_set,yo,Fb,wI ((r:Int)+1) (by omega)]
  refine Ev.congr (fun q=>?_) VE
  congr 1
  refine kM fun a b ha hb=>?_
  unfold Es
  by_cases g3:a=r
  ·subst g3
   simp only [if_true,Nat.lt_irrefl,if_false,show a < a+1 by omega]
   unfold fq
   by_cases g4:b=m
   ·subst g4
    rw [if_pos rfl]
    by_cases g5:b=i
    ·subst g5;simp
    ·rw [if_neg g5,if_pos rfl]
   ·rw [if_neg g4]
    by_cases g5:b=i
    ·rw [if_pos g5,if_pos g5]
    ·rw [if_neg g5,if_neg g5,if_neg g4]
  ·rw [if_neg g3]
   by_cases g4:a < r
   ·rw [if_pos g4,if_pos (by omega)]
   ·rw [if_neg g4,if_neg (by omega)]
theorem Y8 (p : Nat) (hp : ni p = true) (uK : 2 ≤ p) (cz : p ≤ 10007) (n : Nat) (hn : n ≤ 1048575) (A : Nat → Nat → Int) (m : Nat) (pH : 1 ≤ m) (hm : m < n) (H : Nat → Nat → Int)
  (next:∀ H:Nat→Nat→Int,HI p n A (m+1) H→∃ G,HF p n A G∧Ev (fun k=>ata.l2 k p (as7 n H) n ((m:Int)+1)) (as7 n G))
  (h:HI p n A m H) (i:Nat) (ng:m≤i) (hin:i≤n) (h0:∀ a,m≤a→a < i→H a (m - 1)=0) (h1:i < n→H i (m - 1) ≠ 0):∃ G,HF p n A G∧Ev (fun k=>ata.j4 k p (as7 n H) n m i) (as7 n G):=by
 by_cases e:i=n
 ·obtain ⟨G, g1, g2⟩ := next H (HI.skip h pH (fun a a1 a2 => h0 a a1 (by omega)))
  refine ⟨G,g1,Ev.step (fun q=>by simp only [ata.j4];rfl) ?_⟩
  simp only [show ((i:Int)=(n:Int)) by omega,if_true,wI ((m:Int)+1) (by omega)]
  exact g2
 ·have hi : i < n := by omega
  have hsw:=HI.swap h pH i ng hi
  have es:fq i m (m - 1)=m - 1:=by unfold fq;rw [if_neg (by omega),if_neg (by omega)]
  obtain ⟨G,g1,g2⟩:=ajX p hp uK cz n hn A m pH hm i hi (fun a=>H (fq i m a)) next hsw (by
   show H (fq i m m) (fq i m (m - 1)) ≠ 0
   rw [es,show fq i m m=i by unfold fq;split<;>simp_all]
   exact h1 hi) n 0 (by omega) (by omega)
  refine ⟨G,g1,Ev.step (fun q=>by simp only [ata.j4];rfl) ?_⟩
  simp only [show ¬ ((i:Int)=(n:Int)) by omega,if_false,cv m,eM,lI m n (by omega),cv i,lI i n (by omega),if_true]
  rw [show swp (as7 n H) i m=as7 n (Es (fun a=>H (fq i m a)) i m 0) by
   rw [← ZE,akv n n H i m hi hm,← ZE]
   exact ZC fun a b _ _=>by unfold Es;rw [if_neg (by omega)]]
  exact g2
theorem ajW (p : Nat) (hp : ni p = true) (uK : 2 ≤ p) (cz : p ≤ 10007) (n : Nat) (hn : n ≤ 1048575) (A : Nat → Nat → Int) (m : Nat) (pH : 1 ≤ m) (hm : m < n) (H : Nat → Nat → Int)
  (next:∀ H:Nat→Nat→Int,HI p n A (m+1) H→∃ G,HF p n A G∧Ev (fun k=>ata.l2 k p (as7 n H) n ((m:Int)+1)) (as7 n G))
  (h:HI p n A m H):∀ (d i:Nat),n - i=d→m≤i→i≤n→(∀ a,m≤a→a < i→H a (m - 1)=0)→∃ G,HF p n A G∧Ev (fun k=>ata.l3 k p (as7 n H) n m i) (as7 n G):=by
 intro d
 induction d with
 | zero =>
  intro i hd ng hi h0
  obtain rfl:i=n:=by omega
  obtain ⟨G,g1,g2⟩:=Y8 p hp uK cz i hn A m pH hm H next h i ng hi h0 (fun e=>absurd e (Nat.lt_irrefl _))
  refine ⟨G,g1,Ev.step (fun q=>by simp only [ata.l3];rfl) ?_⟩
  simp only [Int.lt_irrefl,if_false]
  exact g2
 | succ d ih =>
  intro i hd ng hi h0
  have hin:i < n:=by omega
  have em:(m:Int) - 1=((m - 1:Nat):Int):=by omega
  by_cases e:H i (m - 1)=0
  ·obtain ⟨G,g1,g2⟩:=ih (i+1) (by omega) (by omega) (by omega) (fun a a1 a2=>by
    by_cases e2:a=i
    ·rw [e2];exact e
    ·exact h0 a a1 (by omega))
   rw [show ((i+1:Nat):Int)=(i:Int)+1 by omega] at g2
   refine ⟨G,g1,Ev.step (fun q=>by simp only [ata.l3];rfl) ?_⟩
   simp only [em,fE (show -9223372036854775808≤((m - 1:Nat):Int) by omega) (by omega),lI i n (by omega),cv i,eM,show (0:Int)≤((m - 1:Nat):Int) by omega,show (((m - 1:Nat):Int) < (n:Int)) by omega,if_true,iH hin,ato,gz (show m - 1 < n by omega),e,wI ((i:Int)+1) (by omega)]
   exact g2
  ·obtain ⟨G, g1, g2⟩ := Y8 p hp uK cz n hn A m pH hm H next h i ng hi h0 (fun _ => e)
   refine ⟨G,g1,Ev.step (fun q=>by simp only [ata.l3];rfl) ?_⟩
   simp only [em,fE (show -9223372036854775808≤((m - 1:Nat):Int) by omega) (by omega),lI i n (by omega),cv i,eM,show (0:Int)≤((m - 1:Nat):Int) by omega,show (((m - 1:Nat):Int) < (n:Int)) by omega,if_true,iH hin,ato,gz (show m - 1 < n by omega),e,if_false]
   exact g2
theorem ajV (p:Nat) (hp:ni p=true) (uK:2≤p) (cz:p≤10007) (n:Nat) (hn:n≤1048575) (A:Nat→Nat→Int):∀ (d m:Nat),n - m=d→1≤m→∀ H:Nat→Nat→Int,HI p n A m H→∃ G,HF p n A G∧Ev (fun k=>ata.l2 k p (as7 n H) n m) (as7 n G):=by
 have fin:∀ (m:Nat) (H:Nat→Nat→Int),1≤m→¬ (m+1 < n)→m≤1048576→HI p n A m H→∃ G,HF p n A G∧Ev (fun k=>ata.l2 k p (as7 n H) n m) (as7 n G):=by
  intro m H hm h1 h2 h
  refine ⟨H,⟨h.xb,h.E8,fun a b ha hb=>h.By a b ha hb (by omega)⟩,Ev.step (fun q=>by simp only [ata.l2];rfl) ?_⟩
  simp only [wI ((n:Int) - 1) (by omega),show ¬ ((m:Int) < (n:Int) - 1) by omega,if_false]
  exact Ev.now _
 intro d
 induction d with
 | zero =>
  intro m hd hm H h
  by_cases h2:m≤1048576
  ·exact fin m H hm (by omega) h2 h
  ·refine ⟨H, ⟨h.xb, h.E8, fun a b ha hb => h.By a b ha hb (by omega)⟩, Ev.step (fun q => by simp only [ata.l2]; rfl) ?_⟩
   simp only [wI ((n:Int) - 1) (by omega),show ¬ ((m:Int) < (n:Int) - 1) by omega,if_false]
   exact Ev.now _
 | succ d ih =>
  intro m hd hm H h
  by_cases h1:m+1 < n
  ·obtain ⟨G,g1,g2⟩:=ajW p hp uK cz n hn A m hm (by omega) H (fun H' h'=>by
    have:=ih (m+1) (by omega) (by omega) H' h'
    rwa [show ((m+1:Nat):Int)=(m:Int)+1 by omega] at this) h (n - m) m rfl (Nat.le_refl _) (by omega) (fun a a1 a2=>by omega)
   refine ⟨G,g1,Ev.step (fun q=>by simp only [ata.l2];rfl) ?_⟩
   simp only [wI ((n:Int) - 1) (by omega),show ((m:Int) < (n:Int) - 1) by omega,if_true]
   exact g2
  ·exact fin m H hm h1 (by omega) h
theorem ajU (p : Int) (hp : 0 < p) (cz : p ≤ 10007) (n : Nat) (hn : n ≤ 1048575) (A : Nat → Nat → Int) (r : Nat) (hr : r < n) (R : List (List Int))
  (next:Ev (fun k=>ata.l0 k p (oT (r+1) n (fun i j=>A i j % p)) n (as7 n A) n ((r:Int)+1)) R) :
  ∀ (d j:Nat),n - j=d→j≤n→Ev (fun k=>ata.l1 k p (oT r n (fun i j=>A i j % p)) n (bO j (fun j=>A r j % p)) (as7 n A) n r (bO n (A r)) n j) R:=by
 intro d
 induction d with
 | zero =>
  intro j hd hj
  obtain rfl:j=n:=by omega
  refine Ev.step (fun q=>by simp only [ata.l1];rfl) ?_
  simp only [Int.lt_irrefl,if_false,Lv,show r < 5864062014805 by omega,if_true,ak8,wI ((r:Int)+1) (by omega)]
  exact next
 | succ d ih =>
  intro j hd hj
  have hjn:j < n:=by omega
  refine Ev.step (fun q=>by simp only [ata.l1];rfl) ?_
  simp only [lI j n (by omega),cv j,ato,if_true,gz hjn,K1 hp (show p≤1000000 by omega),Option.bind_some,show j < 17592186044416 by omega,Iv,wI ((j:Int)+1) (by omega)]
  have h:=ih (j+1) (by omega) (by omega)
  rw [show ((j+1:Nat):Int)=(j:Int)+1 by omega] at h
  exact h
theorem aj1 (p:Nat) (hp:ni p=true) (uK:2≤p) (cz:p≤10007) (n:Nat) (hn:n≤1048575) (A:Nat→Nat→Int):∃ G,HF p n A G∧Ev (fun k=>ata.f k (as7 n A) p) (as7 n G):=by
 obtain ⟨G,g1,g2⟩:=ajV p hp uK cz n hn A (n - 1) 1 rfl (by omega) _ (HI.start (by omega) n A)
 refine ⟨G,g1,?_⟩
 have l0:∀ (d r:Nat),n - r=d→r≤n→Ev (fun k=>ata.l0 k p (oT r n (fun i j=>A i j % p)) n (as7 n A) n r) (as7 n G):=by
  intro d
  induction d with
  | zero =>
   intro r hd hr
   obtain rfl:r=n:=by omega
   refine Ev.step (fun q=>by simp only [ata.l0];rfl) ?_
   simp only [Int.lt_irrefl,if_false]
   exact g2
  | succ d ih =>
   intro r hd hr
   have pI:r < n:=by omega
   have h:=ih (r+1) (by omega) (by omega)
   rw [show ((r+1:Nat):Int)=(r:Int)+1 by omega] at h
   refine Ev.step (fun q=>by simp only [ata.l0];rfl) ?_
   simp only [lI r n (by omega),cv r,eM,if_true,iH pI,ato]
   exact ajU p (by omega) (by omega) n hn A r pI _ h n 0 (by omega) (by omega)
 unfold ata.f
 rw [eM]
 exact l0 n 0 (by omega) (by omega)
def auK : Nat → (Nat → Int) → Nat → Int
 | 0,c=>c
 | d+1,c=>atI (auK d c)
theorem Rm (c : Nat → Int) : ∀ d m : Nat, auK d c m = if d ≤ m then c (m - d) else 0
 | 0,m=>by simp [auK]
 | d+1,0=>by simp [auK,atI]
 | d+1,m+1=>by
  show auK d c m=_
  rw [Rm c d m]
  by_cases h:d≤m
  ·rw [if_pos h,if_pos (by omega)];congr 1;omega
  ·rw [if_neg h,if_neg (by omega)]
theorem Y2 (n : Nat) (c : Nat → Int) (u : Int) : ∀ d : Nat, atr (n + d) (auK d c) u = u ^ d * atr n c u
 | 0=>by simp [auK]
 | d+1=>by
  show atr (n+d+1) (atI (auK d c)) u=_
  rw [ave,Y2 n c u d,Int.pow_succ,Int.mul_comm (u ^ d) u,Int.mul_assoc]
/-- The numbers next to the diagonal, multiplied from the column j on. -/
def fH (H : Nat → Nat → Int) (j : Nat) : Nat → Int
 | 0=>1
 | d+1=>fH H j d * H (j+d+1) (j+d)
theorem Vz (H : Nat → Nat → Int) (j : Nat) : ∀ d : Nat, fH H j (d + 1) = H (j + 1) j * fH H (j + 1) d
 | 0=>by simp [fH]
 | d+1=>by
  show fH H j (d+1) * H (j+(d+1)+1) (j+(d+1))=H (j+1) j * (fH H (j+1) d * H (j+1+d+1) (j+1+d))
  rw [Vz H j d,Int.mul_assoc,show j+(d+1)=j+1+d by omega]
theorem Zh (H : Nat → Nat → Int) (u : Int) (i : Nat) : ∀ d : Nat, uS (ez u H) i d = u ^ d * fH H i d
 | 0=>by simp [uS,fH]
 | d+1=>by
  show uS (ez u H) i d * (-(ez u H (i+d+1) (i+d)))=_
  rw [Zh H u i d]
  have e:-(ez u H (i+d+1) (i+d))=u * H (i+d+1) (i+d):=by
   unfold ez;rw [nh (by omega)];omega
  rw [e,Int.pow_succ]
  show _=u ^ d * u * (fH H i d * H (i+d+1) (i+d))
  ac_rfl
theorem ae6 (H : Nat → Nat → Int) (k : Nat) (hz : ∀ a b, b + 1 < a → a ≤ k → H a b = 0) (m : Nat) (hm : m ≤ k + 1) :
  aM (k+1) H m=aM k H m - H k k * atI (aM k H) m - au k (fun i=>fH H i (k - i) * H i k * auK (k - i+1) (aM i H) m):=by
 refine EW (n:=k+1) (d:=fun m=>aM k H m - H k k * atI (aM k H) m - au k (fun i=>fH H i (k - i) * H i k * auK (k - i+1) (aM i H) m)) (fun u _=>?_) m hm
 rw [← Ip,aiV (ez u H) k (fun a b h1 h2=>by unfold ez;rw [nh (by omega),hz a b h1 h2];simp)]
 rw [P9,P9,EX,CV]
 rw [avd (n:=k) (m:=k+1) (aM k H) u (by omega) (fun j hj=>oJ _ _ j hj),ave,← Ip]
 have e1:ez u H k k=1 - u * H k k:=by unfold ez;rw [uP]
 have e2:au k (fun i=>uS (ez u H) i (k - i) * ez u H i k * aW i (ez u H))=- au k (fun i=>fH H i (k - i) * H i k * atr (k+1) (auK (k - i+1) (aM i H)) u):=by
  rw [← avg]
  refine cN (fun i hi=>?_)
  have h1:=Y2 i (aM i H) u (k - i+1)
  rw [show i+(k - i+1)=k+1 by omega] at h1
  rw [h1,Zh,← Ip,Int.pow_succ]
  have e3:ez u H i k=-(u * H i k):=by unfold ez;rw [nh (by omega)];omega
  rw [e3]
  simp only [Int.mul_neg,Int.neg_mul]
  congr 1
  ac_rfl
 rw [e1,e2,Int.sub_mul,Int.one_mul]
 have e4:u * H k k * aW k (ez u H)=H k k * (u * aW k (ez u H)):=by ac_rfl
 rw [e4]
 omega
theorem Ze : ∀ (k : Nat) (f : Nat → Int), au k (fun e => f (k - 1 - e)) = au k f
 | 0,_=>rfl
 | k+1,f=>by
  rw [zi]
  have h:=Ze k f
  rw [cN (g:=fun e=>f (k - 1 - e)) (fun i hi=>by show f (k+1 - 1 - (i+1))=_;congr 1;omega),h]
  show f (k+1 - 1 - 0)+au k f=au k f+f k
  rw [show k+1 - 1 - 0=k by omega,Int.add_comm]
theorem aft (p X C Y:Int):((X % p) - (C % p) * (Y % p)) % p=(X - C * Y) % p:=by
 refine Int.emod_eq_emod_iff_emod_sub_eq_zero.2 (Int.emod_eq_zero_of_dvd ?_)
 have h:=Int.dvd_sub (r8 p X) (sC (r8 p C) (r8 p Y))
 rw [show (X % p) - (C % p) * (Y % p) - (X - C * Y)=X % p - X - ((C % p) * (Y % p) - C * Y) by omega]
 exact h
theorem YO {p:Int} (hp:0 < p) (cz:p≤10007) (X C Y:Int):nZ.f (wrap64 (X % p - wrap64 (C % p * (Y % p)))) p=some ((X - C * Y) % p):=by
 have hem:=fun x:Int=>And.intro (Int.emod_nonneg x (show p ≠ 0 by omega)) (Int.emod_lt_of_pos x hp)
 rw [(Ik cz (hem X) (hem C) (hem Y)).1,K1 hp (by omega),aft]
theorem VD {p:Int} (hp:0 < p) (cz:p≤10007) (F h:Int) (hh:0≤h∧h < p):Int.tmod (wrap64 (F % p * h)) p=(F * h) % p:=by
 have hem:=And.intro (Int.emod_nonneg F (show p ≠ 0 by omega)) (Int.emod_lt_of_pos F hp)
 have hs:=Ik cz hem hem hh
 rw [hs.2.2.2.1,oR hs.2.2.2.2]
 refine Int.emod_eq_emod_iff_emod_sub_eq_zero.2 (Int.emod_eq_zero_of_dvd ?_)
 exact sC (r8 p F) (show p ∣ h - h from ⟨0,by omega⟩)
def qQ (p:Int) (H:Nat→Nat→Int) (k:Nat):List (List Int):=(List.range k).map (fun i=>bO (i+1) (fun m=>aM i H m % p))
theorem H9 (p:Int) (H:Nat→Nat→Int) (k:Nat):(qQ p H k).length=k:=by simp [qQ]
theorem H_ {p:Int} {H:Nat→Nat→Int} {k i:Nat} (h:i < k):ai (qQ p H k) (i:Int)=bO (i+1) (fun m=>aM i H m % p):=by
 rw [ym _ _ (by rw [H9];exact h)]
 simp [qQ]
theorem aja (p:Int) (H:Nat→Nat→Int) (k:Nat):qQ p H k ++ [bO (k+1) (fun m=>aM k H m % p)]=qQ p H (k+1):=by
 unfold qQ;rw [List.range_succ,List.map_append];rfl
def dT (H:Nat→Nat→Int) (k i m:Nat):Int:=fH H i (k - i) * H i k * auK (k - i+1) (aM i H) m
def y6 (H:Nat→Nat→Int) (k m:Nat):Int:=aM k H m - H k k * atI (aM k H) m
def dX (H:Nat→Nat→Int) (k q m:Nat):Int:=y6 H k m - au q (fun e=>dT H k (k - 1 - e) m)
theorem ae7 (H:Nat→Nat→Int) (k:Nat) (hz:∀ a b,b+1 < a→a≤k→H a b=0) (m:Nat) (hm:m≤k+1):dX H k k m=aM (k+1) H m:=by
 rw [ae6 H k hz m hm]
 unfold dX
 rw [Ze k (fun i=>dT H k i m)]
 rfl
def y5 (p:Int) (H:Nat→Nat→Int) (k i:Nat):Nat→Int:=fun m=>if m < i+1 then y6 H k m % p else aM k H m % p
def EA (p:Int) (H:Nat→Nat→Int) (k q i:Nat):Nat→Int:=fun m=>if m < i+q+2 then dX H k (q+1) m % p else dX H k q m % p
theorem aff (p : Int) (hp : 0 < p) (cz : p ≤ 10007) (n : Nat) (hn : n ≤ 1048574) (H : Nat → Nat → Int) (hH : ∀ i j, i < n → j < n → 0 ≤ H i j ∧ H i j < p) (k : Nat) (hk : k < n) (q j : Nat) (hq : q + 1 + j = k) (R : List Int)
  (next:Ev (fun z=>cE.l2 z p (as7 n H) (qQ p H (k+1)) k (bO (k+2) (fun m=>dX H k (q+1) m % p)) (fH H j (k - j) % p) ((j:Int) - 1) n k) R) :
  ∀ (d i:Nat),j+1 - i=d→i≤j+1→Ev (fun z=>cE.l3 z p (as7 n H) (qQ p H (k+1)) k (bO (k+2) (EA p H k q i)) (fH H j (k - j) % p) j n k ((j+1:Nat):Int) i) R:=by
 intro d
 induction d with
 | zero =>
  intro i hd hi
  obtain rfl:i=j+1:=by omega
  refine Ev.step (fun q=>by simp only [cE.l3];rfl) ?_
  simp only [Int.lt_irrefl,if_false,wI ((j:Int) - 1) (by omega)]
  refine Ev.congr (fun z=>?_) next
  congr 1
  refine nk fun m hm=>?_
  unfold EA
  rw [if_pos (by omega)]
 | succ d ih =>
  intro i hd hi
  have hij:i < j+1:=by omega
  refine Ev.step (fun q=>by simp only [cE.l3];rfl) ?_
  have hx:i+q+2 < k+2:=by omega
  have ew:wrap64 (wrap64 (wrap64 ((i:Int)+k) - j)+1)=((i+q+2:Nat):Int):=by
   rw [fE (n:=(i:Int)+k) (by omega) (by omega),fE (n:=(i:Int)+k - j) (by omega) (by omega),fE (n:=(i:Int)+k - j+1) (by omega) (by omega)];omega
  have e1:EA p H k q i (i+q+2)=dX H k q (i+q+2) % p:=by unfold EA;rw [if_neg (by omega)]
  have hh:=hH j k (by omega) hk
  simp only [ew,show ((i:Int) < ((j+1:Nat):Int)) by omega,cv i,ato,show (0:Int)≤((i+q+2:Nat):Int) by omega,show ((i+q+2:Nat):Int) < ((k+2:Nat):Int) by omega,cv j,eM,lI j n (by omega),cv k,lI k n (by omega),if_true,H_ (show j < k+1 by omega),iH (show j < n by omega),gz hk,gz hij,gz hx,show ¬ (p=0) by omega,if_false,VD hp cz (fH H j (k - j)) (H j k) hh,e1,YO hp cz,Option.bind_some,Int.toNat_natCast,yo,wI ((i:Int)+1) (by omega)]
  have h:=ih (i+1) (by omega) (by omega)
  rw [show ((i+1:Nat):Int)=(i:Int)+1 by omega] at h
  refine Ev.congr (fun z=>?_) h
  congr 1
  refine nk fun m hm=>?_
  unfold EA
  by_cases g:m=i+q+2
  ·subst g
   rw [if_pos rfl,if_pos (by omega)]
   congr 1
   show y6 H k (i+q+2) - au q (fun e=>dT H k (k - 1 - e) (i+q+2)) - fH H j (k - j) * H j k * aM j H i=y6 H k (i+q+2) - (au q (fun e=>dT H k (k - 1 - e) (i+q+2))+dT H k (k - 1 - q) (i+q+2))
   rw [show k - 1 - q=j by omega]
   have e2:dT H k j (i+q+2)=fH H j (k - j) * H j k * aM j H i:=by
    unfold dT
    rw [Rm,if_pos (by omega),show i+q+2 - (k - j+1)=i by omega]
   rw [e2];omega
  ·rw [if_neg g]
   by_cases g2:m < i+q+2
   ·rw [if_pos g2,if_pos (by omega)]
   ·rw [if_neg g2,if_neg (by omega)]
theorem afe (p : Int) (hp : 0 < p) (cz : p ≤ 10007) (n : Nat) (hn : n ≤ 1048574) (H : Nat → Nat → Int) (hH : ∀ i j, i < n → j < n → 0 ≤ H i j ∧ H i j < p) (hz : ∀ a b, a < n → b + 1 < a → H a b = 0) (k : Nat) (hk : k < n) (R : List Int)
  (next:Ev (fun z=>cE.l0 z p (as7 n H) (qQ p H (k+2)) n ((k:Int)+1)) R) :
  ∀ (d q:Nat),k - q=d→q≤k→Ev (fun z=>cE.l2 z p (as7 n H) (qQ p H (k+1)) k (bO (k+2) (fun m=>dX H k q m % p)) (fH H (k - q) q % p) ((k:Int) - 1 - q) n k) R:=by
 intro d
 induction d with
 | zero =>
  intro q hd hq
  obtain rfl:q=k:=by omega
  refine Ev.step (fun q=>by simp only [cE.l2];rfl) ?_
  simp only [show ¬ ((q:Int) - 1 - q ≥ 0) by omega,if_false,H9,show q+1 < 5864062014805 by omega,if_true,wI ((q:Int)+1) (by omega)]
  refine Ev.congr (fun z=>?_) next
  rw [← aja p H (q+1)]
  congr 3
  exact (nk fun m hm=>by rw [ae7 H q (fun a b h1 h2=>hz a b (by omega) h1) m (by omega)]).symm
 | succ d ih =>
  intro q hd hq
  obtain ⟨j,hj⟩:∃ j,q+1+j=k:=⟨k - q - 1,by omega⟩
  have h:=ih (q+1) (by omega) (by omega)
  rw [show k - (q+1)=j by omega,show (k:Int) - 1 - ((q+1:Nat):Int)=(j:Int) - 1 by omega,show q+1=k - j by omega] at h
  rw [show k - j=q+1 by omega] at h
  have h':Ev (fun z=>cE.l2 z p (as7 n H) (qQ p H (k+1)) k (bO (k+2) (fun m=>dX H k (q+1) m % p)) (fH H j (k - j) % p) ((j:Int) - 1) n k) R:=by
   rw [show k - j=q+1 by omega];exact h
  have h3:=aff p hp cz n hn H hH k hk q j hj R h' (j+1) 0 (by omega) (by omega)
  refine Ev.step (fun q=>by simp only [cE.l2];rfl) ?_
  have e0:(k:Int) - 1 - q=(j:Int):=by omega
  have e1:wrap64 ((j:Int)+1)=((j+1:Nat):Int):=by rw [fE (by omega) (by omega)];omega
  have hh:=hH (j+1) j (by omega) (by omega)
  simp only [e0,e1,show ((j:Int) ≥ 0) by omega,show (0:Int)≤((j+1:Nat):Int) by omega,eM,show ((j+1:Nat):Int) < (n:Int) by omega,cv j,if_true,iH (show j+1 < n by omega),ato,lI j n (by omega),gz (show j < n by omega),show ¬ (p=0) by omega,if_false,H9,show ((j:Int) < ((k+1:Nat):Int)) by omega,H_ (show j < k+1 by omega),VD hp cz (fH H (k - q) q) _ hh]
  have e2:fH H (k - q) q * H (j+1) j=fH H j (k - j):=by
   rw [show k - q=j+1 by omega,show k - j=q+1 by omega,Vz,Int.mul_comm]
  rw [e2]
  refine Ev.congr (fun z=>?_) h3
  congr 1
  refine nk fun m hm=>?_
  unfold EA
  by_cases g:m < 0+q+2
  ·rw [if_pos g]
   congr 1
   show y6 H k m - au q (fun e=>dT H k (k - 1 - e) m)=y6 H k m - (au q (fun e=>dT H k (k - 1 - e) m)+dT H k (k - 1 - q) m)
   have e3:dT H k (k - 1 - q) m=0:=by
    unfold dT
    rw [Rm,if_neg (by omega),Int.mul_zero]
   rw [e3];omega
  ·rw [if_neg g]
theorem afd (p : Int) (hp : 0 < p) (cz : p ≤ 10007) (n : Nat) (hn : n ≤ 1048574) (H : Nat → Nat → Int) (hH : ∀ i j, i < n → j < n → 0 ≤ H i j ∧ H i j < p) (k : Nat) (hk : k < n) (R : List Int)
  (next:Ev (fun z=>cE.l2 z p (as7 n H) (qQ p H (k+1)) k (bO (k+2) (fun m=>dX H k 0 m % p)) 1 ((k:Int) - 1) n k) R) :
  ∀ (d i:Nat),k+1 - i=d→i≤k+1→Ev (fun z=>cE.l1 z p (as7 n H) (qQ p H (k+1)) k (bO (k+2) (y5 p H k i)) n k ((k+1:Nat):Int) i) R:=by
 intro d
 induction d with
 | zero =>
  intro i hd hi
  obtain rfl:i=k+1:=by omega
  refine Ev.step (fun q=>by simp only [cE.l1];rfl) ?_
  simp only [Int.lt_irrefl,if_false,wI ((k:Int) - 1) (by omega)]
  refine Ev.congr (fun z=>?_) next
  congr 1
  refine nk fun m hm=>?_
  unfold y5
  rw [if_pos (by omega)]
  congr 1
  show y6 H k m=y6 H k m - 0
  omega
 | succ d ih =>
  intro i hd hi
  have hik:i < k+1:=by omega
  refine Ev.step (fun q=>by simp only [cE.l1];rfl) ?_
  have ew:wrap64 ((i:Int)+1)=((i+1:Nat):Int):=by rw [fE (by omega) (by omega)];omega
  have e1:y5 p H k i (i+1)=aM k H (i+1) % p:=by unfold y5;rw [if_neg (by omega)]
  have hh:=hH k k hk hk
  have e2:H k k=H k k % p:=(Int.emod_eq_of_lt hh.1 hh.2).symm
  have e3:nZ.f (wrap64 (aM k H (i+1) % p - wrap64 (H k k * (aM k H i % p)))) p=some ((aM k H (i+1) - H k k * aM k H i) % p):=by
   have:=YO hp cz (aM k H (i+1)) (H k k) (aM k H i)
   rwa [← e2] at this
  simp only [ew,show ((i:Int) < ((k+1:Nat):Int)) by omega,cv i,ato,show (0:Int)≤((i+1:Nat):Int) by omega,show ((i+1:Nat):Int) < ((k+2:Nat):Int) by omega,cv k,eM,lI k n (by omega),if_true,H_ (show k < k+1 by omega),iH hk,gz hk,gz hik,gz (show i+1 < k+2 by omega),e1,e3,Option.bind_some,Int.toNat_natCast,yo]
  have h:=ih (i+1) (by omega) (by omega)
  refine Ev.congr (fun z=>?_) h
  congr 1
  refine nk fun m hm=>?_
  unfold y5
  by_cases g:m=i+1
  ·subst g
   rw [if_pos rfl,if_pos (by omega)]
   rfl
  ·rw [if_neg g]
   by_cases g2:m < i+1
   ·rw [if_pos g2,if_pos (by omega)]
   ·rw [if_neg g2,if_neg (by omega)]
theorem afc (p : Int) (hp : 2 ≤ p) (cz : p ≤ 10007) (n : Nat) (hn : n ≤ 1048574) (H : Nat → Nat → Int) (hH : ∀ i j, i < n → j < n → 0 ≤ H i j ∧ H i j < p) (hz : ∀ a b, a < n → b + 1 < a → H a b = 0) :
  ∀ (d k:Nat),n - k=d→k≤n→Ev (fun z=>cE.l0 z p (as7 n H) (qQ p H (k+1)) n k) (eU (bO (n+1) (fun m=>aM n H m % p)) (n+1)):=by
 intro d
 induction d with
 | zero =>
  intro k hd hk
  obtain rfl:k=n:=by omega
  refine Ev.step (fun q=>by simp only [cE.l0];rfl) ?_
  have h:=Zp (bO (k+1) (fun m=>aM k H m % p)) (by rw [ato];omega)
  rw [ato] at h
  simp only [Int.lt_irrefl,if_false,eM,cv k,H9,show ((k:Int) < ((k+1:Nat):Int)) by omega,if_true,H_ (show k < k+1 by omega)]
  exact Ev.bind h (Ev.now _)
 | succ d ih =>
  intro k hd hk
  have hkn:k < n:=by omega
  have h:=ih (k+1) (by omega) (by omega)
  rw [show ((k+1:Nat):Int)=(k:Int)+1 by omega] at h
  have h2:=afe p (by omega) cz n hn H hH hz k hkn _ h k 0 (by omega) (by omega)
  rw [show fH H (k - 0) 0 % p=1 from Int.emod_eq_of_lt (a:=1) (by omega) (by omega),show (k:Int) - 1 - ((0:Nat):Int)=(k:Int) - 1 by omega] at h2
  have h1:=afd p (by omega) cz n hn H hH k hkn _ h2 (k+1) 0 (by omega) (by omega)
  refine Ev.step (fun q=>by simp only [cE.l0];rfl) ?_
  have e:bO (k+1) (fun m=>aM k H m % p) ++ [0]=bO (k+2) (y5 p H k 0):=by
   rw [show k+2=(k+1)+1 from rfl,← Iv (k+1)]
   have g0:y5 p H k 0 (k+1)=0:=by
    unfold y5
    rw [if_neg (by omega),show aM k H (k+1)=0 from oJ _ _ _ (by omega),Int.zero_emod]
   rw [g0]
   congr 1
   refine nk fun m hm=>?_
   unfold y5
   by_cases g:m < 0+1
   ·obtain rfl : m = 0 := by omega
    rw [if_pos g]
    congr 1
    unfold y6
    show _=aM k H 0 - H k k * 0
    rw [Int.mul_zero,Int.sub_zero]
   ·rw [if_neg g]
  simp only [lI k n (by omega),cv k,H9,show ((k:Int) < ((k+1:Nat):Int)) by omega,if_true,H_ (show k < k+1 by omega),Oj (bO (k+1) (fun m=>aM k H m % p)) (by rw [ato];omega),Option.bind_some,ato,show k+1 < 17592186044416 by omega,e]
  exact h1
theorem ae' (p:Nat) (hp:ni p=true) (uK:2≤p) (cz:p≤10007) (n:Nat) (hn:n≤1048574) (A:Nat→Nat→Int):Ev (fun k=>cE.f k (as7 n A) p) (eU (bO (n+1) (fun m=>aM n A m % (p:Int))) (n+1)):=by
 obtain ⟨G,⟨g1,g2,g3⟩,g4⟩:=aj1 p hp uK cz n (by omega) A
 unfold cE.f
 refine Ev.bind g4 ?_
 have h:=afc p (by omega) (by omega) n hn G g1 g3 n 0 (by omega) (by omega)
 rw [eM]
 rw [show bO (n+1) (fun m=>aM n A m % (p:Int))=bO (n+1) (fun m=>aM n G m % (p:Int)) from nk fun m _=>(Int.emod_eq_emod_iff_emod_sub_eq_zero.2 (Int.emod_eq_zero_of_dvd (g2 m))).symm]
 refine Ev.congr (fun q=>?_) h
 have e:([[1]]:List (List Int))=qQ p G (0+1):=by
  show _=[[aM 0 G 0 % (p:Int)]]
  rw [KN,Int.emod_eq_of_lt (a:=1) (by omega) (by omega)]
 rw [e]
 rfl
theorem ait (p:Nat) (hp:p≤10007):∀ (m d:Nat),p+1 - d=m→2≤d→d≤p+1→(∀ e,2≤e→e < d→e * e≤p→p % e ≠ 0)→Ev (fun k=>mB.l0 k p d) (ni p):=by
 intro m
 induction m with
 | zero =>
  intro d hm hd Pj hl
  have hdd:p < d * d:=by
   obtain rfl:d=p+1:=by omega
   have:(p+1) * 1≤(p+1) * (p+1):=Nat.mul_le_mul_left _ (by omega)
   omega
  have hs:d * d≤10008 * 10008:=Nat.mul_le_mul (by omega) (by omega)
  refine Ev.step (fun q=>by simp only [mB.l0];rfl) ?_
  rw [K8 hdd hl]
  simp only [show ((d:Int) * (d:Int))=((d * d:Nat):Int) by simp,fE (show -9223372036854775808≤((d * d:Nat):Int) by omega) (by omega),show ¬ (((d * d:Nat):Int)≤(p:Int)) by omega,if_false]
  exact Ev.now _
 | succ m ih =>
  intro d hm hd Pj hl
  have hs:d * d≤10008 * 10008:=Nat.mul_le_mul (by omega) (by omega)
  refine Ev.step (fun q=>by simp only [mB.l0];rfl) ?_
  simp only [show ((d:Int) * (d:Int))=((d * d:Nat):Int) by simp,fE (show -9223372036854775808≤((d * d:Nat):Int) by omega) (by omega)]
  by_cases h:d * d≤p
  ·simp only [show (((d * d : Nat) : Int) ≤ (p : Int)) by omega, if_true, show ¬ ((d : Int) = 0) by omega, if_false, Zl]
   by_cases h0:p % d=0
   ·simp only [h0, show (((0 : Nat) : Int) = 0) by rfl, if_true, YX hd h h0]
    exact Ev.now _
   ·simp only [show ¬ (((p % d : Nat) : Int) = 0) by omega, if_false, wI ((d : Int) + 1) (by omega)]
    exact ih (d+1) (by omega) (by omega) (by omega) (fun e h1 h2 h3=>by
     by_cases he:e=d
     ·subst he;exact h0
     ·exact hl e h1 (by omega) h3)
  ·rw [K8 (by omega) hl]
   simp only [show ¬ (((d * d:Nat):Int)≤(p:Int)) by omega,if_false]
   exact Ev.now _
theorem Ym (p:Int):Ev (fun k=>mB.f k p) (qT 10007 p):=by
 unfold mB.f qT
 simp only [CU,Option.bind_some]
 by_cases h:(decide (2≤p) && decide (p≤10007))=true
 ·simp only [h, if_true, Bool.true_and]
  simp only [Bool.and_eq_true,decide_eq_true_eq] at h
  obtain ⟨q,rfl⟩:∃ q:Nat,p=q:=⟨p.toNat,by omega⟩
  rw [Int.toNat_natCast]
  exact ait q (by omega) (q - 1) 2 (by omega) (by omega) (by omega) (fun e h1 h2 _=>by omega)
 ·simp only [Bool.not_eq_true] at h
  simp only [h,Bool.false_eq_true,if_false,Bool.false_and]
  exact Ev.now _
theorem aik (a : Int) (l : List (List Int)) (hl : l.length ≤ 10) (h2 : two l) (x3 : List (List Int)) (hx : x3.length < 1048576) (R : List (List Int)) (e : Nat) (he : e < 2 * l.length)
  (hR:Ev (fun k=>iW.l0 k (x3 ++ [mj (2 * l.length) (next l e) (2 * l.length)]) ((2 * l.length:Nat):Int) ((e:Int)+1) a l) R) :
  ∀ (d f:Nat),2 * l.length - f=d→f≤2 * l.length→Ev (fun k=>iW.l1 k x3 ((2 * l.length:Nat):Int) e (mj (2 * l.length) (next l e) f) (jV l e) f a l) R:=by
 intro d
 induction d with
 | zero =>
  intro f hd hf
  obtain rfl:f=2 * l.length:=by omega
  refine Ev.step (fun k=>by simp only [iW.l1];rfl) ?_
  simp only [Int.lt_irrefl,if_false,show x3.length < 5864062014805 by omega,if_true,wI ((e:Int)+1) (by omega)]
  exact hR
 | succ d ih =>
  intro f hd hf
  have hfl:f < 2 * l.length:=by omega
  refine Ev.step (fun k=>by simp only [iW.l1];rfl) ?_
  have h:=ih (f+1) (by omega) (by omega)
  simp only [show ((f:Int) < ((2 * l.length:Nat):Int)) by omega,if_true,PX a l (by omega) h2 f hfl,Option.bind_some,cv f,YM,Int.toNat_natCast,Z4 e (by omega),wI ((f:Int)+1) (by omega)]
  have hn:next l e f=(decide (jV l e=qB l f) && !decide (f=jk e)):=rfl
  by_cases h3:qB l f=jV l e
  ·simp only [h3, if_true]
   by_cases h4:f=jk e
   ·simp only [eq_true (show (f : Int) = ((jk e : Nat) : Int) by omega), if_true]
    rw [Qd _ _ _ (show next l e f=false by rw [hn];simp [h3,h4.symm])]
    exact h
   ·simp only [show ¬ ((f : Int) = ((jk e : Nat) : Int)) by omega, if_false]
    rw [YL _ _ _ hfl (show next l e f=true by rw [hn];simp [h3,h4])]
    exact h
  ·simp only [h3, if_false]
   rw [Qd _ _ _ (show next l e f=false by rw [hn];simp [Ne.symm h3])]
   exact h
theorem aij (a:Int) (l:List (List Int)) (hl:l.length≤10) (h2:two l):∀ (d e:Nat),2 * l.length - e=d→e≤2 * l.length→Ev (fun k=>iW.l0 k ((qJ l).take e) ((2 * l.length:Nat):Int) e a l) (qJ l):=by
 have hlen:(qJ l).length=2 * l.length:=by simp [qJ]
 intro d
 induction d with
 | zero =>
  intro e hd he
  refine Ev.step (fun k=>by simp only [iW.l0];rfl) ?_
  simp only [show ¬ ((e:Int) < ((2 * l.length:Nat):Int)) by omega,if_false]
  rw [List.take_of_length_le (by omega)]
  exact Ev.now _
 | succ d ih =>
  intro e hd he
  have hel:e < 2 * l.length:=by omega
  refine Ev.step (fun k=>by simp only [iW.l0];rfl) ?_
  simp only [show ((e:Int) < ((2 * l.length:Nat):Int)) by omega,show (0:Int)≤((2 * l.length:Nat):Int) by omega,show 2 * l.length≤35184372088832 by omega,if_true,Int.toNat_natCast,PX a l (by omega) h2 e hel,Option.bind_some]
  rw [← YN (2 * l.length) (next l e)]
  refine aik a l hl h2 ((qJ l).take e) (by rw [List.length_take];omega) (qJ l) e hel ?_ (2 * l.length) 0 (by omega) (by omega)
  have h:=ih (e+1) (by omega) (by omega)
  have e1:(qJ l).take (e+1)=(qJ l).take e ++ [mj (2 * l.length) (next l e) (2 * l.length)]:=by
   rw [List.take_succ_eq_append_getElem (by omega)]
   simp [qJ]
  rw [e1] at h
  exact h
theorem aii (a:Int) (l:List (List Int)) (hl:l.length≤10) (h2:two l):Ev (fun k=>iW.f k a l) (qJ l):=by
 unfold iW.f
 rw [fE (by omega) (by omega),show 2 * (l.length:Int)=((2 * l.length:Nat):Int) by omega]
 exact aij a l hl h2 (2 * l.length) 0 (by omega) (by omega)
/-- The code of a prime, a graph and a number modulo it. -/
def tM (p a:Int) (l:List (List Int)) (t:Int):Int:=if atJ a l then (if qT 10007 p then (if 0≤t∧t≤p - 1 then 0 else 2) else 2) else 1
theorem Qe {p a:Int} {l:List (List Int)} {t:Int} (h:tM p a l t=0):atJ a l=true∧qT 10007 p=true∧0≤t∧t < p:=by
 unfold tM at h
 split at h
 ·split at h
  ·split at h
   ·exact ⟨by assumption,by assumption,by omega,by omega⟩
   ·omega
  ·omega
 ·omega
theorem adg (p a:Int) (l:List (List Int)) (t:Int) (hl:l.length≤maxLen):Ev (fun k=>BC.f k a l p t) (tM p a l t):=by
 unfold BC.f tM
 refine Ev.bind (HQ a l hl) ?_
 cases h:atJ a l with
 | false=>simp only [Bool.false_eq_true,if_false];exact Ev.now _
 | true =>
  simp only [if_true]
  refine Ev.bind (KJ p) ?_
  cases hp:qT 10007 p with
  | false=>simp only [Bool.false_eq_true,if_false];exact Ev.now _
  | true =>
   obtain ⟨q,rfl,h2,h3,_⟩:=rI hp
   simp only [if_true,IC,Option.bind_some,wI ((q:Int) - 1) (by omega)]
   by_cases h1:0≤t∧t≤(q:Int) - 1
   ·simp only [h1,decide_true,Bool.and_true,if_true,and_self];exact Ev.now _
   ·have hf:(decide (0≤t) && decide (t≤(q:Int) - 1))=false:=by
     rw [Bool.eq_false_iff]
     intro hc
     simp only [Bool.and_eq_true,decide_eq_true_eq] at hc
     exact h1 hc
    simp only [h1,hf,Bool.false_eq_true,if_false];exact Ev.now _
theorem adh (p a:Int) (l:List (List Int)) (t:Int) (hl:l.length≤maxLen):Ev (fun k=>zX.f k p a l t) (tM p a l t):=by
 unfold zX.f
 exact Ev.bind (adg p a l t hl) (Ev.now _)
theorem ais (p a:Int) (l:List (List Int)) (t:Int) (hl:l.length≤maxLen):Ev (fun k=>zY.f k p a l t) (tM p a l t):=by
 unfold zY.f tM
 refine Ev.bind (Re a l hl) ?_
 cases h:atJ a l with
 | false=>simp only [Bool.false_eq_true,if_false];exact Ev.now _
 | true =>
  simp only [if_true]
  refine Ev.bind (Ym p) ?_
  cases hp:qT 10007 p with
  | false=>simp only [Bool.false_eq_true,if_false];exact Ev.now _
  | true =>
   obtain ⟨q,rfl,h2,h3,_⟩:=rI hp
   simp only [if_true,CU,Option.bind_some,wI ((q:Int) - 1) (by omega)]
   by_cases h1:0≤t∧t≤(q:Int) - 1
   ·simp only [h1,decide_true,Bool.and_true,if_true,and_self];exact Ev.now _
   ·have hf:(decide (0≤t) && decide (t≤(q:Int) - 1))=false:=by
     rw [Bool.eq_false_iff]
     intro hc
     simp only [Bool.and_eq_true,decide_eq_true_eq] at hc
     exact h1 hc
    simp only [h1,hf,Bool.false_eq_true,if_false];exact Ev.now _
theorem afp (l:List (List Int)) (e f:Nat):0≤eA l e f∧eA l e f≤1:=by unfold eA;split<;>omega
/-- The code of a prime, a graph and weights. -/
def kN (p a:Int) (l:List (List Int)) (ws:List Int):Int:=if atJ a l then (if qT 10007 p then (if (ws.length:Int)=2 * (l.length:Int) then (if ws.all (fun u=>decide (0≤u) && decide (u≤p - 1))=true then 0 else 2) else 2) else 2) else 1
theorem Br {p a:Int} {l:List (List Int)} {ws:List Int} (h:kN p a l ws=0):atJ a l=true∧qT 10007 p=true∧ws.length=2 * l.length∧ws.all (fun u=>decide (0≤u) && decide (u≤p - 1))=true:=by
 unfold kN at h
 split at h
 ·split at h
  ·split at h
   ·split at h
    ·exact ⟨by assumption,by assumption,by omega,by assumption⟩
    ·omega
   ·omega
  ·omega
 ·omega
theorem Dc {p:Int} {ws:List Int} (h:ws.all (fun u=>decide (0≤u) && decide (u≤p - 1))=true) (j:Nat) (hj:j < ws.length):0≤rd ws (j:Int)∧rd ws (j:Int) < p:=by
 rw [pS ws j hj]
 have:=List.all_eq_true.1 h ws[j] (List.getElem_mem hj)
 simp only [Bool.and_eq_true,decide_eq_true_eq] at this
 omega
theorem aiq (p:Int) (hp:2≤p∧p≤10007) (us:List Int) (hu:us.length≤1048576):∀ (d i:Nat),us.length - i=d→i≤us.length→Ev (fun k=>mU.l0 k p us i) (if (us.drop i).all (fun u=>decide (0≤u) && decide (u≤p - 1))=true then 0 else 2):=by
 intro d
 induction d with
 | zero =>
  intro i hd hi
  obtain rfl:i=us.length:=by omega
  refine Ev.step (fun q=>by simp only [mU.l0];rfl) ?_
  rw [List.drop_length]
  simp only [Int.lt_irrefl,if_false,List.all_nil,if_true]
  exact Ev.now _
 | succ d ih =>
  intro i hd hi
  have hil:i < us.length:=by omega
  refine Ev.step (fun q=>by simp only [mU.l0];rfl) ?_
  rw [List.drop_eq_getElem_cons hil,List.all_cons]
  simp only [show ((i:Int) < (us.length:Int)) by omega,cv i,if_true,pS us i hil,CU,Option.bind_some,wI (p - 1) (by omega),wI ((i:Int)+1) (by omega)]
  cases h:(decide (0≤us[i]) && decide (us[i]≤p - 1)) with
  | false=>simp only [Bool.false_eq_true,if_false,Bool.false_and];exact Ev.now _
  | true =>
   simp only [if_true,Bool.true_and]
   exact ih (i+1) (by omega) (by omega)
theorem PY (p a:Int) (l:List (List Int)) (ws:List Int) (hl:l.length≤maxLen):Ev (fun k=>mU.f k p a l ws) (kN p a l ws):=by
 unfold mU.f kN
 refine Ev.bind (Re a l hl) ?_
 cases h:atJ a l with
 | false=>simp only [Bool.false_eq_true,if_false];exact Ev.now _
 | true =>
  have oB:=nI h
  simp only [if_true]
  refine Ev.bind (Ym p) ?_
  cases hp:qT 10007 p with
  | false=>simp only [Bool.false_eq_true,if_false];exact Ev.now _
  | true =>
   obtain ⟨q,rfl,h2,h3,_⟩:=rI hp
   simp only [if_true,wI (2 * (l.length:Int)) (by omega)]
   by_cases hw:(ws.length:Int)=2 * (l.length:Int)
   ·simp only [hw, if_true]
    exact aiq q ⟨by omega,h3⟩ ws (by omega) ws.length 0 (by omega) (by omega)
   ·simp only [hw,if_false];exact Ev.now _
theorem NH (p:Int) (ws:List Int):(!(ws.any (yt (p - 1))))=ws.all (fun u=>decide (0≤u) && decide (u≤p - 1)):=by
 induction ws with
 | nil=>rfl
 | cons x xs ih =>
  rw [List.any_cons,List.all_cons,Bool.not_or,ih]
  unfold yt
  rw [Bool.not_not]
theorem ali (p a:Int) (l:List (List Int)) (ws:List Int) (hl:l.length≤maxLen):Ev (fun k=>zV.f k a l p a l ws) (kN p a l ws):=by
 unfold zV.f kN
 refine Ev.bind (HQ a l hl) ?_
 cases h:atJ a l with
 | false=>simp only [Bool.false_eq_true,if_false];exact Ev.now _
 | true =>
  have oB:=nI h
  simp only [if_true]
  refine Ev.bind (KJ p) ?_
  cases hp:qT 10007 p with
  | false=>simp only [Bool.false_eq_true,if_false];exact Ev.now _
  | true =>
   obtain ⟨q,rfl,h2,h3,_⟩:=rI hp
   simp only [if_true,vz.f,Option.bind_some,wI (2 * (l.length:Int)) (by omega),wI ((q:Int) - 1) (by omega),NH]
   by_cases hw:(ws.length:Int)=2 * (l.length:Int)
   ·simp only [hw, decide_true, Bool.true_and, if_true]
    by_cases hr:(ws.all fun u=>decide (0≤u) && decide (u≤(q:Int) - 1))=true
    ·simp only [hr,if_true];exact Ev.now _
    ·simp only [hr,if_false];exact Ev.now _
   ·simp only [hw,decide_false,Bool.false_and,Bool.false_eq_true,if_false];exact Ev.now _
/-- The edge matrix, each number times its column's weight, ahead of row e0's column f0. -/
def wM (l:List (List Int)) (ws:List Int) (e0 f0:Nat) (i j:Nat):Int:=if i < e0∨i=e0∧j < f0 then eA l i j * rd ws (j:Int) else eA l i j
theorem ZP (l:List (List Int)) (ws:List Int) (e f:Nat) (he:e < 2 * l.length):(as7 (2 * l.length) (wM l ws e f)).set e ((ai (as7 (2 * l.length) (wM l ws e f)) (e:Int)).set f (eA l e f * rd ws (f:Int)))=as7 (2 * l.length) (wM l ws e (f+1)):=by
 rw [ZA _ _ he]
 refine kM fun i j hi hj=>?_
 unfold wM
 by_cases h1:i=e∧j=f
 ·rw [if_pos h1,h1.1,h1.2,if_pos (Or.inr ⟨rfl,by omega⟩)]
 ·rw [if_neg h1]
  by_cases h2:i < e∨i=e∧j < f
  ·rw [if_pos h2,if_pos (by omega)]
  ·rw [if_neg h2,if_neg (by omega)]
theorem ZN (l:List (List Int)) (ws:List Int) (e:Nat):as7 (2 * l.length) (wM l ws e (2 * l.length))=as7 (2 * l.length) (wM l ws (e+1) 0):=by
 refine kM fun i j hi hj=>?_
 unfold wM
 by_cases h:i < e∨i=e∧j < 2 * l.length
 ·rw [if_pos h,if_pos (by omega)]
 ·rw [if_neg h,if_neg (by omega)]
theorem ZM (l:List (List Int)) (ws:List Int) (e f:Nat) (hf:f < 2 * l.length):rd (bO (2 * l.length) (wM l ws e f e)) (f:Int)=eA l e f:=by
 rw [gz hf]
 unfold wM
 rw [if_neg (by omega)]
theorem Lz (l:List (List Int)) (e f:Nat) {p x:Int} (hx:0≤x∧x < p):0≤eA l e f * x∧eA l e f * x < p:=by
 unfold eA
 split
 ·rw [Int.one_mul];exact hx
 ·rw [Int.zero_mul];omega
theorem alk (l : List (List Int)) (hl : l.length ≤ 10) (p : Int) (hp : 2 ≤ p ∧ p ≤ 10007) (ws : List Int) (hw : ws.length = 2 * l.length) (hr : ∀ j : Nat, j < ws.length → 0 ≤ rd ws (j : Int) ∧ rd ws (j : Int) < p) (R : List (List Int)) (e : Nat) (he : e < 2 * l.length)
  (next:Ev (fun k=>gw.l0 k ws (as7 (2 * l.length) (wM l ws (e+1) 0)) ((2 * l.length:Nat):Int) ((e:Int)+1)) R) :
  ∀ (d f:Nat),2 * l.length - f=d→f≤2 * l.length→Ev (fun k=>gw.l1 k ws (as7 (2 * l.length) (wM l ws e f)) ((2 * l.length:Nat):Int) e ((2 * l.length:Nat):Int) f) R:=by
 intro d
 induction d with
 | zero =>
  intro f hd hf
  obtain rfl:f=2 * l.length:=by omega
  refine Ev.step (fun k=>by simp only [gw.l1];rfl) ?_
  simp only [Int.lt_irrefl,if_false,ZN,wI ((e:Int)+1) (by omega)]
  exact next
 | succ d ih =>
  intro f hd hf
  have hfl:f < 2 * l.length:=by omega
  refine Ev.step (fun k=>by simp only [gw.l1];rfl) ?_
  have h:=ih (f+1) (by omega) (by omega)
  have hx:=Lz l e f (hr f (by omega))
  rw [← ZP l ws e f he,show ((f+1:Nat):Int)=(f:Int)+1 by omega] at h
  simp only [show ((f:Int) < ((2 * l.length:Nat):Int)) by omega,cv f,iH he,ato,ZM l ws e f hfl,show ((f:Int) < (ws.length:Int)) by omega,if_true,Int.toNat_natCast,wI (eA l e f * rd ws (f:Int)) (by omega),wI ((f:Int)+1) (by omega)] at h ⊢
  exact h
theorem alj (l : List (List Int)) (hl : l.length ≤ 10) (p : Int) (hp : 2 ≤ p ∧ p ≤ 10007) (ws : List Int) (hw : ws.length = 2 * l.length) (hr : ∀ j : Nat, j < ws.length → 0 ≤ rd ws (j : Int) ∧ rd ws (j : Int) < p) :
  ∀ (d e:Nat),2 * l.length - e=d→e≤2 * l.length→Ev (fun k=>gw.l0 k ws (as7 (2 * l.length) (wM l ws e 0)) ((2 * l.length:Nat):Int) e) (as7 (2 * l.length) (wM l ws (2 * l.length) 0)):=by
 intro d
 induction d with
 | zero =>
  intro e hd he
  obtain rfl:e=2 * l.length:=by omega
  refine Ev.step (fun k=>by simp only [gw.l0];rfl) ?_
  simp only [Int.lt_irrefl,if_false]
  exact Ev.now _
 | succ d ih =>
  intro e hd he
  have hel:e < 2 * l.length:=by omega
  have h:=ih (e+1) (by omega) (by omega)
  rw [show ((e+1:Nat):Int)=(e:Int)+1 by omega] at h
  refine Ev.step (fun k=>by simp only [gw.l0];rfl) ?_
  simp only [show ((e:Int) < ((2 * l.length:Nat):Int)) by omega,cv e,eM,iH hel,ato,if_true]
  exact alk l hl p hp ws hw hr _ e hel h (2 * l.length) 0 (by omega) (by omega)
theorem ZS (a : Int) (l : List (List Int)) (h : atJ a l = true) (p : Int) (hp : 2 ≤ p ∧ p ≤ 10007) (ws : List Int) (hw : ws.length = 2 * l.length) (hr : ∀ j : Nat, j < ws.length → 0 ≤ rd ws (j : Int) ∧ rd ws (j : Int) < p) :
  Ev (fun k=>gw.f k a l ws) (as7 (2 * l.length) (wM l ws (2 * l.length) 0)):=by
 have hl:=nI h
 unfold gw.f
 refine Ev.bind (U3 a l hl (avL h)) ?_
 rw [Ot,eM,kM (h:=wM l ws 0 0) (f:=eA l) (fun i j _ _=>by unfold wM;rw [if_neg (by omega)])]
 exact alj l hl p hp ws hw hr (2 * l.length) 0 (by omega) (by omega)
theorem aiv (l : List (List Int)) (hl : l.length ≤ 10) (p : Int) (hp : 2 ≤ p ∧ p ≤ 10007) (ws : List Int) (hw : ws.length = 2 * l.length) (hr : ∀ j : Nat, j < ws.length → 0 ≤ rd ws (j : Int) ∧ rd ws (j : Int) < p) (R : List (List Int)) (e : Nat) (he : e < 2 * l.length)
  (next:Ev (fun k=>gF.l0 k ws (as7 (2 * l.length) (wM l ws (e+1) 0)) ((e:Int)+1)) R) :
  ∀ (d f:Nat),2 * l.length - f=d→f≤2 * l.length→Ev (fun k=>gF.l1 k ws (as7 (2 * l.length) (wM l ws e f)) e f) R:=by
 intro d
 induction d with
 | zero =>
  intro f hd hf
  obtain rfl:f=2 * l.length:=by omega
  refine Ev.step (fun k=>by simp only [gF.l1];rfl) ?_
  simp only [iH he,ato,Int.lt_irrefl,if_false,ZN,wI ((e:Int)+1) (by omega)]
  exact next
 | succ d ih =>
  intro f hd hf
  have hfl:f < 2 * l.length:=by omega
  refine Ev.step (fun k=>by simp only [gF.l1];rfl) ?_
  have h:=ih (f+1) (by omega) (by omega)
  have hx:=Lz l e f (hr f (by omega))
  rw [← ZP l ws e f he,show ((f+1:Nat):Int)=(f:Int)+1 by omega] at h
  simp only [show ((f:Int) < ((2 * l.length:Nat):Int)) by omega,cv f,iH he,ato,ZM l ws e f hfl,show ((f:Int) < (ws.length:Int)) by omega,if_true,Int.toNat_natCast,wI (eA l e f * rd ws (f:Int)) (by omega),wI ((f:Int)+1) (by omega)] at h ⊢
  exact h
theorem aiu (l : List (List Int)) (hl : l.length ≤ 10) (p : Int) (hp : 2 ≤ p ∧ p ≤ 10007) (ws : List Int) (hw : ws.length = 2 * l.length) (hr : ∀ j : Nat, j < ws.length → 0 ≤ rd ws (j : Int) ∧ rd ws (j : Int) < p) :
  ∀ (d e:Nat),2 * l.length - e=d→e≤2 * l.length→Ev (fun k=>gF.l0 k ws (as7 (2 * l.length) (wM l ws e 0)) e) (as7 (2 * l.length) (wM l ws (2 * l.length) 0)):=by
 intro d
 induction d with
 | zero =>
  intro e hd he
  obtain rfl:e=2 * l.length:=by omega
  refine Ev.step (fun k=>by simp only [gF.l0];rfl) ?_
  simp only [eM,Int.lt_irrefl,if_false]
  exact Ev.now _
 | succ d ih =>
  intro e hd he
  have hel:e < 2 * l.length:=by omega
  have h:=ih (e+1) (by omega) (by omega)
  rw [show ((e+1:Nat):Int)=(e:Int)+1 by omega] at h
  refine Ev.step (fun k=>by simp only [gF.l0];rfl) ?_
  simp only [show ((e:Int) < ((2 * l.length:Nat):Int)) by omega,cv e,eM,if_true]
  exact aiv l hl p hp ws hw hr _ e hel h (2 * l.length) 0 (by omega) (by omega)
theorem Yn (a : Int) (l : List (List Int)) (h : atJ a l = true) (p : Int) (hp : 2 ≤ p ∧ p ≤ 10007) (ws : List Int) (hw : ws.length = 2 * l.length) (hr : ∀ j : Nat, j < ws.length → 0 ≤ rd ws (j : Int) ∧ rd ws (j : Int) < p) :
  Ev (fun k=>gF.f k a l ws) (as7 (2 * l.length) (wM l ws (2 * l.length) 0)):=by
 have hl:=nI h
 unfold gF.f
 refine Ev.bind (aii a l hl (avL h)) ?_
 rw [Ot,kM (h:=wM l ws 0 0) (f:=eA l) (fun i j _ _=>by unfold wM;rw [if_neg (by omega)])]
 exact aiu l hl p hp ws hw hr (2 * l.length) 0 (by omega) (by omega)
def xp (p a:Int) (l:List (List Int)) (ws:List Int):List Int × Int:=if kN p a l ws=0 then (eU (bO (2 * l.length+1) (fun m=>aM (2 * l.length) (wM l ws (2 * l.length) 0) m % p)) (2 * l.length+1),0) else ([],kN p a l ws)
theorem PV (p a:Int) (l:List (List Int)) (ws:List Int) (hl:l.length≤maxLen):Ev (fun k=>uf.f k p a l ws) (xp p a l ws):=by
 unfold uf.f xp
 refine Ev.bind (ali p a l ws hl) ?_
 by_cases h:kN p a l ws=0
 ·obtain ⟨hg, hp, hw, hr⟩ := Br h
  obtain ⟨q,rfl,h2,h3,hq⟩:=rI hp
  have oB:=nI hg
  simp only [h,if_true]
  refine Ev.bind (ZS a l hg q ⟨by omega,by omega⟩ ws hw (fun j hj=>Dc hr j hj)) ?_
  refine Ev.bind (ae' q hq h2 (by omega) (2 * l.length) (by omega) _) ?_
  exact Ev.now _
 ·simp only [h, if_false]
  exact Ev.now _
theorem akn (p a:Int) (l:List (List Int)) (ws:List Int) (hl:l.length≤maxLen):Ev (fun k=>BF.f k p a l ws) (xp p a l ws):=by
 unfold BF.f xp
 refine Ev.bind (PY p a l ws hl) ?_
 by_cases h:kN p a l ws=0
 ·obtain ⟨hg, hp, hw, hr⟩ := Br h
  obtain ⟨q,rfl,h2,h3,hq⟩:=rI hp
  have oB:=nI hg
  simp only [h,if_true]
  refine Ev.bind (Yn a l hg q ⟨by omega,by omega⟩ ws hw (fun j hj=>Dc hr j hj)) ?_
  refine Ev.bind (air q (by omega) (by omega) (2 * l.length) (by omega) _ (fun i j hi hj=>?_)) ?_
  ·have hx := Dc hr j (by omega)
   have h1:=afp l i j
   unfold wM
   split
   ·exact Lz l i j hx
   ·omega
  ·exact Ev.now _
 ·simp only [h, if_false]
  exact Ev.now _
theorem ac9 (X:Int):0≤Go.bits .and .u64 X 1073741823∧Go.bits .and .u64 X 1073741823≤1073741823:=by
 have h:(BitVec.ofInt 64 X &&& BitVec.ofInt 64 1073741823).toNat≤1073741823:=by
  rw [BitVec.toNat_and]
  exact Nat.and_le_right
 have e:Go.bits .and .u64 X 1073741823=IntKind.u64.wrap ((BitVec.ofInt 64 X &&& BitVec.ofInt 64 1073741823).toNat:Int):=rfl
 rw [e,IntKind.wrap_u64]
 omega
/-- What the code of a draw holds: bytes. -/
def lZ (s:List Int):Prop:=s.length≤maxLen∧∀ x ∈ s,0≤x∧x≤255
theorem lJ {s:List Int} (hs:lZ s) (t h n:Int) (ht:0≤t∧t≤s.length):∃ x t' h',cw.f s t h n=some (x,t',h')∧(0≤t'∧t'≤s.length)∧(n < 1→x=0)∧(1≤n→0≤x∧x < n):=by
 have hm:s.length≤9223372036854775807:=hs.1
 unfold cw.f
 by_cases h1:n < 1
 ·rw [if_pos h1]
  exact ⟨0,t,h,rfl,ht,fun _=>rfl,fun h2=>by omega⟩
 ·rw [if_neg h1]
  generalize (IntKind.u64.wrap ((IntKind.u64.wrap (h * 6364136223846793005))+1442695040888963407))=h'
  obtain ⟨a0,a1⟩:=ac9 (h' / 2147483648)
  generalize Go.bits .and .u64 (h' / 2147483648) 1073741823=y at a0 a1 ⊢
  rw [fE (n:=y) (by omega) (by omega)]
  by_cases h2:t < (s.length:Int)
  ·obtain ⟨i, rfl⟩ : ∃ i : Nat, t = i := ⟨t.toNat, by omega⟩
   have hi:i < s.length:=by omega
   have hb:=hs.2 s[i] (List.getElem_mem hi)
   rw [if_pos h2,if_pos ht.1,if_neg (by omega),pS s i hi,fE (n:=s[i]) (by omega) (by omega),fE (n:=y+s[i]) (by omega) (by omega),fE (n:=(i:Int)+1) (by omega) (by omega),oR (by omega)]
   exact ⟨_,_,_,rfl,⟨by omega,by omega⟩,fun h3=>absurd h3 h1,fun h3=>⟨Int.emod_nonneg _ (by omega),Int.emod_lt_of_pos _ (by omega)⟩⟩
  ·rw [if_neg h2, if_neg (by omega), oR a0]
   exact ⟨_,_,_,rfl,ht,fun h3=>absurd h3 h1,fun h3=>⟨Int.emod_nonneg _ (by omega),Int.emod_lt_of_pos _ (by omega)⟩⟩
theorem yj {s:List Int} (hs:lZ s) (t h:Int) (l:List Int) (hl:0 < l.length) (ht:0≤t∧t≤s.length):∃ x t' h',gD.f s t h l=some (x,t',h')∧(0≤t'∧t'≤s.length)∧x ∈ l:=by
 obtain ⟨x,t',h',e,h1,_,h2⟩:=lJ hs t h (l.length:Int) ht
 have h2:=h2 (by omega)
 obtain ⟨i,rfl⟩:∃ i:Nat,x=i:=⟨x.toNat,by omega⟩
 unfold gD.f
 rw [e,Option.bind_some]
 simp only [h2.1,h2.2,if_true]
 refine ⟨_,_,_,rfl,h1,?_⟩
 rw [pS l i (by omega)]
 exact List.getElem_mem _
/-- A drawn graph: few edges, short rows. -/
def pE (m r:Nat) (l:List (List Int)):Prop:=l.length≤m∧∀ x ∈ l,x.length≤r
theorem J0 {m r:Nat} {l:List (List Int)} (h:pE m r l) (hl:l.length < m) (x:List Int) (hx:x.length≤r):pE m r (l ++ [x]) :=
 ⟨by rw [List.length_append];show _+1≤_;omega,fun y hy=>by
  rcases List.mem_append.1 hy with hy|hy
  ·exact h.2 y hy
  ·rw [List.mem_singleton.1 hy];exact hx⟩
theorem afj {l:List (List Int)} (h:pE 11 3 l):l.length≤1048576∧∀ x ∈ l,x.length≤1048576:=⟨Nat.le_trans h.1 (by decide),fun x hx=>Nat.le_trans (h.2 x hx) (by decide)⟩
theorem afi {l:List (List Int)} (h:pE 10 2 l):pE 11 3 l:=⟨Nat.le_trans h.1 (by decide),fun x hx=>Nat.le_trans (h.2 x hx) (by decide)⟩
/-- What a draw of a graph answers. -/
def kR (m r:Nat) (s:List Int) (f:Nat→Option (Int × (List (List Int)) × Int × Int)):Prop:=∃ (a:Int) (l:List (List Int)) (t h:Int),Ev f (a,l,t,h)∧pE m r l∧0≤t∧t≤s.length
theorem kR.nM {m r:Nat} {s:List Int} {g f:Nat→Option (Int × (List (List Int)) × Int × Int)} (h:∀ k,g (k+1)=f k) (H:kR m r s f):kR m r s g:=by
 obtain ⟨a,l,t,h',e,r⟩:=H
 exact ⟨a,l,t,h',Ev.step h e,r⟩
theorem U0 {s:List Int} (hs:lZ s) (size lD:Int) (h1:1≤size∧size≤8) (he:0≤lD∧lD≤10) (a:Int):∀ (d:Nat) (c t h:Int) (l:List (List Int)),c≤d→0≤c→c≤10→pE 10 2 l→l.length≤10→0≤t∧t≤s.length→kR 10 2 s (fun k=>dc.l1 k size lD c s t h a l):=by
 intro d
 induction d with
 | zero =>
  intro c t h l hc hc0 _ hl oB ht
  refine kR.nM (fun k=>by simp only [dc.l1];rfl) ?_
  simp only [show ¬ (c > 0) by omega,if_false]
  refine kR.nM (fun k=>by simp only [dc.j3];rfl) ?_
  simp only [Bool.false_eq_true,if_false]
  exact ⟨a,l,t,h,Ev.now _,hl,ht⟩
 | succ d ih =>
  intro c t h l hc hc0 ao2 hl oB ht
  have stop:kR 10 2 s (fun k=>dc.j3 k size lD c false s t h a l):=by
   refine kR.nM (fun k=>by simp only [dc.j3];rfl) ?_
   simp only [Bool.false_eq_true,if_false]
   exact ⟨a,l,t,h,Ev.now _,hl,ht⟩
  refine kR.nM (fun k=>by simp only [dc.l1];rfl) ?_
  by_cases iQ:c > 0
  ·simp only [iQ, if_true]
   by_cases hb:(l.length:Int) < lD
   ·simp only [hb, decide_true]
    refine kR.nM (fun k=>by simp only [dc.j3];rfl) ?_
    obtain ⟨x,t1,g1,e1,b1,_,r1⟩:=lJ hs t h size ht
    obtain ⟨y,t2,g2,e2,b2,_,r2⟩:=lJ hs t1 g1 size b1
    have hcap:l.length < 5864062014805:=by omega
    have cont:∀ (z:List Int) (t' h':Int),z.length≤2→0≤t'∧t'≤s.length→kR 10 2 s (fun k=>dc.l1 k size lD (c - 1) s t' h' a (l ++ [z])):=fun z t' h' hz ht' =>
     ih (c - 1) t' h' (l ++ [z]) (by omega) (by omega) (by omega) (J0 hl (by omega) z hz) (by rw [List.length_append];show l.length+1≤10;omega) ht'
    simp only [e1,e2,Option.bind_some,hcap,if_true,wI (c - 1) (by omega)]
    by_cases hxy:x=y
    ·obtain ⟨q, t3, g3, e3, b3, _, r3⟩ := lJ hs t2 g2 3 b2
     simp only [hxy,if_true,e3,Option.bind_some]
     by_cases hq:q > 0
     ·simp only [hq, if_true, show ¬ (size = 0) by omega, if_false]
      exact cont _ _ _ (by simp) b3
     ·simp only [hq, if_false]
      exact cont _ _ _ (by simp) b3
    ·simp only [hxy, if_false]
     exact cont _ _ _ (by simp) b2
   ·simp only [hb, decide_false]
    exact stop
  ·simp only [iQ, if_false]
   exact stop
theorem afl {s:List Int} (hs:lZ s) (size lD:Int) (h1:1≤size∧size≤8) (he:0≤lD∧lD≤10) (j:Bool) (a:Int):∀ (d:Nat) (v t h:Int) (l:List (List Int)),size - v≤d→1≤v→v≤9→pE 10 2 l→l.length≤10→0≤t∧t≤s.length→kR 10 2 s (fun k=>dc.l0 k size lD j v s t h a l):=by
 intro d
 induction d with
 | zero =>
  intro v t h l hv PG hv9 hl oB ht
  refine kR.nM (fun k=>by simp only [dc.l0];rfl) ?_
  simp only [show ¬ (v < size) by omega,if_false]
  refine kR.nM (fun k=>by simp only [dc.j1];rfl) ?_
  obtain ⟨x,t1,g1,e1,b1,z1,r1⟩:=lJ hs t h (lD+1) ht
  simp only [Bool.false_eq_true,if_false,wI (lD+1) (by omega),e1,Option.bind_some]
  have hx:=r1 (by omega)
  exact U0 hs size lD h1 he a 10 x t1 g1 l (by omega) (by omega) (by omega) hl oB b1
 | succ d ih =>
  intro v t h l hv PG hv9 hl oB ht
  have stop:kR 10 2 s (fun k=>dc.j1 k size lD j v false s t h a l):=by
   refine kR.nM (fun k=>by simp only [dc.j1];rfl) ?_
   obtain ⟨x,t1,g1,e1,b1,z1,r1⟩:=lJ hs t h (lD+1) ht
   simp only [Bool.false_eq_true,if_false,wI (lD+1) (by omega),e1,Option.bind_some]
   have hx:=r1 (by omega)
   exact U0 hs size lD h1 he a 10 x t1 g1 l (by omega) (by omega) (by omega) hl oB b1
  refine kR.nM (fun k=>by simp only [dc.l0];rfl) ?_
  by_cases hc:v < size
  ·simp only [hc, if_true]
   cases j with
   | false=>simp only [Bool.false_eq_true,if_false];exact stop
   | true =>
    simp only [if_true]
    by_cases hb:(l.length:Int) < lD
    ·simp only [hb, decide_true]
     refine kR.nM (fun k=>by simp only [dc.j1];rfl) ?_
     obtain ⟨x,t1,g1,e1,b1,_,r1⟩:=lJ hs t h v ht
     obtain ⟨y,t2,g2,e2,b2,_,r2⟩:=lJ hs t1 g1 2 b1
     have hcap:l.length < 5864062014805:=by omega
     have cont:∀ (z:List Int),z.length≤2→kR 10 2 s (fun k=>dc.l0 k size lD true (v+1) s t2 g2 a (l ++ [z])):=fun z hz =>
      ih (v+1) t2 g2 (l ++ [z]) (by omega) (by omega) (by omega) (J0 hl (by omega) z hz) (by rw [List.length_append];show l.length+1≤10;omega) b2
     simp only [e1,e2,Option.bind_some,hcap,if_true,wI (v+1) (by omega)]
     by_cases hy:y=0
     ·simp only [hy,if_true];exact cont _ (by simp)
     ·simp only [hy,if_false];exact cont _ (by simp)
    ·simp only [hb,decide_false];exact stop
  ·simp only [hc,if_false];exact stop
theorem afk {s:List Int} (hs:lZ s) (size lD t h:Int) (h1:1≤size∧size≤8) (he:0≤lD∧lD≤10) (ht:0≤t∧t≤s.length):kR 10 2 s (fun k=>dc.f k s t h size lD):=by
 obtain ⟨x,t1,g1,e1,b1,_,_⟩:=lJ hs t h 3 ht
 unfold dc.f
 simp only [e1,Option.bind_some]
 exact afl hs size lD h1 he _ size 8 1 t1 g1 [] (by omega) (by omega) (by omega) ⟨by simp,fun x hx=>by cases hx⟩ (by simp) b1
def Ib:List ByteArray:=(BD.f).getD []
theorem aji:BD.f=some Ib:=rfl
theorem ajj:Ib.length=14:=by kernel_rfl
theorem ajg:((List.range 14).all fun i:Nat=>match sN.f 64 (atF ByteArray.empty Ib (i:Int)) with|some r=>decide (r.2.1.length≤10) && r.2.1.all (fun x=>decide (x.length≤2))|none=>false)=true:=by kernel_rfl
theorem ajh (i:Nat) (hi:i < 14):∃ (a:Int) (l:List (List Int)) (b:Bool),Ev (fun k=>sN.f k (atF ByteArray.empty Ib (i:Int))) (a,l,b)∧pE 10 2 l:=by
 have h:=List.all_eq_true.1 ajg i (List.mem_range.2 hi)
 cases e:sN.f 64 (atF ByteArray.empty Ib (i:Int)) with
 | none=>rw [e] at h;cases h
 | some r =>
  rw [e] at h
  simp only [Bool.and_eq_true,decide_eq_true_eq,List.all_eq_true] at h
  exact ⟨r.1,r.2.1,r.2.2,Ev.of (fun k=>sN.mono _ k) e,⟨h.1,h.2⟩⟩
theorem afo {s:List Int} (hs:lZ s) (t h:Int) (ht:0≤t∧t≤s.length):∃ (a:Int) (l:List (List Int)) (t' h':Int),Ev (fun k=>BM.f k s t h) (a,l,t',h')∧pE 10 2 l∧0≤t'∧t'≤s.length:=by
 obtain ⟨x,t1,g1,e1,b1,_,_⟩:=lJ hs t h 4 ht
 unfold BM.f
 by_cases hx:x=0
 ·obtain ⟨i, t2, g2, e2, b2, _, r2⟩ := lJ hs t1 g1 14 b1
  have r2:=r2 (by omega)
  obtain ⟨q,rfl⟩:∃ q:Nat,i=q:=⟨i.toNat,by omega⟩
  obtain ⟨a,l,b,en,hl⟩:=ajh q (by omega)
  refine ⟨a,l,t2,g2,?_,hl,b2⟩
  simp only [e1,Option.bind_some,hx,if_true,aji,ajj,show ((14:Nat):Int)=14 from rfl,e2,r2.1,r2.2]
  exact Ev.bind en (Ev.now _)
 ·obtain ⟨y, t2, g2, e2, b2, _, r2⟩ := lJ hs t1 g1 8 b1
  have r2:=r2 (by omega)
  have hw:wrap64 (1+y)=1+y:=fE (by omega) (by omega)
  obtain ⟨z,t3,g3,e3,b3,r3⟩:=yj hs t2 g2 [1,2,3,3,4,4,5,6,wrap64 (1+y)] (by simp) b2
  obtain ⟨m,t4,g4,e4,b4,r4⟩:=yj hs t3 g3 [2,4,6,6,8,10] (by simp) b3
  have hz:1≤z∧z≤8:=by
   rw [hw] at r3
   simp only [List.mem_cons,List.not_mem_nil,or_false] at r3
   omega
  have hm:0≤m∧m≤10:=by
   simp only [List.mem_cons,List.not_mem_nil,or_false] at r4
   omega
  obtain ⟨a,l,t5,g5,ed,hl,b5⟩:=afk hs z m t4 g4 hz hm b4
  refine ⟨a,l,t5,g5,?_,hl,b5⟩
  simp only [e1,Option.bind_some,hx,if_false,e2,e3,e4]
  exact Ev.bind ed (Ev.now _)
theorem adf (s:List Int) (t h a:Int) (ht:0≤t∧t≤s.length):∀ (d:Nat) (l:List (List Int)),11 - l.length≤d→pE 11 3 l→kR 11 3 s (fun k=>atU.l0 k s t h a l):=by
 intro d
 induction d with
 | zero =>
  intro l hd hl
  refine kR.nM (fun k=>by simp only [atU.l0];rfl) ?_
  simp only [show ¬ ((l.length:Int)≤10) by omega,if_false]
  exact ⟨a,l,t,h,Ev.now _,hl,ht⟩
 | succ d ih =>
  intro l hd hl
  refine kR.nM (fun k=>by simp only [atU.l0];rfl) ?_
  by_cases hc:(l.length:Int)≤10
  ·simp only [hc, if_true, show l.length < 5864062014805 by omega]
   exact ih _ (by rw [List.length_append];show 11 - (l.length+1)≤d;omega) (J0 hl (by omega) _ (by simp))
  ·simp only [hc, if_false]
   exact ⟨a,l,t,h,Ev.now _,hl,ht⟩
theorem ade {s:List Int} (hs:lZ s) (t h a:Int) (l:List (List Int)) (hl:pE 10 2 l) (ht:0≤t∧t≤s.length):kR 11 3 s (fun k=>atU.f k s t h a l):=by
 have hd:pE 11 3 l:=afi hl
 have tD:=hl.1
 obtain ⟨x,t1,g1,e1,b1,_,r1⟩:=lJ hs t h 40 ht
 obtain ⟨c1,c2⟩:=afj hd
 unfold atU.f
 simp only [e1,Option.bind_some]
 by_cases h0:x=0
 ·obtain ⟨z, t2, g2, e2, b2, _⟩ := yj hs t1 g1 [0, 9, wrap64 (a - 1)] (by simp) b1
  simp only [h0,if_true,e2,Option.bind_some]
  exact ⟨_,_,_,_,Ev.now _,hd,b2⟩
 ·simp only [h0, if_false]
  by_cases h1:x=1
  ·simp only [h1, if_true]
   refine ⟨a,l ++ [[0,a]],t1,g1,Ev.bind (KM a l c1 c2) ?_,J0 hd (by omega) _ (by simp),b1⟩
   simp only [show l.length < 5864062014805 by omega,if_true]
   exact Ev.now _
  ·simp only [h1, if_false]
   by_cases h2:x=2
   ·simp only [h2, if_true]
    by_cases hn:(l.length:Int) > 0
    ·obtain ⟨i, t2, g2, e2, b2, _, r2⟩ := lJ hs t1 g1 (l.length : Int) b1
     have r2:=r2 (by omega)
     obtain ⟨q,rfl⟩:∃ q:Nat,i=q:=⟨i.toNat,by omega⟩
     have hq:q < l.length:=by omega
     have hx:=hl.2 l[q] (List.getElem_mem hq)
     refine ⟨a,l.set q (ai l (q:Int) ++ [0]),t2,g2,Ev.bind (KM a l c1 c2) ?_,⟨by rw [List.length_set];omega,fun y hy=>?_⟩,b2⟩
     ·simp only [hn, if_true, e2, Option.bind_some, r2.1, r2.2, show (ai l (q : Int)).length < 17592186044416 by rw [ym l q hq]; omega, Int.toNat_natCast]
      exact Ev.now _
     ·rcases List.mem_or_eq_of_mem_set hy with hy | hy
      ·exact hd.2 y hy
      ·rw [hy,List.length_append,ym l q hq];show _+1≤3;omega
    ·refine ⟨a, l, t1, g1, Ev.bind (KM a l c1 c2) ?_, hd, b1⟩
     simp only [hn,if_false]
     exact Ev.now _
   ·simp only [h2, if_false]
    by_cases h3:x=3
    ·simp only [h3, if_true]
     obtain ⟨a',l',t2,g2,e2,hl',b2⟩:=adf s t1 g1 a b1 11 l (by omega) hd
     exact ⟨a',l',t2,g2,Ev.bind (KM a l c1 c2) e2,hl',b2⟩
    ·simp only [h3, if_false]
     exact ⟨a,l,t1,g1,Ev.now _,hd,b1⟩
theorem afG (s z:List Int):∀ (d i:Nat) (t h:Int),s.length - i=d→i≤s.length→s.length≤maxLen→∃ h',Ev (fun k=>je.l0 k s i z t h) (z,t,h'):=by
 intro d
 induction d with
 | zero =>
  intro i t h hd hi _
  refine ⟨h,Ev.step (fun k=>by simp only [je.l0];rfl) ?_⟩
  simp only [show ¬ ((i:Int) < (s.length:Int)) by omega,if_false]
  exact Ev.now _
 | succ d ih =>
  intro i t h hd hi hm
  by_cases h4:(i:Int) < 4096
  ·obtain ⟨h', e⟩ := ih (i + 1) t (IntKind.u64.wrap ((IntKind.u64.wrap ((IntKind.u64.wrap (h * 1099511628211)) + (IntKind.u64.wrap (rd s (i : Int))))) + 109)) (by omega) (by omega) hm
   refine ⟨h',Ev.step (fun k=>by simp only [je.l0];rfl) ?_⟩
   rw [show ((i+1:Nat):Int)=(i:Int)+1 by omega] at e
   simp only [show ((i:Int) < (s.length:Int)) by omega,if_true,h4,cv i,wI ((i:Int)+1) (by omega)]
   exact e
  ·refine ⟨h, Ev.step (fun k => by simp only [je.l0]; rfl) ?_⟩
   simp only [show ((i:Int) < (s.length:Int)) by omega,if_true,h4,if_false]
   exact Ev.now _
theorem J4 {s:List Int} (hs:lZ s):∃ h,Ev (fun k=>je.f k s) (s,0,h):=by
 unfold je.f
 exact afG s s s.length 0 0 _ (by omega) (by omega) hs.1
theorem Zg {s:List Int} (hs:lZ s) (t h:Int) (ht:0≤t∧t≤s.length):kR 11 3 s (fun k=>zU.f k s t h):=by
 obtain ⟨a,l,t1,h1,e1,d1,b1⟩:=afo hs t h ht
 obtain ⟨a2,l2,t2,h2,e2,d2,b2⟩:=ade hs t1 h1 a l d1 b1
 exact ⟨a2,l2,t2,h2,Ev.bind e1 (Ev.bind e2 (Ev.now _)),d2,b2⟩
theorem ai' (l:List Int) (hl:l.length≤1048576):∀ (d i:Nat),l.length - i=d→i≤l.length→Ev (fun k=>F9.l0 k l l i) true:=by
 intro d
 induction d with
 | zero =>
  intro i hd hi
  refine Ev.step (fun k=>by simp only [F9.l0];rfl) ?_
  simp only [show ¬ ((i:Int) < (l.length:Int)) by omega,if_false]
  exact Ev.now _
 | succ d ih =>
  intro i hd hi
  refine Ev.step (fun k=>by simp only [F9.l0];rfl) ?_
  simp only [show ((i:Int) < (l.length:Int)) by omega,cv i,if_true,wI ((i:Int)+1) (by omega)]
  exact ih (i+1) (by omega) (by omega)
theorem K0 (l:List Int) (hl:l.length≤1048576):Ev (fun k=>F9.f k l l) true:=by
 unfold F9.f
 simp only [if_true]
 exact ai' l hl l.length 0 (by omega) (by omega)
theorem adF {s:List Int} (hm:s.length≤maxLen) (hb:∀ x ∈ s,(Lit.int .u8 x).wf=true):lZ s:=⟨hm,fun x hx=>by
 have h:=hb x hx
 simp [Lit.wf,IntKind.min,IntKind.max,IntKind.signed,IntKind.bits] at h
 omega⟩
theorem ae5 {n:Nat} {X H:Nat→Nat→Int} (h:∀ a b,a < n→b < n→X a b=H a b) (k:Nat):aM n X k=aM n H k :=
 On (fun u=>at' fun a b ha hb=>by unfold ez;rw [h a b ha hb]) k
theorem ajm {s:List Int} (hs:lZ s) (t h a:Int) (ht:0≤t∧t≤s.length):∃ x t' h',BJ.f s t h a=some (x,t',h')∧(0≤t'∧t'≤s.length):=by
 unfold BJ.f
 obtain ⟨x,t1,h1,e1,r1,_⟩:=lJ hs t h 14 ht
 rw [e1,Option.bind_some]
 by_cases hx:x=0
 ·obtain ⟨y, t2, h2, e2, r2, _⟩ := yj hs t1 h1 [(-1), wrap64 (a + 1), 1099511627776, (-4611686018427387904)] (by simp) r1
  simp only [hx,if_true,e2,Option.bind_some]
  exact ⟨_,_,_,rfl,r2⟩
 ·obtain ⟨y, t2, h2, e2, r2, _⟩ := lJ hs t1 h1 (wrap64 (a + 1)) r1
  simp only [hx,if_false,e2,Option.bind_some]
  exact ⟨_,_,_,rfl,r2⟩
theorem aiE {n:Nat}:∀ (P Q:Nat→Nat→Int),dz n P Q n=aW n Q:=by
 induction n with
 | zero=>intro P Q;rfl
 | succ n ih =>
  intro P Q
  rw [ET,pN]
  refine cN fun i _=>?_
  rw [oJ _ _ (n+1) (by omega)]
  show ja i * (P i 0 * 0+Q i 0 * dz n _ _ n)=_
  rw [ih];grind
theorem aiS (n:Nat) (A:Nat→Nat→Int):∀ (d k i:Nat),k < n→i < n→ld n A (aM n A) (n+1+d) k i=0:=by
 intro d
 induction d with
 | zero =>
  intro k i hk hi
  rw [Nat.add_zero,← P1 n A n (Nat.le_refl _) k i hk hi]
  unfold lH
  rw [aiE]
  exact Yw _ i hi (fun b _=>by unfold as6 mL;simp)
 | succ d ih =>
  intro k i hk hi
  show au n (fun j=>A k j * ld n A (aM n A) (n+1+d) j i)+(if k=i then aM n A (n+1+d) else 0)=0
  rw [mb (fun j hj=>by rw [ih j i hj hi];simp),show aM n A (n+1+d)=0 from oJ _ _ _ (by omega)]
  split<;>rfl
theorem aiW (n:Nat) (A:Nat→Nat→Int) (m:Nat):((m+1:Nat):Int) * aM n A (m+1)=- au n (fun i=>au n (fun j=>A i j * ld n A (aM n A) (m+1) j i)):=by
 by_cases hm:m < n
 ·exact Yq n A m hm
 ·obtain ⟨d, rfl⟩ : ∃ d, m = n + d := ⟨m - n, by omega⟩
  rw [show aM n A (n+d+1)=0 from oJ _ _ _ (by omega),mb (fun i hi=>mb (fun j hj=>by rw [show n+d+1=n+1+d by omega,aiS n A d j i hj hi];simp))]
  simp
/-- The powers of a matrix. -/
def mh (n : Nat) (A : Nat → Nat → Int) : Nat → Nat → Nat → Int
 | 0=>fun i j=>as_ i j
 | k+1=>fun i j=>au n (fun t=>mh n A k i t * A t j)
theorem YK (n:Nat) (A:Nat→Nat→Int) (k:Nat):∀ i j,i < n→j < n→au n (fun t=>A i t * mh n A k t j)=mh n A (k+1) i j:=by
 induction k with
 | zero =>
  intro i j hi hj
  show au n (fun t=>A i t * as_ t j)=au n (fun t=>as_ i t * A t j)
  rw [cN (g:=fun t=>A i t * as_ j t) (fun t _=>by rw [aiR]),CW (fun t=>A i t) j hj,cN (g:=fun t=>A t j * as_ i t) (fun t _=>by grind),CW (fun t=>A t j) i hi]
 | succ k ih =>
  intro i j hi hj
  show au n (fun t=>A i t * au n (fun s=>mh n A k t s * A s j))=au n (fun s=>mh n A (k+1) i s * A s j)
  rw [cN (g:=fun t=>au n (fun s=>A i t * (mh n A k t s * A s j))) (fun t _=>(atE n _ _).symm),yf]
  refine cN fun s hs=>?_
  rw [← ih i s hi hs,show au n (fun t=>A i t * mh n A k t s) * A s j=A s j * au n (fun t=>A i t * mh n A k t s) by grind,← atE]
  exact cN fun t _=>by grind
theorem afF (n:Nat) (A:Nat→Nat→Int) (c:Nat→Int) (m:Nat):∀ i j,i < n→j < n→ld n A c (m+1) i j=au (m+1) (fun l=>c l * mh n A (m - l) i j):=by
 induction m with
 | zero =>
  intro i j hi hj
  show au n (fun t=>A i t * 0)+(if i=j then c 0 else 0)=au 1 (fun l=>c l * mh n A (0 - l) i j)
  rw [mb (fun _ _=>by simp)]
  simp only [au]
  rw [show mh n A (0 - 0) i j=as_ i j from rfl,KU]
  split<;>simp
 | succ m ih =>
  intro i j hi hj
  show au n (fun t=>A i t * ld n A c (m+1) t j)+(if i=j then c (m+1) else 0)=au (m+1) (fun l=>c l * mh n A (m+1 - l) i j)+c (m+1) * mh n A (m+1 - (m+1)) i j
  rw [Nat.sub_self,show mh n A 0 i j=as_ i j from rfl,KU]
  have e:au n (fun t=>A i t * ld n A c (m+1) t j)=au (m+1) (fun l=>c l * mh n A (m+1 - l) i j):=by
   rw [cN (g:=fun t=>au (m+1) (fun l=>A i t * (c l * mh n A (m - l) t j))) (fun t ht=>by rw [ih t j ht hj,atE]),yf]
   refine cN fun l hl=>?_
   rw [show m+1 - l=(m - l)+1 by omega,← YK n A (m - l) i j hi hj,← atE]
   exact cN fun t _=>by grind
  rw [e]
  split<;>simp
def uT (n:Nat) (A:Nat→Nat→Int) (k:Nat):Int:=au n (fun i=>mh n A k i i)
/-- Newton's rule. -/
theorem aiY (n:Nat) (A:Nat→Nat→Int) (m:Nat):((m+1:Nat):Int) * aM n A (m+1)+au (m+1) (fun l=>aM n A l * uT n A (m+1 - l))=0:=by
 rw [aiW]
 have e:au n (fun i=>au n (fun j=>A i j * ld n A (aM n A) (m+1) j i))=au (m+1) (fun l=>aM n A l * uT n A (m+1 - l)):=by
  rw [cN (g:=fun i=>au (m+1) (fun l=>aM n A l * mh n A (m+1 - l) i i)) (fun i hi=>?_),yf]
  ·refine cN fun l _ => ?_
   unfold uT
   rw [← atE]
  ·rw [cN (g := fun j => au (m + 1) (fun l => A i j * (aM n A l * mh n A (m - l) j i))) (fun j hj => by rw [afF n A _ m j i hj hi, atE]), yf]
   refine cN fun l hl=>?_
   rw [show m+1 - l=(m - l)+1 by omega,← YK n A (m - l) i i hi hi,← atE]
   exact cN fun j _=>by grind
 rw [e]
 omega
theorem ai2 (n:Nat):∀ (f:Nat→Int),au n f=au n (fun t=>f (n - 1 - t)):=by
 induction n with
 | zero=>intro f;rfl
 | succ n ih =>
  intro f
  rw [zi n (fun t=>f (n+1 - 1 - t))]
  show au n f+f n=f (n+1 - 1 - 0)+au n (fun i=>f (n+1 - 1 - (i+1)))
  rw [ih f,show n+1 - 1 - 0=n by omega,cN (g:=fun i=>f (n+1 - 1 - (i+1))) (fun t ht=>by rw [show n - 1 - t=n+1 - 1 - (t+1) by omega])]
  omega
theorem aiX (n:Nat) (A:Nat→Nat→Int) (m:Nat) (hm:1≤m):(m:Int) * aM n A m+au m (fun t=>aM n A (m - 1 - t) * uT n A (t+1))=0:=by
 obtain ⟨q,rfl⟩:∃ q,m=q+1:=⟨m - 1,by omega⟩
 have h:=aiY n A q
 rw [ai2] at h
 rw [cN (g:=fun t=>aM n A (q+1 - 1 - t) * uT n A (q+1 - (q+1 - 1 - t))) (fun t ht=>by rw [show q+1 - (q+1 - 1 - t)=t+1 by omega])]
 exact h
def zm (n:Nat) (f g:Nat→Nat→Int) (i:Nat):List (List Int):=(List.range i).map fun r=>bO n (fun c=>gy f g r n c)
theorem ajI (n:Nat) (f g:Nat→Nat→Int) (i:Nat):(zm n f g i).length=i:=by simp [zm]
theorem ajJ (n:Nat) (f g:Nat→Nat→Int) (i:Nat):zm n f g i ++ [bO n (fun c=>gy f g i n c)]=zm n f g (i+1):=by
 unfold zm
 rw [List.range_succ,List.map_append]
 rfl
theorem aio (n : Nat) (hn : n ≤ 1048576) (f g : Nat → Nat → Int) (i t : Nat) (hi : i < n) (ht : t < n) (hf : f i t ≠ 0) (O R : List (List Int))
  (next:Ev (fun q=>eG.l1 q (as7 n f) (as7 n g) O i (bO n (fun c=>gy f g i (t+1) c)) ((t:Int)+1)) R) :
  ∀ (d j:Nat),n - j=d→j≤n→Ev (fun q=>eG.l2 q (as7 n f) (as7 n g) O i (bO n (fun c=>if c < j then gy f g i (t+1) c else gy f g i t c)) t j) R:=by
 intro d
 induction d with
 | zero =>
  intro j hd hj
  obtain rfl:j=n:=by omega
  refine Ev.step (fun q=>by simp only [eG.l2];rfl) ?_
  simp only [eM,Int.lt_irrefl,if_false,wI ((t:Int)+1) (by omega)]
  rw [nk (h:=fun c=>gy f g i (t+1) c) (fun c hc=>by rw [if_pos hc])]
  exact next
 | succ d ih =>
  intro j hd hj
  have hjn:j < n:=by omega
  have h:=ih (j+1) (by omega) (by omega)
  rw [show ((j+1:Nat):Int)=(j:Int)+1 by omega] at h
  refine Ev.step (fun q=>by simp only [eG.l2];rfl) ?_
  simp only [eM,ato,iH hi,iH ht,gz hjn,gz ht,lI j n (by omega),lI i n (by omega),lI t n (by omega),cv j,cv i,cv t,if_true,Int.toNat_natCast,wI ((j:Int)+1) (by omega),Nat.lt_irrefl,if_false]
  refine Ev.congr (fun q=>?_) h
  congr 1
  rw [yo]
  refine nk fun c hc=>?_
  by_cases h1:c=j
  ·rw [if_pos h1, h1, if_pos (by omega)]
   show _=(if f i t=0 then gy f g i t j else wrap64 (gy f g i t j+wrap64 (f i t * g t j)))
   rw [if_neg hf]
  ·rw [if_neg h1]
   by_cases h2:c < j
   ·rw [if_pos h2,if_pos (by omega)]
   ·rw [if_neg h2,if_neg (by omega)]
theorem ain (n : Nat) (hn : n ≤ 1048576) (f g : Nat → Nat → Int) (i : Nat) (hi : i < n) (R : List (List Int))
  (next:Ev (fun q=>eG.l0 q (as7 n f) (as7 n g) (zm n f g (i+1)) ((i:Int)+1)) R) :
  ∀ (d t:Nat),n - t=d→t≤n→Ev (fun q=>eG.l1 q (as7 n f) (as7 n g) (zm n f g i) i (bO n (fun c=>gy f g i t c)) t) R:=by
 intro d
 induction d with
 | zero =>
  intro t hd ht
  obtain rfl:t=n:=by omega
  refine Ev.step (fun q=>by simp only [eG.l1];rfl) ?_
  simp only [eM,Int.lt_irrefl,if_false,ajI,show i < 5864062014805 by omega,if_true,ajJ,wI ((i:Int)+1) (by omega)]
  exact next
 | succ d ih =>
  intro t hd ht
  have X0:t < n:=by omega
  have h:=ih (t+1) (by omega) (by omega)
  rw [show ((t+1:Nat):Int)=(t:Int)+1 by omega] at h
  refine Ev.step (fun q=>by simp only [eG.l1];rfl) ?_
  simp only [eM,iH hi,ato,gz X0,lI i n (by omega),lI t n (by omega),cv i,cv t,if_true,wI ((t:Int)+1) (by omega)]
  by_cases hf:f i t=0
  ·simp only [hf, if_true]
   rw [nk (h:=fun c=>gy f g i (t+1) c) (fun c hc=>by show _=(if f i t=0 then gy f g i t c else _);rw [if_pos hf])]
   exact h
  ·simp only [hf, if_false]
   have h2:=aio n hn f g i t hi X0 hf (zm n f g i) R h n 0 (by omega) (by omega)
   rw [nk (h:=fun c=>gy f g i t c) (fun c hc=>by rw [if_neg (by omega)])] at h2
   exact h2
theorem aim (n:Nat) (hn:n≤1048576) (f g:Nat→Nat→Int):∀ (d i:Nat),n - i=d→i≤n→Ev (fun q=>eG.l0 q (as7 n f) (as7 n g) (zm n f g i) i) (as7 n (fun r c=>gy f g r n c)):=by
 intro d
 induction d with
 | zero =>
  intro i hd hi
  obtain rfl:i=n:=by omega
  refine Ev.step (fun q=>by simp only [eG.l0];rfl) ?_
  simp only [eM,Int.lt_irrefl,if_false]
  exact Ev.now _
 | succ d ih =>
  intro i hd hi
  have hin:i < n:=by omega
  have h:=ih (i+1) (by omega) (by omega)
  rw [show ((i+1:Nat):Int)=(i:Int)+1 by omega] at h
  refine Ev.step (fun q=>by simp only [eG.l0];rfl) ?_
  simp only [eM,lI i n (by omega),if_true,cv n,Int.toNat_natCast,show n≤35184372088832 by omega]
  rw [show List.replicate n (0:Int)=bO n (fun c=>gy f g i 0 c) by rw [show (fun c=>gy f g i 0 c)=fun _=>(0:Int) from rfl];unfold bO;rw [List.map_const',List.length_range]]
  exact ain n hn f g i hin _ h n 0 (by omega) (by omega)
theorem ail (n:Nat) (hn:n≤1048576) (f g:Nat→Nat→Int):Ev (fun q=>eG.f q (as7 n f) (as7 n g)) (as7 n (fun r c=>gy f g r n c)):=by
 unfold eG.f
 exact aim n hn f g n 0 (by omega) (by omega)
theorem Y_ (f g : Nat → Nat → Int) (i j : Nat) : ∀ m, -9223372036854775808 ≤ gy f g i m j ∧ gy f g i m j ≤ 9223372036854775807
 | 0=>by unfold gy;omega
 | m+1=>by
  unfold gy
  split
  ·exact Y_ f g i j m
  ·exact RL _
theorem akK (h : Nat → Nat → Int) : ∀ m, -9223372036854775808 ≤ xh h m ∧ xh h m ≤ 9223372036854775807
 | 0=>by unfold xh;omega
 | m+1=>RL _
/-- Numbers by their rests, ahead of row e0's column f0. -/
def mM (p:Int) (H:Nat→Nat→Int) (e0 f0 i j:Nat):Int:=if i < e0∨i=e0∧j < f0 then H i j % p else H i j
theorem YG (n:Nat) (p:Int) (H:Nat→Nat→Int) (e f:Nat) (he:e < n):(as7 n (mM p H e f)).set e ((ai (as7 n (mM p H e f)) (e:Int)).set f (H e f % p))=as7 n (mM p H e (f+1)):=by
 rw [ZA _ _ he]
 refine kM fun i j hi hj=>?_
 unfold mM
 by_cases h1:i=e∧j=f
 ·rw [if_pos h1,h1.1,h1.2,if_pos (Or.inr ⟨rfl,by omega⟩)]
 ·rw [if_neg h1]
  by_cases h2:i < e∨i=e∧j < f
  ·rw [if_pos h2,if_pos (by omega)]
  ·rw [if_neg h2,if_neg (by omega)]
theorem YF (n:Nat) (p:Int) (H:Nat→Nat→Int) (e:Nat):as7 n (mM p H e n)=as7 n (mM p H (e+1) 0):=by
 refine kM fun i j hi hj=>?_
 unfold mM
 by_cases h:i < e∨i=e∧j < n
 ·rw [if_pos h,if_pos (by omega)]
 ·rw [if_neg h,if_neg (by omega)]
theorem YE {n:Nat} (p:Int) (H:Nat→Nat→Int) (e f:Nat) (hf:f < n):rd (bO n (mM p H e f e)) (f:Int)=H e f:=by
 rw [gz hf]
 unfold mM
 rw [if_neg (by omega)]
theorem ah7 (n : Nat) (hn : n ≤ 1048576) (p : Int) (hp : 2 ≤ p) (H : Nat → Nat → Int) (hH : ∀ i j, i < n → j < n → 0 ≤ H i j) (xr : List (List Int)) (O : List Int) (nS lg : Int) (R : List Int × Int) (e : Nat) (he : e < n)
  (next:Ev (fun k=>dD.l1 k xr O (as7 n (mM p H (e+1) 0)) nS lg n ((e:Int)+1) p) R) :
  ∀ (d f:Nat),n - f=d→f≤n→Ev (fun k=>dD.l2 k xr O (as7 n (mM p H e f)) nS lg n e n f p) R:=by
 intro d
 induction d with
 | zero =>
  intro f hd hf
  obtain rfl:f=n:=by omega
  refine Ev.step (fun k=>by simp only [dD.l2];rfl) ?_
  simp only [Int.lt_irrefl,if_false,YF,wI ((e:Int)+1) (by omega)]
  exact next
 | succ d ih =>
  intro f hd hf
  have hfl:f < n:=by omega
  refine Ev.step (fun k=>by simp only [dD.l2];rfl) ?_
  have h:=ih (f+1) (by omega) (by omega)
  rw [← YG n p H e f he,show ((f+1:Nat):Int)=(f:Int)+1 by omega] at h
  simp only [lI f n (by omega),cv f,iH he,ato,YE p H e f hfl,if_true,Int.toNat_natCast,show ¬ (p=0) by omega,if_false,oR (hH e f he hfl),wI ((f:Int)+1) (by omega)] at h ⊢
  exact h
theorem ah6 (n : Nat) (hn : n ≤ 1048576) (p : Int) (hp : 2 ≤ p) (H : Nat → Nat → Int) (hH : ∀ i j, i < n → j < n → 0 ≤ H i j) (xr : List (List Int)) (O : List Int) (nS lg : Int) (R : List Int × Int)
  (next:Ev (fun k=>dD.l0 k xr O (as7 n (fun i j=>H i j % p)) nS (wrap64 (lg+1)) p) R) :
  ∀ (d e:Nat),n - e=d→e≤n→Ev (fun k=>dD.l1 k xr O (as7 n (mM p H e 0)) nS lg n e p) R:=by
 intro d
 induction d with
 | zero =>
  intro e hd he
  obtain rfl:e=n:=by omega
  refine Ev.step (fun k=>by simp only [dD.l1];rfl) ?_
  simp only [Int.lt_irrefl,if_false]
  rw [kM (h:=fun i j=>H i j % p) (f:=mM p H e 0) (fun i j hi _=>by unfold mM;rw [if_pos (Or.inl hi)])]
  exact next
 | succ d ih =>
  intro e hd he
  have hel:e < n:=by omega
  have h:=ih (e+1) (by omega) (by omega)
  rw [show ((e+1:Nat):Int)=(e:Int)+1 by omega] at h
  refine Ev.step (fun k=>by simp only [dD.l1];rfl) ?_
  simp only [lI e n (by omega),cv e,eM,iH hel,ato,if_true]
  exact ah7 n hn p hp H hH xr O nS lg R e hel h n 0 (by omega) (by omega)
theorem aku (n : Nat) (hn : n ≤ 1048576) (p : Int) (hp : 2 ≤ p) (H : Nat → Nat → Int) (hH : ∀ i j, i < n → j < n → 0 ≤ H i j) (xr : List (List Int)) (O : List Int) (x3 : Int) (R : List Int × Int) (e : Nat) (he : e < n)
  (next:Ev (fun k=>cR.l2 k xr p x3 O (as7 n (mM p H (e+1) 0)) ((e:Int)+1)) R) :
  ∀ (d f:Nat),n - f=d→f≤n→Ev (fun k=>cR.l3 k xr p x3 O (as7 n (mM p H e f)) e f) R:=by
 intro d
 induction d with
 | zero =>
  intro f hd hf
  obtain rfl:f=n:=by omega
  refine Ev.step (fun k=>by simp only [cR.l3];rfl) ?_
  simp only [iH he,ato,Int.lt_irrefl,if_false,YF,wI ((e:Int)+1) (by omega)]
  exact next
 | succ d ih =>
  intro f hd hf
  have hfl:f < n:=by omega
  refine Ev.step (fun k=>by simp only [cR.l3];rfl) ?_
  have h:=ih (f+1) (by omega) (by omega)
  rw [← YG n p H e f he,show ((f+1:Nat):Int)=(f:Int)+1 by omega] at h
  simp only [lI f n (by omega),cv f,iH he,ato,YE p H e f hfl,if_true,Int.toNat_natCast,show ¬ (p=0) by omega,if_false,oR (hH e f he hfl),wI ((f:Int)+1) (by omega)] at h ⊢
  exact h
theorem akt (n : Nat) (hn : n ≤ 1048576) (p : Int) (hp : 2 ≤ p) (H : Nat → Nat → Int) (hH : ∀ i j, i < n → j < n → 0 ≤ H i j) (xr : List (List Int)) (O : List Int) (x3 : Int) (R : List Int × Int)
  (next:Ev (fun k=>cR.l0 k xr p (wrap64 (x3 - 1)) O (as7 n (fun i j=>H i j % p))) R) :
  ∀ (d e:Nat),n - e=d→e≤n→Ev (fun k=>cR.l2 k xr p x3 O (as7 n (mM p H e 0)) e) R:=by
 intro d
 induction d with
 | zero =>
  intro e hd he
  obtain rfl:e=n:=by omega
  refine Ev.step (fun k=>by simp only [cR.l2];rfl) ?_
  simp only [eM,Int.lt_irrefl,if_false]
  rw [kM (h:=fun i j=>H i j % p) (f:=mM p H e 0) (fun i j hi _=>by unfold mM;rw [if_pos (Or.inl hi)])]
  exact next
 | succ d ih =>
  intro e hd he
  have hel:e < n:=by omega
  have h:=ih (e+1) (by omega) (by omega)
  rw [show ((e+1:Nat):Int)=(e:Int)+1 by omega] at h
  refine Ev.step (fun k=>by simp only [cR.l2];rfl) ?_
  simp only [eM,lI e n (by omega),cv e,if_true]
  exact aku n hn p hp H hH xr O x3 R e hel h n 0 (by omega) (by omega)
/-- The powers by their rests. -/
def qm (p : Int) (n : Nat) (M : Nat → Nat → Int) : Nat → Nat → Nat → Int
 | 0=>M
 | k+1=>fun i j=>au n (fun t=>qm p n M k i t * M t j) % p
theorem ZR {p : Int} (hp : 2 ≤ p) {n : Nat} {M : Nat → Nat → Int} (hM : ∀ i j, i < n → j < n → 0 ≤ M i j ∧ M i j < p) : ∀ k i j, i < n → j < n → 0 ≤ qm p n M k i j ∧ qm p n M k i j < p
 | 0,i,j,hi,hj=>hM i j hi hj
 | k+1,i,j,hi,hj=>⟨Int.emod_nonneg _ (by omega),Int.emod_lt_of_pos _ (by omega)⟩
theorem ZQ {p : Int} {n : Nat} {M : Nat → Nat → Int} : ∀ k i j, i < n → j < n → p ∣ qm p n M k i j - mh n M (k + 1) i j
 | 0,i,j,hi,hj=>by
  show p ∣ M i j - au n (fun t=>as_ i t * M t j)
  rw [cN (g:=fun t=>M t j * as_ i t) (fun t _=>by grind),CW (fun t=>M t j) i hi,Int.sub_self]
  exact Int.dvd_zero p
 | k+1,i,j,hi,hj=>by
  have h1:p ∣ au n (fun t=>qm p n M k i t * M t j) - au n (fun t=>mh n M (k+1) i t * M t j):=H8 fun t ht=>sC (ZQ k i t hi ht) ⟨0,by omega⟩
  have h2:p ∣ au n (fun t=>qm p n M k i t * M t j) % p - au n (fun t=>qm p n M k i t * M t j):=⟨-(au n (fun t=>qm p n M k i t * M t j) / p),by have:=Int.emod_add_mul_ediv (au n (fun t=>qm p n M k i t * M t j)) p;grind⟩
  obtain ⟨u,h1⟩:=h1
  obtain ⟨v,h2⟩:=h2
  exact ⟨u+v,by show au n (fun t=>qm p n M k i t * M t j) % p - au n (fun t=>mh n M (k+1) i t * M t j)=_;rw [Int.mul_add,← h1,← h2];omega⟩
theorem alh {p:Int} {n:Nat} {M:Nat→Nat→Int} (k:Nat):au n (fun i=>qm p n M k i i) % p=uT n M (k+1) % p:=by
 have h:p ∣ au n (fun i=>qm p n M k i i) - au n (fun i=>mh n M (k+1) i i):=H8 fun i hi=>ZQ k i i hi hi
 exact (Int.emod_eq_emod_iff_emod_sub_eq_zero).2 (Int.emod_eq_zero_of_dvd h)
theorem Rd {n:Nat} {f:Nat→Int} {B:Int} (h:∀ i,i < n→0≤f i∧f i≤B):0≤au n f∧au n f≤n * B:=by
 induction n with
 | zero=>simp [au]
 | succ n ih =>
  have h1:=ih (fun i hi=>h i (by omega))
  have h2:=h n (by omega)
  have e:((n+1:Nat):Int) * B=n * B+B:=by grind
  rw [e]
  show 0≤au n f+f n∧au n f+f n≤_
  omega
theorem K7 {p x y:Int} (hp:p≤10007) (hx:0≤x∧x < p) (hy:0≤y∧y < p):0≤x * y∧x * y≤100140049 :=
 ⟨Int.mul_nonneg hx.1 hy.1,by have:=Int.mul_le_mul (show x≤10007 by omega) (show y≤10007 by omega) hy.1 (by omega);omega⟩
theorem Y0 {n:Nat} (hn:n≤20) {p:Int} (hp:p≤10007) {f g:Nat→Nat→Int} (hf:∀ i j,i < n→j < n→0≤f i j∧f i j < p) (hg:∀ i j,i < n→j < n→0≤g i j∧g i j < p):as7 n (fun r c=>gy f g r n c)=as7 n (mM p (fun i j=>au n (fun t=>f i t * g t j)) 0 0) :=
 kM fun i j hi hj=>by
  have h:=Rd (n:=n) (f:=fun t=>f i t * g t j) (fun t ht=>K7 hp (hf i t hi ht) (hg t j ht hj))
  have e:mM p (fun i j=>au n (fun t=>f i t * g t j)) 0 0 i j=au n (fun t=>f i t * g t j):=by unfold mM;rw [if_neg (by omega)]
  rw [e]
  exact Og (Q8 f g i j n) (Y_ f g i j n) ⟨by omega,by omega⟩
theorem Y1 {n:Nat} {p:Int} (hp:p≤10007) {f g:Nat→Nat→Int} (hf:∀ i j,i < n→j < n→0≤f i j∧f i j < p) (hg:∀ i j,i < n→j < n→0≤g i j∧g i j < p) (i j:Nat) (hi:i < n) (hj:j < n):0≤(fun i j=>au n (fun t=>f i t * g t j)) i j :=
 (Rd (n:=n) (f:=fun t=>f i t * g t j) (fun t ht=>K7 hp (hf i t hi ht) (hg t j ht hj))).1
theorem akL {n:Nat} (hn:n≤20) {p:Int} (hp:p≤10007) {f:Nat→Nat→Int} (hf:∀ i j,i < n→j < n→0≤f i j∧f i j < p):xh f n=au n (fun i=>f i i):=by
 have h:=Rd (n:=n) (f:=fun i=>f i i) (B:=10007) (fun t ht=>by have:=hf t t ht ht;omega)
 exact Og (Zm f n) (akK f n) ⟨by omega,by omega⟩
/-- The weighted counts. -/
def oy (p:Int) (n:Nat) (M:Nat→Nat→Int) (j:Nat):List Int:=bO j (fun t=>uT n M (t+1) % p)
theorem UM (p:Int) (n:Nat) (M:Nat→Nat→Int) (j:Nat):oy p n M j ++ [au n (fun i=>qm p n M j i i) % p]=oy p n M (j+1):=by
 unfold oy bO
 rw [alh,List.range_succ,List.map_append]
 rfl
theorem ah5 {n : Nat} (hn : n ≤ 20) {p : Int} (hp : 2 ≤ p ∧ p ≤ 10007) {M : Nat → Nat → Int} (hM : ∀ i j, i < n → j < n → 0 ≤ M i j ∧ M i j < p) (K : Nat) (hK : K ≤ 20) :
  ∀ (d j:Nat),K - j=d→j≤K→Ev (fun k=>dD.l0 k (as7 n M) (oy p n M j) (as7 n (qm p n M j)) K j p) (oy p n M K,0):=by
 intro d
 induction d with
 | zero =>
  intro j hd hj
  obtain rfl:j=K:=by omega
  refine Ev.step (fun k=>by simp only [dD.l0];rfl) ?_
  simp only [Int.lt_irrefl,if_false]
  exact Ev.now _
 | succ d ih =>
  intro j hd hj
  have h:=ih (j+1) (by omega) (by omega)
  rw [← UM] at h
  refine Ev.step (fun k=>by simp only [dD.l0];rfl) ?_
  simp only [show ((j:Int) < (K:Int)) by omega,if_true]
  have hW:=ZR hp.1 hM j
  refine Ev.bind (Zn n (by omega) (qm p n M j)) ?_
  rw [akL hn hp.2 hW]
  simp only [K1 (show 0 < p by omega) (show p≤1000000 by omega),Option.bind_some,show (oy p n M j).length=j from ato _ _,show j < 17592186044416 by omega,if_true]
  refine Ev.bind (Q6 n (by omega) (qm p n M j) M) ?_
  simp only [eM]
  rw [Y0 hn hp.2 hW hM]
  refine ah6 n (by omega) p hp.1 _ (Y1 hp.2 hW hM) (as7 n M) _ K j _ ?_ n 0 (by omega) (by omega)
  rw [wI ((j:Int)+1) (by omega),show (j:Int)+1=((j+1:Nat):Int) by omega]
  exact h
theorem aks {n : Nat} (hn : n ≤ 20) {p : Int} (hp : 2 ≤ p ∧ p ≤ 10007) {M W : Nat → Nat → Int} (hM : ∀ i j, i < n → j < n → 0 ≤ M i j ∧ M i j < p) (hW : ∀ i j, i < n → j < n → 0 ≤ W i j ∧ W i j < p) (O : List Int) (hO : O.length ≤ 20) (x3 : Int) (R : List Int × Int)
  (next:Ev (fun k=>cR.l0 k (as7 n M) p (wrap64 (x3 - 1)) (O ++ [au n (fun i=>W i i) % p]) (as7 n (fun i j=>au n (fun t=>W i t * M t j) % p))) R) :
  ∀ (d e:Nat),n - e=d→e≤n→Ev (fun k=>cR.l1 k (as7 n M) p x3 O (as7 n W) (au e (fun i=>W i i) % p) e) R:=by
 intro d
 induction d with
 | zero =>
  intro e hd he
  obtain rfl:e=n:=by omega
  refine Ev.step (fun k=>by simp only [cR.l1];rfl) ?_
  simp only [eM,Int.lt_irrefl,if_false,show O.length < 17592186044416 by omega,if_true]
  refine Ev.bind (ail e (by omega) W M) ?_
  rw [Y0 hn hp.2 hW hM]
  exact akt e (by omega) p hp.1 _ (Y1 hp.2 hW hM) (as7 e M) _ x3 _ next e 0 (by omega) (by omega)
 | succ d ih =>
  intro e hd he
  have hel:e < n:=by omega
  have h:=ih (e+1) (by omega) (by omega)
  rw [show ((e+1:Nat):Int)=(e:Int)+1 by omega] at h
  have hw:=hW e e hel hel
  have h0:=Int.emod_nonneg (au e (fun i=>W i i)) (show p ≠ 0 by omega)
  have h1:=Int.emod_lt_of_pos (au e (fun i=>W i i)) (show 0 < p by omega)
  refine Ev.step (fun k=>by simp only [cR.l1];rfl) ?_
  simp only [eM,iH hel,ato,gz hel,lI e n (by omega),cv e,if_true,show ¬ (p=0) by omega,if_false,wI ((e:Int)+1) (by omega),wI (au e (fun i=>W i i) % p+W e e) (by omega),oR (show 0≤au e (fun i=>W i i) % p+W e e by omega)]
  rw [show (au e (fun i=>W i i) % p+W e e) % p=au (e+1) (fun i=>W i i) % p by show _=(au e (fun i=>W i i)+W e e) % p;rw [Int.emod_add_emod]]
  exact h
theorem akr {n : Nat} (hn : n ≤ 20) {p : Int} (hp : 2 ≤ p ∧ p ≤ 10007) {M : Nat → Nat → Int} (hM : ∀ i j, i < n → j < n → 0 ≤ M i j ∧ M i j < p) (K : Nat) (hK : K ≤ 20) :
  ∀ (d j:Nat),K - j=d→j≤K→Ev (fun k=>cR.l0 k (as7 n M) p d (oy p n M j) (as7 n (qm p n M j))) (oy p n M K,0):=by
 intro d
 induction d with
 | zero =>
  intro j hd hj
  obtain rfl:j=K:=by omega
  refine Ev.step (fun k=>by simp only [cR.l0];rfl) ?_
  simp only [show ¬ (((0:Nat):Int) > 0) by omega,if_false]
  exact Ev.now _
 | succ d ih =>
  intro j hd hj
  have h:=ih (j+1) (by omega) (by omega)
  rw [← UM] at h
  refine Ev.step (fun k=>by simp only [cR.l0];rfl) ?_
  simp only [show (((d+1:Nat):Int) > 0) by omega,if_true]
  have h2:=aks hn hp hM (ZR hp.1 hM j) (oy p n M j) (by rw [show (oy p n M j).length=j from ato _ _];omega) ((d+1:Nat):Int) (oy p n M K,0) (by
   rw [fE (show -9223372036854775808≤((d+1:Nat):Int) - 1 by omega) (by omega),show ((d+1:Nat):Int) - 1=(d:Int) by omega]
   exact h) n 0 (by omega) (by omega)
  exact h2
def rL (p a:Int) (l:List (List Int)) (ws:List Int) (k:Int):Int:=if kN p a l ws=0 then (if 1≤k∧k≤20 then 0 else 2) else kN p a l ws
def qX (p a:Int) (l:List (List Int)) (ws:List Int) (k:Int):List Int × Int:=if rL p a l ws k=0 then (oy p (2 * l.length) (wM l ws (2 * l.length) 0) k.toNat,0) else ([],rL p a l ws k)
theorem ZO {l:List (List Int)} {ws:List Int} {p:Int} (hw:ws.length=2 * l.length) (hr:∀ j:Nat,j < ws.length→0≤rd ws (j:Int)∧rd ws (j:Int) < p) (i j:Nat) (hi:i < 2 * l.length) (hj:j < 2 * l.length):0≤wM l ws (2 * l.length) 0 i j∧wM l ws (2 * l.length) 0 i j < p:=by
 unfold wM
 rw [if_pos (Or.inl hi)]
 exact Lz l i j (hr j (by omega))
theorem alg (p a:Int) (l:List (List Int)) (ws:List Int) (k:Int) (hl:l.length≤maxLen):Ev (fun q=>zW.f q a l p a l ws k) (rL p a l ws k):=by
 unfold zW.f rL kN
 refine Ev.bind (HQ a l hl) ?_
 cases h:atJ a l with
 | false=>simp only [Bool.false_eq_true,if_false];exact Ev.now _
 | true =>
  have oB:=nI h
  simp only [if_true]
  refine Ev.bind (KJ p) ?_
  cases hp:qT 10007 p with
  | false=>simp only [Bool.false_eq_true,if_false];exact Ev.now _
  | true =>
   obtain ⟨q,rfl,h2,h3,_⟩:=rI hp
   simp only [if_true,vz.f,Option.bind_some,wI (2 * (l.length:Int)) (by omega),wI ((q:Int) - 1) (by omega),NH,IC]
   by_cases hw:(ws.length:Int)=2 * (l.length:Int)
   ·simp only [hw, decide_true, Bool.true_and, if_true]
    by_cases hr:(ws.all fun u=>decide (0≤u) && decide (u≤(q:Int) - 1))=true
    ·simp only [hr, if_true]
     by_cases hk:1≤k∧k≤20
     ·simp only [hk,and_self,decide_true,Bool.and_self,if_true];exact Ev.now _
     ·have hf:(decide (1≤k) && decide (k≤20))=false:=by
       rw [Bool.eq_false_iff]
       intro hc
       simp only [Bool.and_eq_true,decide_eq_true_eq] at hc
       exact hk hc
      simp only [hk,hf,Bool.false_eq_true,if_false];exact Ev.now _
    ·simp only [hr,if_false];exact Ev.now _
   ·simp only [hw,decide_false,Bool.false_and,Bool.false_eq_true,if_false];exact Ev.now _
theorem RJ {p a:Int} {l:List (List Int)} {ws:List Int} {k:Int} (h:rL p a l ws k=0):kN p a l ws=0∧1≤k∧k≤20:=by
 unfold rL at h
 split at h
 ·split at h
  ·exact ⟨by assumption,by omega,by omega⟩
  ·omega
 ·omega
theorem ahV (p a:Int) (l:List (List Int)) (ws:List Int) (k:Int) (hl:l.length≤maxLen):Ev (fun q=>dD.f q p a l ws k) (qX p a l ws k):=by
 unfold dD.f qX
 refine Ev.bind (alg p a l ws k hl) ?_
 by_cases h:rL p a l ws k=0
 ·obtain ⟨PN, Kh, hk2⟩ := RJ h
  obtain ⟨hg,hp,hw,hr⟩:=Br PN
  obtain ⟨q,rfl,h2,h3,hq⟩:=rI hp
  have oB:=nI hg
  obtain ⟨K,rfl⟩:∃ K:Nat,k=K:=⟨k.toNat,by omega⟩
  simp only [h,if_true,Int.toNat_natCast]
  refine Ev.bind (ZS a l hg q ⟨by omega,by omega⟩ ws hw (fun j hj=>Dc hr j hj)) ?_
  exact ah5 (by omega) ⟨by omega,h3⟩ (ZO hw (fun j hj=>Dc hr j hj)) K (by omega) K 0 (by omega) (by omega)
 ·simp only [h, if_false]
  exact Ev.now _
theorem akm (p a:Int) (l:List (List Int)) (ws:List Int) (k:Int) (hl:l.length≤maxLen):Ev (fun q=>cR.f q p a l ws k) (qX p a l ws k):=by
 unfold cR.f qX
 refine Ev.bind (PY p a l ws hl) ?_
 by_cases h:kN p a l ws=0
 ·simp only [h, if_true, CU, Option.bind_some]
  by_cases hk:1≤k∧k≤20
  ·have hc : rL p a l ws k = 0 := by unfold rL; rw [if_pos h, if_pos hk]
   simp only [hk,hc,decide_true,Bool.and_self,Bool.not_true,if_true,h]
   refine Ev.step (fun q=>by simp only [cR.j0];rfl) ?_
   simp only [Bool.false_eq_true,if_false]
   refine Ev.step (fun q=>by simp only [cR.j1];rfl) ?_
   simp only [if_true]
   obtain ⟨hg,hp,hw,hr⟩:=Br h
   obtain ⟨q,rfl,h2,h3,hq⟩:=rI hp
   have oB:=nI hg
   obtain ⟨K,rfl⟩:∃ K:Nat,k=K:=⟨k.toNat,by omega⟩
   rw [Int.toNat_natCast]
   refine Ev.bind (Yn a l hg q ⟨by omega,by omega⟩ ws hw (fun j hj=>Dc hr j hj)) ?_
   exact akr (by omega) ⟨by omega,h3⟩ (ZO hw (fun j hj=>Dc hr j hj)) K (by omega) K 0 (by omega) (by omega)
  ·have hc : rL p a l ws k = 2 := by unfold rL; rw [if_pos h, if_neg hk]
   have hf:(decide (1≤k) && decide (k≤20))=false:=by
    rw [Bool.eq_false_iff]
    intro hc
    simp only [Bool.and_eq_true,decide_eq_true_eq] at hc
    exact hk hc
   simp only [hc,hf,Bool.not_false]
   refine Ev.step (fun q=>by simp only [cR.j0];rfl) ?_
   simp only [if_true]
   refine Ev.step (fun q=>by simp only [cR.j1];rfl) ?_
   simp only [show ¬ ((2:Int)=0) by omega,if_false]
   exact Ev.now _
 ·have hc : rL p a l ws k = kN p a l ws := by unfold rL; rw [if_neg h]
  simp only [hc,h,if_false]
  refine Ev.step (fun q=>by simp only [cR.j0];rfl) ?_
  simp only [Bool.false_eq_true,if_false]
  refine Ev.step (fun q=>by simp only [cR.j1];rfl) ?_
  simp only [h,if_false]
  exact Ev.now _
def pF (p a:Int) (l:List (List Int)) (t:Int):List Int × Int:=if tM p a l t=0 then (List.replicate (2 * l.length) t,0) else ([],tM p a l t)
theorem ahS (p a:Int) (l:List (List Int)) (t:Int) (hl:l.length≤maxLen):Ev (fun k=>BG.f k p a l t) (pF p a l t):=by
 unfold BG.f pF
 refine Ev.bind (adh p a l t hl) ?_
 by_cases h:tM p a l t=0
 ·have oB := nI (Qe h).1
  simp only [h,if_true,wI (2 * (l.length:Int)) (by omega),BL.f]
  rw [if_pos ⟨rfl,by omega,by omega⟩,Option.bind_some,show (2 * (l.length:Int)).toNat=2 * l.length by omega]
  exact Ev.now _
 ·simp only [h, if_false]
  exact Ev.now _
theorem akk (a t:Int) (l:List (List Int)) (hl:l.length≤10):∀ (d i:Nat),2 * l.length - i=d→i≤2 * l.length→Ev (fun k=>oZ.l0 k t (List.replicate i t) i a l) (List.replicate (2 * l.length) t,0):=by
 intro d
 induction d with
 | zero =>
  intro i hd hi
  obtain rfl:i=2 * l.length:=by omega
  refine Ev.step (fun k=>by simp only [oZ.l0];rfl) ?_
  simp only [wI (2 * (l.length:Int)) (by omega),show ¬ (((2 * l.length:Nat):Int) < 2 * (l.length:Int)) by omega,if_false]
  exact Ev.now _
 | succ d ih =>
  intro i hd hi
  have h:=ih (i+1) (by omega) (by omega)
  rw [List.replicate_succ',show ((i+1:Nat):Int)=(i:Int)+1 by omega] at h
  refine Ev.step (fun k=>by simp only [oZ.l0];rfl) ?_
  simp only [wI (2 * (l.length:Int)) (by omega),show ((i:Int) < 2 * (l.length:Int)) by omega,if_true,List.length_replicate,show i < 17592186044416 by omega,wI ((i:Int)+1) (by omega)]
  exact h
theorem akj (p a:Int) (l:List (List Int)) (t:Int) (hl:l.length≤maxLen):Ev (fun k=>oZ.f k p a l t) (pF p a l t):=by
 unfold oZ.f pF
 refine Ev.bind (ais p a l t hl) ?_
 by_cases h:tM p a l t=0
 ·simp only [h, if_true]
  exact akk a t l (nI (Qe h).1) (2 * l.length) 0 (by omega) (by omega)
 ·simp only [h, if_false]
  exact Ev.now _
def sG (l:List (List Int)) (s:List Int):Bool:=s.all (fun e=>decide (0≤e) && decide (e≤2 * (l.length:Int) - 1))
theorem ac_ (m:Int) (s:List Int):(!(s.any (Co m)))=s.all (fun u=>decide (0≤u) && decide (u≤m)):=by
 induction s with
 | nil=>rfl
 | cons x xs ih =>
  rw [List.any_cons,List.all_cons,Bool.not_or,ih]
  unfold Co
  rw [Bool.not_not]
theorem aih (a:Int) (l:List (List Int)) (hl:l.length≤10) (s:List Int) (hs:s.length≤1048576):∀ (d i:Nat),s.length - i=d→i≤s.length→Ev (fun k=>aus.l0 k s i a l) ((s.drop i).all (fun e=>decide (0≤e) && decide (e≤2 * (l.length:Int) - 1)) && decide ((s.length:Int)≤20)):=by
 intro d
 induction d with
 | zero =>
  intro i hd hi
  obtain rfl:i=s.length:=by omega
  refine Ev.step (fun q=>by simp only [aus.l0];rfl) ?_
  rw [List.drop_length]
  simp only [Int.lt_irrefl,if_false,List.all_nil,Bool.true_and]
  exact Ev.now _
 | succ d ih =>
  intro i hd hi
  have hil:i < s.length:=by omega
  refine Ev.step (fun q=>by simp only [aus.l0];rfl) ?_
  rw [List.drop_eq_getElem_cons hil,List.all_cons]
  simp only [show ((i:Int) < (s.length:Int)) by omega,cv i,if_true,pS s i hil,CU,Option.bind_some,wI (2 * (l.length:Int)) (by omega),wI (2 * (l.length:Int) - 1) (by omega),wI ((i:Int)+1) (by omega)]
  cases h:(decide (0≤s[i]) && decide (s[i]≤2 * (l.length:Int) - 1)) with
  | false=>simp only [Bool.false_eq_true,if_false,Bool.false_and];exact Ev.now _
  | true =>
   simp only [if_true,Bool.true_and]
   exact ih (i+1) (by omega) (by omega)
def K9 (p : Int) (ws : List Int) : List Int → Int → Int
 | [],o=>o
 | e :: r,o=>K9 p ws r (Int.tmod (wrap64 (o * rd ws e)) p)
def auH (p a:Int) (l:List (List Int)) (ws s:List Int):Int:=if kN p a l ws=0 then (if (sG l s && decide ((s.length:Int)≤20))=true then 0 else 2) else kN p a l ws
def LA (p a:Int) (l:List (List Int)) (ws s:List Int):Int × Int:=if auH p a l ws s=0 then (K9 p ws s 1,0) else (0,auH p a l ws s)
theorem ZT {p a:Int} {l:List (List Int)} {ws s:List Int} (h:auH p a l ws s=0):kN p a l ws=0∧sG l s=true∧s.length≤20:=by
 unfold auH at h
 split at h
 ·split at h
  ·rename_i h1 h2
   rw [Bool.and_eq_true,decide_eq_true_eq] at h2
   exact ⟨h1,h2.1,by omega⟩
  ·omega
 ·omega
theorem IB {l:List (List Int)} {s:List Int} (h:sG l s=true) (i:Nat) (hi:i < s.length):0≤s[i]∧s[i] < 2 * (l.length:Int):=by
 have:=List.all_eq_true.1 h s[i] (List.getElem_mem hi)
 simp only [Bool.and_eq_true,decide_eq_true_eq] at this
 omega
theorem aln (p a:Int) (l:List (List Int)) (ws s:List Int) (hl:l.length≤maxLen):Ev (fun q=>au_.f q a l p a l ws s) (auH p a l ws s):=by
 unfold au_.f auH kN
 refine Ev.bind (HQ a l hl) ?_
 cases h:atJ a l with
 | false=>simp only [Bool.false_eq_true,if_false];exact Ev.now _
 | true =>
  have oB:=nI h
  simp only [if_true]
  refine Ev.bind (KJ p) ?_
  cases hp:qT 10007 p with
  | false=>simp only [Bool.false_eq_true,if_false];exact Ev.now _
  | true =>
   obtain ⟨q,rfl,h2,h3,_⟩:=rI hp
   simp only [if_true,vz.f,Fy.f,Option.bind_some,wI (2 * (l.length:Int)) (by omega),wI ((q:Int) - 1) (by omega),wI (2 * (l.length:Int) - 1) (by omega),NH,ac_]
   by_cases hw:(ws.length:Int)=2 * (l.length:Int)
   ·simp only [hw, decide_true, Bool.true_and, if_true]
    by_cases hr:(ws.all fun u=>decide (0≤u) && decide (u≤(q:Int) - 1))=true
    ·simp only [hr, if_true]
     by_cases hs:(s.length:Int)≤20
     ·simp only [hs, decide_true, if_true, Bool.and_true]
      show Ev (fun _=>if sG l s=true then some 0 else some 2) (if sG l s=true then 0 else 2)
      split<;>exact Ev.now _
     ·simp only [hs,decide_false,Bool.false_eq_true,if_false,Bool.and_false];exact Ev.now _
    ·simp only [hr,if_false];exact Ev.now _
   ·simp only [hw,decide_false,Bool.false_and,Bool.false_eq_true,if_false];exact Ev.now _
theorem ah8 (p:Int) (hp:2≤p) (l:List (List Int)) (ws s:List Int) (hs:s.length≤20) (hw:ws.length=2 * l.length) (hi:sG l s=true):∀ (d i:Nat) (o:Int),s.length - i=d→i≤s.length→Ev (fun k=>qu.l0 k o s s.length i p ws) (K9 p ws (s.drop i) o,0):=by
 intro d
 induction d with
 | zero =>
  intro i o hd hi
  obtain rfl:i=s.length:=by omega
  refine Ev.step (fun q=>by simp only [qu.l0];rfl) ?_
  simp only [Int.lt_irrefl,if_false,List.drop_length]
  exact Ev.now _
 | succ d ih =>
  intro i o hd hi2
  have hil:i < s.length:=by omega
  have he:=IB hi i hil
  refine Ev.step (fun q=>by simp only [qu.l0];rfl) ?_
  rw [List.drop_eq_getElem_cons hil]
  simp only [show ((i:Int) < (s.length:Int)) by omega,cv i,if_true,pS s i hil,show (0:Int)≤s[i] by omega,show s[i] < (ws.length:Int) by omega,show ¬ (p=0) by omega,if_false,wI ((i:Int)+1) (by omega)]
  exact ih (i+1) _ (by omega) (by omega)
theorem akw (p:Int) (hp:2≤p) (l:List (List Int)) (ws s:List Int) (hs:s.length≤20) (hw:ws.length=2 * l.length) (hi:sG l s=true):∀ (d i:Nat) (o:Int),s.length - i=d→i≤s.length→Ev (fun k=>ir.l0 k p ws s o i) (K9 p ws (s.drop i) o,0):=by
 intro d
 induction d with
 | zero =>
  intro i o hd hi
  obtain rfl:i=s.length:=by omega
  refine Ev.step (fun q=>by simp only [ir.l0];rfl) ?_
  simp only [Int.lt_irrefl,if_false,List.drop_length]
  exact Ev.now _
 | succ d ih =>
  intro i o hd hi2
  have hil:i < s.length:=by omega
  have he:=IB hi i hil
  refine Ev.step (fun q=>by simp only [ir.l0];rfl) ?_
  rw [List.drop_eq_getElem_cons hil]
  simp only [show ((i:Int) < (s.length:Int)) by omega,cv i,if_true,pS s i hil,show (0:Int)≤s[i] by omega,show s[i] < (ws.length:Int) by omega,show ¬ (p=0) by omega,if_false,wI ((i:Int)+1) (by omega)]
  exact ih (i+1) _ (by omega) (by omega)
theorem ahU (p a:Int) (l:List (List Int)) (ws s:List Int) (hl:l.length≤maxLen):Ev (fun q=>qu.f q p a l ws s) (LA p a l ws s):=by
 unfold qu.f LA
 refine Ev.bind (aln p a l ws s hl) ?_
 by_cases h:auH p a l ws s=0
 ·obtain ⟨PN, hi, hs⟩ := ZT h
  obtain ⟨hg,hp,hw,hr⟩:=Br PN
  obtain ⟨q,rfl,h2,h3,hq⟩:=rI hp
  simp only [h,if_true]
  exact ah8 q (by omega) l ws s hs hw hi s.length 0 1 (by omega) (by omega)
 ·simp only [h, if_false]
  exact Ev.now _
theorem akl (p a:Int) (l:List (List Int)) (ws s:List Int) (hl:l.length≤maxLen) (hs:s.length≤1048576):Ev (fun q=>ir.f q p a l ws s) (LA p a l ws s):=by
 unfold ir.f LA
 refine Ev.bind (PY p a l ws hl) ?_
 by_cases h:kN p a l ws=0
 ·obtain ⟨hg, hp, hw, hr⟩ := Br h
  have oB:=nI hg
  simp only [h,if_true]
  unfold aus.f
  refine Ev.bind (aih a l oB s hs s.length 0 (by omega) (by omega)) ?_
  rw [List.drop_zero]
  show Ev (fun n=>ir.j0 n p ws s 0 (!(sG l s && decide ((s.length:Int)≤20)))) _
  cases hb:(sG l s && decide ((s.length:Int)≤20)) with
  | true =>
   have hc:auH p a l ws s=0:=by unfold auH;rw [if_pos h,if_pos hb]
   obtain ⟨_,hi,hs2⟩:=ZT hc
   obtain ⟨q,rfl,h2,h3,hq⟩:=rI hp
   rw [if_pos hc]
   refine Ev.step (fun q=>by simp only [ir.j0];rfl) ?_
   simp only [Bool.not_true,Bool.false_eq_true,if_false]
   refine Ev.step (fun q=>by simp only [ir.j1];rfl) ?_
   simp only [if_true]
   exact akw q (by omega) l ws s hs2 hw hi s.length 0 1 (by omega) (by omega)
  | false =>
   have hc:auH p a l ws s=2:=by unfold auH;rw [if_pos h,hb];rfl
   rw [if_neg (by omega),hc]
   refine Ev.step (fun q=>by simp only [ir.j0];rfl) ?_
   simp only [Bool.not_false,if_true]
   refine Ev.step (fun q=>by simp only [ir.j1];rfl) ?_
   simp only [show ¬ ((2:Int)=0) by omega,if_false]
   exact Ev.now _
 ·have hc : auH p a l ws s = kN p a l ws := by unfold auH; rw [if_neg h]
  simp only [hc,h,if_false]
  refine Ev.step (fun q=>by simp only [ir.j0];rfl) ?_
  simp only [Bool.false_eq_true,if_false]
  refine Ev.step (fun q=>by simp only [ir.j1];rfl) ?_
  simp only [h,if_false]
  exact Ev.now _
theorem Le (l:List Int) (i:Nat) (h:l.length≤i):rd l (i:Int)=0:=by
 unfold rd
 rw [Int.toNat_natCast,List.getD_eq_getElem?_getD,List.getElem?_eq_none h]
 rfl
theorem Ub (l:List Int) (i:Nat):auD.f l (i:Int)=some (rd l (i:Int)):=by
 unfold auD.f
 by_cases h:(i:Int) < (l.length:Int)
 ·rw [if_pos h,if_pos (by omega)]
 ·rw [if_neg h,Le l i (by omega)]
theorem aka (c:List Int) (hl:c.length≤1048576):∀ n,n≤c.length→Ev (fun q=>jQ.l1 q (c.take n)) (eU c n):=by
 intro n
 induction n with
 | zero =>
  intro _
  refine Ev.step (fun q=>by simp only [jQ.l1];rfl) ?_
  simp only [List.take_zero,List.length_nil,show ¬ (((0:Nat):Int) > 0) by omega,if_false,eU]
  exact Ev.now _
 | succ n ih =>
  intro hn
  refine Ev.step (fun q=>by simp only [jQ.l1];rfl) ?_
  have hlen:((c.take (n+1)).length:Int)=(n:Int)+1:=by rw [List.length_take];omega
  have hr:rd (c.take (n+1)) n=rd c n:=by
   unfold rd
   simp only [Int.toNat_natCast,List.getD_eq_getElem?_getD,List.getElem?_take]
   rw [if_pos (by omega)]
  simp only [hlen,show (n:Int)+1 - 1=n by omega,wI ((n:Int)) (by omega),show (n:Int)+1 > 0 by omega,cv n,show (n:Int) < (n:Int)+1 by omega,show (n:Int)≤(n:Int)+1 by omega,if_true,hr,Int.toNat_natCast,List.take_take,show min n (n+1)=n by omega]
  rw [show eU c (n+1)=if rd c n=0 then eU c n else c.take (n+1) from rfl]
  by_cases h:rd c n=0
  ·simp only [h, if_true]
   exact ih (by omega)
  ·simp only [h, if_false]
   exact Ev.now _
theorem aj_ (p:Int) (hp:2≤p) (cz:p≤10007) (c:List Int) (hl:c.length≤1048576):∀ (d i:Nat),c.length - i=d→i≤c.length→Ev (fun q=>jQ.l0 q p c ((c.map (· % p)).take i) i) (eU (c.map (· % p)) c.length):=by
 intro d
 induction d with
 | zero =>
  intro i hd hi
  obtain rfl:i=c.length:=by omega
  refine Ev.step (fun q=>by simp only [jQ.l0];rfl) ?_
  simp only [Int.lt_irrefl,if_false]
  exact aka (c.map (· % p)) (by rw [List.length_map];exact hl) c.length (by rw [List.length_map];exact Nat.le_refl _)
 | succ d ih =>
  intro i hd hi
  have hil:i < c.length:=by omega
  have h:=ih (i+1) (by omega) (by omega)
  rw [show ((i+1:Nat):Int)=(i:Int)+1 by omega,List.take_succ_eq_append_getElem (show i < (c.map (· % p)).length by rw [List.length_map];exact hil),List.getElem_map] at h
  refine Ev.step (fun q=>by simp only [jQ.l0];rfl) ?_
  simp only [show ((i:Int) < (c.length:Int)) by omega,cv i,if_true,show ¬ (p=0) by omega,if_false,pS c i hil,Qc (show 0 < p by omega) (show p≤1000000 by omega),List.length_take,List.length_map,show min i c.length < 17592186044416 by omega,wI ((i:Int)+1) (by omega)]
  exact h
theorem aj' (p:Int) (hp:2≤p) (cz:p≤10007) (c:List Int) (hl:c.length≤1048576):Ev (fun q=>jQ.f q p c) (eU (c.map (· % p)) c.length):=by
 unfold jQ.f
 exact aj_ p hp cz c hl c.length 0 (by omega) (by omega)
theorem Zo (l:List Int):∀ n,n≤l.length→eU l n ≠ []→rd (eU l n) (((eU l n).length - 1:Nat):Int) ≠ 0:=by
 intro n
 induction n with
 | zero=>intro _ h;exact absurd rfl h
 | succ n ih =>
  intro hn h
  unfold eU at h ⊢
  split at h
  ·rename_i h0
   rw [if_pos h0]
   exact ih (by omega) h
  ·rename_i h0
   rw [if_neg h0]
   have hlen:(l.take (n+1)).length=n+1:=by rw [List.length_take];omega
   rw [hlen]
   have hr:rd (l.take (n+1)) ((n+1 - 1:Nat):Int)=rd l n:=by
    unfold rd
    simp only [Int.toNat_natCast,List.getD_eq_getElem?_getD,List.getElem?_take,Nat.add_sub_cancel]
    rw [if_pos (by omega)]
   rw [hr]
   exact h0
theorem ai_ {x y:List Int} (hl:x.length=y.length) (h:∀ i:Nat,rd x (i:Int)=rd y (i:Int)):x=y:=by
 apply List.ext_getElem hl
 intro i h1 h2
 have:=h i
 rwa [pS x i h1,pS y i h2] at this
theorem YD {x y:List Int} (hx:x ≠ []→rd x ((x.length - 1:Nat):Int) ≠ 0) (h:∀ i:Nat,rd x (i:Int)=rd y (i:Int)):x.length≤y.length:=by
 by_cases hl:x.length≤y.length
 ·exact hl
 ·have hx0 : x ≠ [] := by intro e; rw [e] at hl; simp at hl
  have:=hx hx0
  rw [h,Le y _ (by omega)] at this
  exact absurd rfl this
theorem akN {c d:List Int} {m n:Nat} (hm:m≤c.length) (hn:n≤d.length) (h:∀ i:Nat,(if i < m then rd c (i:Int) else 0)=(if i < n then rd d (i:Int) else 0)):eU c m=eU d n:=by
 have hr:∀ i:Nat,rd (eU c m) (i:Int)=rd (eU d n) (i:Int):=fun i=>by rw [Lp,Lp,h i]
 exact ai_ (Nat.le_antisymm (YD (Zo c m hm) hr) (YD (Zo d n hn) (fun i=>(hr i).symm))) hr
theorem Yk {s:List Int} (hs:lZ s) (t h:Int) (ht:0≤t∧t≤s.length):∃ x t' h',yC.f s t h=some (x,t',h')∧(0≤t'∧t'≤s.length):=by
 unfold yC.f
 obtain ⟨x,t1,h1,e1,r1,_⟩:=yj hs t h [7,13,0,9,10009] (by simp) ht
 obtain ⟨y,t2,h2,e2,r2,_⟩:=yj hs t1 h1 [2,3,5,7,11,101,10007,x] (by simp) r1
 simp only [e1,e2,Option.bind_some]
 exact ⟨_,_,_,rfl,r2⟩
theorem alm {s : List Int} (hs : lZ s) (p a : Int) (l : List (List Int)) (hl : l.length ≤ 11) : ∀ (d i : Nat) (ws : List Int) (t h : Int), 2 * l.length - i = d → i ≤ 2 * l.length → ws.length = i → 0 ≤ t ∧ t ≤ s.length →
  ∃ LB t' h',Ev (fun k=>iJ.l0 k p ws i s t h a l) (p,a,l,LB,t',h')∧LB.length≤2 * l.length+1∧(0≤t'∧t'≤s.length):=by
 intro d
 induction d with
 | zero =>
  intro i ws t h hd hi hw ht
  have hil:¬ ((i:Int) < 2 * (l.length:Int)):=by omega
  obtain ⟨x,t1,h1,e1,r1,_⟩:=lJ hs t h 24 ht
  have st:∀ k,iJ.l0 (k+1) p ws i s t h a l=_:=fun k=>by simp only [iJ.l0,wI (2 * (l.length:Int)) (by omega),hil,if_false,e1,Option.bind_some];rfl
  by_cases hx:x=0
  ·refine ⟨ws ++ [1], t1, h1, Ev.step st ?_, ?_, r1⟩
   ·simp only [hx,if_true,show ws.length < 17592186044416 by omega];exact Ev.now _
   ·rw [List.length_append];simp only [List.length_cons,List.length_nil];omega
  ·by_cases hx1 : x = 1
   ·by_cases hz : (ws.length : Int) > 0
    ·obtain ⟨y, t2, h2, e2, r2, _⟩ := yj hs t1 h1 [p, (-1)] (by simp) r1
     refine ⟨ws.set (0:Int).toNat y,t2,h2,Ev.step st ?_,?_,r2⟩
     ·simp only [hx1,show ¬ ((1:Int)=0) by omega,if_false,if_true,hz,e2,Option.bind_some,show (0:Int) < (ws.length:Int) by omega];exact Ev.now _
     ·rw [List.length_set];omega
    ·refine ⟨ws, t1, h1, Ev.step st ?_, ?_, r1⟩
     ·simp only [hx1,show ¬ ((1:Int)=0) by omega,if_false,if_true,hz];exact Ev.now _
     ·omega
   ·refine ⟨ws, t1, h1, Ev.step st ?_, ?_, r1⟩
    ·simp only [hx,hx1,if_false];exact Ev.now _
    ·omega
 | succ d ih =>
  intro i ws t h hd hi hw ht
  have hil:((i:Int) < 2 * (l.length:Int)):=by omega
  have hm:¬ (mx p 1=0):=by unfold mx;split<;>omega
  obtain ⟨x,t1,h1,e1,r1,_⟩:=lJ hs t h (mx p 1) ht
  obtain ⟨y,t2,h2,e2,r2,_⟩:=yj hs t1 h1 [1,Int.tmod 1 (mx p 1),x] (by simp) r1
  obtain ⟨LB,t',h',e3,b3,r3⟩:=ih (i+1) (ws ++ [y]) t2 h2 (by omega) (by omega) (by rw [List.length_append];simp only [List.length_cons,List.length_nil];omega) r2
  refine ⟨LB,t',h',Ev.step (fun k=>by simp only [iJ.l0];rfl) ?_,b3,r3⟩
  simp only [wI (2 * (l.length:Int)) (by omega),hil,if_true,hm,if_false,e1,e2,Option.bind_some,show ws.length < 17592186044416 by omega,wI ((i:Int)+1) (by omega)]
  rw [show ((i+1:Nat):Int)=(i:Int)+1 by omega] at e3
  exact e3
theorem RK {s:List Int} (hs:lZ s) (t h:Int) (ht:0≤t∧t≤s.length):∃ p a l ws t' h',Ev (fun k=>iJ.f k s t h) (p,a,l,ws,t',h')∧pE 11 3 l∧ws.length≤23∧(0≤t'∧t'≤s.length):=by
 obtain ⟨p,t1,h1,e1,r1⟩:=Yk hs t h ht
 obtain ⟨a,l,t2,h2,e2,d2,r2⟩:=Zg hs t1 h1 r1
 obtain ⟨ws,t3,h3,e3,b3,r3⟩:=alm hs p a l d2.1 (2 * l.length) 0 [] t2 h2 (by omega) (by omega) rfl r2
 refine ⟨p,a,l,ws,t3,h3,?_,d2,by have:=d2.1;omega,r3⟩
 unfold iJ.f
 simp only [e1,Option.bind_some]
 exact Ev.bind e2 e3
theorem afn {s:List Int} (hs:lZ s):∃ p a l ws,Ev (fun k=>Dz.f k s) (p,a,l,ws)∧pE 11 3 l∧ws.length≤23:=by
 obtain ⟨h0,e0⟩:=J4 hs
 obtain ⟨p,a,l,ws,t,h,e1,d1,b1,_⟩:=RK hs 0 h0 ⟨by omega,by omega⟩
 exact ⟨p,a,l,ws,Ev.bind e0 (Ev.bind e1 (Ev.now _)),d1,b1⟩
theorem afg {s:List Int} (hs:lZ s):∃ p a l ws k,Ev (fun q=>auq.f q s) (p,a,l,ws,k)∧pE 11 3 l∧ws.length≤23:=by
 obtain ⟨h0,e0⟩:=J4 hs
 obtain ⟨p,a,l,ws,t,h,e1,d1,b1,r1⟩:=RK hs 0 h0 ⟨by omega,by omega⟩
 obtain ⟨x,t2,h2,e2,r2⟩:=ajm hs t h 20 r1
 obtain ⟨k,t3,h3,e3,r3,_⟩:=yj hs t2 h2 [1,2,3,4,x] (by simp) r2
 refine ⟨p,a,l,ws,k,Ev.bind e0 (Ev.bind e1 ?_),d1,b1⟩
 simp only [e2,e3,Option.bind_some]
 exact Ev.now _
theorem afh {s:List Int} (hs:lZ s):∃ p a l w,Ev (fun q=>DA.f q s) (p,a,l,w)∧pE 11 3 l:=by
 obtain ⟨h0,e0⟩:=J4 hs
 obtain ⟨p,t1,h1,e1,r1⟩:=Yk hs 0 h0 ⟨by omega,by omega⟩
 obtain ⟨a,l,t2,h2,e2,d2,r2⟩:=Zg hs t1 h1 r1
 obtain ⟨x,t3,h3,e3,r3,_⟩:=lJ hs t2 h2 (wrap64 ((mx p 1)+1)) r2
 obtain ⟨w,t4,h4,e4,r4,_⟩:=yj hs t3 h3 [0,1,1,x] (by simp) r3
 refine ⟨p,a,l,w,?_,d2⟩
 have e:Ev (fun q=>BK.f q s) (p,a,l,w):=by
  unfold BK.f
  refine Ev.bind e0 ?_
  simp only [e1,Option.bind_some]
  refine Ev.bind e2 ?_
  simp only [e3,e4,Option.bind_some]
  exact Ev.now _
 exact Ev.bind e (Ev.now _)
theorem ald {l:List (List Int)} {s:List Int} (h:sG l s=true) {e:Int} (h0:0≤e) (h1:e < 2 * (l.length:Int)):sG l (s ++ [e])=true:=by
 unfold sG at *
 rw [List.all_append,h,Bool.true_and,List.all_cons,List.all_nil,Bool.and_true,Bool.and_eq_true,decide_eq_true_eq,decide_eq_true_eq]
 omega
theorem J3 {a:Int} {l:List (List Int)} (h:atJ a l=true) {e:Int} (h0:0≤e) (h1:e < 2 * (l.length:Int)):∃ r,atT.f a l e=some r:=by
 obtain ⟨n,rfl⟩:∃ n:Nat,e=n:=⟨e.toNat,by omega⟩
 exact ⟨_,PX a l (by have:=nI h;omega) (avL h) n (by omega)⟩
theorem aeZ {a:Int} {l:List (List Int)} (h:atJ a l=true) (y:List Int) (hy:y.length≤1048576) (hi:sG l y=true):∀ (d i:Nat),y.length - i=d→i≤y.length→∃ b,Ev (fun k=>fI.l0 k y i a l) b:=by
 intro d
 induction d with
 | zero =>
  intro i hd hi2
  obtain rfl:i=y.length:=by omega
  refine ⟨decide ((y.length:Int) > 0),Ev.step (fun k=>by simp only [fI.l0];rfl) ?_⟩
  simp only [Int.lt_irrefl,if_false]
  exact Ev.now _
 | succ d ih =>
  intro i hd hi2
  have hil:i < y.length:=by omega
  have hm0:=Int.tmod_nonneg (a:=(i:Int)+1) (y.length:Int) (by omega)
  have pH:Int.tmod ((i:Int)+1) (y.length:Int) < (y.length:Int):=Int.tmod_lt_of_pos _ (by omega)
  obtain ⟨m,hm⟩:∃ m:Nat,Int.tmod ((i:Int)+1) (y.length:Int)=m:=⟨(Int.tmod ((i:Int)+1) (y.length:Int)).toNat,by omega⟩
  have a1:=IB hi i hil
  have a2:=IB hi m (by omega)
  obtain ⟨r1,q1⟩:=J3 h a1.1 a1.2
  obtain ⟨r2,q2⟩:=J3 h a2.1 a2.2
  have st:∀ k,fI.l0 (k+1) y i a l=(if r2.1=r1.2 then fI.l0 k y ((i:Int)+1) a l else some false):=fun k=>by
   simp only [fI.l0,show ((i:Int) < (y.length:Int)) by omega,cv i,if_true,pS y i hil,q1,Option.bind_some,wI ((i:Int)+1) (by omega),hm,show ¬ ((y.length:Int)=0) by omega,if_false,cv m,show ((m:Int) < (y.length:Int)) by omega,pS y m (by omega),q2]
  by_cases he:r2.1=r1.2
  ·obtain ⟨b, hb⟩ := ih (i + 1) (by omega) (by omega)
   refine ⟨b,Ev.step st ?_⟩
   rw [show ((i+1:Nat):Int)=(i:Int)+1 by omega] at hb
   simp only [he,if_true]
   exact hb
  ·refine ⟨false, Ev.step st ?_⟩
   simp only [he,if_false]
   exact Ev.now _
def nD (s:List Int) (B:Nat) (f:Nat→Option (List Int × Int × Int)):Prop:=∃ w t h,Ev f (w,t,h)∧w.length≤B∧(0≤t∧t≤s.length)
theorem nD.nM {s:List Int} {B:Nat} {g f:Nat→Option (List Int × Int × Int)} (h:∀ k,g (k+1)=f k) (H:nD s B f):nD s B g:=by
 obtain ⟨w,t,u,e,r⟩:=H
 exact ⟨w,t,u,Ev.step h e,r⟩
theorem nD.Ue {α:Type} {s:List Int} {B:Nat} {g:Nat→Option α} {x:α} {f:Nat→α→Option (List Int × Int × Int)} (h:Ev g x) (H:nD s B (fun k=>f k x)):nD s B (fun k=>(g k).bind (f k)):=by
 obtain ⟨w,t,u,e,r⟩:=H
 exact ⟨w,t,u,Ev.bind h e,r⟩
theorem alf {s : List Int} {B : Nat} {a : Int} {l : List (List Int)} (hg : atJ a l = true) (x5 : List Int) (c own en t h : Int) (ho : 0 ≤ own ∧ own < 2 * (l.length : Int))
  (H:∀ o,0≤o→o < 2 * (l.length:Int)→nD s B (fun k=>cO.j3 k x5 (2 * (l.length:Int)) c o s t h a l)) :
  ∀ (d i:Nat),2 * l.length - i=d→i≤2 * l.length→nD s B (fun k=>cO.l1 k x5 (2 * (l.length:Int)) c own en i s t h a l):=by
 have oB:=nI hg
 intro d
 induction d with
 | zero =>
  intro i hd hi
  refine nD.nM (fun k=>by simp only [cO.l1];rfl) ?_
  simp only [show ¬ ((i:Int) < 2 * (l.length:Int)) by omega,if_false]
  exact H own ho.1 ho.2
 | succ d ih =>
  intro i hd hi
  have hm0:=Int.tmod_nonneg (a:=own+(i:Int)) (2 * (l.length:Int)) (by omega)
  have pH:Int.tmod (own+(i:Int)) (2 * (l.length:Int)) < 2 * (l.length:Int):=Int.tmod_lt_of_pos _ (by omega)
  obtain ⟨r,q⟩:=J3 hg hm0 pH
  refine nD.nM (fun k=>by simp only [cO.l1];rfl) ?_
  simp only [show ((i:Int) < 2 * (l.length:Int)) by omega,if_true,show ¬ (2 * (l.length:Int)=0) by omega,if_false,wI (own+(i:Int)) (by omega),q,Option.bind_some,wI ((i:Int)+1) (by omega)]
  by_cases he:r.1=en
  ·simp only [he, if_true]
   exact H _ hm0 pH
  ·simp only [he, if_false]
   have:=ih (i+1) (by omega) (by omega)
   rw [show ((i+1:Nat):Int)=(i:Int)+1 by omega] at this
   exact this
theorem ale {s:List Int} (hs:lZ s) {a:Int} {l:List (List Int)} (hg:atJ a l=true) (tD:1≤l.length):∀ (c:Nat) (x5:List Int) (t h:Int),sG l x5=true→x5.length+c≤6→(0≤t∧t≤s.length)→nD s 7 (fun k=>cO.l0 k x5 (2 * (l.length:Int)) c s t h a l):=by
 have oB:=nI hg
 intro c
 induction c with
 | zero =>
  intro x5 t h hw hc ht
  obtain ⟨x,t1,h1,e1,r1,_⟩:=lJ hs t h 24 ht
  refine nD.nM (fun k=>by simp only [cO.l0];rfl) ?_
  simp only [show ¬ (((0:Nat):Int) > 0) by omega,if_false,e1,Option.bind_some,show x5.length < 17592186044416 by omega,if_true]
  by_cases hx:x=0
  ·simp only [hx, if_true]
   exact ⟨_,_,_,Ev.now _,by rw [List.length_append];simp only [List.length_cons,List.length_nil];omega,r1⟩
  ·simp only [hx, if_false]
   exact ⟨_,_,_,Ev.now _,by omega,r1⟩
 | succ c ih =>
  intro x5 t h hw hc ht
  obtain ⟨x,t1,h1,e1,r1,_,hx⟩:=lJ hs t h (2 * (l.length:Int)) ht
  have hx:=hx (by omega)
  have H:∀ o,0≤o→o < 2 * (l.length:Int)→nD s 7 (fun k=>cO.j3 k x5 (2 * (l.length:Int)) ((c+1:Nat):Int) o s t1 h1 a l):=fun o h0 h2=>by
   refine nD.nM (fun k=>by simp only [cO.j3];rfl) ?_
   have PM:=ald hw h0 h2
   have hlen:(x5 ++ [o]).length=x5.length+1:=by rw [List.length_append];rfl
   simp only [show x5.length < 17592186044416 by omega,if_true,Option.bind_some,fE (show -9223372036854775808≤((c+1:Nat):Int) - 1 by omega) (by omega),show ((c+1:Nat):Int) - 1=(c:Int) by omega,wI ((c:Int)) (by omega),hlen,show x5.length+1 < 17592186044416 by omega]
   obtain ⟨b,hb⟩:=aeZ hg (x5 ++ [o]) (by omega) PM (x5 ++ [o]).length 0 (by omega) (by omega)
   refine nD.Ue (show Ev (fun k=>fI.f k a l (x5 ++ [o])) b from hb) ?_
   cases b with
   | false =>
    simp only [Bool.false_eq_true,if_false]
    exact ih (x5 ++ [o]) t1 h1 PM (by omega) r1
   | true =>
    obtain ⟨y,t2,h2,e2,r2,_⟩:=lJ hs t1 h1 3 r1
    simp only [if_true,e2,Option.bind_some]
    by_cases hy:y > 0
    ·obtain ⟨z, t3, h3, e3, r3, _⟩ := lJ hs t2 h2 24 r2
     simp only [hy,if_true,e3,Option.bind_some]
     by_cases hz:z=0
     ·simp only [hz, if_true]
      exact ⟨_,_,_,Ev.now _,by rw [List.length_append,hlen];simp only [List.length_cons,List.length_nil];omega,r3⟩
     ·simp only [hz, if_false]
      exact ⟨_,_,_,Ev.now _,by omega,r3⟩
    ·simp only [hy, if_false]
     exact ih (x5 ++ [o]) t2 h2 PM (by omega) r2
  refine nD.nM (fun k=>by simp only [cO.l0];rfl) ?_
  simp only [show (((c+1:Nat):Int) > 0) by omega,if_true,e1,Option.bind_some]
  by_cases h5:(x5.length:Int) > 0
  ·obtain ⟨m, hm⟩ : ∃ m : Nat, (x5.length : Int) - 1 = m := ⟨x5.length - 1, by omega⟩
   have a1:=IB hw m (by omega)
   obtain ⟨r,q⟩:=J3 hg a1.1 a1.2
   simp only [h5,if_true,hm,wI ((m:Int)) (by omega),cv m,show ((m:Int) < (x5.length:Int)) by omega,pS x5 m (by omega),q,Option.bind_some]
   exact alf hg x5 ((c+1:Nat):Int) x r.2 t1 h1 hx H (2 * l.length) 0 (by omega) (by omega)
  ·simp only [h5, if_false]
   exact H x hx.1 hx.2
theorem aip {s:List Int} (hs:lZ s) (a:Int) (l:List (List Int)) (hl:l.length≤11) (t h:Int) (ht:0≤t∧t≤s.length):nD s 7 (fun k=>cO.f k s t h a l):=by
 unfold cO.f
 simp only [Option.bind_some,wI (2 * (l.length:Int)) (by omega)]
 by_cases h0:2 * (l.length:Int)=0
 ·simp only [h0, if_true]
  refine nD.nM (fun k=>by simp only [cO.j0];rfl) ?_
  simp only [if_true]
  exact ⟨_,_,_,Ev.now _,by simp,ht⟩
 ·simp only [h0, if_false]
  refine nD.Ue (Re a l (Nat.le_trans hl (by decide))) ?_
  refine nD.nM (fun k=>by simp only [cO.j0];rfl) ?_
  cases hg:atJ a l with
  | false =>
   simp only [Bool.not_false,if_true]
   exact ⟨_,_,_,Ev.now _,by simp,ht⟩
  | true =>
   obtain ⟨x,t1,h1,e1,r1,_,hx⟩:=lJ hs t h 6 ht
   have hx:=hx (by omega)
   simp only [Bool.not_true,Bool.false_eq_true,if_false,e1,Option.bind_some,wI (1+x) (by omega)]
   obtain ⟨m,hm⟩:∃ m:Nat,1+x=m:=⟨(1+x).toNat,by omega⟩
   rw [hm]
   exact ale hs hg (by omega) m [] t1 h1 rfl (by simp;omega) r1
theorem afm {s:List Int} (hs:lZ s):∃ p a l ws w,Ev (fun q=>aur.f q s) (p,a,l,ws,w)∧pE 11 3 l∧ws.length≤23∧w.length≤7:=by
 obtain ⟨h0,e0⟩:=J4 hs
 obtain ⟨p,a,l,ws,t,h,e1,d1,b1,r1⟩:=RK hs 0 h0 ⟨by omega,by omega⟩
 obtain ⟨w,t2,h2,e2,b2,r2⟩:=aip hs a l d1.1 t h r1
 exact ⟨p,a,l,ws,w,Ev.bind e0 (Ev.bind e1 (Ev.bind e2 (Ev.now _))),d1,b1,b2⟩
/-- What the law asks at its end. -/
def yu (x6:List Int) (x7:Int):Prop:=(if x7=0 then (if (x6.length:Int) > 0 then (if 0 < (x6.length:Int) then (some ((rd x6 0) == 1)) else (none)) else (some false)) else (some ((x6.length:Int) == 0)))=some true
def rM (p:Int) (n:Nat) (M:Nat→Nat→Int):List Int:=eU (bO (n+1) (fun m=>aM n M m % p)) (n+1)
theorem RM (p:Int) (n:Nat) (M:Nat→Nat→Int) (i:Nat):rd (rM p n M) (i:Int)=aM n M i % p:=by
 unfold rM
 rw [Lp]
 by_cases h:i < n+1
 ·rw [if_pos h,gz h]
 ·rw [if_neg h, show aM n M i = 0 from oJ _ _ _ (by omega)]
  simp
theorem alx (p:Int) (n:Nat) (M:Nat→Nat→Int):(rM p n M).length≤n+1:=Rl _ _
theorem RN {p a:Int} {l:List (List Int)} {ws:List Int} (h:kN p a l ws=0):xp p a l ws=(rM p (2 * l.length) (wM l ws (2 * l.length) 0),0):=by
 unfold xp rM
 rw [if_pos h]
theorem alz (p a:Int) (l:List (List Int)) (ws:List Int):yu (xp p a l ws).1 (xp p a l ws).2:=by
 unfold yu
 by_cases h:kN p a l ws=0
 ·rw [RN h]
  obtain ⟨q,rfl,h2,h3,hq⟩:=rI (Br h).2.1
  have e:=RM (q:Int) (2 * l.length) (wM l ws (2 * l.length) 0) 0
  rw [KN,Int.emod_eq_of_lt (by omega) (by omega)] at e
  have hl:(rM (q:Int) (2 * l.length) (wM l ws (2 * l.length) 0)).length > 0:=by
   by_cases h0:(rM (q:Int) (2 * l.length) (wM l ws (2 * l.length) 0)).length > 0
   ·exact h0
   ·rw [Le _ 0 (by omega)] at e
    exact absurd e (by omega)
  simp only [if_true,show ((rM (q:Int) (2 * l.length) (wM l ws (2 * l.length) 0)).length:Int) > 0 by omega,show 0 < ((rM (q:Int) (2 * l.length) (wM l ws (2 * l.length) 0)).length:Int) by omega]
  rw [show rd (rM (q:Int) (2 * l.length) (wM l ws (2 * l.length) 0)) 0=1 from e]
  rfl
 ·unfold xp
  simp only [h,if_false]
  rfl
theorem aju {l:List (List Int)} (i j:Nat) (hi:i < 2 * l.length) (hj:j < 2 * l.length):wM l (List.replicate (2 * l.length) 1) (2 * l.length) 0 i j=eA l i j:=by
 unfold wM
 rw [if_pos (Or.inl hi),pS _ j (by rw [List.length_replicate];exact hj),List.getElem_replicate,Int.mul_one]
theorem ajt {l:List (List Int)} (p:Int):rM p (2 * l.length) (wM l (List.replicate (2 * l.length) 1) (2 * l.length) 0)=eU ((eU (tu (2 * l.length) (eA l)) (2 * l.length+1)).map (· % p)) (eU (tu (2 * l.length) (eA l)) (2 * l.length+1)).length:=by
 have hc:∀ i,aM (2 * l.length) (wM l (List.replicate (2 * l.length) 1) (2 * l.length) 0) i=aM (2 * l.length) (eA l) i:=fun i=>ae5 (fun a b ha hb=>aju a b ha hb) i
 unfold rM
 refine akN (by rw [ato];exact Nat.le_refl _) (by rw [List.length_map];exact Nat.le_refl _) (fun i=>?_)
 have e1:(if i < 2 * l.length+1 then rd (bO (2 * l.length+1) (fun m=>aM (2 * l.length) (wM l (List.replicate (2 * l.length) 1) (2 * l.length) 0) m % p)) (i:Int) else 0)=aM (2 * l.length) (eA l) i % p:=by
  by_cases h:i < 2 * l.length+1
  ·rw [if_pos h,gz h,hc]
  ·rw [if_neg h,show aM (2 * l.length) (eA l) i=0 from oJ _ _ _ (by omega)];simp
 have e2:rd (eU (tu (2 * l.length) (eA l)) (2 * l.length+1)) (i:Int)=aM (2 * l.length) (eA l) i:=by
  rw [Lp]
  by_cases h:i < 2 * l.length+1
  ·rw [if_pos h];exact UY _ _ _ h
  ·rw [if_neg h,show aM (2 * l.length) (eA l) i=0 from oJ _ _ _ (by omega)]
 rw [e1]
 by_cases h:i < (eU (tu (2 * l.length) (eA l)) (2 * l.length+1)).length
 ·rw [if_pos h,pS _ i (by rw [List.length_map];exact h),List.getElem_map,← pS _ i h,e2]
 ·rw [if_neg h]
  rw [Le _ i (by omega)] at e2
  rw [← e2];simp
theorem afA {x6:List Int} {x7:Int} (hE:yu x6 x7):Ev (fun k=>F4.j8 k x6 x7 false) true:=by
 refine Ev.step (fun k=>by simp only [F4.j8];rfl) ?_
 simp only [Bool.false_eq_true,if_false]
 rw [hE]
 exact Ev.now _
theorem Vu {x6:List Int} {x7:Int} (hE:yu x6 x7) (r a:Int) (l:List (List Int)) (z:List Int):Ev (fun k=>F4.j7 k x6 x7 r z false a l) true:=by
 refine Ev.step (fun k=>by simp only [F4.j7];rfl) ?_
 simp only [Bool.false_eq_true,if_false]
 rw [hE]
 exact Ev.now _
theorem Vt {x6:List Int} {x7:Int} (hE:yu x6 x7) (r a:Int) (l:List (List Int)) (w:Int) (hl:l.length≤maxLen):Ev (fun k=>F4.j6 k x6 x7 r w (pF r a l w).1 (pF r a l w).2 a l) true:=by
 refine Ev.step (fun k=>by simp only [F4.j6];rfl) ?_
 by_cases h:tM r a l w=0
 ·have e : pF r a l w = (List.replicate (2 * l.length) w, 0) := by unfold pF; rw [if_pos h]
  rw [e]
  simp only [if_true]
  by_cases hw:w=1
  ·subst hw
   obtain ⟨hg,hp,h0,h1⟩:=Qe h
   have oB:=nI hg
   obtain ⟨q,rfl,h2,h3,hq⟩:=rI hp
   have hc:kN (q:Int) a l (List.replicate (2 * l.length) 1)=0:=by
    unfold kN
    rw [if_pos hg,if_pos hp,if_pos (by rw [List.length_replicate];omega),if_pos]
    rw [List.all_eq_true]
    intro x hx
    rw [List.eq_of_mem_replicate hx,Bool.and_eq_true,decide_eq_true_eq,decide_eq_true_eq]
    omega
   simp only [beq_self_eq_true]
   refine Ev.step (fun k=>by simp only [F4.j7];rfl) ?_
   simp only [if_true]
   have e1:=PV (q:Int) a l (List.replicate (2 * l.length) 1) hl
   rw [RN hc] at e1
   refine Ev.bind e1 ?_
   have e2:Ev (fun k=>BH.f k a l) (eU (tu (2 * l.length) (eA l)) (2 * l.length+1),0):=by
    unfold BH.f
    refine Ev.bind (HQ a l hl) ?_
    simp only [hg,if_true]
    exact Ev.bind (ajT a l hg) (Ev.now _)
   refine Ev.bind e2 ?_
   simp only [if_true]
   have hlen:=Rl (tu (2 * l.length) (eA l)) (2 * l.length+1)
   refine Ev.bind (aj' (q:Int) (by omega) (by omega) _ (by omega)) ?_
   rw [← ajt]
   refine Ev.bind (K0 _ (by have:=alx (q:Int) (2 * l.length) (wM l (List.replicate (2 * l.length) 1) (2 * l.length) 0);omega)) ?_
   exact afA hE
  ·rw [show (w == 1) = false from beq_eq_false_iff_ne.mpr hw]
   exact Vu hE r a l _
 ·have e : pF r a l w = ([], tM r a l w) := by unfold pF; rw [if_neg h]
  rw [e]
  simp only [h,if_false]
  exact Vu hE r a l _
theorem ajp {q:Int} (h0:2≤q) (h1:q≤10007) (X C T:Int):Int.tmod (wrap64 (X % q+wrap64 (C % q * (T % q)))) q=(X+C * T) % q:=by
 have a1:=Int.emod_nonneg X (show q ≠ 0 by omega)
 have a2:=Int.emod_lt_of_pos X (show 0 < q by omega)
 have hb:=K7 h1 ⟨Int.emod_nonneg C (show q ≠ 0 by omega),Int.emod_lt_of_pos C (show 0 < q by omega)⟩ ⟨Int.emod_nonneg T (show q ≠ 0 by omega),Int.emod_lt_of_pos T (show 0 < q by omega)⟩
 rw [fE (n:=C % q * (T % q)) (by omega) (by omega),fE (by omega) (by omega),oR (by omega),Int.emod_add_emod,Int.add_emod,← Int.mul_emod,← Int.add_emod]
theorem ajk {q:Int} (h0:2≤q) (h1:q≤10007) (n:Nat) (hn:n≤20) (C:Int):Int.tmod (wrap64 (Int.tmod (n:Int) q * (C % q))) q=((n:Int) * C+au 0 (fun _=>0)) % q:=by
 have hb:=K7 h1 ⟨Int.emod_nonneg (n:Int) (show q ≠ 0 by omega),Int.emod_lt_of_pos (n:Int) (show 0 < q by omega)⟩ ⟨Int.emod_nonneg C (show q ≠ 0 by omega),Int.emod_lt_of_pos C (show 0 < q by omega)⟩
 rw [oR (show 0≤(n:Int) by omega),fE (by omega) (by omega),oR (by omega),← Int.mul_emod]
 simp only [au,Int.add_zero]
theorem afC {x6 : List Int} {x7 : Int} (r a : Int) (l : List (List Int)) (w : Int) (z : List Int) (c3 : Int) {q : Int} (h0 : 2 ≤ q) (h1 : q ≤ 10007) (N : Nat) (M : Nat → Nat → Int) (K n : Nat) (hK : K ≤ 20) (Ki : 1 ≤ n) (hn : n ≤ K)
  (next:Ev (fun k=>F4.l0 k x6 x7 q K (oy q N M K) r w z c3 (rM q N M) ((n:Int)+1) a l) true) :
  ∀ (d i:Nat),n - i=d→i≤n→Ev (fun k=>F4.l1 k x6 x7 q K (oy q N M K) r w z c3 (rM q N M) n (((n:Int) * aM N M n+au i (fun t=>aM N M (n - 1 - t) * uT N M (t+1))) % q) ((i:Int)+1) a l) true:=by
 intro d
 induction d with
 | zero =>
  intro i hd hi
  obtain rfl:i=n:=by omega
  refine Ev.step (fun k=>by simp only [F4.l1];rfl) ?_
  simp only [show ¬ ((i:Int)+1≤(i:Int)) by omega,if_false]
  rw [aiX N M i Ki]
  simp only [Int.zero_emod,if_true,wI ((i:Int)+1) (by omega)]
  exact next
 | succ d ih =>
  intro i hd hi
  have hin:i < n:=by omega
  have h:=ih (i+1) (by omega) (by omega)
  refine Ev.step (fun k=>by simp only [F4.l1];rfl) ?_
  have hr:rd (oy q N M K) (i:Int)=uT N M (i+1) % q:=gz (by omega)
  simp only [show ((i:Int)+1≤(n:Int)) by omega,if_true,show (n:Int) - ((i:Int)+1)=((n - 1 - i:Nat):Int) by omega,fE (show -9223372036854775808≤((n - 1 - i:Nat):Int) by omega) (by omega),Ub,RM,Option.bind_some,show (i:Int)+1 - 1=(i:Int) by omega,wI ((i:Int)) (by omega),cv i,show (oy q N M K).length=K from ato _ _,show ((i:Int) < (K:Int)) by omega,show ¬ (q=0) by omega,if_false,hr,ajp h0 h1,wI ((i:Int)+1+1) (by omega)]
  rw [show ((i+1:Nat):Int)=(i:Int)+1 by omega,show au (i+1) (fun t=>aM N M (n - 1 - t) * uT N M (t+1))=au i (fun t=>aM N M (n - 1 - t) * uT N M (t+1))+aM N M (n - 1 - i) * uT N M (i+1) from rfl,← Int.add_assoc] at h
  exact h
theorem afB {x6 : List Int} {x7 : Int} (hE : yu x6 x7) (r a : Int) (l : List (List Int)) (w : Int) (hl : l.length ≤ maxLen) {q : Int} (h0 : 2 ≤ q) (h1 : q ≤ 10007) (N : Nat) (M : Nat → Nat → Int) (K : Nat) (hK : K ≤ 20) :
  ∀ (d n:Nat),K+1 - n=d→1≤n→n≤K+1→Ev (fun k=>F4.l0 k x6 x7 q K (oy q N M K) r w (pF r a l w).1 (pF r a l w).2 (rM q N M) n a l) true:=by
 intro d
 induction d with
 | zero =>
  intro n hd Ki hn
  refine Ev.step (fun k=>by simp only [F4.l0];rfl) ?_
  simp only [show ¬ ((n:Int)≤(K:Int)) by omega,if_false]
  exact Vt hE r a l w hl
 | succ d ih =>
  intro n hd Ki hn
  have h:=ih (n+1) (by omega) (by omega) (by omega)
  rw [show ((n+1:Nat):Int)=(n:Int)+1 by omega] at h
  refine Ev.step (fun k=>by simp only [F4.l0];rfl) ?_
  simp only [show ((n:Int)≤(K:Int)) by omega,if_true,show ¬ (q=0) by omega,if_false,Ub,RM,Option.bind_some,ajk h0 h1 n (by omega)]
  exact afC r a l w _ _ h0 h1 N M K n hK Ki (by omega) h n 0 (by omega) (by omega)
theorem afz {x6 : List Int} {x7 : Int} (hE : yu x6 x7) (q a1 : Int) (l1 : List (List Int)) (ws : List Int) (K : Int) (tD : l1.length ≤ maxLen) (r a : Int) (l : List (List Int)) (w : Int) (hl : l.length ≤ maxLen) :
  Ev (fun k=>F4.j3 k x6 x7 q ws K (qX q a1 l1 ws K).1 (qX q a1 l1 ws K).2 r w (pF r a l w).1 (pF r a l w).2 false a1 l1 a l) true:=by
 refine Ev.step (fun k=>by simp only [F4.j3];rfl) ?_
 simp only [Bool.false_eq_true,if_false]
 by_cases h:rL q a1 l1 ws K=0
 ·obtain ⟨hw, Kh, hk2⟩ := RJ h
  obtain ⟨p,rfl,h2,h3,hq⟩:=rI (Br hw).2.1
  obtain ⟨m,rfl⟩:∃ m:Nat,K=m:=⟨K.toNat,by omega⟩
  have e:qX (p:Int) a1 l1 ws m=(oy p (2 * l1.length) (wM l1 ws (2 * l1.length) 0) m,0):=by unfold qX;rw [if_pos h];rfl
  rw [e]
  simp only [if_true]
  have e1:=PV (p:Int) a1 l1 ws tD
  rw [RN hw] at e1
  refine Ev.bind e1 ?_
  simp only [if_true]
  exact afB hE r a l w hl (by omega) h3 (2 * l1.length) _ m (by omega) (m+1 - 1) 1 (by omega) (by omega) (by omega)
 ·have e : qX q a1 l1 ws K = ([], rL q a1 l1 ws K) := by unfold qX; rw [if_neg h]
  rw [e]
  simp only [h,if_false]
  exact Vt hE r a l w hl
theorem afy {s : List Int} (hs : lZ s) {x6 : List Int} {x7 : Int} (hE : yu x6 x7) (q a1 : Int) (l1 : List (List Int)) (ws : List Int) (K : Int) (tD : l1.length ≤ maxLen) (r a : Int) (l : List (List Int)) (w : Int) (hl : l.length ≤ maxLen) :
  Ev (fun k=>F4.j2 k s x6 x7 q ws K (qX q a1 l1 ws K).1 (qX q a1 l1 ws K).2 r w (pF r a l w).1 (pF r a l w).2 false a1 l1 a l) true:=by
 obtain ⟨p3,a3,l3,ZW,wk,ed,d3,_,hwk⟩:=afm hs
 have XN:l3.length≤maxLen:=Nat.le_trans d3.1 (by decide)
 refine Ev.step (fun k=>by simp only [F4.j2];rfl) ?_
 simp only [Bool.false_eq_true,if_false]
 refine Ev.bind ed (Ev.bind (ahU p3 a3 l3 ZW wk XN) (Ev.bind (akl p3 a3 l3 ZW wk XN (by omega)) ?_))
 simp only [if_true,bne_self_eq_false]
 exact afz hE q a1 l1 ws K tD r a l w hl
theorem afx {s : List Int} (hs : lZ s) {x6 : List Int} {x7 : Int} (hE : yu x6 x7) (q a1 : Int) (l1 : List (List Int)) (ws : List Int) (K : Int) (tD : l1.length ≤ maxLen) :
  Ev (fun k=>F4.j1 k s x6 x7 q ws K (qX q a1 l1 ws K).1 (qX q a1 l1 ws K).2 false a1 l1) true:=by
 obtain ⟨r,a,l,w,ed,d⟩:=afh hs
 have hl:l.length≤maxLen:=Nat.le_trans d.1 (by decide)
 have hlen:(pF r a l w).1.length≤1048576:=by
  have:=d.1
  unfold pF
  split
  ·rw [List.length_replicate];omega
  ·simp
 refine Ev.step (fun k=>by simp only [F4.j1];rfl) ?_
 simp only [Bool.false_eq_true,if_false]
 refine Ev.bind ed (Ev.bind (ahS r a l w hl) (Ev.bind (akj r a l w hl) ?_))
 simp only [if_true]
 refine Ev.bind (K0 _ hlen) ?_
 simp only [Bool.not_true]
 exact afy hs hE q a1 l1 ws K tD r a l w hl
theorem afw {s:List Int} (hs:lZ s) {x6:List Int} {x7:Int} (hE:yu x6 x7):Ev (fun k=>F4.j0 k s x6 x7 false) true:=by
 obtain ⟨q,a1,l1,ws,K,ed,d,_⟩:=afg hs
 have tD:l1.length≤maxLen:=Nat.le_trans d.1 (by decide)
 have hlen:(qX q a1 l1 ws K).1.length≤1048576:=by
  unfold qX
  split
  ·rename_i h
   have:=(RJ h).2
   unfold oy
   rw [ato]
   omega
  ·simp
 refine Ev.step (fun k=>by simp only [F4.j0];rfl) ?_
 simp only [Bool.false_eq_true,if_false]
 refine Ev.bind ed (Ev.bind (ahV q a1 l1 ws K tD) (Ev.bind (akm q a1 l1 ws K tD) ?_))
 simp only [if_true]
 refine Ev.bind (K0 _ hlen) ?_
 simp only [Bool.not_true]
 exact afx hs hE q a1 l1 ws K tD
end Go.Proofs.Ytapnggjaeehpdaa.B
namespace Go.Proofs.Ytapnggjaeehpdaa.Pure
open Go.RowKit Go.Proofs.bz.dI Go.Proofs.bz.iY Go.Proofs.bz.jn Go.Proofs.Ytapnggjaeehpdaa.B
theorem aaI:F4.Pure:=by
 intro s hm _ hb
 have hs:=adF hm hb
 refine Ev.rounds (r:=true) ?_
 unfold F4.f F5.f
 simp only [Option.bind_some]
 by_cases V0:(s.length:Int) > 4096
 ·simp only [V0,decide_true,if_true];exact Ev.now _
 ·simp only [V0, decide_false, Bool.false_eq_true, if_false]
  obtain ⟨p,a,l,ws,ed,d,_⟩:=afn hs
  have hl:l.length≤maxLen:=Nat.le_trans d.1 (by decide)
  have hlen:(xp p a l ws).1.length≤1048576:=by
   have:=d.1
   unfold xp
   split
   ·have := Rl (bO (2 * l.length + 1) (fun m => aM (2 * l.length) (wM l ws (2 * l.length) 0) m % p)) (2 * l.length + 1)
    simp only
    omega
   ·simp
  refine Ev.bind ed (Ev.bind (PV p a l ws hl) (Ev.bind (akn p a l ws hl) ?_))
  simp only [if_true]
  refine Ev.bind (K0 _ hlen) ?_
  simp only [Bool.not_true]
  exact afw hs (alz p a l ws)
end Go.Proofs.Ytapnggjaeehpdaa.Pure
/- Set with little white space, by a program. -/
