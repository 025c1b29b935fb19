/- Plain lemmas on the Lean functions that FnSigns reaches, and its pure statement. No condition. -/
import Derived.Test.YtoebojnhchocaaaELib
namespace Go.Proofs.Ytoebojnhchocaaa.E
open Go.RowKit Go.Proofs.bY.apf Go.Proofs.bY.ko Go.Proofs.bY.kN
set_option linter.unusedVariables false
set_option linter.unusedSimpArgs false
theorem TU {l:List (List Int)} {s:List Int} (h:nQ l s=true) (i:Nat) (hi:i < l.length):rd s (i:Int)=1∨rd s (i:Int)=-1:=by
 have hlen:=CI h
 simp only [nQ,Bool.and_eq_true,Bool.not_eq_true',List.any_eq_false] at h
 rw [oZ _ _ (by omega)]
 have h2:=h.2 s[i] (List.getElem_mem _)
 unfold oM at h2
 simp at h2
 omega
theorem CJ (n:Nat) (X:Nat→Nat→Int) (u:Int):bn n (j8 u X)=fN n (bU n X) u:=by
 have h:=wu (n:=n) (fun a b=>aW a b) (gP X) u
 unfold bU
 rw [← h]
 refine gy (fun a b _ _=>?_)
 unfold j8 gP
 rw [Int.mul_neg]
 omega
theorem P5 {n:Nat} {X H:Nat→Nat→Int} (h:∀ u:Int,bn n (j8 u X)=bn n (j8 u H)) (k:Nat):bU n X k=bU n H k:=by
 by_cases hk:k≤n
 ·exact yQ (n:=n) (fun u _=>by rw [← CJ,← CJ];exact h u) k hk
 ·unfold bU
  rw [pT _ _ k (by omega),pT _ _ k (by omega)]
theorem adB (a : Int) (l : List (List Int)) (hl : l.length ≤ 10) (h2 : two l) (x3 : List (List Int)) (hx : x3.length < 1048576) (R : List (List Int)) (e : Nat) (he : e < 2 * l.length)
  (hR:Ev (fun k=>iB.l0 k (x3 ++ [mF (2 * l.length) (next l e) (2 * l.length)]) ((2 * l.length:Nat):Int) ((e:Int)+1) a l) R) :
  ∀ (d f:Nat),2 * l.length - f=d→f≤2 * l.length→Ev (fun k=>iB.l1 k x3 ((2 * l.length:Nat):Int) e (mF (2 * l.length) (next l e) f) (eC l e) f a l) R:=by
 intro d
 induction d with
 | zero =>
  intro f hd hf
  obtain rfl:f=2 * l.length:=by omega
  refine Ev.step (fun k=>by simp only [iB.l1];rfl) ?_
  simp only [Int.lt_irrefl,if_false,show x3.length < 5864062014805 by omega,if_true,wI ((e:Int)+1) (by omega)]
  exact hR
 | succ d ih =>
  intro f hd hf
  have hfl:f < 2 * l.length:=by omega
  refine Ev.step (fun k=>by simp only [iB.l1];rfl) ?_
  have h:=ih (f+1) (by omega) (by omega)
  simp only [show ((f:Int) < ((2 * l.length:Nat):Int)) by omega,if_true,SZ a l (by omega) h2 f hfl,Option.bind_some,gb f,Tk,Int.toNat_natCast,Uv e (by omega),wI ((f:Int)+1) (by omega)]
  have hn:next l e f=(decide (eC l e=iL l f) && !decide (f=cw e)):=rfl
  by_cases h3:iL l f=eC l e
  ·simp only [h3, if_true]
   by_cases h4:f=cw e
   ·simp only [eq_true (show (f : Int) = ((cw e : Nat) : Int) by omega), if_true]
    rw [Ml _ _ _ (show next l e f=false by rw [hn];simp [h3,h4.symm])]
    exact h
   ·simp only [show ¬ ((f : Int) = ((cw e : Nat) : Int)) by omega, if_false]
    rw [Tj _ _ _ hfl (show next l e f=true by rw [hn];simp [h3,h4])]
    exact h
  ·simp only [h3, if_false]
   rw [Ml _ _ _ (show next l e f=false by rw [hn];simp [Ne.symm h3])]
   exact h
theorem adA (a:Int) (l:List (List Int)) (hl:l.length≤10) (h2:two l):∀ (d e:Nat),2 * l.length - e=d→e≤2 * l.length→Ev (fun k=>iB.l0 k ((qc l).take e) ((2 * l.length:Nat):Int) e a l) (qc l):=by
 have hlen:(qc l).length=2 * l.length:=by simp [qc]
 intro d
 induction d with
 | zero =>
  intro e hd he
  refine Ev.step (fun k=>by simp only [iB.l0];rfl) ?_
  simp only [show ¬ ((e:Int) < ((2 * l.length:Nat):Int)) by omega,if_false]
  rw [List.take_of_length_le (by omega)]
  exact Ev.now _
 | succ d ih =>
  intro e hd he
  have hel:e < 2 * l.length:=by omega
  refine Ev.step (fun k=>by simp only [iB.l0];rfl) ?_
  simp only [show ((e:Int) < ((2 * l.length:Nat):Int)) by omega,show (0:Int)≤((2 * l.length:Nat):Int) by omega,show 2 * l.length≤35184372088832 by omega,if_true,Int.toNat_natCast,SZ a l (by omega) h2 e hel,Option.bind_some]
  rw [← Tl (2 * l.length) (next l e)]
  refine adB a l hl h2 ((qc l).take e) (by rw [List.length_take];omega) (qc l) e hel ?_ (2 * l.length) 0 (by omega) (by omega)
  have h:=ih (e+1) (by omega) (by omega)
  have e1:(qc l).take (e+1)=(qc l).take e ++ [mF (2 * l.length) (next l e) (2 * l.length)]:=by
   rw [List.take_succ_eq_append_getElem (by omega)]
   simp [qc]
  rw [e1] at h
  exact h
theorem adz (a:Int) (l:List (List Int)) (hl:l.length≤10) (h2:two l):Ev (fun k=>iB.f k a l) (qc l):=by
 unfold iB.f
 rw [iz (by omega) (by omega),show 2 * (l.length:Int)=((2 * l.length:Nat):Int) by omega]
 exact adA a l hl h2 (2 * l.length) 0 (by omega) (by omega)
/-- The edge matrix, each number times its column's weight, ahead of row e0's column f0. -/
def wM (l:List (List Int)) (ws:List Int) (e0 f0:Nat) (i j:Nat):Int:=if i < e0∨i=e0∧j < f0 then eA l i j * rd ws (j:Int) else eA l i j
theorem Uk (l:List (List Int)) (ws:List Int) (e f:Nat) (he:e < 2 * l.length):(dh (2 * l.length) (wM l ws e f)).set e ((av (dh (2 * l.length) (wM l ws e f)) (e:Int)).set f (eA l e f * rd ws (f:Int)))=dh (2 * l.length) (wM l ws e (f+1)):=by
 rw [afM _ _ he]
 refine ap_ fun i j hi hj=>?_
 unfold wM
 by_cases h1:i=e∧j=f
 ·rw [if_pos h1,h1.1,h1.2,if_pos (Or.inr ⟨rfl,by omega⟩)]
 ·rw [if_neg h1]
  by_cases h2:i < e∨i=e∧j < f
  ·rw [if_pos h2,if_pos (by omega)]
  ·rw [if_neg h2,if_neg (by omega)]
theorem Uj (l:List (List Int)) (ws:List Int) (e:Nat):dh (2 * l.length) (wM l ws e (2 * l.length))=dh (2 * l.length) (wM l ws (e+1) 0):=by
 refine ap_ fun i j hi hj=>?_
 unfold wM
 by_cases h:i < e∨i=e∧j < 2 * l.length
 ·rw [if_pos h,if_pos (by omega)]
 ·rw [if_neg h,if_neg (by omega)]
theorem Ui (l:List (List Int)) (ws:List Int) (e f:Nat) (hf:f < 2 * l.length):rd (bD (2 * l.length) (wM l ws e f e)) (f:Int)=eA l e f:=by
 rw [kW hf]
 unfold wM
 rw [if_neg (by omega)]
theorem ZL (l:List Int) (hl:l.length≤1048576):∀ (d i:Nat),l.length - i=d→i≤l.length→Ev (fun k=>nH.l0 k l l (l.length:Int) i) true:=by
 intro d
 induction d with
 | zero =>
  intro i hd hi
  refine Ev.step (fun k=>by simp only [nH.l0];rfl) ?_
  simp only [show ¬ ((i:Int) < (l.length:Int)) by omega,if_false]
  exact Ev.now _
 | succ d ih =>
  intro i hd hi
  refine Ev.step (fun k=>by simp only [nH.l0];rfl) ?_
  simp only [show ((i:Int) < (l.length:Int)) by omega,gb i,if_true,wI ((i:Int)+1) (by omega)]
  exact ih (i+1) (by omega) (by omega)
theorem ZK (l:List Int) (hl:l.length≤1048576):Ev (fun k=>nH.f k l l) true:=by
 unfold nH.f
 simp only [if_true]
 exact ZL l hl l.length 0 (by omega) (by omega)
/-- Numbers 0 at the end don't matter to what is trimmed. -/
theorem afF (c:Nat→Int):∀ (d m:Nat),(∀ k,m < k→c k=0)→iG (bD (m+d+1) c) (m+d+1)=iG (bD (m+1) c) (m+1):=by
 intro d
 induction d with
 | zero=>intro m _;rfl
 | succ d ih =>
  intro m hz
  rw [← ih m hz]
  have h0:rd (bD (m+(d+1)+1) c) ((m+(d+1):Nat):Int)=0:=by rw [kW (by omega)];exact hz _ (by omega)
  show (if rd (bD (m+(d+1)+1) c) ((m+(d+1):Nat):Int)=0 then iG (bD (m+(d+1)+1) c) (m+(d+1)) else _)=_
  rw [if_pos h0]
  have key:∀ k,k≤m+d+1→iG (bD (m+(d+1)+1) c) k=iG (bD (m+d+1) c) k:=by
   intro k
   induction k with
   | zero=>intro _;rfl
   | succ k ihk =>
    intro hk
    show (if rd (bD (m+(d+1)+1) c) (k:Int)=0 then iG (bD (m+(d+1)+1) c) k else (bD (m+(d+1)+1) c).take (k+1))=(if rd (bD (m+d+1) c) (k:Int)=0 then iG (bD (m+d+1) c) k else (bD (m+d+1) c).take (k+1))
    rw [kW (by omega),kW (by omega),ihk (by omega),Ue (by omega),Ue (by omega)]
  exact key _ (by omega)
theorem W9 (X:Int):0≤Go.bits .and .u64 X 1073741823∧Go.bits .and .u64 X 1073741823≤1073741823:=by
 have h:(BitVec.ofInt 64 X &&& BitVec.ofInt 64 1073741823).toNat≤1073741823:=by
  rw [BitVec.toNat_and]
  exact Nat.and_le_right
 have e:Go.bits .and .u64 X 1073741823=IntKind.u64.wrap ((BitVec.ofInt 64 X &&& BitVec.ofInt 64 1073741823).toNat:Int):=rfl
 rw [e,IntKind.wrap_u64]
 omega
/-- What the code of a draw holds: bytes. -/
def apX (s:List Int):Prop:=s.length≤maxLen∧∀ x ∈ s,0≤x∧x≤255
theorem oY {s:List Int} (hs:apX s) (t h n:Int) (ht:0≤t∧t≤s.length):∃ x t' h',dg.f s t h n=some (x,t',h')∧(0≤t'∧t'≤s.length)∧(n < 1→x=0)∧(1≤n→0≤x∧x < n):=by
 have hm:s.length≤9223372036854775807:=hs.1
 unfold dg.f
 by_cases h1:n < 1
 ·rw [if_pos h1]
  exact ⟨0,t,h,rfl,ht,fun _=>rfl,fun h2=>by omega⟩
 ·rw [if_neg h1]
  generalize (IntKind.u64.wrap ((IntKind.u64.wrap (h * 6364136223846793005))+1442695040888963407))=h'
  obtain ⟨a0,a1⟩:=W9 (h' / 2147483648)
  generalize Go.bits .and .u64 (h' / 2147483648) 1073741823=y at a0 a1 ⊢
  rw [iz (n:=y) (by omega) (by omega)]
  by_cases h2:t < (s.length:Int)
  ·obtain ⟨i, rfl⟩ : ∃ i : Nat, t = i := ⟨t.toNat, by omega⟩
   have hi:i < s.length:=by omega
   have hb:=hs.2 s[i] (List.getElem_mem hi)
   rw [if_pos h2,if_pos ht.1,if_neg (by omega),oZ s i hi,iz (n:=s[i]) (by omega) (by omega),iz (n:=y+s[i]) (by omega) (by omega),iz (n:=(i:Int)+1) (by omega) (by omega),T6 (by omega)]
   exact ⟨_,_,_,rfl,⟨by omega,by omega⟩,fun h3=>absurd h3 h1,fun h3=>⟨Int.emod_nonneg _ (by omega),Int.emod_lt_of_pos _ (by omega)⟩⟩
  ·rw [if_neg h2, if_neg (by omega), T6 a0]
   exact ⟨_,_,_,rfl,ht,fun h3=>absurd h3 h1,fun h3=>⟨Int.emod_nonneg _ (by omega),Int.emod_lt_of_pos _ (by omega)⟩⟩
theorem Fb {s:List Int} (hs:apX s) (t h:Int) (l:List Int) (hl:0 < l.length) (ht:0≤t∧t≤s.length):∃ x t' h',kj.f s t h l=some (x,t',h')∧(0≤t'∧t'≤s.length)∧x ∈ l:=by
 obtain ⟨x,t',h',e,h1,_,h2⟩:=oY hs t h (l.length:Int) ht
 have h2:=h2 (by omega)
 obtain ⟨i,rfl⟩:∃ i:Nat,x=i:=⟨x.toNat,by omega⟩
 unfold kj.f
 rw [e,Option.bind_some]
 simp only [h2.1,h2.2,if_true]
 refine ⟨_,_,_,rfl,h1,?_⟩
 rw [oZ l i (by omega)]
 exact List.getElem_mem _
/-- A drawn graph: few edges, short rows. -/
def r9 (m r:Nat) (l:List (List Int)):Prop:=l.length≤m∧∀ x ∈ l,x.length≤r
theorem Gs {m r:Nat} {l:List (List Int)} (h:r9 m r l) (hl:l.length < m) (x:List Int) (hx:x.length≤r):r9 m r (l ++ [x]) :=
 ⟨by rw [List.length_append];show _+1≤_;omega,fun y hy=>by
  rcases List.mem_append.1 hy with hy|hy
  ·exact h.2 y hy
  ·rw [List.mem_singleton.1 hy];exact hx⟩
theorem Y5 {l:List (List Int)} (h:r9 11 3 l):l.length≤1048576∧∀ x ∈ l,x.length≤1048576:=⟨Nat.le_trans h.1 (by decide),fun x hx=>Nat.le_trans (h.2 x hx) (by decide)⟩
theorem Qg {l:List (List Int)} (h:r9 10 2 l):r9 11 3 l:=⟨Nat.le_trans h.1 (by decide),fun x hx=>Nat.le_trans (h.2 x hx) (by decide)⟩
/-- What a draw of a graph answers. -/
def ld (m r:Nat) (s:List Int) (f:Nat→Option (Int × (List (List Int)) × Int × Int)):Prop:=∃ (a:Int) (l:List (List Int)) (t h:Int),Ev f (a,l,t,h)∧r9 m r l∧0≤t∧t≤s.length
theorem ld.tH {m r:Nat} {s:List Int} {g f:Nat→Option (Int × (List (List Int)) × Int × Int)} (h:∀ k,g (k+1)=f k) (H:ld m r s f):ld m r s g:=by
 obtain ⟨a,l,t,h',e,r⟩:=H
 exact ⟨a,l,t,h',Ev.step h e,r⟩
theorem Qi {s:List Int} (hs:apX s) (size lZ:Int) (h1:1≤size∧size≤8) (he:0≤lZ∧lZ≤10) (a:Int):∀ (d:Nat) (c t h:Int) (l:List (List Int)),c≤d→0≤c→c≤10→r9 10 2 l→l.length≤10→0≤t∧t≤s.length→ld 10 2 s (fun k=>cA.l1 k size lZ c s t h a l):=by
 intro d
 induction d with
 | zero =>
  intro c t h l hc hc0 _ hl qd ht
  refine ld.tH (fun k=>by simp only [cA.l1];rfl) ?_
  simp only [show ¬ (c > 0) by omega,if_false]
  refine ld.tH (fun k=>by simp only [cA.j3];rfl) ?_
  simp only [Bool.false_eq_true,if_false]
  exact ⟨a,l,t,h,Ev.now _,hl,ht⟩
 | succ d ih =>
  intro c t h l hc hc0 ahO hl qd ht
  have stop:ld 10 2 s (fun k=>cA.j3 k size lZ c false s t h a l):=by
   refine ld.tH (fun k=>by simp only [cA.j3];rfl) ?_
   simp only [Bool.false_eq_true,if_false]
   exact ⟨a,l,t,h,Ev.now _,hl,ht⟩
  refine ld.tH (fun k=>by simp only [cA.l1];rfl) ?_
  by_cases gi:c > 0
  ·simp only [gi, if_true]
   by_cases hb:(l.length:Int) < lZ
   ·simp only [hb, decide_true]
    refine ld.tH (fun k=>by simp only [cA.j3];rfl) ?_
    obtain ⟨x,t1,g1,e1,b1,_,r1⟩:=oY hs t h size ht
    obtain ⟨y,t2,g2,e2,b2,_,r2⟩:=oY hs t1 g1 size b1
    have hcap:l.length < 5864062014805:=by omega
    have cont:∀ (z:List Int) (t' h':Int),z.length≤2→0≤t'∧t'≤s.length→ld 10 2 s (fun k=>cA.l1 k size lZ (c - 1) s t' h' a (l ++ [z])):=fun z t' h' hz ht' =>
     ih (c - 1) t' h' (l ++ [z]) (by omega) (by omega) (by omega) (Gs hl (by omega) z hz) (by rw [List.length_append];show l.length+1≤10;omega) ht'
    simp only [e1,e2,Option.bind_some,hcap,if_true,wI (c - 1) (by omega)]
    by_cases hxy:x=y
    ·obtain ⟨q, t3, g3, e3, b3, _, r3⟩ := oY hs t2 g2 3 b2
     simp only [hxy,if_true,e3,Option.bind_some]
     by_cases hq:q > 0
     ·simp only [hq, if_true, show ¬ (size = 0) by omega, if_false]
      exact cont _ _ _ (by simp) b3
     ·simp only [hq, if_false]
      exact cont _ _ _ (by simp) b3
    ·simp only [hxy, if_false]
     exact cont _ _ _ (by simp) b2
   ·simp only [hb, decide_false]
    exact stop
  ·simp only [gi, if_false]
   exact stop
theorem Y6 {s:List Int} (hs:apX s) (size lZ:Int) (h1:1≤size∧size≤8) (he:0≤lZ∧lZ≤10) (j:Bool) (a:Int):∀ (d:Nat) (v t h:Int) (l:List (List Int)),size - v≤d→1≤v→v≤9→r9 10 2 l→l.length≤10→0≤t∧t≤s.length→ld 10 2 s (fun k=>cA.l0 k size lZ j v s t h a l):=by
 intro d
 induction d with
 | zero =>
  intro v t h l hv LI hv9 hl qd ht
  refine ld.tH (fun k=>by simp only [cA.l0];rfl) ?_
  simp only [show ¬ (v < size) by omega,if_false]
  refine ld.tH (fun k=>by simp only [cA.j1];rfl) ?_
  obtain ⟨x,t1,g1,e1,b1,z1,r1⟩:=oY hs t h (lZ+1) ht
  simp only [Bool.false_eq_true,if_false,wI (lZ+1) (by omega),e1,Option.bind_some]
  have hx:=r1 (by omega)
  exact Qi hs size lZ h1 he a 10 x t1 g1 l (by omega) (by omega) (by omega) hl qd b1
 | succ d ih =>
  intro v t h l hv LI hv9 hl qd ht
  have stop:ld 10 2 s (fun k=>cA.j1 k size lZ j v false s t h a l):=by
   refine ld.tH (fun k=>by simp only [cA.j1];rfl) ?_
   obtain ⟨x,t1,g1,e1,b1,z1,r1⟩:=oY hs t h (lZ+1) ht
   simp only [Bool.false_eq_true,if_false,wI (lZ+1) (by omega),e1,Option.bind_some]
   have hx:=r1 (by omega)
   exact Qi hs size lZ h1 he a 10 x t1 g1 l (by omega) (by omega) (by omega) hl qd b1
  refine ld.tH (fun k=>by simp only [cA.l0];rfl) ?_
  by_cases hc:v < size
  ·simp only [hc, if_true]
   cases j with
   | false=>simp only [Bool.false_eq_true,if_false];exact stop
   | true =>
    simp only [if_true]
    by_cases hb:(l.length:Int) < lZ
    ·simp only [hb, decide_true]
     refine ld.tH (fun k=>by simp only [cA.j1];rfl) ?_
     obtain ⟨x,t1,g1,e1,b1,_,r1⟩:=oY hs t h v ht
     obtain ⟨y,t2,g2,e2,b2,_,r2⟩:=oY hs t1 g1 2 b1
     have hcap:l.length < 5864062014805:=by omega
     have cont:∀ (z:List Int),z.length≤2→ld 10 2 s (fun k=>cA.l0 k size lZ true (v+1) s t2 g2 a (l ++ [z])):=fun z hz =>
      ih (v+1) t2 g2 (l ++ [z]) (by omega) (by omega) (by omega) (Gs hl (by omega) z hz) (by rw [List.length_append];show l.length+1≤10;omega) b2
     simp only [e1,e2,Option.bind_some,hcap,if_true,wI (v+1) (by omega)]
     by_cases hy:y=0
     ·simp only [hy,if_true];exact cont _ (by simp)
     ·simp only [hy,if_false];exact cont _ (by simp)
    ·simp only [hb,decide_false];exact stop
  ·simp only [hc,if_false];exact stop
theorem Qh {s:List Int} (hs:apX s) (size lZ t h:Int) (h1:1≤size∧size≤8) (he:0≤lZ∧lZ≤10) (ht:0≤t∧t≤s.length):ld 10 2 s (fun k=>cA.f k s t h size lZ):=by
 obtain ⟨x,t1,g1,e1,b1,_,_⟩:=oY hs t h 3 ht
 unfold cA.f
 simp only [e1,Option.bind_some]
 exact Y6 hs size lZ h1 he _ size 8 1 t1 g1 [] (by omega) (by omega) (by omega) ⟨by simp,fun x hx=>by cases hx⟩ (by simp) b1
def E_:List ByteArray:=(aqs.f).getD []
theorem aej:aqs.f=some E_:=rfl
theorem aek:E_.length=14:=by kernel_rfl
theorem aeh:((List.range 14).all fun i:Nat=>match pZ.f 64 (fj ByteArray.empty E_ (i:Int)) with|some r=>decide (r.2.1.length≤10) && r.2.1.all (fun x=>decide (x.length≤2))|none=>false)=true:=by kernel_rfl
theorem aei (i:Nat) (hi:i < 14):∃ (a:Int) (l:List (List Int)) (b:Bool),Ev (fun k=>pZ.f k (fj ByteArray.empty E_ (i:Int))) (a,l,b)∧r9 10 2 l:=by
 have h:=List.all_eq_true.1 aeh i (List.mem_range.2 hi)
 cases e:pZ.f 64 (fj ByteArray.empty E_ (i:Int)) with
 | none=>rw [e] at h;cases h
 | some r =>
  rw [e] at h
  simp only [Bool.and_eq_true,decide_eq_true_eq,List.all_eq_true] at h
  exact ⟨r.1,r.2.1,r.2.2,Ev.of (fun k=>pZ.mono _ k) e,⟨h.1,h.2⟩⟩
theorem Y8 {s:List Int} (hs:apX s) (t h:Int) (ht:0≤t∧t≤s.length):∃ (a:Int) (l:List (List Int)) (t' h':Int),Ev (fun k=>zj.f k s t h) (a,l,t',h')∧r9 10 2 l∧0≤t'∧t'≤s.length:=by
 obtain ⟨x,t1,g1,e1,b1,_,_⟩:=oY hs t h 4 ht
 unfold zj.f
 by_cases hx:x=0
 ·obtain ⟨i, t2, g2, e2, b2, _, r2⟩ := oY hs t1 g1 14 b1
  have r2:=r2 (by omega)
  obtain ⟨q,rfl⟩:∃ q:Nat,i=q:=⟨i.toNat,by omega⟩
  obtain ⟨a,l,b,en,hl⟩:=aei q (by omega)
  refine ⟨a,l,t2,g2,?_,hl,b2⟩
  simp only [e1,Option.bind_some,hx,if_true,aej,aek,show ((14:Nat):Int)=14 from rfl,e2,r2.1,r2.2]
  exact Ev.bind en (Ev.now _)
 ·obtain ⟨y, t2, g2, e2, b2, _, r2⟩ := oY hs t1 g1 8 b1
  have r2:=r2 (by omega)
  have hw:wrap64 (1+y)=1+y:=iz (by omega) (by omega)
  obtain ⟨z,t3,g3,e3,b3,r3⟩:=Fb hs t2 g2 [1,2,3,3,4,4,5,6,wrap64 (1+y)] (by simp) b2
  obtain ⟨m,t4,g4,e4,b4,r4⟩:=Fb hs t3 g3 [2,4,6,6,8,10] (by simp) b3
  have hz:1≤z∧z≤8:=by
   rw [hw] at r3
   simp only [List.mem_cons,List.not_mem_nil,or_false] at r3
   omega
  have hm:0≤m∧m≤10:=by
   simp only [List.mem_cons,List.not_mem_nil,or_false] at r4
   omega
  obtain ⟨a,l,t5,g5,ed,hl,b5⟩:=Qh hs z m t4 g4 hz hm b4
  refine ⟨a,l,t5,g5,?_,hl,b5⟩
  simp only [e1,Option.bind_some,hx,if_false,e2,e3,e4]
  exact Ev.bind ed (Ev.now _)
theorem Xd (s:List Int) (t h a:Int) (ht:0≤t∧t≤s.length):∀ (d:Nat) (l:List (List Int)),11 - l.length≤d→r9 11 3 l→ld 11 3 s (fun k=>jV.l0 k s t h a l):=by
 intro d
 induction d with
 | zero =>
  intro l hd hl
  refine ld.tH (fun k=>by simp only [jV.l0];rfl) ?_
  simp only [show ¬ ((l.length:Int)≤10) by omega,if_false]
  exact ⟨a,l,t,h,Ev.now _,hl,ht⟩
 | succ d ih =>
  intro l hd hl
  refine ld.tH (fun k=>by simp only [jV.l0];rfl) ?_
  by_cases hc:(l.length:Int)≤10
  ·simp only [hc, if_true, show l.length < 5864062014805 by omega]
   exact ih _ (by rw [List.length_append];show 11 - (l.length+1)≤d;omega) (Gs hl (by omega) _ (by simp))
  ·simp only [hc, if_false]
   exact ⟨a,l,t,h,Ev.now _,hl,ht⟩
theorem Xc {s:List Int} (hs:apX s) (t h a:Int) (l:List (List Int)) (hl:r9 10 2 l) (ht:0≤t∧t≤s.length):ld 11 3 s (fun k=>jV.f k s t h a l):=by
 have hd:r9 11 3 l:=Qg hl
 have hl1:=hl.1
 obtain ⟨x,t1,g1,e1,b1,_,r1⟩:=oY hs t h 40 ht
 obtain ⟨c1,c2⟩:=Y5 hd
 unfold jV.f
 simp only [e1,Option.bind_some]
 by_cases h0:x=0
 ·obtain ⟨z, t2, g2, e2, b2, _⟩ := Fb hs t1 g1 [0, 9, wrap64 (a - 1)] (by simp) b1
  simp only [h0,if_true,e2,Option.bind_some]
  exact ⟨_,_,_,_,Ev.now _,hd,b2⟩
 ·simp only [h0, if_false]
  by_cases h1:x=1
  ·simp only [h1, if_true]
   refine ⟨a,l ++ [[0,a]],t1,g1,Ev.bind (E5 a l c1 c2) ?_,Gs hd (by omega) _ (by simp),b1⟩
   simp only [show l.length < 5864062014805 by omega,if_true]
   exact Ev.now _
  ·simp only [h1, if_false]
   by_cases h2:x=2
   ·simp only [h2, if_true]
    by_cases hn:(l.length:Int) > 0
    ·obtain ⟨i, t2, g2, e2, b2, _, r2⟩ := oY hs t1 g1 (l.length : Int) b1
     have r2:=r2 (by omega)
     obtain ⟨q,rfl⟩:∃ q:Nat,i=q:=⟨i.toNat,by omega⟩
     have hq:q < l.length:=by omega
     have hx:=hl.2 l[q] (List.getElem_mem hq)
     refine ⟨a,l.set q (av l (q:Int) ++ [0]),t2,g2,Ev.bind (E5 a l c1 c2) ?_,⟨by rw [List.length_set];omega,fun y hy=>?_⟩,b2⟩
     ·simp only [hn, if_true, e2, Option.bind_some, r2.1, r2.2, show (av l (q : Int)).length < 17592186044416 by rw [lO l q hq]; omega, Int.toNat_natCast]
      exact Ev.now _
     ·rcases List.mem_or_eq_of_mem_set hy with hy | hy
      ·exact hd.2 y hy
      ·rw [hy,List.length_append,lO l q hq];show _+1≤3;omega
    ·refine ⟨a, l, t1, g1, Ev.bind (E5 a l c1 c2) ?_, hd, b1⟩
     simp only [hn,if_false]
     exact Ev.now _
   ·simp only [h2, if_false]
    by_cases h3:x=3
    ·simp only [h3, if_true]
     obtain ⟨a',l',t2,g2,e2,hl',b2⟩:=Xd s t1 g1 a b1 11 l (by omega) hd
     exact ⟨a',l',t2,g2,Ev.bind (E5 a l c1 c2) e2,hl',b2⟩
    ·simp only [h3, if_false]
     exact ⟨a,l,t1,g1,Ev.now _,hd,b1⟩
theorem ZO (s z:List Int):∀ (d i:Nat) (t h:Int),s.length - i=d→i≤s.length→s.length≤maxLen→∃ h',Ev (fun k=>kg.l0 k s i z t h) (z,t,h'):=by
 intro d
 induction d with
 | zero =>
  intro i t h hd hi _
  refine ⟨h,Ev.step (fun k=>by simp only [kg.l0];rfl) ?_⟩
  simp only [show ¬ ((i:Int) < (s.length:Int)) by omega,if_false]
  exact Ev.now _
 | succ d ih =>
  intro i t h hd hi hm
  by_cases h4:(i:Int) < 4096
  ·obtain ⟨h', e⟩ := ih (i + 1) t (IntKind.u64.wrap ((IntKind.u64.wrap ((IntKind.u64.wrap (h * 1099511628211)) + (IntKind.u64.wrap (rd s (i : Int))))) + 109)) (by omega) (by omega) hm
   refine ⟨h',Ev.step (fun k=>by simp only [kg.l0];rfl) ?_⟩
   rw [show ((i+1:Nat):Int)=(i:Int)+1 by omega] at e
   simp only [show ((i:Int) < (s.length:Int)) by omega,if_true,h4,gb i,wI ((i:Int)+1) (by omega)]
   exact e
  ·refine ⟨h, Ev.step (fun k => by simp only [kg.l0]; rfl) ?_⟩
   simp only [show ((i:Int) < (s.length:Int)) by omega,if_true,h4,if_false]
   exact Ev.now _
theorem ZN {s:List Int} (hs:apX s):∃ h,Ev (fun k=>kg.f k s) (s,0,h):=by
 unfold kg.f
 exact ZO s s s.length 0 0 _ (by omega) (by omega) hs.1
theorem TY {s:List Int} (hs:apX s) (t h:Int) (ht:0≤t∧t≤s.length):ld 11 3 s (fun k=>tW.f k s t h):=by
 obtain ⟨a,l,t1,h1,e1,d1,b1⟩:=Y8 hs t h ht
 obtain ⟨a2,l2,t2,h2,e2,d2,b2⟩:=Xc hs t1 h1 a l d1 b1
 exact ⟨a2,l2,t2,h2,Ev.bind e1 (Ev.bind e2 (Ev.now _)),d2,b2⟩
theorem aea (l:List Int) (hl:l.length≤1048576):∀ (d i:Nat),l.length - i=d→i≤l.length→Ev (fun k=>iC.l0 k l l i) true:=by
 intro d
 induction d with
 | zero =>
  intro i hd hi
  refine Ev.step (fun k=>by simp only [iC.l0];rfl) ?_
  simp only [show ¬ ((i:Int) < (l.length:Int)) by omega,if_false]
  exact Ev.now _
 | succ d ih =>
  intro i hd hi
  refine Ev.step (fun k=>by simp only [iC.l0];rfl) ?_
  simp only [show ((i:Int) < (l.length:Int)) by omega,gb i,if_true,wI ((i:Int)+1) (by omega)]
  exact ih (i+1) (by omega) (by omega)
theorem HS (l:List Int) (hl:l.length≤1048576):Ev (fun k=>iC.f k l l) true:=by
 unfold iC.f
 simp only [if_true]
 exact aea l hl l.length 0 (by omega) (by omega)
theorem ae2 (l:List (List Int)) (hl:l.length≤1048576) (hx:∀ x ∈ l,x.length≤1048576):∀ (d i:Nat),l.length - i=d→i≤l.length→Ev (fun k=>lS.l0 k l l i) true:=by
 intro d
 induction d with
 | zero =>
  intro i hd hi
  refine Ev.step (fun k=>by simp only [lS.l0];rfl) ?_
  simp only [show ¬ ((i:Int) < (l.length:Int)) by omega,if_false]
  exact Ev.now _
 | succ d ih =>
  intro i hd hi
  have hil:i < l.length:=by omega
  refine Ev.step (fun k=>by simp only [lS.l0];rfl) ?_
  simp only [show ((i:Int) < (l.length:Int)) by omega,gb i,if_true,wI ((i:Int)+1) (by omega)]
  refine Ev.bind (HS (av l (i:Int)) (by rw [lO l i hil];exact hx _ (List.getElem_mem hil))) ?_
  simp only [if_true]
  exact ih (i+1) (by omega) (by omega)
theorem M5 (l:List (List Int)) (hl:l.length≤1048576) (hx:∀ x ∈ l,x.length≤1048576):Ev (fun k=>lS.f k l l) true:=by
 unfold lS.f
 simp only [if_true]
 exact ae2 l hl hx l.length 0 (by omega) (by omega)
theorem QL (a:Int) (l:List (List Int)) (hl:l.length≤1048576) (hx:∀ x ∈ l,x.length≤1048576):Ev (fun k=>wR.f k a l a l) true:=by
 unfold wR.f
 simp only [if_true]
 exact Ev.bind (M5 l hl hx) (Ev.now _)
theorem Xz {s:List Int} (hm:s.length≤maxLen) (hb:∀ x ∈ s,(Lit.int .u8 x).wf=true):apX s:=⟨hm,fun x hx=>by
 have h:=hb x hx
 simp [Lit.wf,IntKind.min,IntKind.max,IntKind.signed,IntKind.bits] at h
 omega⟩
theorem AW (n:Nat) (f:Nat→Int):ay (n+1) f=ay n f+f n:=rfl
/-- Rows that stay, added to rows that none takes. -/
theorem Qe {n:Nat} (M X:Nat→Nat→Int) (hX:∀ a l,a < n→l < n→X a l ≠ 0→∀ r,r < n→X l r=0):∀ j,j≤n→bn n (fun a b=>M a b+ay j (fun l=>X a l * M l b))=bn n M:=by
 intro j
 induction j with
 | zero =>
  intro _
  exact gy fun a b _ _=>by show M a b+0=M a b;omega
 | succ j ih =>
  intro hj
  have Lt:X j j=0:=by
   by_cases h:X j j=0
   ·exact h
   ·exact hX j j (by omega) (by omega) h j (by omega)
  rw [← ih (by omega),← adY (fun a b=>M a b+ay j (fun l=>X a l * M l b)) j (by omega) (fun a=>X a j) Lt]
  refine gy fun a b ha hb=>?_
  show M a b+(ay j (fun l=>X a l * M l b)+X a j * M j b)=M a b+ay j (fun l=>X a l * M l b)+X a j * (M j b+ay j (fun l=>X j l * M l b))
  by_cases h:X a j=0
  ·rw [h,Int.zero_mul,Int.zero_mul];omega
  ·rw [jE (f := fun l => X j l * M l b) (fun l hl => by rw [hX a j ha (by omega) h l (by omega), Int.zero_mul]), Int.add_zero]
   omega
/-- Columns likewise. -/
theorem YW {n:Nat} (M Y:Nat→Nat→Int) (hY:∀ l b,l < n→b < n→Y l b ≠ 0→∀ r,r < n→Y r l=0):∀ j,j≤n→bn n (fun a b=>M a b+ay j (fun l=>Y l b * M a l))=bn n M:=by
 intro j
 induction j with
 | zero =>
  intro _
  exact gy fun a b _ _=>by show M a b+0=M a b;omega
 | succ j ih =>
  intro hj
  have Lt:Y j j=0:=by
   by_cases h:Y j j=0
   ·exact h
   ·exact hY j j (by omega) (by omega) h j (by omega)
  rw [← ih (by omega),← adU (fun a b=>M a b+ay j (fun l=>Y l b * M a l)) j (by omega) (fun b=>Y j b) Lt]
  refine gy fun a b ha hb=>?_
  show M a b+(ay j (fun l=>Y l b * M a l)+Y j b * M a j)=M a b+ay j (fun l=>Y l b * M a l)+Y j b * (M a j+ay j (fun l=>Y l j * M a l))
  by_cases h:Y j b=0
  ·rw [h,Int.zero_mul,Int.zero_mul];omega
  ·rw [jE (f := fun l => Y l j * M a l) (fun l hl => by rw [hY j b (by omega) hb h l (by omega), Int.zero_mul]), Int.add_zero]
   omega
/-- The determinant of a matrix in two blocks. -/
theorem YV (q:Nat):∀ (p:Nat) (M:Nat→Nat→Int),(∀ a b,p≤a→a < p+q→b < p→M a b=0)→bn (p+q) M=bn p M * bn q (fun a b=>M (p+a) (p+b)):=by
 intro p
 induction p with
 | zero =>
  intro M _
  rw [Nat.zero_add,show bn 0 M=1 from rfl,Int.one_mul]
  exact gy fun a b _ _=>by rw [Nat.zero_add,Nat.zero_add]
 | succ p ih =>
  intro M h
  rw [show p+1+q=p+q+1 by omega,ov,ov,Cx (n:=p+1) (m:=p+q+1) (by omega) (fun i h1 h2=>by rw [h i 0 (by omega) (by omega) (by omega),Int.mul_zero,Int.zero_mul]),Int.mul_comm,← jg]
  refine eL fun i hi=>?_
  rw [ih _ (fun a b h1 h2 h3=>by rw [show bK i a=a+1 from if_neg (by omega)];exact h (a+1) (b+1) (by omega) (by omega) (by omega))]
  rw [gy (n:=q) (N:=fun a b=>M (p+1+a) (p+1+b)) (fun a b _ _=>by rw [show bK i (p+a)=p+a+1 from if_neg (by omega),show p+a+1=p+1+a by omega,show p+b+1=p+1+b by omega]),← Int.mul_assoc,Int.mul_comm]
def kV (j m a:Nat):Nat:=if a=j then m else if a=m then j else a
theorem TZ {j m n a:Nat} (hj:j < n) (hm:m < n) (ha:a < n):kV j m a < n:=by unfold kV;(repeat' split)<;>omega
theorem Ic (j m a:Nat):kV j m (kV j m a)=a:=by unfold kV;(repeat' split)<;>omega
theorem Y1 {n:Nat} (K:Nat→Nat→Int) (j m:Nat) (hj:j < n) (hm:m < n) (Ag:j ≠ m):bn n (fun a b=>K (kV j m a) (kV j m b))=bn n K:=by
 have h1:=Ta K j m hj hm Ag
 have h2:=adT (fun a b=>K (kV j m a) b) j m hj hm Ag
 have e1:bO (bO K j (K m)) m (K j)=fun a b=>K (kV j m a) b:=by
  funext a b
  unfold bO kV
  by_cases e:a=m
  ·subst e;rw [if_pos rfl,if_neg (fun e=>Ag e.symm),if_pos rfl]
  ·rw [if_neg e]
   by_cases e2:a=j
   ·rw [if_pos e2,if_pos e2]
   ·rw [if_neg e2,if_neg e2,if_neg e]
 have e2:dx (dx (fun a b=>K (kV j m a) b) j (fun a=>K (kV j m a) m)) m (fun a=>K (kV j m a) j)=fun a b=>K (kV j m a) (kV j m b):=by
  funext a b
  unfold dx
  by_cases e:b=m
  ·subst e;rw [if_pos rfl,show kV j b b=j from by unfold kV;rw [if_neg (fun e=>Ag e.symm),if_pos rfl]]
  ·rw [if_neg e]
   by_cases e2:b=j
   ·rw [if_pos e2,show kV j m b=m from if_pos e2]
   ·rw [if_neg e2,show kV j m b=b from by unfold kV;rw [if_neg e2,if_neg e]]
 rw [e1] at h1
 rw [e2,h1] at h2
 rw [h2]
 omega
/-- Rows and columns put in another order, both the same. -/
theorem YZ (n:Nat):∀ (m:Nat),m≤n→∀ (s r:Nat→Nat) (M:Nat→Nat→Int),(∀ a,a < n→s a < n∧r (s a)=a)→(∀ b,b < n→r b < n∧s (r b)=b)→(∀ a,m≤a→a < n→s a=a)→bn n (fun a b=>M (s a) (s b))=bn n M:=by
 intro m
 induction m with
 | zero =>
  intro _ s r M _ _ h
  exact gy fun a b ha hb=>by rw [h a (by omega) ha,h b (by omega) hb]
 | succ m ih =>
  intro hm s r M h1 h2 h3
  obtain ⟨hj,hsj⟩:=h2 m (by omega)
  by_cases e:r m=m
  ·refine ih (by omega) s r M h1 h2 (fun a ha KA => ?_)
   by_cases e2:a=m
   ·subst e2;rw [e] at hsj;exact hsj
   ·exact h3 a (by omega) KA
  ·have Ag:r m < m:=by
    by_cases e2:r m < m
    ·exact e2
    ·have := h3 (r m) (by omega) hj
     rw [hsj] at this
     exact absurd this.symm e
   have i1:=ih (by omega) (fun a=>s (kV (r m) m a)) (fun b=>kV (r m) m (r b)) M (fun a ha=>by
    obtain ⟨g1,g2⟩:=h1 _ (TZ hj (show m < n by omega) ha)
    exact ⟨g1,by rw [g2,Ic]⟩) (fun b hb=>by
    obtain ⟨g1,g2⟩:=h2 b hb
    exact ⟨TZ hj (by omega) g1,by rw [Ic];exact g2⟩) (fun a ha KA=>by
    by_cases e2:a=m
    ·subst e2
     rw [show kV (r a) a a=r a from by unfold kV;rw [if_neg (fun e3=>e e3.symm),if_pos rfl]]
     exact hsj
    ·rw [show kV (r m) m a = a from by unfold kV; rw [if_neg (by omega), if_neg e2]]
     exact h3 a (by omega) KA)
   rw [← i1,← Y1 (fun a b=>M (s (kV (r m) m a)) (s (kV (r m) m b))) (r m) m hj (by omega) e]
   exact gy fun a b _ _=>by rw [Ic,Ic]
/-- Polynomials multiplied. -/
def cv (f g:Nat→Int) (k:Nat):Int:=ay (k+1) (fun i=>f i * g (k - i))
theorem P9 (f g:Nat→Int):cv f g 0=f 0 * g 0:=by
 show 0+f 0 * g (0 - 0)=_
 rw [Int.zero_add]
theorem P8 (f g:Nat→Int) (k:Nat):cv f g (k+1)=f 0 * g (k+1)+cv (fun i=>f (i+1)) g k:=by
 unfold cv
 rw [Cz]
 congr 1
 exact eL fun i hi=>by rw [show k+1 - (i+1)=k - i by omega]
theorem MJ (q:Nat) (g:Nat→Int) (hg:∀ k,q < k→g k=0) (u:Int):∀ (p:Nat) (f:Nat→Int),(∀ k,p < k→f k=0)→fN p f u * fN q g u=fN (p+q) (cv f g) u:=by
 intro p
 induction p with
 | zero =>
  intro f hf
  rw [Nat.zero_add,show fN 0 f u=f 0 from by show 0+f 0 * u ^ 0=f 0;rw [Int.pow_zero];omega,← AF]
  refine Tc u fun k _=>?_
  cases k with
  | zero=>rw [P9]
  | succ k =>
   rw [P8,show cv (fun i=>f (i+1)) g k=0 from jE fun i _=>by show f (i+1) * g (k - i)=0;rw [hf (i+1) (by omega),Int.zero_mul]]
   omega
 | succ p ih =>
  intro f hf
  have h1:=ih (fun k=>f (k+1)) (fun k hk=>hf (k+1) (by omega))
  have h2:=yR (n:=q) (m:=p+q+1) g u (by omega) hg
  rw [HM,Int.add_mul,Int.mul_assoc,h1,← AG,← h2,← AF,← Cu,show p+1+q=p+q+1 by omega]
  refine Tc u fun k _=>?_
  cases k with
  | zero =>
   rw [P9]
   show f 0 * g 0+0=_
   omega
  | succ k =>
   rw [P8]
   rfl
theorem YD {N p q:Nat} (hN:N=p+q) {T A R:Nat→Nat→Int} (h:∀ u:Int,bn N (j8 u T)=bn p (j8 u A) * bn q (j8 u R)) (k:Nat):bU N T k=cv (bU p A) (bU q R) k:=by
 subst hN
 have hp:∀ k,p < k→bU p A k=0:=fun k hk=>pT _ _ k hk
 have hq:∀ k,q < k→bU q R k=0:=fun k hk=>pT _ _ k hk
 by_cases hk:k≤p+q
 ·exact yQ (n:=p+q) (fun u _=>by rw [← CJ,h u,CJ,CJ,MJ q _ hq u p _ hp]) k hk
 ·rw [show bU (p + q) T k = 0 from pT _ _ k (by omega)]
  refine (jE fun i hi=>?_).symm
  by_cases h1:p < i
  ·rw [hp i h1,Int.zero_mul]
  ·rw [hq (k - i) (by omega),Int.mul_zero]
/-- A sum over d sheets of p places each. -/
theorem Nb (p:Nat):∀ (d:Nat) (f:Nat→Int),ay (d * p) f=ay d (fun j=>ay p (fun e=>f (j * p+e))):=by
 intro d
 induction d with
 | zero=>intro f;rw [Nat.zero_mul];rfl
 | succ d ih =>
  intro f
  rw [Nat.succ_mul,E9,ih,AW]
/-- Places of a cover's directed edges: by sheets. H: who follows whom; A: below, on the base. -/
def wC (p:Nat) (E B:Nat→Int) (op:Nat→Nat) (bs es:Nat→Nat→Nat) (a b:Nat):Int :=
 (if B (b % p)=E (a % p)∧bs (b % p) (b / p)=es (a % p) (a / p) then 1 else 0) - (if b % p=op (a % p)∧b / p=a / p then 1 else 0)
def CH (E B:Nat→Int) (op:Nat→Nat) (e f:Nat):Int:=(if B f=E e then 1 else 0) - (if f=op e then 1 else 0)
def H_ (p:Nat) (E B:Nat→Int) (op:Nat→Nat) (bs es:Nat→Nat→Nat) (a b:Nat):Int:=wC p E B op bs es (p+a) (p+b) - wC p E B op bs es ((p+a) % p) (p+b)
theorem apI {p e:Nat} (j:Nat) (he:e < p):(j * p+e) % p=e∧(j * p+e) / p=j:=by
 constructor
 ·rw [Nat.add_comm,Nat.add_mul_mod_self_right,Nat.mod_eq_of_lt he]
 ·rw [Nat.add_comm,Nat.add_mul_div_right _ _ (by omega),Nat.div_eq_of_lt he,Nat.zero_add]
theorem aqb {p d a:Nat} (ha:a < d * p):a % p < p∧a / p < d:=by
 have hp:0 < p:=by
  rcases Nat.eq_zero_or_pos p with h|h
  ·rw [h,Nat.mul_zero] at ha;omega
  ·exact h
 exact ⟨Nat.mod_lt _ hp,Nat.div_lt_of_lt_mul (by rw [Nat.mul_comm];exact ha)⟩
theorem Ia {p a:Nat}:a / p * p+a % p=a:=by rw [Nat.mul_comm];exact Nat.div_add_mod a p
/-- All sheets' places over one place, together: the base. -/
theorem afb {p d : Nat} {E B : Nat → Int} {op : Nat → Nat} {bs es : Nat → Nat → Nat} (he : ∀ e i, e < p → i < d → es e i < d) (hb : ∀ f s, f < p → s < d → ∃ j, j < d ∧ ∀ i, i < d → (bs f i = s ↔ i = j)) (u : Int) (a b : Nat) (ha : a < d * p) (yy : b < p) :
  ay d (fun j=>j8 u (wC p E B op bs es) a (j * p+b))=j8 u (CH E B op) (a % p) b:=by
 obtain ⟨h1,h2⟩:=aqb ha
 obtain ⟨j0,hj0,hj⟩:=hb b (es (a % p) (a / p)) yy (he _ _ h1 h2)
 have e1:∀ j,j < d→j8 u (wC p E B op bs es) a (j * p+b)=((if a % p=b then (if j=a / p then 1 else 0) else 0) - u * (if B b=E (a % p) then (if j=j0 then 1 else 0) else 0))+u * (if b=op (a % p) then (if j=a / p then 1 else 0) else 0):=by
  intro j GZ
  obtain ⟨g1,g2⟩:=apI j yy
  have e2:aW a (j * p+b)=if a % p=b then (if j=a / p then 1 else 0) else 0:=by
   unfold aW
   by_cases h:j * p+b=a
   ·rw [if_pos h]
    subst h
    rw [g1,g2,if_pos rfl,if_pos rfl]
   ·rw [if_neg h]
    by_cases h3:a % p=b
    ·rw [if_pos h3,if_neg (fun h4=>h (by rw [h4,← h3];exact Ia))]
    ·rw [if_neg h3]
  unfold j8 wC
  rw [e2,g1,g2]
  have e3:(if B b=E (a % p)∧bs b j=es (a % p) (a / p) then (1:Int) else 0)=if B b=E (a % p) then (if j=j0 then 1 else 0) else 0:=by
   by_cases h3:B b=E (a % p)
   ·rw [if_pos h3]
    by_cases h4:j=j0
    ·rw [if_pos h4,if_pos ⟨h3,(hj j GZ).2 h4⟩]
    ·rw [if_neg h4,if_neg (fun h=>h4 ((hj j GZ).1 h.2))]
   ·rw [if_neg h3,if_neg (fun h=>h3 h.1)]
  have e4:(if b=op (a % p)∧j=a / p then (1:Int) else 0)=if b=op (a % p) then (if j=a / p then 1 else 0) else 0:=by
   by_cases h3:b=op (a % p)
   ·rw [if_pos h3]
    by_cases h4:j=a / p
    ·rw [if_pos h4,if_pos ⟨h3,h4⟩]
    ·rw [if_neg h4,if_neg (fun h=>h4 h.2)]
   ·rw [if_neg h3,if_neg (fun h=>h3 h.1)]
  rw [e3,e4,Int.mul_sub]
  omega
 have one:∀ (c:Prop) [Decidable c] (k:Nat),k < d→ay d (fun j=>if c then (if j=k then (1:Int) else 0) else 0)=if c then 1 else 0:=by
  intro c _ k hk
  rw [mS k hk (fun i _ hne=>by rw [if_neg hne];split<;>rfl),if_pos rfl]
 rw [eL e1,k7,wz,jg,jg,one _ _ h2,one _ _ hj0,one _ _ h2]
 unfold j8 CH aW
 rw [Int.mul_sub,show (if a % p=b then (1:Int) else 0)=if b=a % p then 1 else 0 from by
  by_cases h:a % p=b
  ·rw [if_pos h,if_pos h.symm]
  ·rw [if_neg h,if_neg (fun e=>h e.symm)]]
 omega
/-- The determinant of a cover is the base's times another. -/
theorem afa {p d : Nat} {E B : Nat → Int} {op : Nat → Nat} {bs es : Nat → Nat → Nat} (he : ∀ e i, e < p → i < d + 1 → es e i < d + 1) (hb : ∀ f s, f < p → s < d + 1 → ∃ j, j < d + 1 ∧ ∀ i, i < d + 1 → (bs f i = s ↔ i = j)) (u : Int) :
  bn (p+d * p) (j8 u (wC p E B op bs es))=bn p (j8 u (CH E B op)) * bn (d * p) (j8 u (H_ p E B op bs es)):=by
 generalize hM:j8 u (wC p E B op bs es)=M
 have hN:(d+1) * p=p+d * p:=by rw [Nat.succ_mul];omega
 let Y:Nat→Nat→Int:=fun l b=>if b < p∧p≤l∧l % p=b then 1 else 0
 let X:Nat→Nat→Int:=fun a l=>if p≤a∧l < p∧a % p=l then -1 else 0
 have hY:=YW (n:=p+d * p) M Y (fun l b _ _ h r _=>by
  have h1:b < p∧p≤l∧l % p=b:=by
   by_cases g:b < p∧p≤l∧l % p=b
   ·exact g
   ·exact absurd (if_neg g) h
  exact if_neg (fun h2=>by omega)) (p+d * p) (Nat.le_refl _)
 rw [← hY]
 generalize Gy:(fun a b=>M a b+ay (p+d * p) (fun l=>Y l b * M a l))=M1
 have hX:=Qe (n:=p+d * p) M1 X (fun a l _ _ h r _=>by
  have h1:p≤a∧l < p∧a % p=l:=by
   by_cases g:p≤a∧l < p∧a % p=l
   ·exact g
   ·exact absurd (if_neg g) h
  exact if_neg (fun h2=>by omega)) (p+d * p) (Nat.le_refl _)
 rw [← hX]
 -- the columns below p: all sheets together
 have c1:∀ a b,a < p+d * p→b < p→M1 a b=j8 u (CH E B op) (a % p) b:=by
  intro a b ha yy
  rw [← afb (d:=d+1) (bs:=bs) (es:=es) he hb u a b (by rw [hN];exact ha) yy,hM,← Gy]
  show M a b+ay (p+d * p) (fun l=>Y l b * M a l)=_
  rw [Cz,Nat.zero_mul,Nat.zero_add,E9,jE (n:=p) (fun l hl=>by
   show (if b < p∧p≤l∧l % p=b then (1:Int) else 0) * M a l=0
   rw [if_neg (by omega),Int.zero_mul]),Int.zero_add,Nb]
  congr 1
  refine eL fun j _=>?_
  rw [mS b yy (fun i hi hne=>by
   show (if b < p∧p≤p+(j * p+i)∧(p+(j * p+i)) % p=b then (1:Int) else 0) * M a (p+(j * p+i))=0
   rw [if_neg (fun h=>hne (by rw [Nat.add_mod_left,(apI j hi).1] at h;exact h.2.2)),Int.zero_mul])]
  show (if b < p∧p≤p+(j * p+b)∧(p+(j * p+b)) % p=b then (1:Int) else 0) * M a (p+(j * p+b))=_
  rw [if_pos ⟨yy,by omega,by rw [Nat.add_mod_left,(apI j yy).1]⟩,Int.one_mul,show (j+1) * p+b=p+(j * p+b) from by rw [Nat.succ_mul];omega]
 -- the other columns stay
 have c2:∀ a b,p≤b→M1 a b=M a b:=by
  intro a b yy
  rw [← Gy]
  show M a b+ay (p+d * p) (fun l=>Y l b * M a l)=_
  rw [jE (fun l _=>by
   show (if b < p∧p≤l∧l % p=b then (1:Int) else 0) * M a l=0
   rw [if_neg (by omega),Int.zero_mul]),Int.add_zero]
 -- rows
 have r1:∀ a b,a < p→M1 a b+ay (p+d * p) (fun l=>X a l * M1 l b)=M1 a b:=by
  intro a b ha
  rw [jE (fun l _=>by
   show (if p≤a∧l < p∧a % p=l then (-1:Int) else 0) * M1 l b=0
   rw [if_neg (by omega),Int.zero_mul]),Int.add_zero]
 have r2:∀ a b,p≤a→a < p+d * p→M1 a b+ay (p+d * p) (fun l=>X a l * M1 l b)=M1 a b - M1 (a % p) b:=by
  intro a b hpa ha
  have hm:a % p < p:=(aqb (d:=d+1) (by rw [hN];exact ha)).1
  rw [mS (a % p) (by omega) (fun l _ hne=>by
   show (if p≤a∧l < p∧a % p=l then (-1:Int) else 0) * M1 l b=0
   rw [if_neg (fun h=>hne h.2.2.symm),Int.zero_mul])]
  show M1 a b+(if p≤a∧a % p < p∧a % p=a % p then (-1:Int) else 0) * M1 (a % p) b=_
  rw [if_pos ⟨hpa,hm,rfl⟩]
  omega
 rw [YV (d * p) p _ (fun a b h1 h2 h3=>by
  rw [r2 a b h1 h2,c1 a b h2 h3,c1 (a % p) b (by have:=(aqb (d:=d+1) (a:=a) (p:=p) (by rw [hN];exact h2)).1;omega) h3,Nat.mod_mod]
  omega)]
 congr 1
 ·refine gy fun a b ha hb2 => ?_
  rw [r1 a b ha,c1 a b (by omega) hb2,Nat.mod_eq_of_lt ha]
 ·refine gy fun a b ha hb2 => ?_
  rw [r2 (p+a) (p+b) (by omega) (by omega),c2 _ _ (by omega),c2 _ _ (by omega),← hM]
  have hm:(p+a) % p < p:=(aqb (d:=d+1) (a:=p+a) (p:=p) (by rw [hN];omega)).1
  unfold j8 H_
  rw [qY (show p+b ≠ (p+a) % p by omega),show aW (p+a) (p+b)=aW a b from by unfold aW;by_cases h:b=a<;>simp [h],Int.mul_sub]
  omega
def tJ (t:List (List Int)) (k i:Nat):Nat:=(rd (av t (k:Int)) (i:Int)).toNat
/-- On which sheet a lifted edge begins and ends. -/
def kF (t:List (List Int)) (e i:Nat):Nat:=if e % 2=0 then i else tJ t (e / 2) i
def dB (t:List (List Int)) (e i:Nat):Nat:=if e % 2=0 then tJ t (e / 2) i else i
theorem aeR (xs ys:List (List Int)) (i:Nat) (h:i < xs.length):av (xs ++ ys) (i:Int)=av xs (i:Int):=by
 rw [lO _ _ (by rw [List.length_append];omega),lO _ _ h,List.getElem_append_left h]
theorem aeS (xs ys:List (List Int)) (i:Nat) (h:i < ys.length):av (xs ++ ys) ((xs.length+i:Nat):Int)=av ys (i:Int):=by
 rw [lO _ _ (by rw [List.length_append];omega),lO _ _ h,List.getElem_append_right (by omega)]
 congr 1
 omega
theorem YP (n:Nat) (l t:List (List Int)):∀ K k i,k < K→i < n→av (iZ n l t K) ((k * n+i:Nat):Int)=r8 n l t k i:=by
 intro K
 induction K with
 | zero=>intro k i h;omega
 | succ K ih =>
  intro k i hk hi
  have hlen:=D3 n l t K
  show av (iZ n l t K ++ (List.range n).map (r8 n l t K)) _=_
  by_cases e:k < K
  ·have h2 : (k + 1) * n ≤ K * n := Nat.mul_le_mul_right n (by omega)
   rw [Nat.succ_mul] at h2
   rw [aeR _ _ _ (by omega)]
   exact ih k i e hi
  ·obtain rfl : k = K := by omega
   rw [show ((k * n+i:Nat):Int)=(((iZ n l t k).length+i:Nat):Int) by rw [hlen],aeS _ _ _ (by simpa using hi),lO _ _ (by simpa using hi)]
   simp
theorem YO {a n:Nat} (ha:a≤8) (hn:n≤4) {l t:List (List Int)} (hE:endsIn a l) (hlt:t.length=l.length) (ht:∀ x ∈ t,kI n x=true) (k i:Nat) (hk:k < l.length) (hi:i < n):∃ u v:Nat,rd (av l (k:Int)) 0=u∧rd (av l (k:Int)) 1=v∧r8 n l t k i=[((u * n+i:Nat):Int),((v * n+tJ t k i:Nat):Int)]∧tJ t k i < n:=by
 obtain ⟨hx,u,v,hu,hv,Sw,Sy⟩:=hE k hk
 have hm:t[k]'(by omega) ∈ t:=List.getElem_mem _
 obtain ⟨h1,h2,h3⟩:=(aqV n _).1 (ht _ hm)
 have hki:i < (t[k]'(by omega)).length:=by omega
 have h4:=h3 _ (List.getElem_mem hki)
 have hj:rd (av t (k:Int)) (i:Int)=(tJ t k i:Int)∧tJ t k i < n:=by
  unfold tJ
  rw [lO t k (by omega),oZ _ i hki]
  exact ⟨by omega,by omega⟩
 have b1:u * n≤7 * 4:=Nat.mul_le_mul (by omega) hn
 have b2:v * n≤7 * 4:=Nat.mul_le_mul (by omega) hn
 refine ⟨u,v,hu,hv,?_,hj.2⟩
 have c1:(u:Int) * (n:Int)=((u * n:Nat):Int):=by simp
 have c2:(v:Int) * (n:Int)=((v * n:Nat):Int):=by simp
 unfold r8
 rw [hu,hv,hj.1,c1,c2]
 rw [iz (show -9223372036854775808≤((u * n:Nat):Int) by omega) (by omega),iz (show -9223372036854775808≤((v * n:Nat):Int) by omega) (by omega)]
 rw [iz (by omega) (by omega),iz (by omega) (by omega)]
 simp
/-- Directed edges by sheets: the place of the a-th, and back. -/
def sD (d m a:Nat):Nat:=2 * ((a % (2 * m)) / 2 * d+a / (2 * m))+a % (2 * m) % 2
def rD (d m a:Nat):Nat:=a / 2 % d * (2 * m)+(2 * (a / 2 / d)+a % 2)
theorem H9 (d m a:Nat):sD d m a / 2=(a % (2 * m)) / 2 * d+a / (2 * m)∧sD d m a % 2=a % (2 * m) % 2:=by
 unfold sD
 generalize (a % (2 * m)) / 2 * d+a / (2 * m)=X
 omega
theorem M8 {d m a:Nat} (ha:a < d * (2 * m)):sD d m a < 2 * (m * d)∧rD d m (sD d m a)=a:=by
 obtain ⟨h1,h2⟩:=aqb ha
 obtain ⟨g1,g2⟩:=H9 d m a
 have h3:(a % (2 * m) / 2+1) * d≤m * d:=Nat.mul_le_mul_right d (by omega)
 rw [Nat.succ_mul] at h3
 obtain ⟨k1,k2⟩:=apI (p:=d) (a % (2 * m) / 2) h2
 refine ⟨?_,?_⟩
 ·have := Nat.div_add_mod (sD d m a) 2
  omega
 ·unfold rD
  rw [g1,g2,k1,k2,show 2 * (a % (2 * m) / 2)+a % (2 * m) % 2=a % (2 * m) by omega]
  exact Ia
theorem aeP {d m b:Nat} (hd:0 < d) (hb:b < 2 * (m * d)):rD d m b < d * (2 * m)∧sD d m (rD d m b)=b:=by
 obtain ⟨h1,h2⟩:=aqb (p:=d) (d:=m) (a:=b / 2) (by omega)
 have he:2 * (b / 2 / d)+b % 2 < 2 * m:=by omega
 obtain ⟨k1,k2⟩:=apI (p:=2 * m) (b / 2 % d) he
 have h3:(b / 2 % d+1) * (2 * m)≤d * (2 * m):=Nat.mul_le_mul_right _ (by omega)
 rw [Nat.succ_mul] at h3
 refine ⟨by unfold rD;omega,?_⟩
 unfold sD
 rw [show rD d m b=b / 2 % d * (2 * m)+(2 * (b / 2 / d)+b % 2) from rfl,k1,k2,show (2 * (b / 2 / d)+b % 2) / 2=b / 2 / d by omega,show (2 * (b / 2 / d)+b % 2) % 2=b % 2 by omega,show b / 2 / d * d+b / 2 % d=b / 2 from Ia]
 omega
theorem aq7 (x y:Nat):rd [(x:Int),(y:Int)] ((0:Nat):Int)=x∧rd [(x:Int),(y:Int)] ((1:Nat):Int)=y:=⟨rfl,rfl⟩
/-- The ends of a lifted edge. -/
theorem Gr {a n : Nat} (ha : a ≤ 8) (hn : n ≤ 4) {l t : List (List Int)} (hE : endsIn a l) (hlt : t.length = l.length) (ht : ∀ x ∈ t, kI n x = true) (b : Nat) (hb : b < n * (2 * l.length)) :
  ∃ x y:Nat,iL l (b % (2 * l.length))=x∧eC l (b % (2 * l.length))=y∧iL (iZ n l t l.length) (sD n l.length b)=((x * n+kF t (b % (2 * l.length)) (b / (2 * l.length)):Nat):Int)∧eC (iZ n l t l.length) (sD n l.length b)=((y * n+dB t (b % (2 * l.length)) (b / (2 * l.length)):Nat):Int)∧kF t (b % (2 * l.length)) (b / (2 * l.length)) < n∧dB t (b % (2 * l.length)) (b / (2 * l.length)) < n:=by
 obtain ⟨h1,h2⟩:=aqb hb
 obtain ⟨g1,g2⟩:=H9 n l.length b
 generalize hi:b / (2 * l.length)=i at *
 generalize hv:b % (2 * l.length)=e at *
 obtain ⟨u,v,hu,Hr,hd,hj⟩:=YO ha hn hE hlt ht (e / 2) i (by omega) h2
 have hr:=YP n l t l.length (e / 2) i (by omega) h2
 rw [hd] at hr
 rcases Nat.mod_two_eq_zero_or_one e with h0|h0
 ·refine ⟨u, v, ?_, ?_, ?_, ?_, ?_, ?_⟩
  ·unfold iL;rw [h0];exact hu
  ·unfold eC;rw [h0];exact Hr
  ·unfold iL kF;rw [g1,g2,hr,h0,if_pos rfl];exact (aq7 _ _).1
  ·unfold eC dB;rw [g1,g2,hr,h0,if_pos rfl];exact (aq7 _ _).2
  ·unfold kF;rw [if_pos h0];exact h2
  ·unfold dB;rw [if_pos h0];exact hj
 ·refine ⟨v, u, ?_, ?_, ?_, ?_, ?_, ?_⟩
  ·unfold iL;rw [h0];exact Hr
  ·unfold eC;rw [h0];exact hu
  ·unfold iL kF;rw [g1,g2,hr,h0,if_neg (by omega)];exact (aq7 _ _).2
  ·unfold eC dB;rw [g1,g2,hr,h0,if_neg (by omega)];exact (aq7 _ _).1
  ·unfold kF;rw [if_neg (by omega)];exact hj
  ·unfold dB;rw [if_neg (by omega)];exact h2
theorem Mp (e:Nat):cw e / 2=e / 2∧cw e % 2=1 - e % 2:=by unfold cw;split<;>omega
theorem YU {a n : Nat} (ha : a ≤ 8) (hn : n ≤ 4) {l t : List (List Int)} (hE : endsIn a l) (hlt : t.length = l.length) (ht : ∀ x ∈ t, kI n x = true) (b c : Nat) (hb : b < n * (2 * l.length)) (hc : c < n * (2 * l.length)) :
  eA (iZ n l t l.length) (sD n l.length b) (sD n l.length c)=wC (2 * l.length) (eC l) (iL l) cw (kF t) (dB t) b c:=by
 obtain ⟨x,y,hx,hy,hbx,hey,hbs,wg⟩:=Gr ha hn hE hlt ht b hb
 obtain ⟨x',y',hx',hy',aad,ajT,aac,ajS⟩:=Gr ha hn hE hlt ht c hc
 obtain ⟨g1,g2⟩:=H9 n l.length b
 obtain ⟨QB,QC⟩:=H9 n l.length c
 obtain ⟨h1,h2⟩:=aqb hb
 obtain ⟨h1',Kt⟩:=aqb hc
 rw [ap',aad,hey]
 unfold wC
 rw [hx',hy]
 have e1:(((x' * n+kF t (c % (2 * l.length)) (c / (2 * l.length)):Nat):Int)=((y * n+dB t (b % (2 * l.length)) (b / (2 * l.length)):Nat):Int))↔((x':Int)=(y:Int)∧kF t (c % (2 * l.length)) (c / (2 * l.length))=dB t (b % (2 * l.length)) (b / (2 * l.length))):=by
  obtain ⟨k1,k2⟩:=apI (p:=n) x' aac
  obtain ⟨k3,k4⟩:=apI (p:=n) y wg
  constructor
  ·intro h
   have h3:x' * n+kF t (c % (2 * l.length)) (c / (2 * l.length))=y * n+dB t (b % (2 * l.length)) (b / (2 * l.length)):=by omega
   rw [h3] at k1 k2
   exact ⟨by omega,by omega⟩
  ·rintro ⟨h3, h4⟩
   rw [h4,show x'=y by omega]
 have e2:sD n l.length c=cw (sD n l.length b)↔(c % (2 * l.length)=cw (b % (2 * l.length))∧c / (2 * l.length)=b / (2 * l.length)):=by
  obtain ⟨o1,o2⟩:=Mp (sD n l.length b)
  obtain ⟨o3,o4⟩:=Mp (b % (2 * l.length))
  obtain ⟨k1,k2⟩:=apI (p:=n) (c % (2 * l.length) / 2) Kt
  obtain ⟨k3,k4⟩:=apI (p:=n) (b % (2 * l.length) / 2) h2
  constructor
  ·intro h
   have h3:sD n l.length c / 2=sD n l.length b / 2:=by rw [h,o1]
   have h4:sD n l.length c % 2=1 - sD n l.length b % 2:=by rw [h,o2]
   rw [g1,QB] at h3
   rw [g2,QC] at h4
   rw [h3] at k1 k2
   exact ⟨by omega,by omega⟩
  ·rintro ⟨h3, h4⟩
   have h5:c % (2 * l.length) / 2=b % (2 * l.length) / 2:=by rw [h3,o3]
   have h6:sD n l.length c / 2=cw (sD n l.length b) / 2:=by rw [o1,g1,QB,h5,h4]
   have h7:sD n l.length c % 2=cw (sD n l.length b) % 2:=by rw [o2,g2,QC,h3,o4]
   omega
 unfold aW
 by_cases c1:(x':Int)=(y:Int)∧kF t (c % (2 * l.length)) (c / (2 * l.length))=dB t (b % (2 * l.length)) (b / (2 * l.length))
 ·rw [if_pos (e1.2 c1), if_pos c1]
  by_cases c2:c % (2 * l.length)=cw (b % (2 * l.length))∧c / (2 * l.length)=b / (2 * l.length)
  ·rw [if_pos (e2.2 c2),if_pos c2]
  ·rw [if_neg (fun h=>c2 (e2.1 h)),if_neg c2]
 ·rw [if_neg (fun h => c1 (e1.1 h)), if_neg c1]
  by_cases c2:c % (2 * l.length)=cw (b % (2 * l.length))∧c / (2 * l.length)=b / (2 * l.length)
  ·rw [if_pos (e2.2 c2),if_pos c2]
  ·rw [if_neg (fun h=>c2 (e2.1 h)),if_neg c2]
theorem ara {n:Nat} {t:List (List Int)} (ht:∀ x ∈ t,kI n x=true) (k:Nat) (hk:k < t.length) (s:Nat) (hs:s < n):∃ j,j < n∧∀ i,i < n→(tJ t k i=s↔i=j):=by
 obtain ⟨h1,h2,h3⟩:=(aqV n _).1 (ht _ (List.getElem_mem hk))
 have hv:∀ i (hi:i < n),tJ t k i=((t[k]'hk)[i]'(by omega)).toNat:=fun i hi=>by
  unfold tJ
  rw [lO t k hk,oZ _ i (by omega)]
 have inj:∀ i j,i < n→j < n→tJ t k i=tJ t k j→i=j:=by
  intro i j hi hj h
  rw [hv i hi,hv j hj] at h
  have a1:=h3 _ (List.getElem_mem (show i < (t[k]'hk).length by omega))
  have a2:=h3 _ (List.getElem_mem (show j < (t[k]'hk).length by omega))
  have ne:=List.pairwise_iff_getElem.1 h2
  by_cases g:i < j
  ·exact absurd (show (t[k]'hk)[i]'(by omega)=(t[k]'hk)[j]'(by omega) by omega) (ne i j (by omega) (by omega) g)
  ·by_cases g2 : j < i
   ·exact absurd (show (t[k]'hk)[j]'(by omega)=(t[k]'hk)[i]'(by omega) by omega) (ne j i (by omega) (by omega) g2)
   ·omega
 have lt:∀ i,i < n→tJ t k i < n:=by
  intro i hi
  rw [hv i hi]
  have a1:=h3 _ (List.getElem_mem (show i < (t[k]'hk).length by omega))
  omega
 -- a one to one map of n places takes every value
 have aeq:∀ (m:Nat) (f:Nat→Nat),(∀ i,i < m→f i < m)→(∀ i j,i < m→j < m→f i=f j→i=j)→∀ v,v < m→∃ j,j < m∧f j=v:=by
  intro m
  induction m with
  | zero=>intro f _ _ v hv;omega
  | succ m ih =>
   intro f hf hi v hv
   by_cases e:f m=v
   ·exact ⟨m,by omega,e⟩
   ·have hm := hf m (by omega)
    obtain ⟨j,hj,hfj⟩:=ih (fun i=>if f i=m then f m else f i) (fun i him=>by
     have a1:=hf i (by omega)
     have a2:f i ≠ f m:=fun h=>by have:=hi i m (by omega) (by omega) h;omega
     show (if f i=m then f m else f i) < m
     by_cases g:f i=m
     ·rw [if_pos g];omega
     ·rw [if_neg g];omega) (fun i j hi1 Ac h=>by
     have a1:f i ≠ f m:=fun h=>by have:=hi i m (by omega) (by omega) h;omega
     have a2:f j ≠ f m:=fun h=>by have:=hi j m (by omega) (by omega) h;omega
     have h':(if f i=m then f m else f i)=(if f j=m then f m else f j):=h
     refine hi i j (by omega) (by omega) ?_
     by_cases g:f i=m<;>by_cases g2:f j=m
     ·omega
     ·rw [if_pos g,if_neg g2] at h';exact absurd h'.symm a2
     ·rw [if_neg g,if_pos g2] at h';exact absurd h' a1
     ·rw [if_neg g,if_neg g2] at h';exact h') (if v=m then f m else v) (by split<;>omega)
    have B0:(if f j=m then f m else f j)=if v=m then f m else v:=hfj
    refine ⟨j,by omega,?_⟩
    have a2:f j ≠ f m:=fun h=>by have:=hi j m (by omega) (by omega) h;omega
    by_cases g:f j=m<;>by_cases g2:v=m
    ·omega
    ·rw [if_pos g,if_neg g2] at B0;exact absurd B0 e
    ·rw [if_neg g,if_pos g2] at B0;exact absurd B0 a2
    ·rw [if_neg g,if_neg g2] at B0;exact B0
 obtain ⟨j,hj,rI⟩:=aeq n (tJ t k) lt inj s hs
 exact ⟨j,hj,fun i hi=>⟨fun h=>inj i j hi hj (by rw [h,rI]),fun h=>by rw [h,rI]⟩⟩
def nP (l t:List (List Int)):Nat→Nat→Int:=H_ (2 * l.length) (eC l) (iL l) cw (kF t) (dB t)
theorem YT {a d : Nat} (ha : a ≤ 8) (hd : d + 1 ≤ 4) {l t : List (List Int)} (hE : endsIn a l) (hlt : t.length = l.length) (ht : ∀ x ∈ t, kI (d + 1) x = true) (u : Int) :
  bn (2 * (iZ (d+1) l t l.length).length) (j8 u (eA (iZ (d+1) l t l.length)))=bn (2 * l.length) (j8 u (eA l)) * bn (d * (2 * l.length)) (j8 u (nP l t)):=by
 have hN:(d+1) * (2 * l.length)=2 * (l.length * (d+1)):=by rw [Nat.mul_comm,Nat.mul_assoc]
 have hN2:(d+1) * (2 * l.length)=2 * l.length+d * (2 * l.length):=by rw [Nat.succ_mul];omega
 have h:=afa (p:=2 * l.length) (d:=d) (E:=eC l) (B:=iL l) (op:=cw) (bs:=kF t) (es:=dB t) (fun e i he hi=>by
  have h1:=apI (p:=2 * l.length) i he
  have h3:(i+1) * (2 * l.length)≤(d+1) * (2 * l.length):=Nat.mul_le_mul_right _ hi
  rw [Nat.succ_mul] at h3
  obtain ⟨_,_,_,_,_,_,_,h2⟩:=Gr ha hd hE hlt ht (i * (2 * l.length)+e) (by omega)
  rw [h1.1,h1.2] at h2
  exact h2) (fun f s hf hs=>by
  unfold kF
  by_cases g:f % 2=0
  ·exact ⟨s,hs,fun i _=>by rw [if_pos g]⟩
  ·obtain ⟨j, hj, hji⟩ := ara ht (f / 2) (by omega) s hs
   exact ⟨j,hj,fun i hi=>by rw [if_neg g];exact hji i hi⟩) u
 have hp:=YZ (2 * (l.length * (d+1))) _ (Nat.le_refl _) (sD (d+1) l.length) (rD (d+1) l.length) (j8 u (eA (iZ (d+1) l t l.length))) (fun b hb=>M8 (by omega)) (fun b hb=>by
  obtain ⟨h1,h2⟩:=aeP (show 0 < d+1 by omega) hb
  exact ⟨by omega,h2⟩) (fun b h1 h2=>by omega)
 rw [D3,← hp,← hN,hN2,show j8 u (eA l)=j8 u (CH (eC l) (iL l) cw) from by
  funext e f
  unfold j8 CH
  rw [ap']
  rfl,nP,← h]
 refine gy fun b c hb hc=>?_
 unfold j8
 rw [YU ha hd hE hlt ht b c (by omega) (by omega)]
 congr 1
 unfold aW
 by_cases e:c=b
 ·rw [e,if_pos rfl,if_pos rfl]
 ·rw [if_neg e,if_neg (fun h2=>e (by rw [← (M8 (d:=d+1) (m:=l.length) (a:=c) (by omega)).2,h2,(M8 (d:=d+1) (m:=l.length) (a:=b) (by omega)).2]))]
theorem sC (n:Nat) (f:Nat→Int):dr (n+1) f=dr n f * f n:=rfl
theorem MH (n:Nat) (f g:Nat→Int):dr n (fun i=>f i * g i)=dr n f * dr n g:=by
 induction n with
 | zero=>rfl
 | succ n ih =>
  rw [sC,sC,sC,ih,Int.mul_assoc,Int.mul_assoc]
  congr 1
  rw [← Int.mul_assoc,Int.mul_comm (dr n g),Int.mul_assoc]
theorem MI {n:Nat} {f:Nat→Int} (h:∀ i,i < n→f i=1):dr n f=1:=by
 induction n with
 | zero=>rfl
 | succ n ih=>rw [sC,ih (fun i hi=>h i (by omega)),h n (by omega)];rfl
theorem aeG (n:Nat) (K:Int):dr n (fun _=>K)=K ^ n:=by
 induction n with
 | zero=>rw [Int.pow_zero];rfl
 | succ n ih=>rw [sC,ih,Int.pow_succ]
theorem aeF {n:Nat} (c:Nat) (hc:c < n) (x:Int):dr n (fun v=>if c=v then x else 1)=x:=by
 induction n with
 | zero=>omega
 | succ n ih =>
  rw [sC]
  by_cases e:c=n
  ·subst e
   rw [MI (fun i hi=>if_neg (by omega)),if_pos rfl,Int.one_mul]
  ·rw [ih (by omega),if_neg e,Int.mul_one]
/-- A product over d sheets whose factors the place below tells. -/
theorem aeI (p:Nat) (w:Nat→Int) (d:Nat):dr (d * p) (fun a=>w (a % p))=dr p w ^ d:=by
 have split:∀ (n m:Nat) (f:Nat→Int),dr (n+m) f=dr n f * dr m (fun i=>f (n+i)):=by
  intro n m f
  induction m with
  | zero=>rw [Nat.add_zero];exact (Int.mul_one _).symm
  | succ m ih=>rw [show n+(m+1)=n+m+1 by omega,sC,sC,ih,Int.mul_assoc]
 induction d with
 | zero=>rw [Nat.zero_mul,Int.pow_zero];rfl
 | succ d ih =>
  rw [Nat.succ_mul,split,ih,Int.pow_succ]
  congr 1
  exact yP fun i hi=>by rw [(apI d hi).1]
def gu (cls : Nat → Nat) (v : Nat) : Nat → Nat
 | 0=>0
 | n+1=>gu cls v n+(if cls n=v then 1 else 0)
theorem PT (cls:Nat→Nat) (v:Nat):∀ n,gu cls v n≤n:=by
 intro n
 induction n with
 | zero=>exact Nat.le_refl _
 | succ n ih=>unfold gu;split<;>omega
theorem TB (C:Nat) (cls:Nat→Nat) (w:Nat→Int):∀ n,(∀ e,e < n→cls e < C)→dr n w=dr C (fun v=>dr n (fun e=>if cls e=v then w e else 1)):=by
 intro n
 induction n with
 | zero=>intro _;exact (MI (fun _ _=>rfl)).symm
 | succ n ih =>
  intro h
  rw [sC,ih (fun e he=>h e (by omega)),show (fun v=>dr (n+1) (fun e=>if cls e=v then w e else 1))=fun v=>dr n (fun e=>if cls e=v then w e else 1) * (if cls n=v then w n else 1) from rfl,MH,aeF (cls n) (h n (by omega))]
theorem PR (cls:Nat→Nat) (v:Nat) (A B:Int):∀ n,dr n (fun e=>if cls e=v then (if gu cls v e=0 then A else B) else 1)=if gu cls v n=0 then 1 else A * B ^ (gu cls v n - 1):=by
 intro n
 induction n with
 | zero=>rfl
 | succ n ih =>
  rw [sC,ih]
  by_cases h:cls n=v
  ·have e : gu cls v (n + 1) = gu cls v n + 1 := by show _ + _ = _; rw [if_pos h]
   rw [if_pos h,e,if_neg (show ¬ gu cls v n+1=0 by omega),Nat.add_sub_cancel]
   by_cases h2:gu cls v n=0
   ·rw [if_pos h2,if_pos h2,h2,Int.pow_zero,Int.one_mul,Int.mul_one]
   ·rw [if_neg h2,if_neg h2,Int.mul_assoc,← Int.pow_succ,show (gu cls v n - 1).succ=gu cls v n by omega]
  ·have e : gu cls v (n + 1) = gu cls v n := by show _ + _ = _; rw [if_neg h]; omega
   rw [if_neg h,e,Int.mul_one]
/-- The weights of all places, by classes: each class's first weighs A, its others B. -/
theorem Ul (C : Nat) (cls : Nat → Nat) (A : Nat → Int) (B K : Int) (hK : 0 ≤ K) (hB : 0 ≤ B) (n : Nat) (hc : ∀ e, e < n → cls e < C) (hA : ∀ a, 1 ≤ a → a ≤ n → 0 ≤ A a ∧ A a * B ^ (a - 1) ≤ K ^ a) :
  dr n (fun e=>if gu cls (cls e) e=0 then A (gu cls (cls e) n) else B)≤K ^ n:=by
 rw [← aeG n K,TB C cls _ n hc,TB C cls (fun _=>K) n hc]
 have e1:∀ v,dr n (fun e=>if cls e=v then (if gu cls (cls e) e=0 then A (gu cls (cls e) n) else B) else 1)=if gu cls v n=0 then 1 else A (gu cls v n) * B ^ (gu cls v n - 1):=by
  intro v
  rw [← PR cls v (A (gu cls v n)) B n]
  refine yP fun e _=>?_
  by_cases h:cls e=v
  ·rw [if_pos h,if_pos h,h]
  ·rw [if_neg h,if_neg h]
 have e2:∀ v,dr n (fun e=>if cls e=v then K else 1)=if gu cls v n=0 then 1 else K * K ^ (gu cls v n - 1):=by
  intro v
  rw [← PR cls v K K n]
  refine yP fun e _=>?_
  by_cases h:gu cls v e=0
  ·rw [if_pos h]
  ·rw [if_neg h]
 refine aq2 (fun v _=>?_) (fun v _=>?_)
 ·rw [e1 v]
  by_cases h:gu cls v n=0
  ·rw [if_pos h];decide
  ·rw [if_neg h]
   exact Int.mul_nonneg (hA _ (by omega) (PT _ _ _)).1 (Int.pow_nonneg hB)
 ·rw [e1 v, e2 v]
  by_cases h:gu cls v n=0
  ·rw [if_pos h,if_pos h];exact Int.le_refl _
  ·rw [if_neg h, if_neg h]
   have:=(hA _ (show 1≤gu cls v n by omega) (PT _ _ _)).2
   rw [show K * K ^ (gu cls v n - 1)=K ^ gu cls v n from by rw [Int.mul_comm,← Int.pow_succ,show (gu cls v n - 1).succ=gu cls v n by omega]]
   exact this
def AX (d:Nat):Int:=if d=0 then 5 else if d=1 then 31 else if d=2 then 310 else 5600
/-- The weights of a cover's edges, in numbers. -/
theorem Um:∀ d:Nat,d < 4→∀ a:Nat,1≤a→a * (d+1)≤20→(((a:Int) * (1+2 * a) ^ d) * (4 * 6 ^ d) ^ (a - 1))≤(AX d) ^ a:=by
 have key:((List.range 4).all fun d=>(List.range 21).all fun a=>decide (a=0) || decide (20 < a * (d+1)) || decide ((((a:Int) * (1+2 * a) ^ d) * (4 * 6 ^ d) ^ (a - 1))≤(AX d) ^ a))=true:=by kernel_rfl
 intro d hd a h1 h2
 have ha:a≤20:=Nat.le_trans (Nat.le_mul_of_pos_right a (by omega)) h2
 have:=List.all_eq_true.1 (List.all_eq_true.1 key d (List.mem_range.2 hd)) a (List.mem_range.2 (by omega))
 simp only [Bool.or_eq_true,decide_eq_true_eq] at this
 rcases this with (h|h)|h
 ·omega
 ·omega
 ·exact h
theorem Un:∀ d:Nat,d < 4→∀ m:Nat,m * (d+1)≤10→(AX d) ^ (2 * m)≤1000000000000000:=by
 have key:((List.range 4).all fun d=>(List.range 11).all fun m=>decide (10 < m * (d+1)) || decide ((AX d) ^ (2 * m)≤1000000000000000))=true:=by kernel_rfl
 intro d hd m h2
 have ha:m≤10:=Nat.le_trans (Nat.le_mul_of_pos_right m (by omega)) h2
 have:=List.all_eq_true.1 (List.all_eq_true.1 key d (List.mem_range.2 hd)) m (List.mem_range.2 (by omega))
 simp only [Bool.or_eq_true,decide_eq_true_eq] at this
 rcases this with h|h
 ·omega
 ·exact h
/-- What a matrix's coefficients come to, all together, behind operations on rows. -/
theorem J6 {n : Nat} (A X : Nat → Nat → Int) (hX : ∀ a l, a < n → l < n → X a l ≠ 0 → ∀ r, r < n → X l r = 0) (w : Nat → Int)
  (hw:∀ a,a < n→ay n (fun b=>ao0 (aW a b+ay n (fun l=>X a l * aW l b))+ao0 (A a b+ay n (fun l=>X a l * A l b)))≤w a) :
  ay (n+1) (fun k=>ao0 (bU n A k))≤dr n w:=by
 have hdc:∀ k,k≤n→bU n A k=fU n (fun a b=>aW a b+ay n (fun l=>X a l * aW l b)) (fun a b=>-(A a b+ay n (fun l=>X a l * A l b))) k:=by
  intro k hk
  refine yQ (n:=n) (fun u _=>?_) k hk
  rw [← CJ,← wu,← Qe (j8 u A) X hX n (Nat.le_refl _)]
  refine gy fun a b _ _=>?_
  unfold j8
  rw [show (fun l=>X a l * (aW l b - u * A l b))=fun l=>X a l * aW l b - u * (X a l * A l b) from by
   funext l
   rw [Int.mul_sub,← Int.mul_assoc,Int.mul_comm (X a l) u,Int.mul_assoc],wz,jg,Int.mul_neg,Int.mul_add]
  omega
 rw [eL (g:=fun k=>ao0 (fU n (fun a b=>aW a b+ay n (fun l=>X a l * aW l b)) (fun a b=>-(A a b+ay n (fun l=>X a l * A l b))) k)) (fun k hk=>by rw [hdc k (by omega)])]
 refine Int.le_trans (S4 _ _) (aq2 (fun a _=>xz fun b _=>?_) (fun a ha=>?_))
 ·have h1 := ou (aW a b + ay n (fun l => X a l * aW l b))
  have h2:=ou (-(A a b+ay n (fun l=>X a l * A l b)))
  omega
 ·refine Int.le_trans (oX fun b _ => ?_) (hw a ha)
  rw [show ao0 (-(A a b+ay n (fun l=>X a l * A l b)))=ao0 (A a b+ay n (fun l=>X a l * A l b)) from by unfold ao0;omega]
  exact Int.le_refl _
theorem Ym (cls:Nat→Nat) (v:Nat):∀ n,gu cls v n ≠ 0→∃ r,r < n∧cls r=v∧gu cls v r=0:=by
 intro n
 induction n with
 | zero=>intro h;exact absurd rfl h
 | succ n ih =>
  intro h
  by_cases h2:gu cls v n=0
  ·by_cases h3 : cls n = v
   ·exact ⟨n,by omega,h3,h2⟩
   ·exact absurd (show gu cls v (n+1)=0 by show _+_=_;rw [h2,if_neg h3]) h
  ·obtain ⟨r, h3, h4, h5⟩ := ih h2
   exact ⟨r,by omega,h4,h5⟩
def jA (l:List (List Int)) (e:Nat):Nat:=(eC l e).toNat
def gx (l:List (List Int)) (e:Nat):Prop:=gu (jA l) (jA l e) e=0
instance (l:List (List Int)):DecidablePred (gx l):=fun _=>inferInstanceAs (Decidable (_=_))
theorem PO {n:Nat} {l:List (List Int)} (hE:endsIn n l) {e f:Nat} (he:e < 2 * l.length) (hf:f < 2 * l.length):jA l e=jA l f↔eC l e=eC l f:=by
 obtain ⟨_,v,_,h1,_,_⟩:=D2 hE e he
 obtain ⟨_,v',_,h2,_,_⟩:=D2 hE f hf
 unfold jA
 rw [h1,h2]
 omega
theorem M6 {n:Nat} {l:List (List Int)} (hE:endsIn n l) (e:Nat):∃ r,e < 2 * l.length→(gx l e→r=e)∧(¬ gx l e→r < e∧eC l r=eC l e∧gx l r):=by
 by_cases he:e < 2 * l.length
 ·by_cases h : gx l e
  ·exact ⟨e,fun _=>⟨fun _=>rfl,fun h2=>absurd h h2⟩⟩
  ·obtain ⟨r, h1, h2, h3⟩ := Ym (jA l) (jA l e) e h
   exact ⟨r,fun _=>⟨fun h4=>absurd h4 h,fun _=>⟨h1,(PO hE (by omega) he).1 h2,by unfold gx;rw [h2];exact h3⟩⟩⟩
 ·exact ⟨0,fun h=>absurd h he⟩
theorem Xe (l:List (List Int)) (x:Int):∀ m,ay (2 * m) (fun f=>if iL l f=x then (1:Int) else 0)=ay (2 * m) (fun f=>if eC l f=x then 1 else 0):=by
 intro m
 induction m with
 | zero=>rfl
 | succ m ih =>
  have h1:=DN l (2 * m)
  have h2:=DN l (2 * m+1)
  rw [show cw (2 * m)=2 * m+1 from by unfold cw;split<;>omega] at h1
  rw [show cw (2 * m+1)=2 * m from by unfold cw;split<;>omega] at h2
  rw [show 2 * (m+1)=2 * m+1+1 by omega,AW,AW,AW,AW,ih,h1,h2]
  omega
theorem Zd {n:Nat} {l:List (List Int)} (hE:endsIn n l) {e:Nat} (he:e < 2 * l.length):∀ k,k≤2 * l.length→ay k (fun f=>if eC l f=eC l e then (1:Int) else 0)=(gu (jA l) (jA l e) k:Int):=by
 intro k
 induction k with
 | zero=>intro _;rfl
 | succ k ih =>
  intro hk
  rw [AW,ih (by omega)]
  have h:=PO hE (show k < 2 * l.length by omega) he
  show _=((gu (jA l) (jA l e) k+(if jA l k=jA l e then 1 else 0):Nat):Int)
  by_cases g:eC l k=eC l e
  ·rw [if_pos g,if_pos (h.2 g)];omega
  ·rw [if_neg g,if_neg (fun g2=>g (h.1 g2))];omega
/-- How many edges begin where e ends. -/
def yu (l:List (List Int)) (e:Nat):Nat:=gu (jA l) (jA l e) (2 * l.length)
theorem JO {n:Nat} {l:List (List Int)} (hE:endsIn n l) {e:Nat} (he:e < 2 * l.length):ay (2 * l.length) (fun f=>if iL l f=eC l e then (1:Int) else 0)=(yu l e:Int):=by
 rw [Xe]
 exact Zd hE he _ (Nat.le_refl _)
theorem JJ (a b:Nat):ao0 (aW a b)=aW a b:=by unfold aW ao0;split<;>rfl
/-- The base's rows. -/
theorem ZP {n:Nat} {l:List (List Int)} (hE:endsIn n l):ay (2 * l.length+1) (fun k=>ao0 (bU (2 * l.length) (eA l) k))≤dr (2 * l.length) (fun e=>if gx l e then (yu l e:Int) else 4):=by
 obtain ⟨rp,wk⟩:=Classical.axiomOfChoice (M6 hE)
 generalize hp:2 * l.length=p at wk ⊢
 have Ky:∀ a l',a < p→l' < p→(if gx l a then (0:Int) else if l'=rp a then -1 else 0) ≠ 0→gx l l':=by
  intro a l' ha _ h
  by_cases g:gx l a
  ·exact absurd (if_pos g) h
  ·rw [if_neg g] at h
   by_cases g2:l'=rp a
   ·rw [g2];exact (((wk a ha).2 g).2).2
   ·exact absurd (if_neg g2) h
 refine J6 (eA l) (fun a b=>if gx l a then 0 else if b=rp a then -1 else 0) (fun a l' ha hl' h r _=>if_pos (Ky a l' ha hl' h)) _ (fun a ha=>?_)
 by_cases h:gx l a
 ·rw [if_pos h]
  have e1:∀ b,ay p (fun l'=>(if gx l a then (0:Int) else if l'=rp a then -1 else 0) * aW l' b)=0:=fun b=>jE fun i _=>by rw [if_pos h,Int.zero_mul]
  have e2:∀ b,ay p (fun l'=>(if gx l a then (0:Int) else if l'=rp a then -1 else 0) * eA l l' b)=0:=fun b=>jE fun i _=>by rw [if_pos h,Int.zero_mul]
  have e3:ay p (fun b=>ao0 (aW a b+ay p (fun l'=>(if gx l a then (0:Int) else if l'=rp a then -1 else 0) * aW l' b))+ao0 (eA l a b+ay p (fun l'=>(if gx l a then (0:Int) else if l'=rp a then -1 else 0) * eA l l' b)))=ay p (aW a)+ay p (fun b=>(if iL l b=eC l a then 1 else 0) - aW (cw a) b):=by
   rw [← k7]
   refine eL fun b _=>?_
   rw [e1,e2,Int.add_zero,Int.add_zero,JJ,Pc,ap']
  have h1:=pU p a
  have h2:=JO hE (e:=a) (by omega)
  rw [hp] at h2
  rw [e3,wz,h2,mS (n:=p) (f:=aW (cw a)) (cw a) (CD hp.symm ha) (fun i _ hne=>qY hne),uV]
  omega
 ·rw [if_neg h]
  obtain ⟨g1,g2,g3⟩:=(wk a ha).2 h
  have e1:∀ b,ay p (fun l'=>(if gx l a then (0:Int) else if l'=rp a then -1 else 0) * aW l' b)=-(aW (rp a) b):=fun b=>by
   rw [mS (rp a) (by omega) (fun i _ hne=>by rw [if_neg h,if_neg hne,Int.zero_mul]),if_neg h,if_pos rfl];omega
  have e2:∀ b,ay p (fun l'=>(if gx l a then (0:Int) else if l'=rp a then -1 else 0) * eA l l' b)=-(eA l (rp a) b):=fun b=>by
   rw [mS (rp a) (by omega) (fun i _ hne=>by rw [if_neg h,if_neg hne,Int.zero_mul]),if_neg h,if_pos rfl];omega
  have e3:ay p (fun b=>ao0 (aW a b+ay p (fun l'=>(if gx l a then (0:Int) else if l'=rp a then -1 else 0) * aW l' b))+ao0 (eA l a b+ay p (fun l'=>(if gx l a then (0:Int) else if l'=rp a then -1 else 0) * eA l l' b)))≤ay p (fun b=>(aW a b+aW (rp a) b)+(aW (cw a) b+aW (cw (rp a)) b)):=by
   refine oX fun b _=>?_
   rw [e1,e2,ap',ap',g2]
   have q1:=qN a b
   have q2:=qN (rp a) b
   have q3:=qN (cw a) b
   have q4:=qN (cw (rp a)) b
   unfold ao0
   omega
  have h1:=pU p a
  have h2:=pU p (rp a)
  have h3:=pU p (cw a)
  have h4:=pU p (cw (rp a))
  have e4:ay p (fun b=>(aW a b+aW (rp a) b)+(aW (cw a) b+aW (cw (rp a)) b))=(ay p (aW a)+ay p (aW (rp a)))+(ay p (aW (cw a))+ay p (aW (cw (rp a)))):=by
   rw [k7,k7,k7]
  rw [e4] at e3
  omega
/-- Another's rows: who follows on a's sheet, but not on the first. -/
def cF (l t:List (List Int)) (e i b:Nat):Int:=if iL l (b % (2 * l.length))=eC l e then (if kF t (b % (2 * l.length)) (b / (2 * l.length)+1)=dB t e i then 1 else 0) - (if kF t (b % (2 * l.length)) (b / (2 * l.length)+1)=dB t e 0 then 1 else 0) else 0
theorem HZ (l t:List (List Int)) (a b:Nat) (hp:0 < 2 * l.length):nP l t a b=cF l t (a % (2 * l.length)) (a / (2 * l.length)+1) b - aW (a / (2 * l.length) * (2 * l.length)+cw (a % (2 * l.length))) b:=by
 have ha:a % (2 * l.length) < 2 * l.length:=Nat.mod_lt _ hp
 have ho:=CD (n:=2 * l.length) rfl ha
 obtain ⟨k1,k2⟩:=apI (p:=2 * l.length) (a / (2 * l.length)) ho
 unfold nP H_ wC
 rw [Nat.add_mod_left,Nat.add_div_left _ hp,Nat.add_mod_left,Nat.add_div_left _ hp,Nat.mod_mod,Nat.div_eq_of_lt ha]
 generalize hf:b % (2 * l.length)=f
 generalize hj:b / (2 * l.length)=j
 generalize he:a % (2 * l.length)=e at *
 generalize hi:a / (2 * l.length)=i at *
 have e1:aW (i * (2 * l.length)+cw e) b=if f=cw e∧j.succ=i.succ then 1 else 0:=by
  unfold aW
  by_cases h:b=i * (2 * l.length)+cw e
  ·rw [if_pos h,if_pos ⟨by rw [← hf,h,k1],by rw [← hj,h,k2]⟩]
  ·rw [if_neg h,if_neg (fun g=>h (by
    have:=Ia (p:=2 * l.length) (a:=b)
    rw [hf,hj,g.1,show j=i by omega] at this
    exact this.symm))]
 unfold cF
 rw [hf,hj,e1]
 have e2:(if f=cw e∧j.succ=0 then (1:Int) else 0)=0:=if_neg (by omega)
 rw [e2]
 by_cases c:iL l f=eC l e
 ·rw [if_pos c]
  have e3:∀ s,(if iL l f=eC l e∧kF t f j.succ=s then (1:Int) else 0)=if kF t f (j+1)=s then 1 else 0:=fun s=>by
   by_cases g:kF t f (j+1)=s
   ·rw [if_pos ⟨c,g⟩,if_pos g]
   ·rw [if_neg (fun g2=>g g2.2),if_neg g]
  rw [e3,e3]
  show _=(if kF t f (j+1)=dB t e (i+1) then (1:Int) else 0) - _ - _
  omega
 ·have e4 : ∀ s, (if iL l f = eC l e ∧ kF t f j.succ = s then (1 : Int) else 0) = 0 := fun s => if_neg (fun g => c g.1)
  rw [if_neg c,e4,e4]
  omega
/-- A few ones, laid out. -/
theorem afi (q d:Nat) (z:Nat→Int) (x:Nat→Nat) (h0:∀ j,j < d→0≤z j) (h1:ay d z≤1):ay q (fun b=>ay d (fun j=>z j * aW (x j) b))≤1:=by
 rw [yS]
 refine Int.le_trans (oX fun j hj=>?_) h1
 rw [jg]
 have h2:=pU q (x j)
 have h3:ay q (fun b=>aW (x j) b)≤1:=h2
 have h4:=Int.mul_le_mul_of_nonneg_left h3 (h0 j hj)
 rw [Int.mul_one] at h4
 exact h4
theorem JR (t:List (List Int)) (e j:Nat):kF t (cw e) j=dB t e j:=by
 obtain ⟨h1,h2⟩:=Mp e
 unfold kF dB
 rw [h1,h2]
 rcases Nat.mod_two_eq_zero_or_one e with h|h
 ·rw [h,if_neg (by omega),if_pos rfl]
 ·rw [h,if_pos (by omega),if_neg (by omega)]
theorem Pq {n:Nat} {l t:List (List Int)} (hlt:t.length=l.length) (ht:∀ x ∈ t,kI n x=true) (f s:Nat) (hf:f < 2 * l.length) (hs:s < n):∃ j,j < n∧∀ i,i < n→(kF t f i=s↔i=j):=by
 unfold kF
 by_cases g:f % 2=0
 ·exact ⟨s,hs,fun i _=>by rw [if_pos g]⟩
 ·obtain ⟨j, hj, hji⟩ := ara ht (f / 2) (by omega) s hs
  exact ⟨j,hj,fun i hi=>by rw [if_neg g];exact hji i hi⟩
theorem Qu {n:Nat} {l t:List (List Int)} (hlt:t.length=l.length) (ht:∀ x ∈ t,kI n x=true) (f s:Nat) (hf:f < 2 * l.length) (hs:s < n):∃ j,j < n∧∀ i,i < n→(dB t f i=s↔i=j):=by
 obtain ⟨j,h1,h2⟩:=Pq hlt ht (cw f) s (CD rfl hf) hs
 exact ⟨j,h1,fun i hi=>by rw [← JR];exact h2 i hi⟩
/-- Ones at one value of a one to one map. -/
theorem TV {n d:Nat} (hd:d+1=n) (g:Nat→Nat) (hg:∀ s,s < n→∃ j,j < n∧∀ i,i < n→(g i=s↔i=j)) (s:Nat) (hs:s < n):ay d (fun j=>if g (j+1)=s then (1:Int) else 0)≤1:=by
 obtain ⟨j0,h1,h2⟩:=hg s hs
 refine TW (fun a _=>by split<;>omega) (fun a _=>by split<;>omega) (fun a b hab hb=>?_)
 by_cases e:g (a+1)=s
 ·refine .inr (if_neg fun e2 => ?_)
  have:=(h2 (a+1) (by omega)).1 e
  have:=(h2 (b+1) (by omega)).1 e2
  omega
 ·exact .inl (if_neg e)
def cS (l t:List (List Int)) (e s b:Nat):Int:=if iL l (b % (2 * l.length))=eC l e then (if kF t (b % (2 * l.length)) (b / (2 * l.length)+1)=s then 1 else 0) else 0
theorem PF (l t:List (List Int)) (e s b:Nat):cS l t e s b=0∨cS l t e s b=1:=by unfold cS;(repeat' split)<;>simp
theorem JZ (l t:List (List Int)) (e i b:Nat):cF l t e i b=cS l t e (dB t e i) b - cS l t e (dB t e 0) b:=by
 unfold cF cS
 by_cases h:iL l (b % (2 * l.length))=eC l e
 ·rw [if_pos h,if_pos h,if_pos h]
 ·rw [if_neg h,if_neg h,if_neg h];rfl
theorem PE {n d:Nat} (hd:d+1=n) {N:Nat} {l t:List (List Int)} (hE:endsIn N l) (hlt:t.length=l.length) (ht:∀ x ∈ t,kI n x=true) {e:Nat} (he:e < 2 * l.length) (s:Nat) (hs:s < n):ay (d * (2 * l.length)) (cS l t e s)≤yu l e:=by
 rw [Nb,yS,← JO hE he]
 refine oX fun f hf=>?_
 by_cases h:iL l f=eC l e
 ·rw [if_pos h]
  have h1:=TV hd (kF t f) (fun s hs=>Pq hlt ht f s hf hs) s hs
  refine Int.le_trans (oX fun j _=>?_) h1
  obtain ⟨k1,k2⟩:=apI (p:=2 * l.length) j hf
  unfold cS
  rw [k1,k2,if_pos h]
  exact Int.le_refl _
 ·rw [if_neg h,jE fun j _=>by
   obtain ⟨k1,_⟩:=apI (p:=2 * l.length) j hf
   unfold cS
   rw [k1,if_neg h]]
  exact Int.le_refl _
/-- The other's rows: what stands for one end together. -/
theorem TK {n d : Nat} (hd : d + 1 = n) {l t : List (List Int)} (hlt : t.length = l.length) (ht : ∀ x ∈ t, kI n x = true) {e r : Nat} (hr : r < 2 * l.length) (her : eC l r = eC l e) (s : Nat) (hs : s < n) (b : Nat) :
  ay d (fun j=>(if dB t r (j+1)=s then (1:Int) else 0) * nP l t (j * (2 * l.length)+r) b)=cS l t e s b - cS l t e (dB t r 0) b - ay d (fun j=>(if dB t r (j+1)=s then (1:Int) else 0) * aW (j * (2 * l.length)+cw r) b):=by
 have hc:∀ s,cS l t r s b=cS l t e s b:=fun s=>by unfold cS;rw [her]
 rw [eL (g:=fun j=>(if dB t r (j+1)=s then (1:Int) else 0) * cF l t r (j+1) b - (if dB t r (j+1)=s then (1:Int) else 0) * aW (j * (2 * l.length)+cw r) b) (fun j _=>by
  obtain ⟨k1,k2⟩:=apI (p:=2 * l.length) j hr
  rw [HZ l t _ b (by omega),k1,k2,Int.mul_sub]),wz]
 congr 1
 obtain ⟨j0,h1,h2⟩:=Qu hlt ht r s hr hs
 rcases Nat.eq_zero_or_pos j0 with h0|h0
 ·subst h0
  have h3:dB t r 0=s:=(h2 0 (by omega)).2 rfl
  rw [jE (fun j hj=>by rw [if_neg (fun h=>by have:=(h2 (j+1) (by omega)).1 h;omega),Int.zero_mul]),h3]
  omega
 ·obtain ⟨j1, rfl⟩ : ∃ j1, j0 = j1 + 1 := ⟨j0 - 1, by omega⟩
  have h3:dB t r (j1+1)=s:=(h2 (j1+1) h1).2 rfl
  rw [mS j1 (by omega) (fun j hj hne=>by rw [if_neg (fun h=>hne (by have:=(h2 (j+1) (by omega)).1 h;omega)),Int.zero_mul]),if_pos h3,Int.one_mul,JZ,hc,hc,h3]
theorem Na (q:Nat) (f g h:Nat→Int):ay q (fun b=>f b+(g b+h b))=ay q f+(ay q g+ay q h):=by rw [k7,k7]
theorem afh (q:Nat) (f g h f' g' h':Nat→Int):ay q (fun b=>(f b+(g b+h b))+(f' b+(g' b+h' b)))=(ay q f+(ay q g+ay q h))+(ay q f'+(ay q g'+ay q h')):=by rw [k7,Na,Na]
theorem aaa {n d N : Nat} (hd : d + 1 = n) {l t : List (List Int)} (hE : endsIn N l) (hlt : t.length = l.length) (ht : ∀ x ∈ t, kI n x = true) (wg : ∀ e i, e < 2 * l.length → i < n → dB t e i < n) :
  ay (d * (2 * l.length)+1) (fun k=>ao0 (bU (d * (2 * l.length)) (nP l t) k))≤dr (d * (2 * l.length)) (fun a=>if gx l (a % (2 * l.length)) then 1+2 * (yu l (a % (2 * l.length)):Int) else 6):=by
 obtain ⟨rp,wk⟩:=Classical.axiomOfChoice (M6 hE)
 let X:Nat→Nat→Int:=fun a b=>if gx l (a % (2 * l.length))∨b % (2 * l.length) ≠ rp (a % (2 * l.length)) then 0 else (if dB t (rp (a % (2 * l.length))) (b / (2 * l.length)+1)=dB t (a % (2 * l.length)) 0 then 1 else 0) - (if dB t (rp (a % (2 * l.length))) (b / (2 * l.length)+1)=dB t (a % (2 * l.length)) (a / (2 * l.length)+1) then 1 else 0)
 refine J6 (nP l t) X (fun a b ha hb h r _=>?_) _ (fun a ha=>?_)
 ·by_cases g : gx l (a % (2 * l.length)) ∨ b % (2 * l.length) ≠ rp (a % (2 * l.length))
  ·exact absurd (if_pos g) h
  ·have g1 : ¬ gx l (a % (2 * l.length)) := fun h => g (.inl h)
   have g2:b % (2 * l.length)=rp (a % (2 * l.length)):=by
    by_cases e:b % (2 * l.length)=rp (a % (2 * l.length))
    ·exact e
    ·exact absurd (.inr e) g
   have g3:=(((wk _ (aqb ha).1).2 g1).2).2
   rw [← g2] at g3
   exact if_pos (.inl g3)
 ·obtain ⟨he, hi⟩ := aqb ha
  have hp:0 < 2 * l.length:=by omega
  have hq:∀ x,ay (d * (2 * l.length)) (aW x)≤1:=fun x=>pU _ x
  by_cases h:gx l (a % (2 * l.length))
  ·have z:∀ (φ:Nat→Int),ay (d * (2 * l.length)) (fun j=>X a j * φ j)=0:=fun φ=>jE fun j _=>by
    show (if gx l (a % (2 * l.length))∨j % (2 * l.length) ≠ rp (a % (2 * l.length)) then (0:Int) else _) * φ j=0
    rw [if_pos (.inl h),Int.zero_mul]
   rw [if_pos h]
   have h1:=PE hd hE hlt ht he (dB t (a % (2 * l.length)) (a / (2 * l.length)+1)) (wg _ _ he (by omega))
   have h2:=PE hd hE hlt ht he (dB t (a % (2 * l.length)) 0) (wg _ _ he (by omega))
   have h3:ay (d * (2 * l.length)) (fun b=>ao0 (aW a b+ay (d * (2 * l.length)) (fun j=>X a j * aW j b))+ao0 (nP l t a b+ay (d * (2 * l.length)) (fun j=>X a j * nP l t j b)))≤ay (d * (2 * l.length)) (fun b=>aW a b+(cS l t (a % (2 * l.length)) (dB t (a % (2 * l.length)) (a / (2 * l.length)+1)) b+cS l t (a % (2 * l.length)) (dB t (a % (2 * l.length)) 0) b)):=by
    refine oX fun b _=>?_
    rw [z,z,Int.add_zero,Int.add_zero,JJ,HZ l t a b hp,JZ]
    have c1:=PF l t (a % (2 * l.length)) (dB t (a % (2 * l.length)) (a / (2 * l.length)+1)) b
    have c2:=PF l t (a % (2 * l.length)) (dB t (a % (2 * l.length)) 0) b
    by_cases g:b=a / (2 * l.length) * (2 * l.length)+cw (a % (2 * l.length))
    ·have c3:cS l t (a % (2 * l.length)) (dB t (a % (2 * l.length)) (a / (2 * l.length)+1)) b=1:=by
      obtain ⟨k1,k2⟩:=apI (p:=2 * l.length) (a / (2 * l.length)) (CD (n:=2 * l.length) rfl he)
      unfold cS
      rw [g,k1,k2,DN,JR,if_pos rfl,if_pos rfl]
     rw [c3,← g,uV]
     unfold ao0
     omega
    ·rw [qY g]
     unfold ao0
     omega
   have h4:=hq a
   refine Int.le_trans h3 (Int.le_trans (Int.le_of_eq (Na _ (aW a) (cS l t (a % (2 * l.length)) (dB t (a % (2 * l.length)) (a / (2 * l.length)+1))) (cS l t (a % (2 * l.length)) (dB t (a % (2 * l.length)) 0)))) ?_)
   omega
  ·obtain ⟨g1, g2, g3⟩ := (wk _ he).2 h
   rw [if_neg h]
   generalize hee:a % (2 * l.length)=e at *
   generalize RS:a / (2 * l.length)=i at *
   generalize hrr:rp e=r at *
   have hs1:=wg e 0 he (by omega)
   have rI:=wg e (i+1) he (by omega)
   have z:∀ (φ:Nat→Int),ay (d * (2 * l.length)) (fun j=>X a j * φ j)=ay d (fun j=>(if dB t r (j+1)=dB t e 0 then (1:Int) else 0) * φ (j * (2 * l.length)+r)) - ay d (fun j=>(if dB t r (j+1)=dB t e (i+1) then (1:Int) else 0) * φ (j * (2 * l.length)+r)):=by
    intro φ
    rw [Nb,← wz]
    refine eL fun j _=>?_
    have hX:∀ x,x < 2 * l.length→X a (j * (2 * l.length)+x)=if gx l e∨x ≠ r then 0 else (if dB t r (j+1)=dB t e 0 then 1 else 0) - (if dB t r (j+1)=dB t e (i+1) then 1 else 0):=by
     intro x hx
     obtain ⟨k1,k2⟩:=apI (p:=2 * l.length) j hx
     show (if gx l (a % (2 * l.length))∨(j * (2 * l.length)+x) % (2 * l.length) ≠ rp (a % (2 * l.length)) then (0:Int) else _)=_
     rw [k1,k2,hee,RS,hrr]
    rw [mS r (by omega) (fun x hx hne=>by rw [hX x hx,if_pos (.inr hne),Int.zero_mul]),hX r (by omega),if_neg (fun g=>g.elim h (fun g=>g rfl)),Int.sub_mul]
   have h3 : ay (d * (2 * l.length)) (fun b => ao0 (aW a b + ay (d * (2 * l.length)) (fun j => X a j * aW j b)) + ao0 (nP l t a b + ay (d * (2 * l.length)) (fun j => X a j * nP l t j b))) ≤
     ay (d * (2 * l.length)) (fun b=>(aW a b+(ay d (fun j=>(if dB t r (j+1)=dB t e 0 then (1:Int) else 0) * aW (j * (2 * l.length)+r) b)+ay d (fun j=>(if dB t r (j+1)=dB t e (i+1) then (1:Int) else 0) * aW (j * (2 * l.length)+r) b)))+(aW (i * (2 * l.length)+cw e) b+(ay d (fun j=>(if dB t r (j+1)=dB t e 0 then (1:Int) else 0) * aW (j * (2 * l.length)+cw r) b)+ay d (fun j=>(if dB t r (j+1)=dB t e (i+1) then (1:Int) else 0) * aW (j * (2 * l.length)+cw r) b)))):=by
    refine oX fun b _=>?_
    rw [z,z,TK hd hlt ht (by omega) g2 _ hs1 b,TK hd hlt ht (by omega) g2 _ rI b,HZ l t a b hp,hee,RS,JZ]
    have nn:∀ (s:Nat) (x:Nat→Nat),0≤ay d (fun j=>(if dB t r (j+1)=s then (1:Int) else 0) * aW (x j) b):=fun s x=>xz fun j _=>Int.mul_nonneg (by split<;>omega) (qN _ _)
    have n1:=nn (dB t e 0) (fun j=>j * (2 * l.length)+r)
    have n2:=nn (dB t e (i+1)) (fun j=>j * (2 * l.length)+r)
    have n3:=nn (dB t e 0) (fun j=>j * (2 * l.length)+cw r)
    have n4:=nn (dB t e (i+1)) (fun j=>j * (2 * l.length)+cw r)
    have n5:=qN a b
    have n6:=qN (i * (2 * l.length)+cw e) b
    unfold ao0
    omega
   have hit:∀ s,s < n→∀ x:Nat→Nat,ay (d * (2 * l.length)) (fun b=>ay d (fun j=>(if dB t r (j+1)=s then (1:Int) else 0) * aW (x j) b))≤1:=fun s hs x=>afi _ d _ x (fun j _=>by split<;>omega) (TV hd (dB t r) (fun s hs=>Qu hlt ht r s (by omega) hs) s hs)
   have b1:=hit _ hs1 (fun j=>j * (2 * l.length)+r)
   have b2:=hit _ rI (fun j=>j * (2 * l.length)+r)
   have b3:=hit _ hs1 (fun j=>j * (2 * l.length)+cw r)
   have b4:=hit _ rI (fun j=>j * (2 * l.length)+cw r)
   have b5:ay (d * (2 * l.length)) (fun b=>aW a b)≤1:=hq a
   have b6:ay (d * (2 * l.length)) (fun b=>aW (i * (2 * l.length)+cw e) b)≤1:=hq _
   refine Int.le_trans h3 (Int.le_trans (Int.le_of_eq (afh _ (aW a) (fun b=>ay d (fun j=>(if dB t r (j+1)=dB t e 0 then (1:Int) else 0) * aW (j * (2 * l.length)+r) b)) (fun b=>ay d (fun j=>(if dB t r (j+1)=dB t e (i+1) then (1:Int) else 0) * aW (j * (2 * l.length)+r) b)) (aW (i * (2 * l.length)+cw e)) (fun b=>ay d (fun j=>(if dB t r (j+1)=dB t e 0 then (1:Int) else 0) * aW (j * (2 * l.length)+cw r) b)) (fun b=>ay d (fun j=>(if dB t r (j+1)=dB t e (i+1) then (1:Int) else 0) * aW (j * (2 * l.length)+cw r) b)))) ?_)
   have b7:=hq a
   have b8:=hq (i * (2 * l.length)+cw e)
   omega
theorem aeH (n:Nat) (v:Nat→Int) (d:Nat):dr n (fun e=>v e ^ d)=dr n v ^ d:=by
 induction d with
 | zero=>rw [Int.pow_zero];exact MI fun i _=>Int.pow_zero _
 | succ d ih =>
  rw [Int.pow_succ,← ih,← MH]
  exact yP fun i _=>Int.pow_succ _ _
theorem Xw {n d N : Nat} (hd : d + 1 = n) (hn : n ≤ 4) (hN : N ≤ 8) {l t : List (List Int)} (hm : l.length * n ≤ 10) (hE : endsIn N l) (hlt : t.length = l.length) (ht : ∀ x ∈ t, kI n x = true) (wg : ∀ e i, e < 2 * l.length → i < n → dB t e i < n) :
  ay (2 * l.length+1) (fun k=>ao0 (bU (2 * l.length) (eA l) k)) * ay (d * (2 * l.length)+1) (fun k=>ao0 (bU (d * (2 * l.length)) (nP l t) k))≤1000000000000000:=by
 have h1:=ZP hE
 have h2:=aaa hd hE hlt ht wg
 have h3:=aeI (2 * l.length) (fun e=>if gx l e then 1+2 * (yu l e:Int) else 6) d
 rw [h3,← aeH] at h2
 have n1:0≤ay (d * (2 * l.length)+1) (fun k=>ao0 (bU (d * (2 * l.length)) (nP l t) k)):=xz fun k _=>ou _
 have n2:0≤dr (2 * l.length) (fun e=>if gx l e then (yu l e:Int) else 4):=Tb fun e _=>by split<;>omega
 refine Int.le_trans (Int.mul_le_mul h1 h2 n1 n2) ?_
 rw [← MH]
 have h4:=Ul 8 (jA l) (fun a=>(a:Int) * (1+2 * a) ^ d) (4 * 6 ^ d) (AX d) (by unfold AX;(repeat' split)<;>decide) (Int.mul_nonneg (by decide) (Int.pow_nonneg (by decide))) (2 * l.length) (fun e he=>by
  obtain ⟨_,v,_,hv,_,Cq⟩:=D2 hE e he
  unfold jA
  rw [hv]
  omega) (fun a h5 h6=>by
  have h7:a * n≤2 * l.length * n:=Nat.mul_le_mul_right n h6
  rw [Nat.mul_assoc] at h7
  exact ⟨Int.mul_nonneg (by omega) (Int.pow_nonneg (by omega)),Um d (by omega) a h5 (by rw [hd];omega)⟩)
 refine Int.le_trans (Int.le_of_eq (yP fun e _=>?_)) (Int.le_trans h4 (Un d (by omega) l.length (by rw [hd];exact hm)))
 by_cases g:gx l e
 ·rw [if_pos g, if_pos g, if_pos (show gu (jA l) (jA l e) e = 0 from g)]
  rfl
 ·rw [if_neg g,if_neg g,if_neg (show ¬ gu (jA l) (jA l e) e=0 from g)]
/-- Terms of a product, all together. -/
theorem P6 {p q:Nat} {f g:Nat→Int} (hf:∀ k,p < k→f k=0) (hg:∀ k,q < k→g k=0) {B:Int} (h:ay (p+1) (fun k=>ao0 (f k)) * ay (q+1) (fun k=>ao0 (g k))≤B) (k:Nat):ay (k+1) (fun i=>ao0 (f i * g (k - i)))≤B:=by
 have h1:∀ j,ao0 (g j)≤ay (q+1) (fun k=>ao0 (g k)):=fun j=>by
  by_cases e:j≤q
  ·have := AE g j (show j < q + 1 by omega)
   exact this
  ·rw [hg j (by omega), Mc]
   exact xz fun k _=>ou _
 have h2:ay (k+1) (fun i=>ao0 (f i))≤ay (p+1) (fun i=>ao0 (f i)):=by
  by_cases e:p≤k
  ·rw [Cx (n := p + 1) (m := k + 1) (f := fun i => ao0 (f i)) (by omega) (fun i h3 _ => by rw [hf i (by omega), Mc])]
   exact Int.le_refl _
  ·have h3 := E9 (k + 1) (p - k) (fun i => ao0 (f i))
   rw [show k+1+(p - k)=p+1 by omega] at h3
   have h4:0≤ay (p - k) (fun i=>ao0 (f (k+1+i))):=xz fun _ _=>ou _
   omega
 refine Int.le_trans (oX (g:=fun i=>ay (q+1) (fun k=>ao0 (g k)) * ao0 (f i)) fun i _=>?_) ?_
 ·rw [E6, Int.mul_comm]
  exact Int.mul_le_mul_of_nonneg_right (h1 _) (ou _)
 ·rw [jg, Int.mul_comm]
  exact Int.le_trans (Int.mul_le_mul_of_nonneg_right h2 (xz fun _ _=>ou _)) h
theorem Ih {f:Nat→Int} {a n:Nat} (h:a≤n) (ha:f a ≠ 0) (hz:∀ k,a < k→f k=0):iG (bD (n+1) f) (n+1)=bD (a+1) f:=by
 obtain ⟨d,rfl⟩:∃ d,n=a+d:=⟨n - a,by omega⟩
 rw [afF f d a hz]
 unfold iG
 rw [if_neg (by rw [kW (show a < a+1 by omega)];exact ha),List.take_of_length_le (by rw [iY];exact Nat.le_refl _)]
theorem Qd {f:Nat→Int} (h0:f 0 ≠ 0):∀ n,(∀ k,n < k→f k=0)→∃ a,a≤n∧f a ≠ 0∧∀ k,a < k→f k=0:=by
 intro n
 induction n with
 | zero=>intro h;exact ⟨0,Nat.le_refl _,h0,h⟩
 | succ n ih =>
  intro h
  by_cases e:f (n+1)=0
  ·obtain ⟨a,h1,h2,h3⟩:=ih (fun k hk=>by
    by_cases e2:k=n+1
    ·rw [e2];exact e
    ·exact h k (by omega))
   exact ⟨a,by omega,h2,h3⟩
  ·exact ⟨n+1,Nat.le_refl _,e,h⟩
theorem J7 {g h:Nat→Int} {c b:Nat} (hg:∀ k,c < k→g k=0) (hh:∀ k,b < k→h k=0) (k:Nat) (hk:c+b < k):cv g h k=0:=by
 refine jE fun i _=>?_
 by_cases e:c < i
 ·rw [hg i e,Int.zero_mul]
 ·rw [hh (k - i) (by omega),Int.mul_zero]
theorem P7 {g h:Nat→Int} {c b:Nat} (hg:∀ k,c < k→g k=0) (hh:∀ k,b < k→h k=0):cv g h (c+b)=g c * h b:=by
 unfold cv
 rw [mS c (by omega) (fun i _ hne=>by
  by_cases e:c < i
  ·rw [hg i e,Int.zero_mul]
  ·rw [hh (c+b - i) (by omega),Int.mul_zero]),show c+b - c=b by omega]
theorem YG {g h:Nat→Int} {c b:Nat} (hg:∀ k,c < k→g k=0) (hh:∀ k,b < k→h k=0) (k:Nat):cv h g k=cv g h k:=by
 by_cases e:k≤c+b
 ·refine yQ (n := c + b) (fun u _ => ?_) k e
  rw [← MJ b h hh u c g hg,show c+b=b+c by omega,← MJ c g hg u b h hh,Int.mul_comm]
 ·rw [J7 hg hh k (by omega),J7 hh hg k (by omega)]
theorem JK (y:Int) (h:-1000000000000000≤y∧y≤1000000000000000):l8.f y=some (ao0 y):=by
 unfold l8.f mx ao0
 rw [wI (-y) (by omega)]
 congr 1
 split<;>omega
theorem SU (y:Int):sP.f y=some (decide (-1000000000000000≤y) && decide (y≤1000000000000000)):=by
 unfold sP.f
 rw [Io]
 rfl
theorem Tz (x y z:Int) (hx:-1000000000000000≤x∧x≤1000000000000000) (hy:ao0 y≤1000000000000000) (hz:ao0 z≤1000000000000000) (hyz:ao0 (y * z)≤1000000000000000) (hs:ao0 (x+y * z)≤1000000000000000):Ev (fun k=>lC.f k x y z) (x+y * z,true):=by
 have yes:y * z=0→Ev (fun k=>lC.j0 k x y z true) (x+y * z,true):=by
  intro h
  refine Ev.step (fun k=>by simp only [lC.j0];rfl) ?_
  simp only [if_true]
  rw [h,Int.add_zero]
  exact Ev.now _
 unfold lC.f
 by_cases h1:y=0
 ·simp only [h1, if_true]
  have h:=yes (by rw [h1,Int.zero_mul])
  rw [h1] at h
  exact h
 ·simp only [h1, if_false]
  by_cases h2:z=0
  ·rw [show (z == 0) = true from beq_iff_eq.2 h2]
   exact yes (by rw [h2,Int.mul_zero])
  ·rw [show (z == 0) = false from beq_eq_false_iff_ne.2 h2]
   refine Ev.step (fun k=>by simp only [lC.j0];rfl) ?_
   have hy2:-1000000000000000≤y∧y≤1000000000000000:=by unfold ao0 at hy;omega
   have xx:-1000000000000000≤z∧z≤1000000000000000:=by unfold ao0 at hz;omega
   have hp2:-1000000000000000≤y * z∧y * z≤1000000000000000:=by unfold ao0 at hyz;omega
   have rI:-1000000000000000≤x+y * z∧x+y * z≤1000000000000000:=by unfold ao0 at hs;omega
   have hz3:0 < ao0 z:=by unfold ao0;omega
   rw [E6] at hyz
   have hdv:ao0 y≤1000000000000000 / ao0 z:=(Int.le_ediv_iff_mul_le hz3).2 hyz
   have hd2:1000000000000000 / ao0 z≤1000000000000000:=Int.ediv_le_self _ (by decide)
   have hd3:=ou y
   simp only [Bool.false_eq_true,if_false,JK y hy2,JK z xx,Option.bind_some,show ¬ (ao0 z=0) by omega,wI (1000000000000000 / ao0 z) (by omega),show ¬ (ao0 y > 1000000000000000 / ao0 z) by omega,SU]
   rw [wI (y * z) (by omega),wI (x+y * z) (by omega),decide_eq_true rI.1,decide_eq_true rI.2]
   exact Ev.now _
theorem SV {f:Nat→Int} {a:Nat} (ha:a < 40) (hf:∀ k,k≤a→ao0 (f k)≤1000000000000000) (h0:f a ≠ 0):Ev (fun k=>lT.f k (bD (a+1) f)) true:=by
 have hl:(bD (a+1) f).length=a+1:=iY _ _
 have main:∀ d i,a+1 - i=d→i≤a+1→Ev (fun k=>lT.l0 k (bD (a+1) f) (bD (a+1) f) ((a+1:Nat):Int) i) true:=by
  intro d
  induction d with
  | zero =>
   intro i hd hi
   obtain rfl:i=a+1:=by omega
   refine Ev.step (fun k=>by simp only [lT.l0];rfl) ?_
   have e1:wrap64 (((a+1:Nat):Int) - 1)=((a:Nat):Int):=by rw [iz (by omega) (by omega)];omega
   simp only [hl,Int.lt_irrefl,if_false,show (((a+1:Nat):Int)≤40) by omega,if_true,show ¬ (((a+1:Nat):Int)=0) by omega,e1,gb a,show ((a:Int) < ((a+1:Nat):Int)) by omega,kW (show a < a+1 by omega)]
   rw [show (f a != 0)=true from bne_iff_ne.2 h0]
   exact Ev.now _
  | succ d ih =>
   intro i hd hi
   have h1:=ih (i+1) (by omega) (by omega)
   have h2:=hf i (by omega)
   refine Ev.step (fun k=>by simp only [lT.l0];rfl) ?_
   simp only [hl,show ((i:Int) < ((a+1:Nat):Int)) by omega,if_true,gb i,kW (show i < a+1 by omega),SU,Option.bind_some,wI ((i:Int)+1) (by omega)]
   rw [decide_eq_true (show -1000000000000000≤f i by unfold ao0 at h2;omega),decide_eq_true (show f i≤1000000000000000 by unfold ao0 at h2;omega)]
   exact h1
 unfold lT.f
 rw [hl]
 exact main (a+1) 0 (by omega) (by omega)
/-- The product of two polynomials, reckoned place by place. -/
theorem aeg {g h : Nat → Int} {c b : Nat} (hcb : c + b < 40) (hg : ∀ k, c < k → g k = 0) (hh : ∀ k, b < k → h k = 0) (hB : ∀ k, ay (k + 1) (fun i => ao0 (h i * g (k - i))) ≤ 1000000000000000) (hgB : ∀ k, ao0 (g k) ≤ 1000000000000000) (ED : ∀ k, ao0 (h k) ≤ 1000000000000000) :
  Ev (fun k=>eW.f k (bD (b+1) h) (bD (c+1) g)) (bD (c+b+1) (cv h g),true):=by
 have G1:(bD (b+1) h).length=b+1:=iY _ _
 have xq:(bD (c+1) g).length=c+1:=iY _ _
 have e0:wrap64 (wrap64 (((b+1:Nat):Int)+((c+1:Nat):Int)) - 1)=((c+b+1:Nat):Int):=by
  rw [iz (show -9223372036854775808≤((b+1:Nat):Int)+((c+1:Nat):Int) by omega) (by omega),iz (by omega) (by omega)];omega
 have hpart:∀ k j,j≤k+1→ao0 (ay j (fun r=>h r * g (k - r)))≤1000000000000000:=by
  intro k j hj
  refine Int.le_trans (aqX j _) (Int.le_trans ?_ (hB k))
  have h3:=E9 j (k+1 - j) (fun i=>ao0 (h i * g (k - i)))
  rw [show j+(k+1 - j)=k+1 by omega] at h3
  have h4:0≤ay (k+1 - j) (fun i=>ao0 (h (j+i) * g (k - (j+i)))):=xz fun _ _=>ou _
  omega
 have inner : ∀ (kk : Nat), kk < c + b + 1 → ∀ (R : List Int × Bool), Ev (fun k => eW.l0 k (bD (b + 1) h) (bD (c + 1) g) (bD (kk + 1) (cv h g)) ((c + b + 1 : Nat) : Int) ((kk + 1 : Nat) : Int)) R →
   ∀ d j,min kk b+1 - j=d→kk - c≤j→j≤min kk b+1→Ev (fun k=>eW.l1 k (bD (b+1) h) (bD (c+1) g) (bD kk (cv h g)) kk (ay j (fun r=>h r * g (kk - r))) j ((c+b+1:Nat):Int) kk) R:=by
  intro kk hkk R next d
  have em:mn (kk:Int) (wrap64 (((b+1:Nat):Int) - 1))=((min kk b:Nat):Int):=by
   rw [iz (by omega) (by omega)]
   unfold mn
   split<;>omega
  induction d with
  | zero =>
   intro j hd hlo hj
   obtain rfl:j=min kk b+1:=by omega
   refine Ev.step (fun k=>by simp only [eW.l1];rfl) ?_
   simp only [G1,em,show ¬ (((min kk b+1:Nat):Int)≤((min kk b:Nat):Int)) by omega,if_false,iY,show kk < 17592186044416 by omega,if_true,wI ((kk:Int)+1) (by omega)]
   rw [show bD kk (cv h g) ++ [ay (min kk b+1) (fun r=>h r * g (kk - r))]=bD (kk+1) (cv h g) from by
    unfold bD
    rw [List.range_succ,List.map_append]
    congr 1
    show [_]=[_]
    congr 1
    unfold cv
    exact (Cx (n:=min kk b+1) (m:=kk+1) (by omega) (fun i h1 h2=>by rw [hh i (by omega),Int.zero_mul])).symm]
   exact next
  | succ d ih =>
   intro j hd hlo hj
   have h1:=ih (j+1) (by omega) (by omega) (by omega)
   have p1:=hpart kk j (by omega)
   have p2:=hpart kk (j+1) (by omega)
   have p3:ao0 (h j * g (kk - j))≤1000000000000000:=Int.le_trans (AE (fun i=>h i * g (kk - i)) j (show j < kk+1 by omega)) (hB kk)
   rw [AW] at p2
   have e1:wrap64 ((kk:Int) - (j:Int))=((kk - j:Nat):Int):=by rw [iz (by omega) (by omega)];omega
   refine Ev.step (fun k=>by simp only [eW.l1];rfl) ?_
   simp only [G1,xq,em,show ((j:Int)≤((min kk b:Nat):Int)) by omega,if_true,gb j,show ((j:Int) < ((b+1:Nat):Int)) by omega,e1,show (0:Int)≤((kk - j:Nat):Int) by omega,show (((kk - j:Nat):Int) < ((c+1:Nat):Int)) by omega,kW (show j < b+1 by omega),kW (show kk - j < c+1 by omega),wI ((j:Int)+1) (by omega)]
   refine Ev.bind (Tz _ _ _ (by unfold ao0 at p1;omega) (ED j) (hgB _) p3 p2) ?_
   simp only [if_true]
   exact h1
 have outer:∀ d kk,c+b+1 - kk=d→kk≤c+b+1→Ev (fun k=>eW.l0 k (bD (b+1) h) (bD (c+1) g) (bD kk (cv h g)) ((c+b+1:Nat):Int) kk) (bD (c+b+1) (cv h g),true):=by
  intro d
  induction d with
  | zero =>
   intro kk hd hk
   obtain rfl:kk=c+b+1:=by omega
   refine Ev.step (fun k=>by simp only [eW.l0];rfl) ?_
   simp only [Int.lt_irrefl,if_false]
   exact Ev.now _
  | succ d ih =>
   intro kk hd hk
   have h1:=inner kk (by omega) _ (ih (kk+1) (by omega) (by omega)) (min kk b+1 - (kk - c)) (kk - c) rfl (Nat.le_refl _) (by omega)
   have e1:mx 0 (wrap64 (wrap64 ((kk:Int) - ((c+1:Nat):Int))+1))=((kk - c:Nat):Int):=by
    rw [iz (show -9223372036854775808≤(kk:Int) - ((c+1:Nat):Int) by omega) (by omega),iz (by omega) (by omega)]
    unfold mx
    split<;>omega
   refine Ev.step (fun k=>by simp only [eW.l0];rfl) ?_
   simp only [show ((kk:Int) < ((c+b+1:Nat):Int)) by omega,if_true,xq,e1]
   rw [jE (n:=kk - c) (f:=fun r=>h r * g (kk - r)) (fun i hi=>by rw [hg (kk - i) (by omega),Int.mul_zero])] at h1
   exact h1
 unfold eW.f
 simp only [G1,show ¬ (((b+1:Nat):Int)=0) by omega,if_false,xq,show (((c+1:Nat):Int) == 0)=false from beq_eq_false_iff_ne.2 (by omega)]
 refine Ev.step (fun k=>by simp only [eW.j0];rfl) ?_
 simp only [G1,xq,Bool.false_eq_true,if_false,e0,show ¬ (((c+b+1:Nat):Int) > 40) by omega]
 exact outer (c+b+1) 0 (by omega) (by omega)
/-- What is left of a coefficient when the first ones are taken off. -/
def ow (g h:Nat→Int) (kk i:Nat):Int:=ay (kk+1) (fun r=>if r=0∨i≤r then g r * h (kk - r) else 0)
theorem aes (g h:Nat→Int) (kk:Nat):ow g h kk 1=cv g h kk:=eL fun r _=>if_pos (by omega)
theorem aet (g h:Nat→Int) {kk i:Nat} (h1:1≤i) (h2:i≤kk):ow g h kk (i+1)=ow g h kk i - g i * h (kk - i):=by
 have e:ow g h kk i - ow g h kk (i+1)=g i * h (kk - i):=by
  unfold ow
  rw [← wz,mS i (show i < kk+1 by omega) (fun r _ hne=>by
   by_cases e:r=0∨i≤r
   ·rw [if_pos e,if_pos (by omega)];omega
   ·rw [if_neg e,if_neg (by omega)];rfl),if_pos (.inr (Nat.le_refl _)),if_neg (by omega)]
  omega
 omega
theorem aer {g h:Nat→Int} {c:Nat} (hg:∀ k,c < k→g k=0) {kk i:Nat} (hi:min kk c+1=i):ow g h kk i=g 0 * h kk:=by
 unfold ow
 rw [mS 0 (by omega) (fun r hr hne=>by
  by_cases e:i≤r
  ·rw [if_pos (.inr e),hg r (by omega),Int.zero_mul]
  ·rw [if_neg (fun e2=>e2.elim hne e)]),if_pos (.inl rfl),Nat.sub_zero]
theorem Tu {g h:Nat→Int} {B:Int} (hB:∀ k,ay (k+1) (fun i=>ao0 (g i * h (k - i)))≤B) (kk i:Nat):ao0 (ow g h kk i)≤B:=by
 refine Int.le_trans (aqX _ _) (Int.le_trans (oX fun r _=>?_) (hB kk))
 by_cases e:r=0∨i≤r
 ·simp only [if_pos e];exact Int.le_refl _
 ·simp only [if_neg e];exact ou _
theorem afN (n:Nat) (h:Nat→Int):bD n h ++ [h n]=bD (n+1) h:=by
 unfold bD
 rw [List.range_succ,List.map_append]
 rfl
theorem Y4 {g h : Nat → Int} {c b : Nat} (hcb : c + b ≤ 20) (Ab : g 0 = 1) (GX : h 0 = 1) (hg : ∀ k, c < k → g k = 0) (hh : ∀ k, b < k → h k = 0) (aqS : g c ≠ 0) (B_ : h b ≠ 0) (hB : ∀ k, ay (k + 1) (fun i => ao0 (g i * h (k - i))) ≤ 1000000000000000) (Ku : ∀ k, ay (k + 1) (fun i => ao0 (h i * g (k - i))) ≤ 1000000000000000) :
  Ev (fun k=>dz.f k (bD (c+b+1) (cv g h)) (bD (c+1) g)) (bD (b+1) h,0):=by
 have hlf:(bD (c+b+1) (cv g h)).length=c+b+1:=iY _ _
 have xq:(bD (c+1) g).length=c+1:=iY _ _
 have hgB:∀ k,ao0 (g k)≤1000000000000000:=fun k=>by
  have:=AE (fun i=>g i * h (k - i)) k (show k < k+1 by omega)
  rw [Nat.sub_self,GX,Int.mul_one] at this
  exact Int.le_trans this (hB k)
 have ED:∀ k,ao0 (h k)≤1000000000000000:=fun k=>by
  have:=AE (fun i=>g i * h (k - i)) 0 (show 0 < k+1 by omega)
  rw [Nat.sub_zero,Ab,Int.one_mul] at this
  exact Int.le_trans this (hB k)
 have hfB:∀ k,ao0 (cv g h k)≤1000000000000000:=fun k=>Int.le_trans (aqX _ _) (hB k)
 have hne:cv g h (c+b) ≠ 0:=by
  rw [P7 hg hh]
  exact Int.mul_ne_zero aqS B_
 have wF:=SV (f:=cv g h) (a:=c+b) (by omega) (fun k _=>hfB k) hne
 have wG:=SV (f:=g) (a:=c) (by omega) (fun k _=>hgB k) aqS
 have hm:Ev (fun k=>eW.f k (bD (b+1) h) (bD (c+1) g)) (bD (c+b+1) (cv g h),true):=by
  have:=aeg (g:=g) (h:=h) (c:=c) (b:=b) (by omega) hg hh Ku hgB ED
  rw [show cv h g=cv g h from funext fun k=>YG hg hh k] at this
  exact this
 have fin:Ev (fun k=>dz.j3 k (bD (c+b+1) (cv g h)) (bD (c+1) g) (bD (b+1) h)) (bD (b+1) h,0):=by
  refine Ev.step (fun k=>by simp only [dz.j3];rfl) ?_
  have ht:=arc (bD (b+1) h) (by rw [iY];omega)
  rw [iY,Ih (Nat.le_refl b) B_ hh] at ht
  refine Ev.bind ht (Ev.bind hm ?_)
  simp only [if_true]
  refine Ev.bind (ZK _ (by rw [iY];omega)) ?_
  simp only [if_true]
  exact Ev.now _
 have e0:mx 0 (wrap64 (wrap64 (((c+b+1:Nat):Int) - ((c+1:Nat):Int))+1))=((b+1:Nat):Int):=by
  rw [iz (show -9223372036854775808≤((c+b+1:Nat):Int) - ((c+1:Nat):Int) by omega) (by omega),iz (by omega) (by omega)]
  unfold mx
  split<;>omega
 have inner : ∀ kk, kk < b + 1 → Ev (fun k => dz.l0 k (bD (c + b + 1) (cv g h)) (bD (c + 1) g) (bD (kk + 1) h) ((b + 1 : Nat) : Int) ((kk + 1 : Nat) : Int)) (bD (b + 1) h, 0) →
   ∀ d i,min kk c+1 - i=d→1≤i→i≤min kk c+1→Ev (fun k=>dz.l1 k (bD (c+b+1) (cv g h)) (bD (c+1) g) (bD kk h) kk (ow g h kk i) i ((b+1:Nat):Int) kk) (bD (b+1) h,0):=by
  intro kk hkk next d
  have em:mn (kk:Int) (wrap64 (((c+1:Nat):Int) - 1))=((min kk c:Nat):Int):=by
   rw [iz (by omega) (by omega)]
   unfold mn
   split<;>omega
  induction d with
  | zero =>
   intro i hd h1 hi
   have hi2:min kk c+1=i:=by omega
   have hk:=ED kk
   refine Ev.step (fun k=>by simp only [dz.l1];rfl) ?_
   have cY:rd (bD (c+1) g) 0=1:=by
    have:=kW (g:=g) (show 0 < c+1 by omega)
    rw [Ab] at this
    exact this
   simp only [xq,em,show ¬ ((i:Int)≤((min kk c:Nat):Int)) by omega,if_false,show (0:Int) < ((c+1:Nat):Int) by omega,if_true,iY,show kk < 17592186044416 by omega,cY,Int.mul_one,aer hg hi2,Ab,Int.one_mul]
   rw [iz (show -9223372036854775808≤h kk by unfold ao0 at hk;omega) (by unfold ao0 at hk;omega),wI ((kk:Int)+1) (by omega),afN]
   exact next
  | succ d ih =>
   intro i hd h1 hi
   have h2:=ih (i+1) (by omega) (by omega) (by omega)
   have p1:=Tu hB kk i
   have p2:=Tu hB kk (i+1)
   have p3:ao0 (g i * h (kk - i))≤1000000000000000:=Int.le_trans (AE (fun r=>g r * h (kk - r)) i (show i < kk+1 by omega)) (hB kk)
   have p4:=hgB i
   rw [aet g h h1 (by omega)] at p2 h2
   have e1:wrap64 ((kk:Int) - (i:Int))=((kk - i:Nat):Int):=by rw [iz (by omega) (by omega)];omega
   have e2:ow g h kk i - g i * h (kk - i)=ow g h kk i+-(g i) * h (kk - i):=by rw [Int.neg_mul];omega
   rw [e2] at p2 h2
   refine Ev.step (fun k=>by simp only [dz.l1];rfl) ?_
   simp only [xq,em,show ((i:Int)≤((min kk c:Nat):Int)) by omega,if_true,gb i,show ((i:Int) < ((c+1:Nat):Int)) by omega,e1,show (0:Int)≤((kk - i:Nat):Int) by omega,iY,show (((kk - i:Nat):Int) < (kk:Int)) by omega,kW (show i < c+1 by omega),kW (show kk - i < kk by omega),iz (show -9223372036854775808≤-(g i) by unfold ao0 at p4;omega) (by unfold ao0 at p4;omega),wI ((i:Int)+1) (by omega)]
   refine Ev.bind (Tz _ _ _ (by unfold ao0 at p1;omega) (by unfold ao0 at p4 ⊢;omega) (ED _) (by rw [Int.neg_mul];unfold ao0 at p3 ⊢;omega) p2) ?_
   simp only [if_true]
   exact h2
 have outer:∀ d kk,b+1 - kk=d→kk≤b+1→Ev (fun k=>dz.l0 k (bD (c+b+1) (cv g h)) (bD (c+1) g) (bD kk h) ((b+1:Nat):Int) kk) (bD (b+1) h,0):=by
  intro d
  induction d with
  | zero =>
   intro kk hd hk
   obtain rfl:kk=b+1:=by omega
   refine Ev.step (fun k=>by simp only [dz.l0];rfl) ?_
   simp only [Int.lt_irrefl,if_false,hlf,show ¬ (((c+b+1:Nat):Int)=0) by omega]
   exact fin
  | succ d ih =>
   intro kk hd hk
   have h1:=inner kk (by omega) (ih (kk+1) (by omega) (by omega)) (min kk c+1 - 1) 1 rfl (by omega) (by omega)
   refine Ev.step (fun k=>by simp only [dz.l0];rfl) ?_
   simp only [show ((kk:Int) < ((b+1:Nat):Int)) by omega,if_true,Pj,Option.bind_some,kW (show kk < c+b+1 by omega)]
   rw [aes] at h1
   exact h1
 unfold dz.f
 have hw:Ev (fun k=>rO.f k [bD (c+b+1) (cv g h),bD (c+1) g]) true:=by
  obtain ⟨r,h1,h2⟩:=SP (fun _=>false) (fun k x=>(lT.f k x).map not) [bD (c+b+1) (cv g h),bD (c+1) g] (fun x hx=>by
   have:Ev (fun k=>lT.f k x) true:=by
    rcases List.mem_cons.1 hx with rfl|hx
    ·exact wF
    ·rw [List.mem_singleton.1 hx];exact wG
   obtain ⟨K,hK⟩:=this
   exact ⟨K,fun k hk=>by
    have h3:lT.f k x=some true:=hK k hk
    show (lT.f k x).map not=some false
    rw [h3]
    rfl⟩) 0
  unfold rO.f
  refine Ev.bind h1 ?_
  rw [h2]
  exact Ev.now _
 refine Ev.bind hw ?_
 have ha0:pX.f (bD (c+1) g) 0=some 1:=by
  have:=Pj (bD (c+1) g) 0
  rw [kW (show 0 < c+1 by omega),Ab] at this
  exact this
 simp only [if_true,ha0,Option.bind_some,JK 1 (by omega),show ao0 1=1 from rfl,hlf,xq,show (((c+b+1:Nat):Int) > 0) by omega,show ¬ (((c+b+1:Nat):Int) < ((c+1:Nat):Int)) by omega,if_false]
 refine Ev.step (fun k=>by simp only [dz.j0];rfl) ?_
 rw [hlf,xq,e0]
 exact outer (b+1) 0 (by omega) (by omega)
theorem adp {n:Nat} {l:List (List Int)} (h1:1≤n) (h8:n≤8) (hl:l.length≤10) (hE:endsIn n l):iO (n:Int) l=true:=by
 unfold iO
 simp only [Bool.and_eq_true,decide_eq_true_eq,List.all_eq_true]
 refine ⟨by omega,by omega,hl,fun x hx=>?_⟩
 obtain ⟨i,hi,rfl⟩:=List.getElem_of_mem hx
 obtain ⟨h2,u,v,hu,hv,hun,Cq⟩:=hE i hi
 rw [lO l i hi] at h2 hu hv
 unfold pK BL
 rw [hu,hv,wI ((n:Int) - 1) (by omega)]
 simp only [Bool.and_eq_true,decide_eq_true_eq]
 omega
theorem P4 {n:Nat} {X H:Nat→Nat→Int} (h:∀ a b,a < n→b < n→X a b=H a b) (k:Nat):bU n X k=bU n H k :=
 P5 (fun u=>gy fun a b ha hb=>by unfold j8;rw [h a b ha hb]) k
theorem Y0 {n:Nat} (M:Nat→Nat→Int) (c:Nat→Int):∀ m,m≤n→bn n (fun a b=>(if a < m then c a else 1) * M a b)=dr m c * bn n M:=by
 intro m
 induction m with
 | zero =>
  intro _
  rw [show dr 0 c=1 from rfl,Int.one_mul]
  exact gy fun a b _ _=>by rw [if_neg (by omega),Int.one_mul]
 | succ m ih =>
  intro hm
  have h1:=Mf (n:=n) (fun a b=>(if a < m then c a else 1) * M a b) m (by omega) (c m) (M m)
  have e1:bn n (bO (fun a b=>(if a < m then c a else 1) * M a b) m (M m))=bn n (fun a b=>(if a < m then c a else 1) * M a b):=gy fun a b _ _=>by
   unfold bO
   split
   ·rename_i h;rw [h,if_neg (by omega),Int.one_mul]
   ·rfl
  have e2:bn n (bO (fun a b=>(if a < m then c a else 1) * M a b) m (fun b=>c m * M m b))=bn n (fun a b=>(if a < m+1 then c a else 1) * M a b):=gy fun a b _ _=>by
   unfold bO
   split
   ·rename_i h;rw [h,if_pos (by omega)]
   ·show (if a < m then c a else 1) * M a b = _
    by_cases h2:a < m
    ·rw [if_pos h2,if_pos (by omega)]
    ·rw [if_neg h2,if_neg (by omega)]
  rw [e1,e2,ih (by omega)] at h1
  rw [h1,sC,Int.mul_comm (dr m c) (c m),Int.mul_assoc]
theorem YX {n:Nat} (M:Nat→Nat→Int) (c:Nat→Int):∀ m,m≤n→bn n (fun a b=>(if b < m then c b else 1) * M a b)=dr m c * bn n M:=by
 intro m
 induction m with
 | zero =>
  intro _
  rw [show dr 0 c=1 from rfl,Int.one_mul]
  exact gy fun a b _ _=>by rw [if_neg (by omega),Int.one_mul]
 | succ m ih =>
  intro hm
  have h1:=S7 (n:=n) (fun a b=>(if b < m then c b else 1) * M a b) m (by omega) (c m) (fun a=>M a m)
  have e1:bn n (dx (fun a b=>(if b < m then c b else 1) * M a b) m (fun a=>M a m))=bn n (fun a b=>(if b < m then c b else 1) * M a b):=gy fun a b _ _=>by
   unfold dx
   split
   ·rename_i h;rw [h,if_neg (by omega),Int.one_mul]
   ·rfl
  have e2:bn n (dx (fun a b=>(if b < m then c b else 1) * M a b) m (fun a=>c m * M a m))=bn n (fun a b=>(if b < m+1 then c b else 1) * M a b):=gy fun a b _ _=>by
   unfold dx
   split
   ·rename_i h;rw [h,if_pos (by omega)]
   ·show (if b < m then c b else 1) * M a b = _
    by_cases h2:b < m
    ·rw [if_pos h2,if_pos (by omega)]
    ·rw [if_neg h2,if_neg (by omega)]
  rw [e1,e2,ih (by omega)] at h1
  rw [h1,sC,Int.mul_comm (dr m c) (c m),Int.mul_assoc]
theorem MG {x:Int} (h:x=1∨x=-1):x * x=1:=by rcases h with rfl|rfl<;>decide
theorem aeE {c:Nat→Int} (h:∀ a,c a=1∨c a=-1):∀ n,dr n c=1∨dr n c=-1:=by
 intro n
 induction n with
 | zero=>exact Or.inl rfl
 | succ n ih=>rw [sC];rcases ih with i|i<;>rcases h n with j|j<;>rw [i,j]<;>decide
theorem YY {n:Nat} (M:Nat→Nat→Int) {c:Nat→Int} (h:∀ a,c a=1∨c a=-1):bn n (fun a b=>c a * (c b * M a b))=bn n M:=by
 have h1:=Y0 (n:=n) (fun a b=>(if b < n then c b else 1) * M a b) c n (Nat.le_refl _)
 rw [YX M c n (Nat.le_refl _),← Int.mul_assoc,MG (aeE h n),Int.one_mul] at h1
 rw [← h1]
 exact gy fun a b ha hb=>by rw [if_pos ha,if_pos hb]
theorem YC {n:Nat} {X H:Nat→Nat→Int} {c:Nat→Int} (h:∀ a,c a=1∨c a=-1) (hX:∀ a b,a < n→b < n→X a b=c a * (c b * H a b)) (k:Nat):bU n X k=bU n H k:=by
 refine P5 (fun u=>?_) k
 rw [← YY (j8 u H) h]
 refine gy fun a b ha hb=>?_
 unfold j8
 rw [hX a b ha hb,Int.mul_sub,Int.mul_sub]
 have e1:c a * (c b * aW a b)=aW a b:=by
  by_cases hab:b=a
  ·rw [hab,uV,Int.mul_one,MG (h a)]
  ·rw [qY hab,Int.mul_zero,Int.mul_zero]
 have e2:c a * (c b * (u * H a b))=u * (c a * (c b * H a b)):=by
  rw [← Int.mul_assoc (c b) u,Int.mul_comm (c b) u,Int.mul_assoc u,← Int.mul_assoc (c a) u,Int.mul_comm (c a) u,Int.mul_assoc u]
 rw [e1,e2]
/-- Signs of the darts. -/
def kU (l:List (List Int)) (s:List Int):List Int:=bD (2 * l.length) (fun j=>rd s ((j / 2:Nat):Int))
theorem Fh (l:List (List Int)) (s:List Int) (f:Nat) (hf:f < 2 * l.length):rd (kU l s) (f:Int)=rd s ((f / 2:Nat):Int):=kW hf
theorem M9 {l:List (List Int)} {s:List Int} (h:nQ l s=true) (f:Nat) (hf:f < 2 * l.length):rd (kU l s) (f:Int)=1∨rd (kU l s) (f:Int)=-1:=by
 rw [Fh l s f hf];exact TU h (f / 2) (by omega)
def sA (l:List (List Int)) (s:List Int):Nat→Nat→Int:=wM l (kU l s) (2 * l.length) 0
theorem M7 (l:List (List Int)) (s:List Int) (e f:Nat) (he:e < 2 * l.length):sA l s e f=eA l e f * rd (kU l s) (f:Int):=by
 unfold sA wM
 rw [if_pos (by omega)]
theorem TA (l:List (List Int)) (e f:Nat) {x:Int} (hx:x=1∨x=-1):-1≤eA l e f * x∧eA l e f * x≤1:=by
 unfold eA
 rcases hx with rfl|rfl<;>split<;>decide
/-- Sums of the coefficients, where columns bear signs. -/
theorem ae7 {n:Nat} {l:List (List Int)} (hE:endsIn n l) {c:Nat→Int} (hc:∀ b,c b=1∨c b=-1):ay (2 * l.length+1) (fun k=>ao0 (bU (2 * l.length) (fun a b=>eA l a b * c b) k))≤dr (2 * l.length) (fun e=>if gx l e then (yu l e:Int) else 4):=by
 obtain ⟨rp,wk⟩:=Classical.axiomOfChoice (M6 hE)
 generalize hp:2 * l.length=p at wk ⊢
 have Ky:∀ a l',a < p→l' < p→(if gx l a then (0:Int) else if l'=rp a then -1 else 0) ≠ 0→gx l l':=by
  intro a l' ha _ h
  by_cases g:gx l a
  ·exact absurd (if_pos g) h
  ·rw [if_neg g] at h
   by_cases g2:l'=rp a
   ·rw [g2];exact (((wk a ha).2 g).2).2
   ·exact absurd (if_neg g2) h
 refine J6 (fun a b=>eA l a b * c b) (fun a b=>if gx l a then 0 else if b=rp a then -1 else 0) (fun a l' ha hl' h r _=>if_pos (Ky a l' ha hl' h)) _ (fun a ha=>?_)
 by_cases h:gx l a
 ·rw [if_pos h]
  have e1:∀ b,ay p (fun l'=>(if gx l a then (0:Int) else if l'=rp a then -1 else 0) * aW l' b)=0:=fun b=>jE fun i _=>by rw [if_pos h,Int.zero_mul]
  have e2:∀ b,ay p (fun l'=>(if gx l a then (0:Int) else if l'=rp a then -1 else 0) * (eA l l' b * c b))=0:=fun b=>jE fun i _=>by rw [if_pos h,Int.zero_mul]
  have e3:ay p (fun b=>ao0 (aW a b+ay p (fun l'=>(if gx l a then (0:Int) else if l'=rp a then -1 else 0) * aW l' b))+ao0 (eA l a b * c b+ay p (fun l'=>(if gx l a then (0:Int) else if l'=rp a then -1 else 0) * (eA l l' b * c b))))=ay p (aW a)+ay p (fun b=>(if iL l b=eC l a then 1 else 0) - aW (cw a) b):=by
   rw [← k7]
   refine eL fun b _=>?_
   have e4:ao0 (eA l a b * c b)=eA l a b:=by
    unfold eA
    rcases hc b with h|h<;>rw [h]<;>split<;>rfl
   rw [e1,e2,Int.add_zero,Int.add_zero,JJ,e4,ap']
  have h1:=pU p a
  have h2:=JO hE (e:=a) (by omega)
  rw [hp] at h2
  rw [e3,wz,h2,mS (n:=p) (f:=aW (cw a)) (cw a) (CD hp.symm ha) (fun i _ hne=>qY hne),uV]
  omega
 ·rw [if_neg h]
  obtain ⟨g1,g2,g3⟩:=(wk a ha).2 h
  have e1:∀ b,ay p (fun l'=>(if gx l a then (0:Int) else if l'=rp a then -1 else 0) * aW l' b)=-(aW (rp a) b):=fun b=>by
   rw [mS (rp a) (by omega) (fun i _ hne=>by rw [if_neg h,if_neg hne,Int.zero_mul]),if_neg h,if_pos rfl];omega
  have e2:∀ b,ay p (fun l'=>(if gx l a then (0:Int) else if l'=rp a then -1 else 0) * (eA l l' b * c b))=-(eA l (rp a) b * c b):=fun b=>by
   rw [mS (rp a) (by omega) (fun i _ hne=>by rw [if_neg h,if_neg hne,Int.zero_mul]),if_neg h,if_pos rfl];omega
  have e3:ay p (fun b=>ao0 (aW a b+ay p (fun l'=>(if gx l a then (0:Int) else if l'=rp a then -1 else 0) * aW l' b))+ao0 (eA l a b * c b+ay p (fun l'=>(if gx l a then (0:Int) else if l'=rp a then -1 else 0) * (eA l l' b * c b))))≤ay p (fun b=>(aW a b+aW (rp a) b)+(aW (cw a) b+aW (cw (rp a)) b)):=by
   refine oX fun b _=>?_
   rw [e1,e2,ap',ap',g2]
   have q1:=qN a b
   have q2:=qN (rp a) b
   have q3:=qN (cw a) b
   have q4:=qN (cw (rp a)) b
   rcases hc b with h|h<;>rw [h]<;>unfold ao0<;>omega
  have h1:=pU p a
  have h2:=pU p (rp a)
  have h3:=pU p (cw a)
  have h4:=pU p (cw (rp a))
  have e4:ay p (fun b=>(aW a b+aW (rp a) b)+(aW (cw a) b+aW (cw (rp a)) b))=(ay p (aW a)+ay p (aW (rp a)))+(ay p (aW (cw a))+ay p (aW (cw (rp a)))):=by
   rw [k7,k7,k7]
  rw [e4] at e3
  omega
theorem TP {a:Int} {l:List (List Int)} {s:List Int} (h:iO a l=true) (hs:nQ l s=true) (k:Nat):-1000000000000000≤bU (2 * l.length) (sA l s) k∧bU (2 * l.length) (sA l s) k≤1000000000000000:=by
 by_cases hk:k < 2 * l.length+1
 ·obtain ⟨N, rfl, _, hN, hE⟩ := L_ h
  have hl:=tq h
  have hc:∀ b,(fun b:Nat=>if b < 2 * l.length then rd (kU l s) (b:Int) else 1) b=1∨(fun b:Nat=>if b < 2 * l.length then rd (kU l s) (b:Int) else 1) b=-1:=fun b=>by
   by_cases hb:b < 2 * l.length
   ·simp only [hb,if_true];exact M9 hs b hb
   ·simp [hb]
  have h1:=ae7 hE hc
  have h4:=Ul 8 (jA l) (fun a=>(a:Int) * (1+2 * a) ^ 0) (4 * 6 ^ 0) (AX 0) (by decide) (by decide) (2 * l.length) (fun e he=>by
   obtain ⟨_,v,_,hv,_,Cq⟩:=D2 hE e he
   unfold jA
   rw [hv]
   omega) (fun a h5 h6=>⟨Int.mul_nonneg (by omega) (by rw [Int.pow_zero];decide),Um 0 (by omega) a h5 (by omega)⟩)
  have h5:=Un 0 (by omega) l.length (by omega)
  have h6:dr (2 * l.length) (fun e=>if gx l e then (yu l e:Int) else 4)=dr (2 * l.length) (fun e=>if gu (jA l) (jA l e) e=0 then ((gu (jA l) (jA l e) (2 * l.length):Nat):Int) * (1+2 * ((gu (jA l) (jA l e) (2 * l.length):Nat):Int)) ^ 0 else 4 * 6 ^ 0):=yP fun e _=>by
   by_cases g:gx l e
   ·rw [if_pos g,if_pos (show gu (jA l) (jA l e) e=0 from g),Int.pow_zero,Int.mul_one];rfl
   ·rw [if_neg g,if_neg (show ¬ gu (jA l) (jA l e) e=0 from g)];rfl
  have h7:=AE (n:=2 * l.length+1) (bU (2 * l.length) (fun a b=>eA l a b * (fun b:Nat=>if b < 2 * l.length then rd (kU l s) (b:Int) else 1) b)) k hk
  rw [P4 (H:=fun a b=>eA l a b * (fun b:Nat=>if b < 2 * l.length then rd (kU l s) (b:Int) else 1) b) (fun a b ha hb=>by rw [M7 l s a b ha];simp only [hb,if_true]) k]
  rw [h6] at h1
  have h8:=Int.le_trans h7 (Int.le_trans h1 (Int.le_trans h4 h5))
  unfold ao0 at h8
  omega
 ·unfold bU
  rw [pT _ _ k (by omega)]
  decide
theorem ae6 {a:Int} {l:List (List Int)} {s:List Int} (h:iO a l=true) (hs:nQ l s=true) (k:Nat) (hk:k≤2 * l.length):-9223372036854775807≤(k:Int) * bU (2 * l.length) (sA l s) k∧(k:Int) * bU (2 * l.length) (sA l s) k≤9223372036854775807:=by
 have hl:=tq h
 have h1:=TP h hs k
 have h2:(k:Int) * bU (2 * l.length) (sA l s) k≤(k:Int) * 1000000000000000:=Int.mul_le_mul_of_nonneg_left h1.2 (by omega)
 have h3:(k:Int) * -1000000000000000≤(k:Int) * bU (2 * l.length) (sA l s) k:=Int.mul_le_mul_of_nonneg_left h1.1 (by omega)
 omega
theorem afd (l : List (List Int)) (hl : l.length ≤ 10) (s : List Int) (hw : s.length = l.length) (hr : ∀ f : Nat, f < 2 * l.length → rd (kU l s) (f : Int) = 1 ∨ rd (kU l s) (f : Int) = -1) (R : List (List Int)) (e : Nat) (he : e < 2 * l.length)
  (next:Ev (fun k=>ia.l0 k s (dh (2 * l.length) (wM l (kU l s) (e+1) 0)) ((2 * l.length:Nat):Int) ((e:Int)+1)) R) :
  ∀ (d f:Nat),2 * l.length - f=d→f≤2 * l.length→Ev (fun k=>ia.l1 k s (dh (2 * l.length) (wM l (kU l s) e f)) ((2 * l.length:Nat):Int) e ((2 * l.length:Nat):Int) f) R:=by
 intro d
 induction d with
 | zero =>
  intro f hd hf
  obtain rfl:f=2 * l.length:=by omega
  refine Ev.step (fun k=>by simp only [ia.l1];rfl) ?_
  simp only [Int.lt_irrefl,if_false,Uj,wI ((e:Int)+1) (by omega)]
  exact next
 | succ d ih =>
  intro f hd hf
  have hfl:f < 2 * l.length:=by omega
  refine Ev.step (fun k=>by simp only [ia.l1];rfl) ?_
  have h:=ih (f+1) (by omega) (by omega)
  have hx:=TA l e f (hr f hfl)
  rw [← Uk l (kU l s) e f he,show ((f+1:Nat):Int)=(f:Int)+1 by omega] at h
  simp only [Fh l s f hfl] at hx h
  simp only [show ((f:Int) < ((2 * l.length:Nat):Int)) by omega,gb f,rL he,iY,Ui l (kU l s) e f hfl,Ig,iz (show -9223372036854775808≤((f / 2:Nat):Int) by omega) (by omega),show (0:Int)≤((f / 2:Nat):Int) by omega,show (((f / 2:Nat):Int) < (s.length:Int)) by omega,if_true,Int.toNat_natCast,iz (show -9223372036854775808≤eA l e f * rd s ((f / 2:Nat):Int) by omega) (by omega),wI ((f:Int)+1) (by omega)] at h ⊢
  exact h
theorem afc (l : List (List Int)) (hl : l.length ≤ 10) (s : List Int) (hw : s.length = l.length) (hr : ∀ f : Nat, f < 2 * l.length → rd (kU l s) (f : Int) = 1 ∨ rd (kU l s) (f : Int) = -1) :
  ∀ (d e:Nat),2 * l.length - e=d→e≤2 * l.length→Ev (fun k=>ia.l0 k s (dh (2 * l.length) (wM l (kU l s) e 0)) ((2 * l.length:Nat):Int) e) (dh (2 * l.length) (sA l s)):=by
 intro d
 induction d with
 | zero =>
  intro e hd he
  obtain rfl:e=2 * l.length:=by omega
  refine Ev.step (fun k=>by simp only [ia.l0];rfl) ?_
  simp only [Int.lt_irrefl,if_false]
  exact Ev.now _
 | succ d ih =>
  intro e hd he
  have hel:e < 2 * l.length:=by omega
  have h:=ih (e+1) (by omega) (by omega)
  rw [show ((e+1:Nat):Int)=(e:Int)+1 by omega] at h
  refine Ev.step (fun k=>by simp only [ia.l0];rfl) ?_
  simp only [show ((e:Int) < ((2 * l.length:Nat):Int)) by omega,gb e,mG,rL hel,iY,if_true]
  exact afd l hl s hw hr _ e hel h (2 * l.length) 0 (by omega) (by omega)
def apQ (a:Int) (l:List (List Int)) (s:List Int):List Int × Int:=if mT a l s=0 then (iG (lX (2 * l.length) (sA l s)) (2 * l.length+1),0) else ([],mT a l s)
theorem WY (a:Int) (l:List (List Int)) (s:List Int) (hl:l.length≤maxLen):Ev (fun k=>aqi.f k a l a l s) (mT a l s):=by
 unfold aqi.f mT
 refine Ev.bind (Hy a l hl) ?_
 cases h:iO a l with
 | false=>simp only [Bool.false_eq_true,if_false];exact Ev.now _
 | true =>
  simp only [if_true,aqr.f,Option.bind_some]
  rw [show (decide ((s.length:Int)=(l.length:Int)) && !s.any oM)=nQ l s from rfl]
  cases nQ l s with
  | false=>simp only [Bool.false_eq_true,if_false];exact Ev.now _
  | true=>exact Ev.now _
theorem TN (l:List (List Int)) (s:List Int):dh (2 * l.length) (eA l)=dh (2 * l.length) (wM l (kU l s) 0 0):=ap_ fun i j _ _=>by unfold wM;rw [if_neg (by omega)]
theorem L9 (a:Int) (l:List (List Int)) (s:List Int) (hl:l.length≤maxLen):Ev (fun k=>mL.f k a l s) (apQ a l s):=by
 unfold mL.f apQ
 refine Ev.bind (WY a l s hl) ?_
 by_cases h:mT a l s=0
 ·obtain ⟨hg, hk⟩ := AV h
  have qd:=tq hg
  simp only [h,if_true]
  have e1:Ev (fun k=>ia.f k a l s) (dh (2 * l.length) (sA l s)):=by
   unfold ia.f
   refine Ev.bind (Ql a l qd (Cr hg)) ?_
   rw [J9,mG,TN l s]
   exact afc l qd s (CI hk) (fun f hf=>M9 hk f hf) (2 * l.length) 0 (by omega) (by omega)
  exact Ev.bind e1 (Ev.bind (Qf (2 * l.length) (by omega) _ (fun k _ hk2=>ae6 hg hk k hk2)) (Ev.now _))
 ·simp only [h, if_false]
  exact Ev.now _
theorem afp (l : List (List Int)) (hl : l.length ≤ 10) (s : List Int) (hw : s.length = l.length) (hr : ∀ f : Nat, f < 2 * l.length → rd (kU l s) (f : Int) = 1 ∨ rd (kU l s) (f : Int) = -1) (R : List Int × Int) (e : Nat) (he : e < 2 * l.length)
  (next:Ev (fun k=>gG.l0 k s (dh (2 * l.length) (wM l (kU l s) (e+1) 0)) ((e:Int)+1)) R) :
  ∀ (d f:Nat),2 * l.length - f=d→f≤2 * l.length→Ev (fun k=>gG.l1 k s (dh (2 * l.length) (wM l (kU l s) e f)) e f) R:=by
 intro d
 induction d with
 | zero =>
  intro f hd hf
  obtain rfl:f=2 * l.length:=by omega
  refine Ev.step (fun k=>by simp only [gG.l1];rfl) ?_
  simp only [rL he,iY,Int.lt_irrefl,if_false,Uj,wI ((e:Int)+1) (by omega)]
  exact next
 | succ d ih =>
  intro f hd hf
  have hfl:f < 2 * l.length:=by omega
  refine Ev.step (fun k=>by simp only [gG.l1];rfl) ?_
  have h:=ih (f+1) (by omega) (by omega)
  have hx:=TA l e f (hr f hfl)
  rw [← Uk l (kU l s) e f he,show ((f+1:Nat):Int)=(f:Int)+1 by omega] at h
  simp only [Fh l s f hfl] at hx h
  simp only [show ((f:Int) < ((2 * l.length:Nat):Int)) by omega,gb f,rL he,iY,Ui l (kU l s) e f hfl,Ig,iz (show -9223372036854775808≤((f / 2:Nat):Int) by omega) (by omega),show (0:Int)≤((f / 2:Nat):Int) by omega,show (((f / 2:Nat):Int) < (s.length:Int)) by omega,if_true,Int.toNat_natCast,iz (show -9223372036854775808≤eA l e f * rd s ((f / 2:Nat):Int) by omega) (by omega),wI ((f:Int)+1) (by omega)] at h ⊢
  exact h
theorem afo (l : List (List Int)) (hl : l.length ≤ 10) (s : List Int) (hw : s.length = l.length) (hr : ∀ f : Nat, f < 2 * l.length → rd (kU l s) (f : Int) = 1 ∨ rd (kU l s) (f : Int) = -1) (R : List Int) (hR : Ev (fun k => bX.f k (dh (2 * l.length) (sA l s))) R) :
  ∀ (d e:Nat),2 * l.length - e=d→e≤2 * l.length→Ev (fun k=>gG.l0 k s (dh (2 * l.length) (wM l (kU l s) e 0)) e) (R,0):=by
 intro d
 induction d with
 | zero =>
  intro e hd he
  obtain rfl:e=2 * l.length:=by omega
  refine Ev.step (fun k=>by simp only [gG.l0];rfl) ?_
  simp only [mG,Int.lt_irrefl,if_false]
  exact Ev.bind hR (Ev.now _)
 | succ d ih =>
  intro e hd he
  have hel:e < 2 * l.length:=by omega
  have h:=ih (e+1) (by omega) (by omega)
  rw [show ((e+1:Nat):Int)=(e:Int)+1 by omega] at h
  refine Ev.step (fun k=>by simp only [gG.l0];rfl) ?_
  simp only [mG,show ((e:Int) < ((2 * l.length:Nat):Int)) by omega,gb e,if_true]
  exact afp l hl s hw hr _ e hel h (2 * l.length) 0 (by omega) (by omega)
theorem afl (a:Int) (l:List (List Int)) (s:List Int) (hl:l.length≤maxLen) (hs:s.length≤maxLen):Ev (fun k=>gG.f k a l s) (apQ a l s):=by
 unfold gG.f apQ
 have h1:=S0 a l s hl hs
 rw [show (if iO a l=true then if nQ l s=true then (0:Int) else 2 else 1)=mT a l s from rfl] at h1
 refine Ev.bind h1 ?_
 by_cases h:mT a l s=0
 ·obtain ⟨hg, hk⟩ := AV h
  have qd:=tq hg
  simp only [h,if_true]
  refine Ev.bind (adz a l qd (Cr hg)) ?_
  rw [J9,TN l s]
  have h2:=Xn (2 * l.length) (by omega) (sA l s)
  rw [show bD (2 * l.length+1) (fun m=>wrap64 (bU (2 * l.length) (sA l s) m))=lX (2 * l.length) (sA l s) from xD fun k _=>by
   have:=TP hg hk k
   exact iz (by omega) (by omega)] at h2
  exact afo l qd s (CI hk) (fun f hf=>M9 hk f hf) _ h2 (2 * l.length) 0 (by omega) (by omega)
 ·simp only [h, if_false]
  exact Ev.now _
theorem Y7 {s:List Int} (hs:apX s) (a:Int) (l:List (List Int)) (hl:l.length≤11):∀ (d i:Nat) (c:List Int) (t h:Int),l.length - i=d→i≤l.length→c.length=i→0≤t∧t≤s.length→∃ (r:List Int) (t' h':Int),Ev (fun k=>ki.l0 k c i s t h a l) (r,t',h')∧r.length≤12∧0≤t'∧t'≤s.length:=by
 intro d
 induction d with
 | zero =>
  intro i c t h hd hi hc ht
  obtain rfl:i=l.length:=by omega
  obtain ⟨x,t1,h1,e1,b1,_,_⟩:=oY hs t h 24 ht
  by_cases h0:x=0
  ·refine ⟨c ++ [1], t1, h1, ?_, by rw [List.length_append]; simp; omega, b1.1, b1.2⟩
   refine Ev.step (fun k=>by simp only [ki.l0];rfl) ?_
   simp only [Int.lt_irrefl,if_false,e1,Option.bind_some,h0,if_true,show c.length < 17592186044416 by omega]
   exact Ev.now _
  ·by_cases h2 : x = 1
   ·by_cases h3 : (c.length : Int) > 0
    ·obtain ⟨y, t2, Kt, e2, b2, _⟩ := Fb hs t1 h1 [0, 2] (by decide) b1
     refine ⟨c.set (0:Int).toNat y,t2,Kt,?_,by rw [List.length_set];omega,b2.1,b2.2⟩
     refine Ev.step (fun k=>by simp only [ki.l0];rfl) ?_
     simp only [Int.lt_irrefl,if_false,e1,Option.bind_some,h0,h2,if_true,h3,e2,show (0:Int) < (c.length:Int) from h3,show ¬ ((1:Int)=0) by decide]
     exact Ev.now _
    ·refine ⟨c, t1, h1, ?_, by omega, b1.1, b1.2⟩
     refine Ev.step (fun k=>by simp only [ki.l0];rfl) ?_
     simp only [Int.lt_irrefl,if_false,e1,Option.bind_some,h0,h2,if_true,h3,show ¬ ((1:Int)=0) by decide]
     exact Ev.now _
   ·refine ⟨c, t1, h1, ?_, by omega, b1.1, b1.2⟩
    refine Ev.step (fun k=>by simp only [ki.l0];rfl) ?_
    simp only [Int.lt_irrefl,if_false,e1,Option.bind_some,h0,h2]
    exact Ev.now _
 | succ d ih =>
  intro i c t h hd hi hc ht
  obtain ⟨y,t1,h1,e1,b1,_⟩:=Fb hs t h [1,-1] (by decide) ht
  obtain ⟨r,t2,h2,e2,b2⟩:=ih (i+1) (c ++ [y]) t1 h1 (by omega) (by omega) (by rw [List.length_append,hc];rfl) b1
  refine ⟨r,t2,h2,?_,b2⟩
  refine Ev.step (fun k=>by simp only [ki.l0];rfl) ?_
  simp only [show ((i:Int) < (l.length:Int)) by omega,if_true,e1,Option.bind_some,show c.length < 17592186044416 by omega,wI ((i:Int)+1) (by omega)]
  exact e2
theorem Qj {s:List Int} (hs:apX s) (a:Int) (l:List (List Int)) (hl:l.length≤11) (t h:Int) (ht:0≤t∧t≤s.length):∃ (r:List Int) (t' h':Int),Ev (fun k=>ki.f k s t h a l) (r,t',h')∧r.length≤12∧0≤t'∧t'≤s.length :=
 Y7 hs a l hl l.length 0 [] t h (by omega) (by omega) rfl ht
theorem afj {s:List Int} (hs:apX s) (t h:Int) (ht:0≤t∧t≤s.length):ld 11 3 s (fun k=>wN.f k s t h):=by
 obtain ⟨x,t1,h1,e1,b1,_,_⟩:=oY hs t h 4 ht
 by_cases h0:x=0
 ·obtain ⟨a, l, t2, h2, e2, d2, b2⟩ := TY hs t1 h1 b1
  refine ⟨a,l,t2,h2,?_,d2,b2⟩
  unfold wN.f
  rw [e1]
  simp only [Option.bind_some,h0,if_true]
  exact Ev.bind e2 (Ev.now _)
 ·obtain ⟨y, t2, h2, e2, b2, _, c2⟩ := oY hs t1 h1 3 b1
  obtain ⟨z,t3,h3,e3,b3,_,c3⟩:=oY hs t2 h2 4 b2
  have c2:=c2 (by omega)
  have c3:=c3 (by omega)
  obtain ⟨a,l,t4,h4,e4,d4,b4⟩:=Qh hs (1+y) (1+z) t3 h3 ⟨by omega,by omega⟩ ⟨by omega,by omega⟩ b3
  refine ⟨a,l,t4,h4,?_,Qg d4,b4⟩
  unfold wN.f
  rw [e1]
  simp only [Option.bind_some,h0,if_false,e2,e3,wI (1+y) (by omega),wI (1+z) (by omega)]
  exact Ev.bind e4 (Ev.now _)
def uy (x:Int):Int:=wrap64 (Int.tdiv (wrap64 (1 - x)) 2)
def jB (s:List Int):List (List Int):=(s.map uy).map (qb 2)
def zT (a:Int) (l:List (List Int)) (s:List Int):Int × List (List Int) × Int × List (List Int) × Int:=if mT a l s=0 then (a,l,2,jB s,0) else (0,[],0,[],mT a l s)
theorem afk (a:Int) (l:List (List Int)) (c:List Int) (hc:c.length≤1048576) (R:Int × List (List Int) × Int × List (List Int)) (h:Ev (fun k=>jH.f k a l 2 (c.map uy)) R):∀ (d i:Nat),c.length - i=d→i≤c.length→Ev (fun k=>oB.l0 k c ((c.take i).map uy) i a l) R:=by
 intro d
 induction d with
 | zero =>
  intro i hd hi
  obtain rfl:i=c.length:=by omega
  refine Ev.step (fun k=>by simp only [oB.l0];rfl) ?_
  simp only [Int.lt_irrefl,if_false,List.take_length]
  exact Ev.bind h (Ev.now _)
 | succ d ih =>
  intro i hd hi
  have hil:i < c.length:=by omega
  have hn:=ih (i+1) (by omega) (by omega)
  rw [List.take_succ_eq_append_getElem hil,List.map_append,List.map_cons,List.map_nil] at hn
  refine Ev.step (fun k=>by simp only [oB.l0];rfl) ?_
  simp only [show ((i:Int) < (c.length:Int)) by omega,gb i,if_true,oZ c i hil,show ((c.take i).map uy).length < 17592186044416 by (rw [List.length_map,List.length_take];omega),wI ((i:Int)+1) (by omega)]
  exact hn
theorem adb (a:Int) (l:List (List Int)) (c:List Int) (hc:c.length≤1048576) (R:Int × List (List Int) × Int × List (List Int)) (h:Ev (fun k=>jT.f k a l 2 (c.map uy)) R):∀ (d i:Nat),c.length - i=d→i≤c.length→Ev (fun k=>lU.l0 k ((c.take i).map uy) c c.length i a l) (R.1,R.2.1,R.2.2.1,R.2.2.2,0):=by
 intro d
 induction d with
 | zero =>
  intro i hd hi
  obtain rfl:i=c.length:=by omega
  refine Ev.step (fun k=>by simp only [lU.l0];rfl) ?_
  simp only [Int.lt_irrefl,if_false,List.take_length]
  exact Ev.bind h (Ev.now _)
 | succ d ih =>
  intro i hd hi
  have hil:i < c.length:=by omega
  have hn:=ih (i+1) (by omega) (by omega)
  rw [List.take_succ_eq_append_getElem hil,List.map_append,List.map_cons,List.map_nil] at hn
  refine Ev.step (fun k=>by simp only [lU.l0];rfl) ?_
  simp only [show ((i:Int) < (c.length:Int)) by omega,gb i,if_true,oZ c i hil,show ((c.take i).map uy).length < 17592186044416 by (rw [List.length_map,List.length_take];omega),wI ((i:Int)+1) (by omega)]
  exact hn
theorem Vb (a:Int) (l:List (List Int)) (s:List Int) (hl:l.length≤maxLen):Ev (fun k=>wO.f k a l a l s) (mT a l s):=by
 unfold wO.f mT
 refine Ev.bind (Hy a l hl) ?_
 cases h:iO a l with
 | false=>simp only [Bool.false_eq_true,if_false];exact Ev.now _
 | true =>
  simp only [if_true,aqr.f,Option.bind_some]
  rw [show (decide ((s.length:Int)=(l.length:Int)) && !s.any oM)=nQ l s from rfl]
  cases nQ l s with
  | false=>simp only [Bool.false_eq_true,if_false];exact Ev.now _
  | true=>exact Ev.now _
theorem Vc (a:Int) (l:List (List Int)) (s:List Int) (hl:l.length≤maxLen) (hs:s.length≤maxLen):Ev (fun k=>wP.f k a l s) (zT a l s)∧Ev (fun k=>lU.f k a l s) (zT a l s):=by
 have h1:=S0 a l s hl hs
 rw [show (if iO a l=true then if nQ l s=true then (0:Int) else 2 else 1)=mT a l s from rfl] at h1
 have h2:=Vb a l s hl
 unfold wP.f lU.f zT
 by_cases h:mT a l s=0
 ·obtain ⟨hg, hk⟩ := AV h
  have hlen:=CI hk
  obtain ⟨hs1,rI⟩:=SS hg
  have hcl:s.length≤1048576:=by omega
  have hml:(s.map uy).length≤1048576:=by rw [List.length_map];exact hcl
  refine ⟨Ev.bind h1 ?_,Ev.bind h2 ?_⟩
  ·simp only [h, if_true]
   have e:=afk a l s hcl _ (adC 2 (by omega) (by omega) a l hs1 rI _ hml) s.length 0 (by omega) (by omega)
   exact Ev.bind e (Ev.now _)
  ·simp only [h, if_true]
   exact adb a l s hcl _ (YI 2 (by omega) (by omega) a l hs1 rI _ hml) s.length 0 (by omega) (by omega)
 ·refine ⟨Ev.bind h1 ?_,Ev.bind h2 ?_⟩<;>simp only [h,if_false]<;>exact Ev.now _
theorem YL {x:Int} (h:x=1∨x=-1):qb 2 (uy x)=if x=1 then [0,1] else [1,0]:=by rcases h with rfl|rfl<;>kernel_rfl
theorem Qb {s:List Int} (k:Nat) (hk:k < s.length) (h:rd s (k:Int)=1∨rd s (k:Int)=-1):av (jB s) (k:Int)=if rd s (k:Int)=1 then [0,1] else [1,0]:=by
 have e:av (jB s) (k:Int)=qb 2 (uy (rd s (k:Int))):=by
  rw [lO _ k (by unfold jB;rw [List.length_map,List.length_map];exact hk),oZ s k hk]
  unfold jB
  rw [List.getElem_map,List.getElem_map]
 rw [e,YL h]
theorem Qa (s:List Int):(jB s).length=s.length:=by unfold jB;rw [List.length_map,List.length_map]
theorem YM {s:List Int} (h:∀ i,i < s.length→rd s (i:Int)=1∨rd s (i:Int)=-1):∀ x ∈ jB s,kI 2 x=true:=by
 intro x hx
 obtain ⟨i,hi,rfl⟩:=List.getElem_of_mem hx
 have hi2:i < s.length:=by rw [← Qa s];exact hi
 rw [← lO _ i hi,Qb i hi2 (h i hi2)]
 split<;>decide
theorem Qc {s:List Int} (k i:Nat) (hk:k < s.length) (hi:i < 2) (h:rd s (k:Int)=1∨rd s (k:Int)=-1):tJ (jB s) k i=if rd s (k:Int)=1 then i else 1 - i:=by
 unfold tJ
 rw [Qb k hk h]
 rcases h with h|h<;>rw [h]
 ·rw [if_pos rfl, if_pos rfl]
  rcases (by omega:i=0∨i=1) with rfl|rfl<;>rfl
 ·rw [if_neg (by decide), if_neg (by decide)]
  rcases (by omega:i=0∨i=1) with rfl|rfl<;>rfl
def sF (s:List Int) (a:Nat):Int:=if a % 2=0 then rd s ((a / 2:Nat):Int) else 1
def yZ (s:List Int) (b:Nat):Int:=if b % 2=0 then 1 else rd s ((b / 2:Nat):Int)
theorem Ki {s:List Int} (a i:Nat) (ha:a / 2 < s.length) (hi:i < 2) (h:rd s ((a / 2:Nat):Int)=1∨rd s ((a / 2:Nat):Int)=-1):dB (jB s) a i=if sF s a=1 then i else 1 - i:=by
 unfold dB sF
 by_cases e:a % 2=0
 ·rw [if_pos e,if_pos e,Qc (a / 2) i ha hi h]
 ·rw [if_neg e,if_neg e,if_pos rfl]
theorem Pr {s:List Int} (b i:Nat) (hb:b / 2 < s.length) (hi:i < 2) (h:rd s ((b / 2:Nat):Int)=1∨rd s ((b / 2:Nat):Int)=-1):kF (jB s) b i=if yZ s b=1 then i else 1 - i:=by
 unfold kF yZ
 by_cases e:b % 2=0
 ·rw [if_pos e,if_pos e,if_pos rfl]
 ·rw [if_neg e,if_neg e,Qc (b / 2) i hb hi h]
theorem ae1 {l:List (List Int)} {s:List Int} (hlen:s.length=l.length) (hs:∀ i,i < l.length→rd s (i:Int)=1∨rd s (i:Int)=-1) (a b:Nat) (ha:a < 2 * l.length) (hb:b < 2 * l.length):nP l (jB s) a b=sF s a * (sF s b * sA l s a b):=by
 have pa:=hs (a / 2) (by omega)
 have pb:=hs (b / 2) (by omega)
 have ta:sF s a=1∨sF s a=-1:=by unfold sF;split;exact pa;exact Or.inl rfl
 have si:yZ s b=1∨yZ s b=-1:=by unfold yZ;split;exact Or.inl rfl;exact pb
 have e0:sF s b * sA l s a b=eA l a b * yZ s b:=by
  rw [M7 l s a b ha,Fh l s b hb]
  unfold sF yZ
  split
  ·rw [← Int.mul_assoc,Int.mul_comm (rd s _) (eA l a b),Int.mul_assoc,MG pb]
  ·rw [Int.one_mul]
 rw [e0,HZ l _ a b (by omega),Nat.mod_eq_of_lt ha,Nat.div_eq_of_lt ha,Nat.zero_mul]
 simp only [Nat.zero_add]
 rw [ap']
 unfold cF
 rw [Nat.mod_eq_of_lt hb,Nat.div_eq_of_lt hb]
 simp only [Nat.zero_add]
 rw [Ki a 1 (by omega) (by omega) pa,Ki a 0 (by omega) (by omega) pa,Pr b 1 (by omega) (by omega) pb]
 by_cases hab:b=cw a
 ·have h1:yZ s b=sF s a:=by
   have h2:=JR (jB s) a 1
   rw [← hab,Ki a 1 (by omega) (by omega) pa,Pr b 1 (by omega) (by omega) pb] at h2
   rcases ta with h|h<;>rcases si with h'|h'<;>rw [h,h'] at h2 ⊢<;>simp at h2
  rw [h1,hab,DN,if_pos rfl,if_pos rfl,if_pos rfl,uV]
  rcases ta with h|h<;>rw [h]<;>decide
 ·rw [qY hab, Int.sub_zero, Int.sub_zero]
  by_cases Gz:iL l b=eC l a
  ·rw [if_pos Gz, if_pos Gz]
   rcases ta with h|h<;>rcases si with h'|h'<;>rw [h,h']<;>decide
  ·rw [if_neg Gz,if_neg Gz,Int.zero_mul,Int.mul_zero]
theorem ae0 {l:List (List Int)} {s:List Int} (hlen:s.length=l.length) (hs:∀ i,i < l.length→rd s (i:Int)=1∨rd s (i:Int)=-1) (k:Nat):bU (2 * l.length) (nP l (jB s)) k=bU (2 * l.length) (sA l s) k:=by
 have hc:∀ a,(fun a:Nat=>if a < 2 * l.length then sF s a else 1) a=1∨(fun a:Nat=>if a < 2 * l.length then sF s a else 1) a=-1:=fun a=>by
  by_cases ha:a < 2 * l.length
  ·simp only [ha, if_true]
   unfold sF
   split
   ·exact hs (a / 2) (by omega)
   ·exact Or.inl rfl
  ·simp [ha]
 refine YC hc (fun a b ha hb=>?_) k
 simp only [ha,hb,if_true]
 exact ae1 hlen hs a b ha hb
/-- The quotient, where the derived graph is a graph. -/
theorem aeO {n m : Nat} {l t : List (List Int)} (Lv : 1 ≤ n) (Aj : n ≤ 8) (G2 : 1 ≤ m) (G3 : m ≤ 4) (hg : iO (n : Int) l = true) (hlt : t.length = l.length) (hE : endsIn n l) (ho : ∀ x ∈ t, kI m x = true) (hA : n * m ≤ 8) (hD : l.length * m ≤ 10) :
  Ev (fun k=>(apD.f k ((n * m:Nat):Int) (iZ m l t l.length)).bind fun x=>(apD.f k n l).bind fun y=>(dz.f k x y).bind fun z=>some (z.1,z.2)) (iG (lX ((m - 1) * (2 * l.length)) (nP l t)) ((m - 1) * (2 * l.length)+1),0):=by
 obtain ⟨d,rfl⟩:∃ d,m=d+1:=⟨m - 1,by omega⟩
 rw [Nat.add_sub_cancel]
 have Z0:=YQ Aj G3 hE hlt ho
 have b1:1 * 1≤n * (d+1):=Nat.mul_le_mul Lv G2
 have hlen:=D3 (d+1) l t l.length
 have hgD:iO ((n * (d+1):Nat):Int) (iZ (d+1) l t l.length)=true:=adp (by omega) hA (by omega) Z0
 have wg:∀ e i,e < 2 * l.length→i < d+1→dB t e i < d+1:=fun e i he hi=>by
  have h1:=apI (p:=2 * l.length) i he
  have h3:(i+1) * (2 * l.length)≤(d+1) * (2 * l.length):=Nat.mul_le_mul_right _ hi
  rw [Nat.succ_mul] at h3
  have hN:(d+1) * (2 * l.length)=2 * (l.length * (d+1)):=by rw [Nat.mul_comm,Nat.mul_assoc]
  obtain ⟨_,_,_,_,_,_,_,h2⟩:=Gr Aj G3 hE hlt ho (i * (2 * l.length)+e) (by omega)
  rw [h1.1,h1.2] at h2
  exact h2
 have hb:=Xw (n:=d+1) (d:=d) (N:=n) rfl G3 Aj hD hE hlt ho wg
 have aa5:=YT Aj G3 hE hlt ho
 have QO:2 * (iZ (d+1) l t l.length).length=2 * l.length+d * (2 * l.length):=by
  rw [hlen,← Nat.mul_assoc,Nat.mul_succ,Nat.add_comm,Nat.mul_comm d]
 have hmul:=YD (N:=2 * (iZ (d+1) l t l.length).length) (p:=2 * l.length) (q:=d * (2 * l.length)) QO aa5
 have amf:2 * l.length+d * (2 * l.length)≤20:=by rw [← QO,hlen];omega
 rw [show lX (d * (2 * l.length)) (nP l t)=bD (d * (2 * l.length)+1) (bU (d * (2 * l.length)) (nP l t)) from rfl]
 generalize Ll:bU (2 * l.length) (eA l)=g at hb hmul
 generalize RJ:bU (d * (2 * l.length)) (nP l t)=h at hb hmul ⊢
 have Lm:∀ k,2 * l.length < k→g k=0:=fun k hk=>by rw [← Ll];exact pT _ _ k hk
 have Lo:∀ k,d * (2 * l.length) < k→h k=0:=fun k hk=>by rw [← RJ];exact pT _ _ k hk
 have Ab:g 0=1:=by rw [← Ll];exact aqY _ _
 have GX:h 0=1:=by rw [← RJ];exact aqY _ _
 obtain ⟨c,hc,aqS,hgt⟩:=Qd (f:=g) (by rw [Ab];decide) _ Lm
 obtain ⟨b,hbb,B_,GY⟩:=Qd (f:=h) (by rw [GX];decide) _ Lo
 have hB:∀ k,ay (k+1) (fun i=>ao0 (g i * h (k - i)))≤1000000000000000:=P6 Lm Lo hb
 have Ku:∀ k,ay (k+1) (fun i=>ao0 (h i * g (k - i)))≤1000000000000000:=P6 Lo Lm (by rw [Int.mul_comm];exact hb)
 have eg:iG (lX (2 * l.length) (eA l)) (2 * l.length+1)=bD (c+1) g:=by
  rw [show lX (2 * l.length) (eA l)=bD (2 * l.length+1) g from by rw [← Ll];rfl]
  exact Ih hc aqS hgt
 have ef:iG (lX (2 * (iZ (d+1) l t l.length).length) (eA (iZ (d+1) l t l.length))) (2 * (iZ (d+1) l t l.length).length+1)=bD (c+b+1) (cv g h):=by
  rw [show lX (2 * (iZ (d+1) l t l.length).length) (eA (iZ (d+1) l t l.length))=bD (2 * (iZ (d+1) l t l.length).length+1) (cv g h) from xD fun k _=>hmul k]
  exact Ih (by omega) (by rw [P7 hgt GY];exact Int.mul_ne_zero aqS B_) (fun k hk=>J7 hgt GY k hk)
 have hdw:=Y4 (g:=g) (h:=h) (c:=c) (b:=b) (by omega) Ab GX hgt GY aqS B_ hB Ku
 rw [Ih hbb B_ GY]
 have h1:=M3 _ _ hgD
 have h2:=M3 _ _ hg
 rw [ef] at h1
 rw [eg] at h2
 exact Ev.bind h1 (Ev.bind h2 (Ev.bind hdw (Ev.now _)))
theorem aeN {a:Int} {l:List (List Int)} {s:List Int} (h:mT a l s=0):Ev (fun k=>l9.f k a l 2 (jB s)) ([],3)∨Ev (fun k=>l9.f k a l 2 (jB s)) (iG (lX (2 * l.length) (sA l s)) (2 * l.length+1),0):=by
 obtain ⟨hg,hk⟩:=AV h
 obtain ⟨n,rfl,Lv,Aj,hE⟩:=L_ hg
 have hlen:=CI hk
 have qd:=tq hg
 have Sr:∀ i,i < s.length→rd s (i:Int)=1∨rd s (i:Int)=-1:=fun i hi=>TU hk i (by omega)
 have ho:=YM Sr
 have hlt:(jB s).length=l.length:=by rw [Qa,hlen]
 have hl:l.length≤maxLen:=Nat.le_trans qd (by decide)
 have hx:∀ x ∈ jB s,x.length=2:=fun x hx=>((aqV 2 x).1 (ho x hx)).1
 have hc:Hz n l 2 (jB s)=true:=by
  unfold Hz
  have ha:(jB s).all (kI (2:Int).toNat)=true:=List.all_eq_true.2 ho
  rw [hg,hlt,ha]
  simp
 have hi:=adf 2 (by omega) n l (jB s) (by omega) hlt (Cr hg) hx
 have e1:wrap64 ((n:Int) * ((2:Nat):Int))=((n * 2:Nat):Int):=by
  rw [show (n:Int) * ((2:Nat):Int)=((n * 2:Nat):Int) by simp]
  exact iz (by omega) (by omega)
 rw [e1] at hi
 have Lq:∀ R:Int × List (List Int) × Int,Ev (fun _=>if ((n * 2:Nat):Int) > 8 then some (0,[],3) else if ((iZ 2 l (jB s) l.length).length:Int) > 10 then some (0,[],3) else some (((n * 2:Nat):Int),iZ 2 l (jB s) l.length,0)) R→Ev (fun k=>wS.f k n l 2 (jB s)) R:=by
  intro R hR
  unfold wS.f
  refine Ev.bind (adk n l 2 (jB s) hl (by omega) (fun x h=>by rw [hx x h];decide)) ?_
  rw [hc]
  simp only [if_true]
  exact Ev.bind hi hR
 have bad:Ev (fun k=>wS.f k n l 2 (jB s)) (0,[],3)→Ev (fun k=>l9.f k n l 2 (jB s)) ([],3):=fun h2=>by
  unfold l9.f
  refine Ev.bind h2 ?_
  simp only [show ¬ ((3:Int)=0) by decide,if_false]
  exact Ev.now _
 by_cases h8:((n * 2:Nat):Int) > 8
 ·exact Or.inl (bad (Lq _ (by simp only [h8,if_true];exact Ev.now _)))
 ·by_cases h10 : ((iZ 2 l (jB s) l.length).length : Int) > 10
  ·exact Or.inl (bad (Lq _ (by simp only [h8,h10,if_false,if_true];exact Ev.now _)))
  ·have h2 := Lq _ (by simp only [h8, h10, if_false]; exact Ev.now _)
   have q:=aeO Lv Aj (by omega) (by omega) hg hlt hE ho (by omega) (by rw [D3] at h10;omega)
   rw [show (2 - 1) * (2 * l.length)=2 * l.length from by omega,show lX (2 * l.length) (nP l (jB s))=lX (2 * l.length) (sA l s) from xD fun k _=>ae0 hlen (fun i hi=>Sr i (by omega)) k] at q
   refine Or.inr ?_
   unfold l9.f
   refine Ev.bind h2 ?_
   simp only [if_true]
   exact q
theorem aep {a:Int} {l:List (List Int)} (hg:iO a l=true):mT a l (List.replicate l.length 1)=0:=by
 unfold mT nQ
 rw [if_pos hg,List.length_replicate]
 simp [oM]
theorem aeo {l:List (List Int)}:lX (2 * l.length) (sA l (List.replicate l.length 1))=lX (2 * l.length) (eA l) :=
 xD fun k _=>P4 (fun a b ha hb=>by
  rw [M7 _ _ a b ha,Fh _ _ b hb,oZ _ (b / 2) (by rw [List.length_replicate];omega),List.getElem_replicate,Int.mul_one]) k
theorem aff (c:List Int) (a:Int) (l:List (List Int)) (hg:iO a l=true) (hc:c.length=l.length) (hl:l.length≤maxLen):∀ (d i:Nat),c.length - i=d→i≤c.length→Ev (fun k=>dL.l0 k c (List.replicate i 1) i a l) true:=by
 intro d
 induction d with
 | zero =>
  intro i hd hi
  obtain rfl:i=c.length:=by omega
  have qd:=tq hg
  refine Ev.step (fun k=>by simp only [dL.l0];rfl) ?_
  simp only [Int.lt_irrefl,if_false]
  have e1:=L9 a l (List.replicate c.length 1) hl
  rw [hc] at e1 ⊢
  unfold apQ at e1
  rw [if_pos (aep hg),aeo] at e1
  refine Ev.bind e1 ?_
  have e2:Ev (fun k=>wQ.f k a l) (iG (lX (2 * l.length) (eA l)) (2 * l.length+1),0):=by
   unfold wQ.f
   refine Ev.bind (Hy a l hl) ?_
   simp only [hg,if_true]
   exact Ev.bind (M3 a l hg) (Ev.now _)
  refine Ev.bind e2 ?_
  simp only [if_true]
  exact Ev.bind (HS _ (by have:=T7 (lX (2 * l.length) (eA l)) (2 * l.length+1);omega)) (Ev.now _)
 | succ d ih =>
  intro i hd hi
  have qd:=tq hg
  have h:=ih (i+1) (by omega) (by omega)
  rw [List.replicate_succ'] at h
  refine Ev.step (fun k=>by simp only [dL.l0];rfl) ?_
  simp only [show ((i:Int) < (c.length:Int)) by omega,if_true,List.length_replicate,show i < 17592186044416 by omega,wI ((i:Int)+1) (by omega)]
  exact h
theorem TT (a:Int) (l:List (List Int)) (s:List Int):(apQ a l s).1.length≤1048576:=by
 unfold apQ
 split
 ·rename_i h
  have qd:=tq (AV h).1
  have:=T7 (lX (2 * l.length) (sA l s)) (2 * l.length+1)
  show (iG _ _).length≤_
  omega
 ·simp
end Go.Proofs.Ytoebojnhchocaaa.E
namespace Go.Proofs.Ytoebojnhchocaaa.Pure
open Go.RowKit Go.Proofs.bY.apf Go.Proofs.bY.ko Go.Proofs.bY.kN Go.Proofs.Ytoebojnhchocaaa.E
theorem Vr:dL.Pure:=by
 intro s hm _ hb
 have hs:=Xz hm hb
 refine Ev.rounds (r:=true) ?_
 unfold dL.f zk.f
 simp only [Option.bind_some]
 by_cases hbig:(s.length:Int) > 4096
 ·simp only [hbig,decide_true,if_true];exact Ev.now _
 ·simp only [hbig, decide_false, Bool.false_eq_true, if_false]
  obtain ⟨h0,e0⟩:=ZN hs
  obtain ⟨a,l,t1,h1,e1,d1,b1⟩:=TY hs 0 h0 ⟨by omega,by omega⟩
  obtain ⟨c,t2,h2,e2,d2,_⟩:=Qj hs a l d1.1 t1 h1 b1
  have ed:Ev (fun k=>aqt.f k s) (a,l,c):=Ev.bind e0 (Ev.bind e1 (Ev.bind e2 (Ev.now _)))
  obtain ⟨a',l',t3,h3,e3,d3,b3⟩:=afj hs 0 h0 ⟨by omega,by omega⟩
  obtain ⟨c',t4,h4,e4,d4,_⟩:=Qj hs a' l' d3.1 t3 h3 b3
  have Y9:Ev (fun k=>Bh.f k s) (a',l',c'):=Ev.bind e0 (Ev.bind e3 (Ev.bind e4 (Ev.now _)))
  have hl:l.length≤maxLen:=Nat.le_trans d1.1 (by decide)
  have hl':l'.length≤maxLen:=Nat.le_trans d3.1 (by decide)
  refine Ev.bind ed (Ev.bind (L9 a l c hl) (Ev.bind (afl a l c hl (Nat.le_trans d2 (by decide))) ?_))
  simp only [if_true]
  refine Ev.bind (HS _ (TT a l c)) ?_
  obtain ⟨q1,q2⟩:=Vc a' l' c' hl' (Nat.le_trans d4 (by decide))
  refine Ev.step (fun k=>by simp only [dL.j0];rfl) ?_
  simp only [Bool.not_true,Bool.false_eq_true,if_false]
  refine Ev.bind Y9 (Ev.bind q2 (Ev.bind q1 ?_))
  simp only [if_true]
  -- the last part, whatever went before
  have last:Ev (fun k=>dL.j2 k c (apQ a l c).1 (apQ a l c).2 a l) true:=by
   refine Ev.step (fun k=>by simp only [dL.j2];rfl) ?_
   by_cases h:mT a l c=0
   ·obtain ⟨hg, hk⟩ := AV h
    have e:(apQ a l c).2=0:=by unfold apQ;rw [if_pos h]
    simp only [e,if_true]
    exact aff c a l hg (CI hk) hl c.length 0 (by omega) (by omega)
   ·have e : apQ a l c = ([], mT a l c) := by unfold apQ; rw [if_neg h]
    simp only [e,h,if_false]
    exact Ev.now _
  by_cases h:mT a' l' c'=0
  ·have e : zT a' l' c' = (a', l', 2, jB c', 0) := by unfold zT; rw [if_pos h]
   obtain ⟨hg,hk⟩:=AV h
   obtain ⟨hs1,rI⟩:=SS hg
   have KG:Ev (fun k=>sQ.f k a' l' 2 (jB c') a' l' 2 (jB c')) true:=by
    unfold sQ.f
    refine Ev.bind (QL a' l' hs1 rI) ?_
    simp only [if_true]
    have hx:=YH 2 (by omega) (c'.map uy) (by rw [List.length_map];omega)
    exact Ev.bind (M5 (jB c') hx.1 hx.2) (Ev.now _)
   simp only [e]
   refine Ev.bind KG ?_
   refine Ev.step (fun k=>by simp only [dL.j1];rfl) ?_
   simp only [Bool.not_true,Bool.false_eq_true,if_false,if_true]
   have es:apQ a' l' c'=(iG (lX (2 * l'.length) (sA l' c')) (2 * l'.length+1),0):=by unfold apQ;rw [if_pos h]
   have e5:=L9 a' l' c' hl'
   have e6:=TT a' l' c'
   rw [es] at e5 e6
   rcases aeN h with hq|hq
   ·refine Ev.bind hq (Ev.bind e5 ?_)
    simp only [if_true,show ¬ ((3:Int)=0) by decide,if_false]
    exact last
   ·refine Ev.bind hq (Ev.bind e5 ?_)
    simp only [if_true]
    refine Ev.bind (HS _ e6) ?_
    simp only [if_true]
    exact last
  ·have e : zT a' l' c' = (0, [], 0, [], mT a' l' c') := by unfold zT; rw [if_neg h]
   have KG:Ev (fun k=>sQ.f k 0 [] 0 [] 0 [] 0 []) true:=by
    unfold sQ.f
    refine Ev.bind (QL 0 [] (by simp) (by simp)) ?_
    simp only [if_true]
    exact Ev.bind (M5 [] (by simp) (by simp)) (Ev.now _)
   simp only [e]
   refine Ev.bind KG ?_
   refine Ev.step (fun k=>by simp only [dL.j1];rfl) ?_
   simp only [Bool.not_true,Bool.false_eq_true,if_false,h]
   exact last
end Go.Proofs.Ytoebojnhchocaaa.Pure
/- Set with little white space, by a program. -/
