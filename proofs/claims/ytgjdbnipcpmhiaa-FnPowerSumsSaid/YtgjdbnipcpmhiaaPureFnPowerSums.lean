/- Plain lemmas on the Lean functions that FnPowerSums reaches, and its pure statement. No condition. -/
import Derived.Test.YtgjdbnipcpmhiaaPLib
namespace Go.Proofs.Ytgjdbnipcpmhiaa.P
open Go.RowKit Go.Proofs.YtgjdbnipcpmhiaaW.PrintWords Go.Proofs.YtgjdbnipcpmhiaaW.PrintLast Go.Proofs.YtgjdbnipcpmhiaaW.PrintMore
set_option linter.unusedVariables false
set_option linter.unusedSimpArgs false
theorem drawOf_l1 {s:List Int} (hs:bytesOK s) (size edges:Int) (h1:1≤size∧size≤8) (he:0≤edges∧edges≤10) (a:Int):∀ (d:Nat) (c t h:Int) (l:List (List Int)),c≤d→0≤c→c≤10→drawOK 10 2 l→l.length≤10→0≤t∧t≤s.length→GraphDrawn 10 2 s (fun k=>F63.l1 k size edges c s t h a l):=by
 intro d
 induction d with
 | zero =>
  intro c t h l hc hc0 _ hl hl10 ht
  refine GraphDrawn.step_ (fun k=>by simp only [F63.l1];rfl) ?_
  simp only [show ¬ (c > 0) by omega,if_false]
  refine GraphDrawn.step_ (fun k=>by simp only [F63.j3];rfl) ?_
  simp only [Bool.false_eq_true,if_false]
  exact ⟨a,l,t,h,Ev.now _,hl,ht⟩
 | succ d ih =>
  intro c t h l hc hc0 hc10 hl hl10 ht
  have stop:GraphDrawn 10 2 s (fun k=>F63.j3 k size edges c false s t h a l):=by
   refine GraphDrawn.step_ (fun k=>by simp only [F63.j3];rfl) ?_
   simp only [Bool.false_eq_true,if_false]
   exact ⟨a,l,t,h,Ev.now _,hl,ht⟩
  refine GraphDrawn.step_ (fun k=>by simp only [F63.l1];rfl) ?_
  by_cases hc1:c > 0
  ·simp only [hc1, if_true]
   by_cases hb:(l.length:Int) < edges
   ·simp only [hb, decide_true]
    refine GraphDrawn.step_ (fun k=>by simp only [F63.j3];rfl) ?_
    obtain ⟨x,t1,g1,e1,b1,_,r1⟩:=next_ev hs t h size ht
    obtain ⟨y,t2,g2,e2,b2,_,r2⟩:=next_ev hs t1 g1 size b1
    have hcap:l.length < 5864062014805:=by omega
    have cont:∀ (z:List Int) (t' h':Int),z.length≤2→0≤t'∧t'≤s.length→GraphDrawn 10 2 s (fun k=>F63.l1 k size edges (c - 1) s t' h' a (l ++ [z])):=fun z t' h' hz ht' =>
     ih (c - 1) t' h' (l ++ [z]) (by omega) (by omega) (by omega) (drawOK_snoc hl (by omega) z hz) (by rw [List.length_append];show l.length+1≤10;omega) ht'
    simp only [e1,e2,Option.bind_some,hcap,if_true,wI (c - 1) (by omega)]
    by_cases hxy:x=y
    ·obtain ⟨q, t3, g3, e3, b3, _, r3⟩ := next_ev hs t2 g2 3 b2
     simp only [hxy,if_true,e3,Option.bind_some]
     by_cases hq:q > 0
     ·simp only [hq, if_true, show ¬ (size = 0) by omega, if_false]
      exact cont _ _ _ (by simp) b3
     ·simp only [hq, if_false]
      exact cont _ _ _ (by simp) b3
    ·simp only [hxy, if_false]
     exact cont _ _ _ (by simp) b2
   ·simp only [hb, decide_false]
    exact stop
  ·simp only [hc1, if_false]
   exact stop
theorem drawOf_l0 {s:List Int} (hs:bytesOK s) (size edges:Int) (h1:1≤size∧size≤8) (he:0≤edges∧edges≤10) (j:Bool) (a:Int):∀ (d:Nat) (v t h:Int) (l:List (List Int)),size - v≤d→1≤v→v≤9→drawOK 10 2 l→l.length≤10→0≤t∧t≤s.length→GraphDrawn 10 2 s (fun k=>F63.l0 k size edges j v s t h a l):=by
 intro d
 induction d with
 | zero =>
  intro v t h l hv hv1 hv9 hl hl10 ht
  refine GraphDrawn.step_ (fun k=>by simp only [F63.l0];rfl) ?_
  simp only [show ¬ (v < size) by omega,if_false]
  refine GraphDrawn.step_ (fun k=>by simp only [F63.j1];rfl) ?_
  obtain ⟨x,t1,g1,e1,b1,z1,r1⟩:=next_ev hs t h (edges+1) ht
  simp only [Bool.false_eq_true,if_false,wI (edges+1) (by omega),e1,Option.bind_some]
  have hx:=r1 (by omega)
  exact drawOf_l1 hs size edges h1 he a 10 x t1 g1 l (by omega) (by omega) (by omega) hl hl10 b1
 | succ d ih =>
  intro v t h l hv hv1 hv9 hl hl10 ht
  have stop:GraphDrawn 10 2 s (fun k=>F63.j1 k size edges j v false s t h a l):=by
   refine GraphDrawn.step_ (fun k=>by simp only [F63.j1];rfl) ?_
   obtain ⟨x,t1,g1,e1,b1,z1,r1⟩:=next_ev hs t h (edges+1) ht
   simp only [Bool.false_eq_true,if_false,wI (edges+1) (by omega),e1,Option.bind_some]
   have hx:=r1 (by omega)
   exact drawOf_l1 hs size edges h1 he a 10 x t1 g1 l (by omega) (by omega) (by omega) hl hl10 b1
  refine GraphDrawn.step_ (fun k=>by simp only [F63.l0];rfl) ?_
  by_cases hc:v < size
  ·simp only [hc, if_true]
   cases j with
   | false=>simp only [Bool.false_eq_true,if_false];exact stop
   | true =>
    simp only [if_true]
    by_cases hb:(l.length:Int) < edges
    ·simp only [hb, decide_true]
     refine GraphDrawn.step_ (fun k=>by simp only [F63.j1];rfl) ?_
     obtain ⟨x,t1,g1,e1,b1,_,r1⟩:=next_ev hs t h v ht
     obtain ⟨y,t2,g2,e2,b2,_,r2⟩:=next_ev hs t1 g1 2 b1
     have hcap:l.length < 5864062014805:=by omega
     have cont:∀ (z:List Int),z.length≤2→GraphDrawn 10 2 s (fun k=>F63.l0 k size edges true (v+1) s t2 g2 a (l ++ [z])):=fun z hz =>
      ih (v+1) t2 g2 (l ++ [z]) (by omega) (by omega) (by omega) (drawOK_snoc hl (by omega) z hz) (by rw [List.length_append];show l.length+1≤10;omega) b2
     simp only [e1,e2,Option.bind_some,hcap,if_true,wI (v+1) (by omega)]
     by_cases hy:y=0
     ·simp only [hy,if_true];exact cont _ (by simp)
     ·simp only [hy,if_false];exact cont _ (by simp)
    ·simp only [hb,decide_false];exact stop
  ·simp only [hc,if_false];exact stop
theorem drawOf_ev {s:List Int} (hs:bytesOK s) (size edges t h:Int) (h1:1≤size∧size≤8) (he:0≤edges∧edges≤10) (ht:0≤t∧t≤s.length):GraphDrawn 10 2 s (fun k=>F63.f k s t h size edges):=by
 obtain ⟨x,t1,g1,e1,b1,_,_⟩:=next_ev hs t h 3 ht
 unfold F63.f
 simp only [e1,Option.bind_some]
 exact drawOf_l0 hs size edges h1 he _ size 8 1 t1 g1 [] (by omega) (by omega) (by omega) ⟨by simp,fun x hx=>by cases hx⟩ (by simp) b1
def namesL:List ByteArray:=(F115.f).getD []
theorem names_eq:F115.f=some namesL:=rfl
theorem names_len:namesL.length=14:=by kernel_rfl
theorem named_all:((List.range 14).all fun i:Nat=>match F116.f 64 (rdOf ByteArray.empty namesL (i:Int)) with|some r=>decide (r.2.1.length≤10) && r.2.1.all (fun x=>decide (x.length≤2))|none=>false)=true:=by kernel_rfl
theorem named_ev (i:Nat) (hi:i < 14):∃ (a:Int) (l:List (List Int)) (b:Bool),Ev (fun k=>F116.f k (rdOf ByteArray.empty namesL (i:Int))) (a,l,b)∧drawOK 10 2 l:=by
 have h:=List.all_eq_true.1 named_all i (List.mem_range.2 hi)
 cases e:F116.f 64 (rdOf ByteArray.empty namesL (i:Int)) with
 | none=>rw [e] at h;cases h
 | some r =>
  rw [e] at h
  simp only [Bool.and_eq_true,decide_eq_true_eq,List.all_eq_true] at h
  exact ⟨r.1,r.2.1,r.2.2,Ev.of (fun k=>F116.mono _ k) e,⟨h.1,h.2⟩⟩
theorem draw_ev {s:List Int} (hs:bytesOK s) (t h:Int) (ht:0≤t∧t≤s.length):∃ (a:Int) (l:List (List Int)) (t' h':Int),Ev (fun k=>F93.f k s t h) (a,l,t',h')∧drawOK 10 2 l∧0≤t'∧t'≤s.length:=by
 obtain ⟨x,t1,g1,e1,b1,_,_⟩:=next_ev hs t h 4 ht
 unfold F93.f
 by_cases hx:x=0
 ·obtain ⟨i, t2, g2, e2, b2, _, r2⟩ := next_ev hs t1 g1 14 b1
  have r2:=r2 (by omega)
  obtain ⟨q,rfl⟩:∃ q:Nat,i=q:=⟨i.toNat,by omega⟩
  obtain ⟨a,l,b,en,hl⟩:=named_ev q (by omega)
  refine ⟨a,l,t2,g2,?_,hl,b2⟩
  simp only [e1,Option.bind_some,hx,if_true,names_eq,names_len,show ((14:Nat):Int)=14 from rfl,e2,r2.1,r2.2]
  exact Ev.bind en (Ev.now _)
 ·obtain ⟨y, t2, g2, e2, b2, _, r2⟩ := next_ev hs t1 g1 8 b1
  have r2:=r2 (by omega)
  have hw:wrap64 (1+y)=1+y:=w64 (by omega) (by omega)
  obtain ⟨z,t3,g3,e3,b3,r3⟩:=pick_ev hs t2 g2 [1,2,3,3,4,4,5,6,wrap64 (1+y)] (by simp) b2
  obtain ⟨m,t4,g4,e4,b4,r4⟩:=pick_ev hs t3 g3 [2,4,6,6,8,10] (by simp) b3
  have hz:1≤z∧z≤8:=by
   rw [hw] at r3
   simp only [List.mem_cons,List.not_mem_nil,or_false] at r3
   omega
  have hm:0≤m∧m≤10:=by
   simp only [List.mem_cons,List.not_mem_nil,or_false] at r4
   omega
  obtain ⟨a,l,t5,g5,ed,hl,b5⟩:=drawOf_ev hs z m t4 g4 hz hm b4
  refine ⟨a,l,t5,g5,?_,hl,b5⟩
  simp only [e1,Option.bind_some,hx,if_false,e2,e3,e4]
  exact Ev.bind ed (Ev.now _)
theorem bad_l0 (s:List Int) (t h a:Int) (ht:0≤t∧t≤s.length):∀ (d:Nat) (l:List (List Int)),11 - l.length≤d→drawOK 11 3 l→GraphDrawn 11 3 s (fun k=>F92.l0 k s t h a l):=by
 intro d
 induction d with
 | zero =>
  intro l hd hl
  refine GraphDrawn.step_ (fun k=>by simp only [F92.l0];rfl) ?_
  simp only [show ¬ ((l.length:Int)≤10) by omega,if_false]
  exact ⟨a,l,t,h,Ev.now _,hl,ht⟩
 | succ d ih =>
  intro l hd hl
  refine GraphDrawn.step_ (fun k=>by simp only [F92.l0];rfl) ?_
  by_cases hc:(l.length:Int)≤10
  ·simp only [hc, if_true, show l.length < 5864062014805 by omega]
   exact ih _ (by rw [List.length_append];show 11 - (l.length+1)≤d;omega) (drawOK_snoc hl (by omega) _ (by simp))
  ·simp only [hc, if_false]
   exact ⟨a,l,t,h,Ev.now _,hl,ht⟩
theorem bad_ev {s:List Int} (hs:bytesOK s) (t h a:Int) (l:List (List Int)) (hl:drawOK 10 2 l) (ht:0≤t∧t≤s.length):GraphDrawn 11 3 s (fun k=>F92.f k s t h a l):=by
 have hd:drawOK 11 3 l:=drawOK_more hl
 have hl1:=hl.1
 obtain ⟨x,t1,g1,e1,b1,_,r1⟩:=next_ev hs t h 40 ht
 obtain ⟨c1,c2⟩:=drawOK_small hd
 unfold F92.f
 simp only [e1,Option.bind_some]
 by_cases h0:x=0
 ·obtain ⟨z, t2, g2, e2, b2, _⟩ := pick_ev hs t1 g1 [0, 9, wrap64 (a - 1)] (by simp) b1
  simp only [h0,if_true,e2,Option.bind_some]
  exact ⟨_,_,_,_,Ev.now _,hd,b2⟩
 ·simp only [h0, if_false]
  by_cases h1:x=1
  ·simp only [h1, if_true]
   refine ⟨a,l ++ [[0,a]],t1,g1,Ev.bind (l01Copy_ev a l c1 c2) ?_,drawOK_snoc hd (by omega) _ (by simp),b1⟩
   simp only [show l.length < 5864062014805 by omega,if_true]
   exact Ev.now _
  ·simp only [h1, if_false]
   by_cases h2:x=2
   ·simp only [h2, if_true]
    by_cases hn:(l.length:Int) > 0
    ·obtain ⟨i, t2, g2, e2, b2, _, r2⟩ := next_ev hs t1 g1 (l.length : Int) b1
     have r2:=r2 (by omega)
     obtain ⟨q,rfl⟩:∃ q:Nat,i=q:=⟨i.toNat,by omega⟩
     have hq:q < l.length:=by omega
     have hx:=hl.2 l[q] (List.getElem_mem hq)
     refine ⟨a,l.set q (rd_L1 l (q:Int) ++ [0]),t2,g2,Ev.bind (l01Copy_ev a l c1 c2) ?_,⟨by rw [List.length_set];omega,fun y hy=>?_⟩,b2⟩
     ·simp only [hn, if_true, e2, Option.bind_some, r2.1, r2.2, show (rd_L1 l (q : Int)).length < 17592186044416 by rw [rdL1_nat l q hq]; omega, Int.toNat_natCast]
      exact Ev.now _
     ·rcases List.mem_or_eq_of_mem_set hy with hy | hy
      ·exact hd.2 y hy
      ·rw [hy,List.length_append,rdL1_nat l q hq];show _+1≤3;omega
    ·refine ⟨a, l, t1, g1, Ev.bind (l01Copy_ev a l c1 c2) ?_, hd, b1⟩
     simp only [hn,if_false]
     exact Ev.now _
   ·simp only [h2, if_false]
    by_cases h3:x=3
    ·simp only [h3, if_true]
     obtain ⟨a',l',t2,g2,e2,hl',b2⟩:=bad_l0 s t1 g1 a b1 11 l (by omega) hd
     exact ⟨a',l',t2,g2,Ev.bind (l01Copy_ev a l c1 c2) e2,hl',b2⟩
    ·simp only [h3, if_false]
     exact ⟨a,l,t1,g1,Ev.now _,hd,b1⟩
theorem from_l0 (s z:List Int):∀ (d i:Nat) (t h:Int),s.length - i=d→i≤s.length→s.length≤maxLen→∃ h',Ev (fun k=>F37.l0 k s i z t h) (z,t,h'):=by
 intro d
 induction d with
 | zero =>
  intro i t h hd hi _
  refine ⟨h,Ev.step (fun k=>by simp only [F37.l0];rfl) ?_⟩
  simp only [show ¬ ((i:Int) < (s.length:Int)) by omega,if_false]
  exact Ev.now _
 | succ d ih =>
  intro i t h hd hi hm
  by_cases h4:(i:Int) < 4096
  ·obtain ⟨h', e⟩ := ih (i + 1) t (IntKind.u64.wrap ((IntKind.u64.wrap ((IntKind.u64.wrap (h * 1099511628211)) + (IntKind.u64.wrap (rd s (i : Int))))) + 109)) (by omega) (by omega) hm
   refine ⟨h',Ev.step (fun k=>by simp only [F37.l0];rfl) ?_⟩
   rw [show ((i+1:Nat):Int)=(i:Int)+1 by omega] at e
   simp only [show ((i:Int) < (s.length:Int)) by omega,if_true,h4,zI' i,wI ((i:Int)+1) (by omega)]
   exact e
  ·refine ⟨h, Ev.step (fun k => by simp only [F37.l0]; rfl) ?_⟩
   simp only [show ((i:Int) < (s.length:Int)) by omega,if_true,h4,if_false]
   exact Ev.now _
theorem from_ev {s:List Int} (hs:bytesOK s):∃ h,Ev (fun k=>F37.f k s) (s,0,h):=by
 unfold F37.f
 exact from_l0 s s s.length 0 0 _ (by omega) (by omega) hs.1
theorem spoil_ev {s:List Int} (hs:bytesOK s) (t h:Int) (ht:0≤t∧t≤s.length):GraphDrawn 11 3 s (fun k=>F38.f k s t h):=by
 obtain ⟨a,l,t1,h1,e1,d1,b1⟩:=draw_ev hs t h ht
 obtain ⟨a2,l2,t2,h2,e2,d2,b2⟩:=bad_ev hs t1 h1 a l d1 b1
 exact ⟨a2,l2,t2,h2,Ev.bind e1 (Ev.bind e2 (Ev.now _)),d2,b2⟩
theorem likeInts_l0 (l:List Int) (hl:l.length≤1048576):∀ (d i:Nat),l.length - i=d→i≤l.length→Ev (fun k=>F13.l0 k l l i) true:=by
 intro d
 induction d with
 | zero =>
  intro i hd hi
  refine Ev.step (fun k=>by simp only [F13.l0];rfl) ?_
  simp only [show ¬ ((i:Int) < (l.length:Int)) by omega,if_false]
  exact Ev.now _
 | succ d ih =>
  intro i hd hi
  refine Ev.step (fun k=>by simp only [F13.l0];rfl) ?_
  simp only [show ((i:Int) < (l.length:Int)) by omega,zI' i,if_true,wI ((i:Int)+1) (by omega)]
  exact ih (i+1) (by omega) (by omega)
theorem likeInts_ev (l:List Int) (hl:l.length≤1048576):Ev (fun k=>F13.f k l l) true:=by
 unfold F13.f
 simp only [if_true]
 exact likeInts_l0 l hl l.length 0 (by omega) (by omega)
theorem bytes_ok {s:List Int} (hm:s.length≤maxLen) (hb:∀ x ∈ s,(Lit.int .u8 x).wf=true):bytesOK s:=⟨hm,fun x hx=>by
 have h:=hb x hx
 simp [Lit.wf,IntKind.min,IntKind.max,IntKind.signed,IntKind.bits] at h
 omega⟩
theorem trim_top {f:Nat→Int} {a n:Nat} (h:a≤n) (ha:f a ≠ 0) (hz:∀ k,a < k→f k=0):trimN (vrow (n+1) f) (n+1)=vrow (a+1) f:=by
 obtain ⟨d,rfl⟩:∃ d,n=a+d:=⟨n - a,by omega⟩
 rw [trimN_vrow f d a hz]
 unfold trimN
 rw [if_neg (by rw [vrow_rd (show a < a+1 by omega)];exact ha),List.take_of_length_le (by rw [vrow_length];exact Nat.le_refl _)]
theorem absolute_eq (y:Int) (h:-1000000000000000≤y∧y≤1000000000000000):F107.f y=some (la_ab y):=by
 unfold F107.f mx la_ab
 rw [wI (-y) (by omega)]
 congr 1
 split<;>omega
theorem isSmall_eq (y:Int):F106.f y=some (decide (-1000000000000000≤y) && decide (y≤1000000000000000)):=by
 unfold F106.f
 rw [within_eq]
 rfl
theorem vrow_back {n:Nat} {c:List Int} (h:c.length=n):vrow n (fun w=>rd c (w:Int))=c:=(vrow_of h).symm
theorem near_ev {s:List Int} (hs:bytesOK s) (t h a:Int) (ht:0≤t∧t≤s.length):∃ x t' h',F68.f s t h a=some (x,t',h')∧(0≤t'∧t'≤s.length):=by
 unfold F68.f
 obtain ⟨x,t1,h1,e1,r1,_⟩:=next_ev hs t h 14 ht
 rw [e1,Option.bind_some]
 by_cases hx:x=0
 ·obtain ⟨y, t2, h2, e2, r2, _⟩ := pick_ev hs t1 h1 [(-1), wrap64 (a + 1), 1099511627776, (-4611686018427387904)] (by simp) r1
  simp only [hx,if_true,e2,Option.bind_some]
  exact ⟨_,_,_,rfl,r2⟩
 ·obtain ⟨y, t2, h2, e2, r2, _⟩ := next_ev hs t1 h1 (wrap64 (a + 1)) r1
  simp only [hx,if_false,e2,Option.bind_some]
  exact ⟨_,_,_,rfl,r2⟩
theorem la_dc_det {n:Nat}:∀ (P Q:Nat→Nat→Int),la_dc n P Q n=la_det n Q:=by
 induction n with
 | zero=>intro P Q;rfl
 | succ n ih =>
  intro P Q
  rw [la_dc_succ,la_det_succ]
  refine la_sm_congr fun i _=>?_
  rw [la_dc_top _ _ (n+1) (by omega)]
  show la_sg i * (P i 0 * 0+Q i 0 * la_dc n _ _ n)=_
  rw [ih];grind
theorem la_flB_zero (n:Nat) (A:Nat→Nat→Int):∀ (d k i:Nat),k < n→i < n→la_flB n A (la_cp n A) (n+1+d) k i=0:=by
 intro d
 induction d with
 | zero =>
  intro k i hk hi
  rw [Nat.add_zero,← la_bc_fl n A n (Nat.le_refl _) k i hk hi]
  unfold la_bc
  rw [la_dc_det]
  exact la_det_row_zero _ i hi (fun b _=>by unfold la_rr la_z0;simp)
 | succ d ih =>
  intro k i hk hi
  show la_sm n (fun j=>A k j * la_flB n A (la_cp n A) (n+1+d) j i)+(if k=i then la_cp n A (n+1+d) else 0)=0
  rw [la_sm_zero (fun j hj=>by rw [ih j i hj hi];simp),show la_cp n A (n+1+d)=0 from la_dc_top _ _ _ (by omega)]
  split<;>rfl
theorem la_newton (n:Nat) (A:Nat→Nat→Int) (m:Nat):((m+1:Nat):Int) * la_cp n A (m+1)=- la_sm n (fun i=>la_sm n (fun j=>A i j * la_flB n A (la_cp n A) (m+1) j i)):=by
 by_cases hm:m < n
 ·exact la_cp_fl n A m hm
 ·obtain ⟨d, rfl⟩ : ∃ d, m = n + d := ⟨m - n, by omega⟩
  rw [show la_cp n A (n+d+1)=0 from la_dc_top _ _ _ (by omega),la_sm_zero (fun i hi=>la_sm_zero (fun j hj=>by rw [show n+d+1=n+1+d by omega,la_flB_zero n A d j i hj hi];simp))]
  simp
/-- The powers of a matrix. -/
def mpw (n : Nat) (A : Nat → Nat → Int) : Nat → Nat → Nat → Int
 | 0=>fun i j=>la_ee i j
 | k+1=>fun i j=>la_sm n (fun t=>mpw n A k i t * A t j)
theorem mpw_left (n:Nat) (A:Nat→Nat→Int) (k:Nat):∀ i j,i < n→j < n→la_sm n (fun t=>A i t * mpw n A k t j)=mpw n A (k+1) i j:=by
 induction k with
 | zero =>
  intro i j hi hj
  show la_sm n (fun t=>A i t * la_ee t j)=la_sm n (fun t=>la_ee i t * A t j)
  rw [la_sm_congr (g:=fun t=>A i t * la_ee j t) (fun t _=>by rw [la_ee_comm]),la_sm_ee' (fun t=>A i t) j hj,la_sm_congr (g:=fun t=>A t j * la_ee i t) (fun t _=>by grind),la_sm_ee' (fun t=>A t j) i hi]
 | succ k ih =>
  intro i j hi hj
  show la_sm n (fun t=>A i t * la_sm n (fun s=>mpw n A k t s * A s j))=la_sm n (fun s=>mpw n A (k+1) i s * A s j)
  rw [la_sm_congr (g:=fun t=>la_sm n (fun s=>A i t * (mpw n A k t s * A s j))) (fun t _=>(la_sm_mul n _ _).symm),la_sm_swap]
  refine la_sm_congr fun s hs=>?_
  rw [← ih i s hi hs,show la_sm n (fun t=>A i t * mpw n A k t s) * A s j=A s j * la_sm n (fun t=>A i t * mpw n A k t s) by grind,← la_sm_mul]
  exact la_sm_congr fun t _=>by grind
theorem flB_mpw (n:Nat) (A:Nat→Nat→Int) (c:Nat→Int) (m:Nat):∀ i j,i < n→j < n→la_flB n A c (m+1) i j=la_sm (m+1) (fun l=>c l * mpw n A (m - l) i j):=by
 induction m with
 | zero =>
  intro i j hi hj
  show la_sm n (fun t=>A i t * 0)+(if i=j then c 0 else 0)=la_sm 1 (fun l=>c l * mpw n A (0 - l) i j)
  rw [la_sm_zero (fun _ _=>by simp)]
  simp only [la_sm]
  rw [show mpw n A (0 - 0) i j=la_ee i j from rfl,la_ee_iff]
  split<;>simp
 | succ m ih =>
  intro i j hi hj
  show la_sm n (fun t=>A i t * la_flB n A c (m+1) t j)+(if i=j then c (m+1) else 0)=la_sm (m+1) (fun l=>c l * mpw n A (m+1 - l) i j)+c (m+1) * mpw n A (m+1 - (m+1)) i j
  rw [Nat.sub_self,show mpw n A 0 i j=la_ee i j from rfl,la_ee_iff]
  have e:la_sm n (fun t=>A i t * la_flB n A c (m+1) t j)=la_sm (m+1) (fun l=>c l * mpw n A (m+1 - l) i j):=by
   rw [la_sm_congr (g:=fun t=>la_sm (m+1) (fun l=>A i t * (c l * mpw n A (m - l) t j))) (fun t ht=>by rw [ih t j ht hj,la_sm_mul]),la_sm_swap]
   refine la_sm_congr fun l hl=>?_
   rw [show m+1 - l=(m - l)+1 by omega,← mpw_left n A (m - l) i j hi hj,← la_sm_mul]
   exact la_sm_congr fun t _=>by grind
  rw [e]
  split<;>simp
def mtr (n:Nat) (A:Nat→Nat→Int) (k:Nat):Int:=la_sm n (fun i=>mpw n A k i i)
/-- Newton's rule. -/
theorem la_newton_tr (n:Nat) (A:Nat→Nat→Int) (m:Nat):((m+1:Nat):Int) * la_cp n A (m+1)+la_sm (m+1) (fun l=>la_cp n A l * mtr n A (m+1 - l))=0:=by
 rw [la_newton]
 have e:la_sm n (fun i=>la_sm n (fun j=>A i j * la_flB n A (la_cp n A) (m+1) j i))=la_sm (m+1) (fun l=>la_cp n A l * mtr n A (m+1 - l)):=by
  rw [la_sm_congr (g:=fun i=>la_sm (m+1) (fun l=>la_cp n A l * mpw n A (m+1 - l) i i)) (fun i hi=>?_),la_sm_swap]
  ·refine la_sm_congr fun l _ => ?_
   unfold mtr
   rw [← la_sm_mul]
  ·rw [la_sm_congr (g := fun j => la_sm (m + 1) (fun l => A i j * (la_cp n A l * mpw n A (m - l) j i))) (fun j hj => by rw [flB_mpw n A _ m j i hj hi, la_sm_mul]), la_sm_swap]
   refine la_sm_congr fun l hl=>?_
   rw [show m+1 - l=(m - l)+1 by omega,← mpw_left n A (m - l) i i hi hi,← la_sm_mul]
   exact la_sm_congr fun j _=>by grind
 rw [e]
 omega
theorem rtA_range (f g : Nat → Nat → Int) (i j : Nat) : ∀ m, -9223372036854775808 ≤ rtA f g i m j ∧ rtA f g i m j ≤ 9223372036854775807
 | 0=>by unfold rtA;omega
 | m+1=>by
  unfold rtA
  split
  ·exact rtA_range f g i j m
  ·exact wrap_range _
theorem trW_range (h : Nat → Nat → Int) : ∀ m, -9223372036854775808 ≤ trW h m ∧ trW h m ≤ 9223372036854775807
 | 0=>by unfold trW;omega
 | m+1=>wrap_range _
theorem sm_box {n:Nat} {f:Nat→Int} {B:Int} (h:∀ i,i < n→0≤f i∧f i≤B):0≤la_sm n f∧la_sm n f≤n * B:=by
 induction n with
 | zero=>simp [la_sm]
 | succ n ih =>
  have h1:=ih (fun i hi=>h i (by omega))
  have h2:=h n (by omega)
  have e:((n+1:Nat):Int) * B=n * B+B:=by grind
  rw [e]
  show 0≤la_sm n f+f n∧la_sm n f+f n≤_
  omega
/-- Newton's rule for a series c and its sums N, at k: 0 where it holds. -/
def nwW (c N:Nat→Int) (k:Nat):Int:=(k:Int) * c k+la_sm k (fun i=>c i * N (k - i))
def Nw (c N:Nat→Int):Prop:=c 0=1∧∀ k,nwW c N k=0
def upC (m:Nat) (c:Nat→Int) (k:Nat):Int:=c k - (if m≤k then c (k - m) else 0)
def dvN (m:Nat) (k:Nat):Int:=if m ∣ k then (m:Int) else 0
theorem sm_tail {n k:Nat} {f:Nat→Int} (h:k≤n) (hz:∀ i,i < k→f i=0):la_sm n f=la_sm (n - k) (fun i=>f (k+i)):=by
 obtain ⟨d,rfl⟩:∃ d,n=k+d:=⟨n - k,by omega⟩
 rw [la_sm_split,la_sm_zero hz,show k+d - k=d by omega]
 omega
theorem up_tele {m:Nat} (hm:1≤m) (c:Nat→Int):∀ (k:Nat),la_sm k (fun i=>upC m c i * (if m ∣ (k - i) then 1 else 0))=if m≤k then c (k - m) else 0:=by
 intro k
 induction k using Nat.strongRecOn with
 | ind k ih =>
 by_cases hk:m≤k
 ·rw [if_pos hk]
  obtain ⟨d,rfl⟩:∃ d,k=d+m:=⟨k - m,by omega⟩
  rw [show d+m - m=d by omega,show d+m=d+(1+(m - 1)) by omega,la_sm_split]
  have h1:=ih d (by omega)
  have e1:la_sm d (fun i=>upC m c i * (if m ∣ (d+(1+(m - 1)) - i) then 1 else 0))=la_sm d (fun i=>upC m c i * (if m ∣ (d - i) then 1 else 0)):=la_sm_congr fun i hi=>by
   have:(m ∣ (d+(1+(m - 1)) - i))↔(m ∣ (d - i)):=by
    rw [show d+(1+(m - 1)) - i=(d - i)+m by omega]
    exact (Nat.dvd_add_left (Nat.dvd_refl m))
   simp only [this]
  rw [e1,h1,la_sm_split]
  have e2:la_sm (m - 1) (fun i=>upC m c (d+(1+i)) * (if m ∣ (d+(1+(m - 1)) - (d+(1+i))) then 1 else 0))=0:=la_sm_zero fun i hi=>by
   rw [if_neg]
   ·simp
   ·intro hd
    have:=Nat.le_of_dvd (by omega) hd
    omega
  rw [e2]
  show _+((0+upC m c (d+0) * (if m ∣ (d+(1+(m - 1)) - (d+0)) then 1 else 0))+0)=c d
  have e3:(if m ∣ (d+(1+(m - 1)) - (d+0)) then (1:Int) else 0)=1:=if_pos (by rw [show d+(1+(m - 1)) - (d+0)=m by omega];exact Nat.dvd_refl m)
  rw [e3,Nat.add_zero]
  unfold upC
  split<;>omega
 ·rw [if_neg hk]
  exact la_sm_zero fun i hi=>by
   rw [if_neg]
   ·simp
   ·intro hd
    have:=Nat.le_of_dvd (by omega) hd
    omega
theorem up_newton {m:Nat} (hm:1≤m) (c N:Nat→Int) (k:Nat):nwW (upC m c) (fun j=>N j+dvN m j) k=nwW c N k - (if m≤k then nwW c N (k - m) else 0):=by
 have e1:la_sm k (fun i=>upC m c i * (N (k - i)+dvN m (k - i)))=la_sm k (fun i=>upC m c i * N (k - i))+(m:Int) * la_sm k (fun i=>upC m c i * (if m ∣ (k - i) then 1 else 0)):=by
  rw [← la_sm_mul,← la_sm_add]
  refine la_sm_congr fun i _=>?_
  unfold dvN
  split<;>grind
 have e2:la_sm k (fun i=>upC m c i * N (k - i))=la_sm k (fun i=>c i * N (k - i)) - la_sm k (fun i=>(if m≤i then c (i - m) else 0) * N (k - i)):=by
  rw [← la_sm_sub]
  exact la_sm_congr fun i _=>by unfold upC;grind
 unfold nwW
 rw [e1,e2,up_tele hm]
 by_cases hk:m≤k
 ·have e3:la_sm k (fun i=>(if m≤i then c (i - m) else 0) * N (k - i))=la_sm (k - m) (fun j=>c j * N (k - m - j)):=by
   rw [sm_tail hk (f:=fun i=>(if m≤i then c (i - m) else 0) * N (k - i)) (fun i hi=>by rw [if_neg (by omega)];simp)]
   exact la_sm_congr fun j hj=>by rw [if_pos (by omega),show m+j - m=j by omega,show k - (m+j)=k - m - j by omega]
  rw [if_pos hk,if_pos hk,e3]
  unfold upC
  rw [if_pos hk,show ((k - m:Nat):Int)=(k:Int) - (m:Int) by omega]
  grind
 ·rw [if_neg hk, if_neg hk, la_sm_zero (f := fun i => (if m ≤ i then c (i - m) else 0) * N (k - i)) (fun i hi => by rw [if_neg (by omega)]; simp)]
  unfold upC
  rw [if_neg hk]
  grind
theorem nw_up {m:Nat} (hm:1≤m) {c N:Nat→Int} (h:Nw c N):Nw (upC m c) (fun j=>N j+dvN m j):=by
 refine ⟨?_,fun k=>?_⟩
 ·unfold upC;rw [if_neg (by omega),h.1];rfl
 ·rw [up_newton hm, h.2]
  split
  ·rw [h.2];rfl
  ·rfl
def dnC (m : Nat) (c : Nat → Int) : Nat → Nat → Int
 | 0,k=>c k
 | q+1,k=>c k+(if m≤k then dnC m c q (k - m) else 0)
theorem dn_more {m : Nat} (hm : 1 ≤ m) (c : Nat → Int) : ∀ (q k : Nat), k ≤ q → dnC m c q k = c k + (if m ≤ k then dnC m c (k - m) (k - m) else 0)
 | 0,k,hk=>by
  obtain rfl:k=0:=by omega
  rw [if_neg (by omega)];simp [dnC]
 | q+1,k,hk=>by
  show c k+(if m≤k then dnC m c q (k - m) else 0)=_
  by_cases h:m≤k
  ·rw [if_pos h,if_pos h,dn_more hm c q (k - m) (by omega),← dn_more hm c (k - m) (k - m) (Nat.le_refl _)]
  ·rw [if_neg h,if_neg h]
theorem up_dn {m:Nat} (hm:1≤m) (c:Nat→Int) (k:Nat):upC m (fun j=>dnC m c j j) k=c k:=by
 show dnC m c k k - (if m≤k then dnC m c (k - m) (k - m) else 0)=c k
 rw [dn_more hm c k k (Nat.le_refl _)]
 split<;>omega
theorem nw_dn {m:Nat} (hm:1≤m) {c N:Nat→Int} (h:Nw c N):Nw (fun j=>dnC m c j j) (fun j=>N j - dvN m j):=by
 have e:∀ k,nwW c N k=nwW (fun j=>dnC m c j j) (fun j=>N j - dvN m j) k - (if m≤k then nwW (fun j=>dnC m c j j) (fun j=>N j - dvN m j) (k - m) else 0):=fun k=>by
  rw [← up_newton hm,show upC m (fun j=>dnC m c j j)=c from funext (up_dn hm c),show (fun j=>N j - dvN m j+dvN m j)=N from funext fun j=>by omega]
 refine ⟨?_,fun k=>?_⟩
 ·show dnC m c 0 0 = 1
  exact h.1
 ·induction k using Nat.strongRecOn with
  | ind k ih =>
  have:=e k
  rw [h.2] at this
  by_cases hk:m≤k
  ·rw [if_pos hk, ih (k - m) (by omega)] at this
   omega
  ·rw [if_neg hk] at this
   omega
theorem nw_times {m : Nat} (hm : 1 ≤ m) : ∀ (t : Nat) {c N : Nat → Int}, Nw c N → (∃ c', Nw c' (fun j => N j + (t : Int) * dvN m j)) ∧ (∃ c', Nw c' (fun j => N j - (t : Int) * dvN m j))
 | 0,c,N,h=>⟨⟨c,by rw [show (fun j=>N j+((0:Nat):Int) * dvN m j)=N from funext fun j=>by simp];exact h⟩,⟨c,by rw [show (fun j=>N j - ((0:Nat):Int) * dvN m j)=N from funext fun j=>by simp];exact h⟩⟩
 | t+1,c,N,h=>by
  obtain ⟨⟨c1,h1⟩,⟨c2,h2⟩⟩:=nw_times hm t h
  refine ⟨⟨upC m c1,?_⟩,⟨fun j=>dnC m c2 j j,?_⟩⟩
  ·rw [show (fun j => N j + ((t + 1 : Nat) : Int) * dvN m j) = fun j => (N j + (t : Int) * dvN m j) + dvN m j from funext fun j => by grind]
   exact nw_up hm h1
  ·rw [show (fun j => N j - ((t + 1 : Nat) : Int) * dvN m j) = fun j => (N j - (t : Int) * dvN m j) - dvN m j from funext fun j => by grind]
   exact nw_dn hm h2
theorem nw_less {m:Nat} (hm:1≤m) (t:Int) {c N:Nat→Int} (h:Nw c N):∃ c',Nw c' (fun j=>N j - t * dvN m j):=by
 rcases Int.le_total 0 t with ht|ht
 ·obtain ⟨q, rfl⟩ : ∃ q : Nat, t = q := ⟨t.toNat, by omega⟩
  exact (nw_times hm q h).2
 ·obtain ⟨q, rfl⟩ : ∃ q : Nat, t = -(q : Int) := ⟨(-t).toNat, by omega⟩
  obtain ⟨c',h'⟩:=(nw_times hm q h).1
  refine ⟨c',?_⟩
  rw [show (fun j=>N j - -(q:Int) * dvN m j)=fun j=>N j+(q:Int) * dvN m j from funext fun j=>by grind]
  exact h'
/-- Sums of a whole series are sums over the divisors. -/
theorem nw_primes {c N : Nat → Int} (h : Nw c N) : ∀ n : Nat, ∃ (p : Nat → Int) (c' N' : Nat → Int), Nw c' N' ∧ (∀ k, N k = N' k + la_sm n (fun j => p (j + 1) * dvN (j + 1) k)) ∧ ∀ k, 1 ≤ k → k ≤ n → N' k = 0
 | 0=>⟨fun _=>0,c,N,h,fun k=>by simp [la_sm],fun k h1 h2=>by omega⟩
 | n+1=>by
  obtain ⟨p,c',N',h',hs,hz⟩:=nw_primes h n
  have hc:∀ k,1≤k→k≤n→c' k=0:=fun k h1 h2=>by
   have e:=h'.2 k
   unfold nwW at e
   rw [la_sm_zero (fun i hi=>by rw [hz (k - i) (by omega) (by omega)];simp)] at e
   have:(k:Int) * c' k=0:=by omega
   rcases Int.mul_eq_zero.1 this with h3|h3
   ·omega
   ·exact h3
  have hN:N' (n+1)=((n+1:Nat):Int) * (-c' (n+1)):=by
   have e:=h'.2 (n+1)
   unfold nwW at e
   rw [la_sm_single (f:=fun i=>c' i * N' (n+1 - i)) 0 (by omega) (fun i hi h0=>by rw [hc i (by omega) (by omega)];simp),h'.1] at e
   simp only [Nat.sub_zero,Int.one_mul] at e
   grind
  obtain ⟨c2,h2⟩:=nw_less (m:=n+1) (by omega) (-c' (n+1)) h'
  refine ⟨fun j=>if j=n+1 then -c' (n+1) else p j,c2,_,h2,fun k=>?_,fun k h1 h3=>?_⟩
  ·rw [hs k]
   show _=(N' k - -c' (n+1) * dvN (n+1) k)+(la_sm n _+(if n+1=n+1 then -c' (n+1) else p (n+1)) * dvN (n+1) k)
   rw [if_pos rfl,la_sm_congr (g:=fun j=>p (j+1) * dvN (j+1) k) (f:=fun j=>(if j+1=n+1 then -c' (n+1) else p (j+1)) * dvN (j+1) k) (fun j hj=>by rw [if_neg (by omega)])]
   omega
  ·show N' k - -c' (n + 1) * dvN (n + 1) k = 0
   by_cases h4:k=n+1
   ·rw [h4, hN]
    unfold dvN
    rw [if_pos (Nat.dvd_refl _)]
    grind
   ·rw [hz k h1 (by omega)]
    unfold dvN
    rw [if_neg (fun hd=>by have:=Nat.le_of_dvd (by omega) hd;omega)]
    simp
/-- The traces of a whole matrix. -/
theorem nw_trace (n:Nat) (A:Nat→Nat→Int):Nw (la_cp n A) (mtr n A):=by
 refine ⟨la_cp_zero n A,fun k=>?_⟩
 cases k with
 | zero=>unfold nwW;simp [la_sm]
 | succ k =>
  unfold nwW
  exact la_newton_tr n A k
def smI (x:Int):Bool:=decide (-1000000000000000≤x) && decide (x≤1000000000000000)
theorem smI_iff {x:Int}:smI x=true↔(-1000000000000000≤x∧x≤1000000000000000):=by
 unfold smI
 rw [Bool.and_eq_true,decide_eq_true_eq,decide_eq_true_eq]
/-- A sum and a product together, and whether neither is too great. -/
def ptS (s a b:Int):Int × Bool:=if a=0∨b=0 then (s,true) else if 1000000000000000 < la_ab a * la_ab b then (0,false) else (s+a * b,smI (s+a * b))
theorem ptS_small {s a b:Int} (hs:smI s=true) (h:(ptS s a b).2=true):smI (ptS s a b).1=true:=by
 unfold ptS at h ⊢
 split at h
 ·rw [if_pos (by assumption)];exact hs
 ·rename_i h1
  rw [if_neg h1]
  split at h
  ·exact absurd h (by simp)
  ·rename_i h2
   rw [if_neg h2];exact h
theorem ptS_val {s a b:Int} (h:(ptS s a b).2=true):(ptS s a b).1=s+a * b:=by
 unfold ptS at h ⊢
 split at h
 ·rename_i h1
  rw [if_pos h1]
  rcases h1 with h1|h1<;>simp [h1]
 ·rename_i h1
  rw [if_neg h1]
  split at h
  ·exact absurd h (by simp)
  ·rename_i h2
   rw [if_neg h2]
theorem pt_box {a b:Int} (h:¬ (1000000000000000 < la_ab a * la_ab b)):-1000000000000000≤a * b∧a * b≤1000000000000000:=by
 rw [← la_ab_mul] at h
 unfold la_ab at h
 omega
theorem plusTimes_pt (s a b:Int) (hs:smI s=true) (ha:-1000000000000000≤a∧a≤1000000000000000) (hb:-1000000000000000≤b∧b≤1000000000000000):Ev (fun k=>F72.f k s a b) (ptS s a b):=by
 unfold F72.f ptS
 by_cases h1:a=0
 ·simp only [h1, if_true, true_or]
  refine Ev.step (fun k=>by simp only [F72.j0];rfl) ?_
  simp only [if_true]
  exact Ev.now _
 ·simp only [h1, if_false, false_or]
  refine Ev.step (fun k=>by simp only [F72.j0];rfl) ?_
  by_cases h2:b=0
  ·rw [show (b == 0) = true from beq_iff_eq.2 h2]
   simp only [if_true,h2]
   exact Ev.now _
  ·rw [show (b == 0) = false from beq_eq_false_iff_ne.2 h2]
   have hb3:0 < la_ab b:=by unfold la_ab;omega
   have hd2:1000000000000000 / la_ab b≤1000000000000000:=Int.ediv_le_self _ (by decide)
   have hd3:0≤1000000000000000 / la_ab b:=Int.ediv_nonneg (by decide) (by omega)
   have hs2:=smI_iff.1 hs
   simp only [Bool.false_eq_true,if_false,h2,absolute_eq a ha,absolute_eq b hb,Option.bind_some,show ¬ (la_ab b=0) by omega,wI (1000000000000000 / la_ab b) (by omega),isSmall_eq]
   by_cases h3:1000000000000000 < la_ab a * la_ab b
   ·have h4 : la_ab a > 1000000000000000 / la_ab b := (Int.ediv_lt_iff_lt_mul hb3).2 h3
    simp only [h3,h4,if_true]
    exact Ev.now _
   ·have h4 : ¬ (la_ab a > 1000000000000000 / la_ab b) := fun h => h3 ((Int.ediv_lt_iff_lt_mul hb3).1 h)
    have hp:=pt_box h3
    simp only [h3,h4,if_false]
    rw [w64 (n:=a * b) (by omega) (by omega),w64 (n:=s+a * b) (by omega) (by omega)]
    exact Ev.now _
theorem l01More_pt (s a b:Int) (hs:smI s=true) (ha:-1000000000000000≤a∧a≤1000000000000000) (hb:-1000000000000000≤b∧b≤1000000000000000):F75.f s a b=some (ptS s a b):=by
 have hs2:=smI_iff.1 hs
 have hab:∀ y:Int,-1000000000000000≤y∧y≤1000000000000000→mx y (wrap64 (-y))=la_ab y:=fun y hy=>Option.some.inj (absolute_eq y hy)
 unfold F75.f ptS
 by_cases h1:a=0
 ·simp only [h1, if_true, true_or, Int.zero_mul, l01In_eq, wI ((0 : Int)) (by omega), Int.add_zero, wI (s) (by omega), Option.bind_some]
  rw [decide_eq_true hs2.1,decide_eq_true hs2.2];rfl
 ·have ha3 : 0 < la_ab a := by unfold la_ab; omega
  have hd2:1000000000000000 / la_ab a≤1000000000000000:=Int.ediv_le_self _ (by decide)
  have hd3:0≤1000000000000000 / la_ab a:=Int.ediv_nonneg (by decide) (by omega)
  simp only [h1,if_false,false_or,hab a ha,hab b hb,show ¬ (la_ab a=0) by omega,wI (1000000000000000 / la_ab a) (by omega),l01In_eq,Option.bind_some]
  by_cases h2:b=0
  ·have h4 : ¬ (la_ab b > 1000000000000000 / la_ab a) := by rw [h2, la_ab_zero]; omega
   simp only [h4,if_false,h2,if_true,Int.mul_zero,wI ((0:Int)) (by omega),Int.add_zero,wI (s) (by omega)]
   rw [decide_eq_true hs2.1,decide_eq_true hs2.2];rfl
  ·by_cases h3 : 1000000000000000 < la_ab a * la_ab b
   ·have h4 : la_ab b > 1000000000000000 / la_ab a := (Int.ediv_lt_iff_lt_mul ha3).2 (by rw [Int.mul_comm]; exact h3)
    simp only [h2,h3,h4,if_true,if_false]
   ·have h4 : ¬ (la_ab b > 1000000000000000 / la_ab a) := fun h => h3 (by rw [Int.mul_comm]; exact (Int.ediv_lt_iff_lt_mul ha3).1 h)
    have hp:=pt_box h3
    simp only [h2,h3,h4,if_false]
    rw [w64 (n:=a * b) (by omega) (by omega),w64 (n:=s+a * b) (by omega) (by omega)]
    rfl
/-- A whole polynomial. -/
def wholeB (f:List Int):Bool:=f.all smI && (decide (f.length≤40) && (decide (f=[]) || (rd f ((f.length - 1:Nat):Int) != 0)))
theorem isWhole_any (f:List Int) (hf:f.length≤1048576):Ev (fun k=>F69.f k f) (wholeB f):=by
 have main:∀ d i,f.length - i=d→i≤f.length→Ev (fun k=>F69.l0 k f f f.length i) ((f.drop i).all smI && (decide (f.length≤40) && (decide (f=[]) || (rd f ((f.length - 1:Nat):Int) != 0)))):=by
  intro d
  induction d with
  | zero =>
   intro i hd hi
   obtain rfl:i=f.length:=by omega
   refine Ev.step (fun k=>by simp only [F69.l0];rfl) ?_
   rw [List.drop_length]
   simp only [Int.lt_irrefl,if_false,List.all_nil,Bool.true_and]
   by_cases h1:(f.length:Int)≤40
   ·simp only [h1, if_true, show f.length ≤ 40 by omega, decide_true, Bool.true_and]
    by_cases h2:(f.length:Int)=0
    ·have h3 : f = [] := List.length_eq_zero_iff.1 (by omega)
     simp only [h2,if_true,h3,decide_true,Bool.true_or]
     exact Ev.now _
    ·have h3 : f ≠ [] := fun e => h2 (by rw [e]; rfl)
     obtain ⟨m,hm⟩:∃ m:Nat,f.length=m+1:=⟨f.length - 1,by omega⟩
     simp only [h2,if_false,show (f.length:Int) - 1=(m:Int) by omega,wI ((m:Int)) (by omega),zI' m,show ((m:Int) < (f.length:Int)) by omega,if_true,show f.length - 1=m by omega,decide_eq_false h3,Bool.false_or]
     exact Ev.now _
   ·simp only [h1, if_false, show ¬ (f.length ≤ 40) by omega, decide_false, Bool.false_and]
    exact Ev.now _
  | succ d ih =>
   intro i hd hi
   have hil:i < f.length:=by omega
   have h1:=ih (i+1) (by omega) (by omega)
   refine Ev.step (fun k=>by simp only [F69.l0];rfl) ?_
   rw [List.drop_eq_getElem_cons hil,List.all_cons]
   simp only [show ((i:Int) < (f.length:Int)) by omega,if_true,zI' i,rd_nat f i hil,isSmall_eq,Option.bind_some,wI ((i:Int)+1) (by omega)]
   show Ev (fun k=>if smI f[i]=true then F69.l0 k f f f.length ((i:Int)+1) else some false) _
   cases smI f[i] with
   | false=>simp only [Bool.false_eq_true,if_false,Bool.false_and];exact Ev.now _
   | true=>simp only [if_true,Bool.true_and];exact h1
 unfold F69.f wholeB
 have h:=main f.length 0 (by omega) (by omega)
 rw [List.drop_zero] at h
 exact h
theorem l01Poly_any (f:List Int) (hf:f.length≤1048576):Ev (fun k=>F73.f k f) (wholeB f):=by
 have main:∀ d i,f.length - i=d→i≤f.length→Ev (fun k=>F73.l0 k f i) ((f.drop i).all smI && (decide (f.length≤40) && (decide (f=[]) || (rd f ((f.length - 1:Nat):Int) != 0)))):=by
  intro d
  induction d with
  | zero =>
   intro i hd hi
   obtain rfl:i=f.length:=by omega
   refine Ev.step (fun k=>by simp only [F73.l0];rfl) ?_
   rw [List.drop_length]
   simp only [Int.lt_irrefl,if_false,List.all_nil,Bool.true_and]
   by_cases h1:(f.length:Int)≤40
   ·simp only [h1, if_true, show f.length ≤ 40 by omega, decide_true, Bool.true_and]
    by_cases h2:(f.length:Int)=0
    ·have h3 : f = [] := List.length_eq_zero_iff.1 (by omega)
     simp only [h2,if_true,h3,decide_true,Bool.true_or]
     exact Ev.now _
    ·have h3 : f ≠ [] := fun e => h2 (by rw [e]; rfl)
     obtain ⟨m,hm⟩:∃ m:Nat,f.length=m+1:=⟨f.length - 1,by omega⟩
     simp only [h2,if_false,show (f.length:Int) - 1=(m:Int) by omega,wI ((m:Int)) (by omega),zI' m,show ((m:Int) < (f.length:Int)) by omega,if_true,show f.length - 1=m by omega,decide_eq_false h3,Bool.false_or]
     exact Ev.now _
   ·simp only [h1, if_false, show ¬ (f.length ≤ 40) by omega, decide_false, Bool.false_and]
    exact Ev.now _
  | succ d ih =>
   intro i hd hi
   have hil:i < f.length:=by omega
   have h1:=ih (i+1) (by omega) (by omega)
   refine Ev.step (fun k=>by simp only [F73.l0];rfl) ?_
   rw [List.drop_eq_getElem_cons hil,List.all_cons]
   simp only [show ((i:Int) < (f.length:Int)) by omega,if_true,zI' i,rd_nat f i hil,l01In_eq,Option.bind_some,wI ((i:Int)+1) (by omega)]
   show Ev (fun k=>if smI f[i]=true then F73.l0 k f ((i:Int)+1) else some false) _
   cases smI f[i] with
   | false=>simp only [Bool.false_eq_true,if_false,Bool.false_and];exact Ev.now _
   | true=>simp only [if_true,Bool.true_and];exact h1
 unfold F73.f wholeB
 have h:=main f.length 0 (by omega) (by omega)
 rw [List.drop_zero] at h
 exact h
theorem rd_far2 (l:List Int) (i:Nat) (h:l.length≤i):rd l (i:Int)=0:=by
 unfold rd
 rw [Int.toNat_natCast,List.getD_eq_getElem?_getD,List.getElem?_eq_none h]
 rfl
theorem at_eq (l:List Int) (i:Nat):F71.f l (i:Int)=some (rd l (i:Int)):=by
 unfold F71.f
 by_cases h:(i:Int) < (l.length:Int)
 ·rw [if_pos h,if_pos (by omega)]
 ·rw [if_neg h,rd_far2 l i (by omega)]
theorem rd_small {l:List Int} (h:l.all smI=true) (i:Nat):-1000000000000000≤rd l (i:Int)∧rd l (i:Int)≤1000000000000000:=by
 by_cases hi:i < l.length
 ·rw [rd_nat l i hi]
  exact smI_iff.1 (List.all_eq_true.1 h l[i] (List.getElem_mem hi))
 ·rw [rd_far2 l i (by omega)];omega
theorem all_snoc {l:List Int} {x:Int} (h:l.all smI=true) (hx:smI x=true):(l ++ [x]).all smI=true:=by
 rw [List.all_append,h,List.all_cons,hx];rfl
/-- A power sum, from the number i on, d numbers left. -/
def psI (f out : List Int) (k : Nat) : Nat → Nat → Int → Option Int
 | 0,_,s=>some s
 | d+1,i,s=>if (ptS s (-(rd f (i:Int))) (rd out ((k - i - 1:Nat):Int))).2=true then psI f out k d (i+1) (ptS s (-(rd f (i:Int))) (rd out ((k - i - 1:Nat):Int))).1 else none
def psO (f : List Int) : Nat → List Int → List Int × Int
 | 0,out=>(out,0)
 | d+1,out=>if (ptS 0 (-((out.length+1:Nat):Int)) (rd f ((out.length+1:Nat):Int))).2=true then (match psI f out (out.length+1) out.length 1 (ptS 0 (-((out.length+1:Nat):Int)) (rd f ((out.length+1:Nat):Int))).1 with
  | some s=>psO f d (out ++ [s])
  | none=>([],3)) else ([],3)
theorem psI_far (f out : List Int) (k : Nat) : ∀ (d i : Nat) (s : Int), f.length ≤ i → psI f out k d i s = some s
 | 0,_,_,_=>rfl
 | d+1,i,s,h=>by
  have e:ptS s (-(rd f (i:Int))) (rd out ((k - i - 1:Nat):Int))=(s,true):=by
   rw [rd_far2 f i h,Int.neg_zero];unfold ptS;rw [if_pos (Or.inl rfl)]
  unfold psI
  rw [e,if_pos rfl]
  exact psI_far f out k d (i+1) s (by omega)
theorem ips_fail (f out:List Int) (n k s i:Int):Ev (fun q=>F25.l1 q f n out k s false i) ([],3):=by
 refine Ev.step (fun q=>by simp only [F25.l1];rfl) ?_
 by_cases h:i < k
 ·simp only [h, if_true]
  refine Ev.step (fun q=>by simp only [F25.j2];rfl) ?_
  simp only [Bool.false_eq_true,if_false]
  exact Ev.now _
 ·simp only [h, if_false]
  refine Ev.step (fun q=>by simp only [F25.j2];rfl) ?_
  simp only [Bool.false_eq_true,if_false]
  exact Ev.now _
theorem neg_small {x:Int} (h:-1000000000000000≤x∧x≤1000000000000000):wrap64 (-x)=-x∧(-1000000000000000≤-x∧-x≤1000000000000000):=⟨w64 (by omega) (by omega),by omega⟩
theorem ips_l1 (f out : List Int) (hf : f.all smI = true) (ho : out.all smI = true) (n : Int) (k : Nat) (hk : out.length + 1 = k) (hk2 : k ≤ 24) (D : Nat)
  (next:∀ s',smI s'=true→Ev (fun q=>F25.l0 q f n (out ++ [s']) ((k:Int)+1)) (psO f D (out ++ [s']))) :
  ∀ (d i:Nat) (s:Int),k - i=d→1≤i→i≤k→smI s=true→Ev (fun q=>F25.l1 q f n out k s true i) (match psI f out k d i s with|some s'=>psO f D (out ++ [s'])|none=>([],3)):=by
 intro d
 induction d with
 | zero =>
  intro i s hd hi hi2 hs
  obtain rfl:i=k:=by omega
  refine Ev.step (fun q=>by simp only [F25.l1];rfl) ?_
  simp only [Int.lt_irrefl,if_false]
  refine Ev.step (fun q=>by simp only [F25.j2];rfl) ?_
  simp only [Bool.false_eq_true,if_false,if_true,show out.length < 17592186044416 by omega,wI ((i:Int)+1) (by omega),psI]
  exact next s hs
 | succ d ih =>
  intro i s hd hi hi2 hs
  have hf1:=neg_small (rd_small hf i)
  have ho1:=rd_small ho (k - i - 1)
  refine Ev.step (fun q=>by simp only [F25.l1];rfl) ?_
  simp only [lI i k (by omega),if_true]
  refine Ev.step (fun q=>by simp only [F25.j2];rfl) ?_
  simp only [if_true,at_eq,Option.bind_some,wI ((k:Int) - (i:Int)) (by omega),show (k:Int) - (i:Int) - 1=((k - i - 1:Nat):Int) by omega,w64 (show -9223372036854775808≤((k - i - 1:Nat):Int) by omega) (by omega),show (0:Int)≤((k - i - 1:Nat):Int) by omega,show (((k - i - 1:Nat):Int) < (out.length:Int)) by omega,hf1.1,wI ((i:Int)+1) (by omega)]
  refine Ev.bind (plusTimes_pt s _ _ hs hf1.2 ho1) ?_
  unfold psI
  cases hr:(ptS s (-(rd f (i:Int))) (rd out ((k - i - 1:Nat):Int))).2 with
  | false =>
   simp only [Bool.false_eq_true,if_false]
   exact ips_fail f out n k _ _
  | true =>
   simp only [if_true]
   have h:=ih (i+1) _ (by omega) (by omega) (by omega) (ptS_small hs hr)
   rw [show ((i+1:Nat):Int)=(i:Int)+1 by omega] at h
   exact h
theorem ips_l0 (f:List Int) (hf:f.all smI=true) (n:Nat) (hn:n≤24):∀ (d:Nat) (out:List Int),n - out.length=d→out.length≤n→out.all smI=true→Ev (fun q=>F25.l0 q f n out ((out.length:Int)+1)) (psO f d out):=by
 intro d
 induction d with
 | zero =>
  intro out hd ho _
  refine Ev.step (fun q=>by simp only [F25.l0];rfl) ?_
  simp only [show ¬ ((out.length:Int)+1≤(n:Int)) by omega,if_false]
  exact Ev.now _
 | succ d ih =>
  intro out hd ho ha
  refine Ev.step (fun q=>by simp only [F25.l0];rfl) ?_
  rw [show (out.length:Int)+1=((out.length+1:Nat):Int) by omega]
  simp only [show (((out.length+1:Nat):Int)≤(n:Int)) by omega,if_true,at_eq,Option.bind_some,w64 (show -9223372036854775808≤-((out.length+1:Nat):Int) by omega) (by omega)]
  refine Ev.bind (plusTimes_pt 0 _ _ (by decide) (by omega) (rd_small hf (out.length+1))) ?_
  unfold psO
  cases hr:(ptS 0 (-((out.length+1:Nat):Int)) (rd f ((out.length+1:Nat):Int))).2 with
  | false =>
   simp only [Bool.false_eq_true,if_false]
   exact ips_fail f out n _ _ 1
  | true =>
   simp only [if_true]
   exact ips_l1 f out hf ha n (out.length+1) rfl (by omega) d (fun s' hs'=>by
    have h:=ih (out ++ [s']) (by rw [List.length_append];simp only [List.length_cons,List.length_nil];omega) (by rw [List.length_append];simp only [List.length_cons,List.length_nil];omega) (all_snoc ha hs')
    rw [show ((out ++ [s']).length:Int)=((out.length+1:Nat):Int) by rw [List.length_append];rfl] at h
    exact h) out.length 1 _ (by omega) (Nat.le_refl _) (by omega) (ptS_small (by decide) hr)
theorem sps_l1 (f out : List Int) (hf : f.all smI = true) (ho : out.all smI = true) (n : Int) (k : Nat) (hk : out.length + 1 = k) (hk2 : k ≤ 24) (D : Nat)
  (next:∀ s',smI s'=true→Ev (fun q=>F26.l0 q f n (out ++ [s']) ((k:Int)+1)) (psO f D (out ++ [s']))) :
  ∀ (d i:Nat) (s:Int),k - i=d→1≤i→i≤k→smI s=true→Ev (fun q=>F26.l1 q f n out k s true i) (match psI f out k d i s with|some s'=>psO f D (out ++ [s'])|none=>([],3)):=by
 intro d
 induction d with
 | zero =>
  intro i s hd hi hi2 hs
  obtain rfl:i=k:=by omega
  refine Ev.step (fun q=>by simp only [F26.l1];rfl) ?_
  simp only [Int.lt_irrefl,if_false,if_true,show out.length < 17592186044416 by omega,wI ((i:Int)+1) (by omega),psI]
  exact next s hs
 | succ d ih =>
  intro i s hd hi hi2 hs
  refine Ev.step (fun q=>by simp only [F26.l1];rfl) ?_
  by_cases hl:(i:Int) < (f.length:Int)
  ·have hf1 := neg_small (rd_small hf i)
   have ho1:=rd_small ho (k - i - 1)
   simp only [lI i k (by omega),hl,if_true,zI' i,wI ((k:Int) - (i:Int)) (by omega),show (k:Int) - (i:Int) - 1=((k - i - 1:Nat):Int) by omega,w64 (show -9223372036854775808≤((k - i - 1:Nat):Int) by omega) (by omega),show (0:Int)≤((k - i - 1:Nat):Int) by omega,show (((k - i - 1:Nat):Int) < (out.length:Int)) by omega,hf1.1,l01More_pt s _ _ hs hf1.2 ho1,Option.bind_some,wI ((i:Int)+1) (by omega)]
   unfold psI
   cases hr:(ptS s (-(rd f (i:Int))) (rd out ((k - i - 1:Nat):Int))).2 with
   | false =>
    simp only [Bool.false_eq_true,if_false]
    refine Ev.step (fun q=>by simp only [F26.l1];rfl) ?_
    simp only [Bool.false_eq_true,if_false]
    split
    ·split<;>exact Ev.now _
    ·exact Ev.now _
   | true =>
    simp only [if_true]
    have h:=ih (i+1) _ (by omega) (by omega) (by omega) (ptS_small hs hr)
    rw [show ((i+1:Nat):Int)=(i:Int)+1 by omega] at h
    exact h
  ·rw [psI_far f out k (d + 1) i s (by omega)]
   simp only [lI i k (by omega),hl,if_true,if_false,show out.length < 17592186044416 by omega,wI ((k:Int)+1) (by omega)]
   exact next s hs
theorem sps_l0 (f:List Int) (hf:f.all smI=true) (n:Nat) (hn:n≤24):∀ (d:Nat) (out:List Int),n - out.length=d→out.length≤n→out.all smI=true→Ev (fun q=>F26.l0 q f n out ((out.length:Int)+1)) (psO f d out):=by
 intro d
 induction d with
 | zero =>
  intro out hd ho _
  refine Ev.step (fun q=>by simp only [F26.l0];rfl) ?_
  simp only [show ¬ ((out.length:Int)+1≤(n:Int)) by omega,if_false]
  exact Ev.now _
 | succ d ih =>
  intro out hd ho ha
  have hnext:∀ s',smI s'=true→Ev (fun q=>F26.l0 q f n (out ++ [s']) (((out.length+1:Nat):Int)+1)) (psO f d (out ++ [s'])):=fun s' hs'=>by
   have h:=ih (out ++ [s']) (by rw [List.length_append];simp only [List.length_cons,List.length_nil];omega) (by rw [List.length_append];simp only [List.length_cons,List.length_nil];omega) (all_snoc ha hs')
   rw [show ((out ++ [s']).length:Int)=((out.length+1:Nat):Int) by rw [List.length_append];rfl] at h
   exact h
  refine Ev.step (fun q=>by simp only [F26.l0];rfl) ?_
  rw [show (out.length:Int)+1=((out.length+1:Nat):Int) by omega]
  unfold psO
  by_cases hl:((out.length+1:Nat):Int) < (f.length:Int)
  ·simp only [show (((out.length + 1 : Nat) : Int) ≤ (n : Int)) by omega, hl, if_true, show (0 : Int) ≤ ((out.length + 1 : Nat) : Int) by omega, w64 (show -9223372036854775808 ≤ -((out.length + 1 : Nat) : Int) by omega) (by omega), l01More_pt 0 _ _ (by decide) (show -1000000000000000 ≤ -((out.length + 1 : Nat) : Int) ∧ -((out.length + 1 : Nat) : Int) ≤ 1000000000000000 by omega) (rd_small hf (out.length + 1)), Option.bind_some]
   refine Ev.step (fun q=>by simp only [F26.j1];rfl) ?_
   cases hr:(ptS 0 (-((out.length+1:Nat):Int)) (rd f ((out.length+1:Nat):Int))).2 with
   | false =>
    simp only [Bool.false_eq_true,if_false]
    refine Ev.step (fun q=>by simp only [F26.l1];rfl) ?_
    simp only [Bool.false_eq_true,if_false]
    split
    ·split<;>exact Ev.now _
    ·exact Ev.now _
   | true =>
    simp only [if_true]
    exact sps_l1 f out hf ha n (out.length+1) rfl (by omega) d hnext out.length 1 _ (by omega) (Nat.le_refl _) (by omega) (ptS_small (by decide) hr)
  ·have e:ptS 0 (-((out.length+1:Nat):Int)) (rd f ((out.length+1:Nat):Int))=(0,true):=by
    rw [rd_far2 f (out.length+1) (by omega)];unfold ptS;rw [if_pos (Or.inr rfl)]
   rw [e]
   simp only [show (((out.length+1:Nat):Int)≤(n:Int)) by omega,hl,if_true,if_false]
   refine Ev.step (fun q=>by simp only [F26.j1];rfl) ?_
   exact sps_l1 f out hf ha n (out.length+1) rfl (by omega) d hnext out.length 1 0 (by omega) (Nat.le_refl _) (by omega) (by decide)
def psR (f:List Int) (n:Int):List Int × Int:=if wholeB f=true then (if 0≤n∧n≤24 then (if rd f 0=1 then psO f n.toNat [] else ([],5)) else ([],2)) else ([],1)
theorem in24 (n:Int):(decide (0≤n) && decide (n≤24))=decide (0≤n∧n≤24):=by
 by_cases h:0≤n<;>by_cases h2:n≤24<;>simp [h,h2]
theorem wholeB_all {f:List Int} (h:wholeB f=true):f.all smI=true∧f.length≤40:=by
 unfold wholeB at h
 rw [Bool.and_eq_true,Bool.and_eq_true,decide_eq_true_eq] at h
 exact ⟨h.1,h.2.1⟩
theorem impl_PowerSumsOf_ev (f:List Int) (n:Int) (hf:f.length≤1048576):Ev (fun q=>F25.f q f n) (psR f n):=by
 unfold F25.f psR
 refine Ev.bind (isWhole_any f hf) ?_
 cases hw:wholeB f with
 | false=>simp only [Bool.false_eq_true,if_false];exact Ev.now _
 | true =>
  simp only [if_true,within_eq,Option.bind_some,in24,decide_eq_true_eq]
  by_cases h:0≤n∧n≤24
  ·simp only [h, and_self, if_true]
   simp only [show F71.f f 0=some (rd f 0) from at_eq f 0,Option.bind_some]
   by_cases h1:rd f 0=1
   ·obtain ⟨m, rfl⟩ : ∃ m : Nat, n = m := ⟨n.toNat, by omega⟩
    simp only [h1,if_true,Int.toNat_natCast]
    exact ips_l0 f (wholeB_all hw).1 m (by omega) m [] (by simp) (by simp) rfl
   ·simp only [h1,if_false];exact Ev.now _
  ·simp only [h,if_false];exact Ev.now _
theorem spec_PowerSumsOf_ev (f:List Int) (n:Int) (hf:f.length≤1048576):Ev (fun q=>F26.f q f n) (psR f n):=by
 unfold F26.f psR
 refine Ev.bind (l01Poly_any f hf) ?_
 cases hw:wholeB f with
 | false=>simp only [Bool.false_eq_true,if_false];exact Ev.now _
 | true =>
  simp only [if_true,l01In_eq,Option.bind_some,in24,decide_eq_true_eq]
  by_cases h:0≤n∧n≤24
  ·simp only [h, and_self, if_true]
   by_cases h0:(f.length:Int)=0
   ·have e : rd f 0 = 0 := rd_far2 f 0 (by omega)
    simp only [h0,if_true,e,show ¬ ((0:Int)=1) by omega,if_false]
    exact Ev.now _
   ·simp only [h0, if_false, show (0 : Int) < (f.length : Int) by omega, if_true]
    by_cases h1:rd f 0=1
    ·obtain ⟨m, rfl⟩ : ∃ m : Nat, n = m := ⟨n.toNat, by omega⟩
     simp only [h1,if_true,Int.toNat_natCast]
     exact sps_l0 f (wholeB_all hw).1 m (by omega) m [] (by simp) (by simp) rfl
    ·simp only [h1,if_false];exact Ev.now _
  ·simp only [h,if_false];exact Ev.now _
/-- A sum of a polynomial's numbers times sums, from the number i on. -/
def poI (out sums : List Int) (k : Nat) : Nat → Nat → Int → Option Int
 | 0,_,s=>some s
 | d+1,i,s=>if (ptS s (rd out (i:Int)) (rd sums ((k - i - 1:Nat):Int))).2=true then poI out sums k d (i+1) (ptS s (rd out (i:Int)) (rd sums ((k - i - 1:Nat):Int))).1 else none
theorem poI_succ (out sums:List Int) (k d i:Nat) (s:Int):poI out sums k (d+1) i s=if (ptS s (rd out (i:Int)) (rd sums ((k - i - 1:Nat):Int))).2=true then poI out sums k d (i+1) (ptS s (rd out (i:Int)) (rd sums ((k - i - 1:Nat):Int))).1 else none:=rfl
def poO (sums : List Int) : Nat → List Int → List Int × Int
 | 0,out=>(trimN out out.length,0)
 | d+1,out=>match poI out sums out.length out.length 0 0 with
  | none=>([],3)
  | some s=>if Int.tmod s ((out.length:Nat):Int)=0 then poO sums d (out ++ [Int.tdiv (-s) ((out.length:Nat):Int)]) else ([],4)
theorem sumsB_any (l:List Int):(decide ((l.length:Int)≤24) && !(l.any smBad))=(decide (l.length≤24) && l.all smI):=by
 have e:(!(l.any smBad))=l.all smI:=by
  induction l with
  | nil=>rfl
  | cons x xs ih =>
   rw [List.any_cons,List.all_cons,Bool.not_or,ih]
   unfold smBad smI
   rw [Bool.not_not]
 rw [e]
 congr 1
 by_cases h:l.length≤24
 ·rw [decide_eq_true h,decide_eq_true (by omega)]
 ·rw [decide_eq_false h,decide_eq_false (by omega)]
theorem l09Sums_ev (l:List Int) (hl:l.length≤1048576):Ev (fun k=>F89.f k l) (decide (l.length≤24) && l.all smI):=by
 have main:∀ d i,l.length - i=d→i≤l.length→Ev (fun k=>F89.l0 k l i) (decide (l.length≤24) && (l.drop i).all smI):=by
  intro d
  induction d with
  | zero =>
   intro i hd hi
   obtain rfl:i=l.length:=by omega
   refine Ev.step (fun k=>by simp only [F89.l0];rfl) ?_
   rw [List.drop_length]
   simp only [Int.lt_irrefl,if_false,List.all_nil,Bool.and_true]
   rw [show decide ((l.length:Int)≤24)=decide (l.length≤24) by by_cases h:l.length≤24<;>simp [h]<;>omega]
   exact Ev.now _
  | succ d ih =>
   intro i hd hi
   have hil:i < l.length:=by omega
   have h1:=ih (i+1) (by omega) (by omega)
   refine Ev.step (fun k=>by simp only [F89.l0];rfl) ?_
   rw [List.drop_eq_getElem_cons hil,List.all_cons]
   simp only [show ((i:Int) < (l.length:Int)) by omega,if_true,zI' i,rd_nat l i hil,l01In_eq,Option.bind_some,wI ((i:Int)+1) (by omega)]
   show Ev (fun k=>if smI l[i]=true then F89.l0 k l ((i:Int)+1) else some false) _
   cases smI l[i] with
   | false=>simp only [Bool.false_eq_true,if_false,Bool.false_and,Bool.and_false];exact Ev.now _
   | true=>simp only [if_true,Bool.true_and];exact h1
 unfold F89.f
 have h:=main l.length 0 (by omega) (by omega)
 rw [List.drop_zero] at h
 exact h
theorem ipo_l1 (sums out : List Int) (hs0 : sums.all smI = true) (ho : out.all smI = true) (k : Nat) (hk : out.length = k) (hk1 : 1 ≤ k) (hk2 : k ≤ sums.length) (h24 : sums.length ≤ 24) (R : List Int × Int)
  (next:∀ s',smI s'=true→poI out sums k k 0 0=some s'→Ev (fun q=>F27.j2 q sums out k s' true) R) (bad:poI out sums k k 0 0=none→R=([],3)) :
  ∀ (d i:Nat) (s:Int),k - i=d→i≤k→smI s=true→poI out sums k d i s=poI out sums k k 0 0→Ev (fun q=>F27.l1 q sums out k s true i) R:=by
 intro d
 induction d with
 | zero =>
  intro i s hd hi hs he
  obtain rfl:i=k:=by omega
  refine Ev.step (fun q=>by simp only [F27.l1];rfl) ?_
  simp only [Int.lt_irrefl,if_false]
  exact next s hs he.symm
 | succ d ih =>
  intro i s hd hi hs he
  have hf1:=rd_small ho i
  have ho1:=rd_small hs0 (k - i - 1)
  refine Ev.step (fun q=>by simp only [F27.l1];rfl) ?_
  simp only [lI i k (by omega),if_true,zI' i,show ((i:Int) < (out.length:Int)) by omega,wI ((k:Int) - (i:Int)) (by omega),show (k:Int) - (i:Int) - 1=((k - i - 1:Nat):Int) by omega,w64 (show -9223372036854775808≤((k - i - 1:Nat):Int) by omega) (by omega),show (0:Int)≤((k - i - 1:Nat):Int) by omega,show (((k - i - 1:Nat):Int) < (sums.length:Int)) by omega,wI ((i:Int)+1) (by omega)]
  refine Ev.bind (plusTimes_pt s _ _ hs hf1 ho1) ?_
  rw [poI_succ] at he
  cases hr:(ptS s (rd out (i:Int)) (rd sums ((k - i - 1:Nat):Int))).2 with
  | false =>
   rw [hr,if_neg (by decide)] at he
   rw [bad he.symm]
   refine Ev.step (fun q=>by simp only [F27.l1];rfl) ?_
   have hj:∀ s',Ev (fun q=>F27.j2 q sums out k s' false) ([],3):=fun s'=>by
    refine Ev.step (fun q=>by simp only [F27.j2];rfl) ?_
    simp only [Bool.false_eq_true,if_false]
    exact Ev.now _
   simp only [Bool.false_eq_true,if_false]
   split<;>exact hj _
  | true =>
   rw [hr,if_pos rfl] at he
   have h:=ih (i+1) _ (by omega) (by omega) (ptS_small hs hr) he
   rw [show ((i+1:Nat):Int)=(i:Int)+1 by omega] at h
   exact h
theorem tdiv_small {s:Int} (k:Nat) (hk:1≤k) (hs:smI s=true):smI (Int.tdiv (-s) (k:Int))=true∧wrap64 (Int.tdiv (-s) (k:Int))=Int.tdiv (-s) (k:Int):=by
 have h:=smI_iff.1 hs
 have hb:-1000000000000000≤Int.tdiv (-s) (k:Int)∧Int.tdiv (-s) (k:Int)≤1000000000000000:=by
  rcases Int.le_total 0 (-s) with h1|h1
  ·have h2 := Int.tdiv_nonneg h1 (show 0 ≤ (k : Int) by omega)
   have h3:=Int.tdiv_le_self (k:Int) h1
   omega
  ·have e : Int.tdiv (-s) (k : Int) = -(Int.tdiv s (k : Int)) := Int.neg_tdiv ..
   have h2:=Int.tdiv_nonneg (show 0≤s by omega) (show 0≤(k:Int) by omega)
   have h3:=Int.tdiv_le_self (k:Int) (show 0≤s by omega)
   omega
 exact ⟨smI_iff.2 hb,w64 (by omega) (by omega)⟩
theorem ipo_l0 (sums:List Int) (hs0:sums.all smI=true) (h24:sums.length≤24):∀ (d:Nat) (out:List Int),sums.length+1 - out.length=d→1≤out.length→out.length≤sums.length+1→out.all smI=true→Ev (fun q=>F27.l0 q sums out out.length) (poO sums d out):=by
 intro d
 induction d with
 | zero =>
  intro out hd h1 ho _
  refine Ev.step (fun q=>by simp only [F27.l0];rfl) ?_
  simp only [show ¬ ((out.length:Int)≤(sums.length:Int)) by omega,if_false]
  exact Ev.bind (trimmed_ev out (by omega)) (Ev.now _)
 | succ d ih =>
  intro out hd h1 ho ha
  refine Ev.step (fun q=>by simp only [F27.l0];rfl) ?_
  simp only [show ((out.length:Int)≤(sums.length:Int)) by omega,if_true]
  refine ipo_l1 sums out hs0 ha out.length rfl h1 (by omega) h24 _ (fun s' hs' he=>?_) (fun he=>by unfold poO;rw [he]) out.length 0 0 (by omega) (by omega) (by decide) rfl
  have hq:=tdiv_small out.length h1 hs'
  have hs2:=smI_iff.1 hs'
  refine Ev.step (fun q=>by simp only [F27.j2];rfl) ?_
  unfold poO
  rw [he]
  simp only [if_true,show ¬ ((out.length:Int)=0) by omega,if_false,show out.length < 17592186044416 by omega,wI (-s') (by omega),hq.2,wI ((out.length:Int)+1) (by omega)]
  by_cases hm:Int.tmod s' (out.length:Int)=0
  ·simp only [hm, if_true]
   have h:=ih (out ++ [Int.tdiv (-s') (out.length:Int)]) (by rw [List.length_append];simp only [List.length_cons,List.length_nil];omega) (by rw [List.length_append];simp only [List.length_cons,List.length_nil];omega) (by rw [List.length_append];simp only [List.length_cons,List.length_nil];omega) (all_snoc ha hq.1)
   rw [show ((out ++ [Int.tdiv (-s') (out.length:Int)]).length:Int)=(out.length:Int)+1 by rw [List.length_append];rfl] at h
   exact h
  ·simp only [hm, if_false]
   exact Ev.now _
theorem spo_l1 (sums out : List Int) (hs0 : sums.all smI = true) (ho : out.all smI = true) (k : Nat) (hk : out.length = k) (hk1 : 1 ≤ k) (hk2 : k ≤ sums.length) (h24 : sums.length ≤ 24) (R : List Int × Int)
  (next:∀ s',smI s'=true→poI out sums k k 0 0=some s'→Ev (fun q=>if Int.tmod s' k=0 then (if out.length < 17592186044416 then F34.l0 q sums (out ++ [wrap64 (Int.tdiv (wrap64 (-s')) k)]) (wrap64 ((k:Int)+1)) else none) else some ([],4)) R) (bad:poI out sums k k 0 0=none→R=([],3)) :
  ∀ (d i:Nat) (s:Int),k - i=d→i≤k→smI s=true→poI out sums k d i s=poI out sums k k 0 0→Ev (fun q=>F34.l1 q sums out k s i) R:=by
 intro d
 induction d with
 | zero =>
  intro i s hd hi hs he
  obtain rfl:i=k:=by omega
  refine Ev.step (fun q=>by simp only [F34.l1];rfl) ?_
  simp only [Int.lt_irrefl,if_false,show ¬ ((i:Int)=0) by omega]
  exact next s hs he.symm
 | succ d ih =>
  intro i s hd hi hs he
  have hf1:=rd_small ho i
  have ho1:=rd_small hs0 (k - i - 1)
  refine Ev.step (fun q=>by simp only [F34.l1];rfl) ?_
  simp only [lI i k (by omega),if_true,zI' i,show ((i:Int) < (out.length:Int)) by omega,wI ((k:Int) - (i:Int)) (by omega),show (k:Int) - (i:Int) - 1=((k - i - 1:Nat):Int) by omega,w64 (show -9223372036854775808≤((k - i - 1:Nat):Int) by omega) (by omega),show (0:Int)≤((k - i - 1:Nat):Int) by omega,show (((k - i - 1:Nat):Int) < (sums.length:Int)) by omega,wI ((i:Int)+1) (by omega),l01More_pt s _ _ hs hf1 ho1,Option.bind_some]
  rw [poI_succ] at he
  cases hr:(ptS s (rd out (i:Int)) (rd sums ((k - i - 1:Nat):Int))).2 with
  | false =>
   rw [hr,if_neg (by decide)] at he
   rw [bad he.symm]
   simp only [Bool.false_eq_true,if_false]
   exact Ev.now _
  | true =>
   rw [hr,if_pos rfl] at he
   simp only [if_true]
   have h:=ih (i+1) _ (by omega) (by omega) (ptS_small hs hr) he
   rw [show ((i+1:Nat):Int)=(i:Int)+1 by omega] at h
   exact h
theorem spo_l0 (sums:List Int) (hs0:sums.all smI=true) (h24:sums.length≤24):∀ (d:Nat) (out:List Int),sums.length+1 - out.length=d→1≤out.length→out.length≤sums.length+1→out.all smI=true→Ev (fun q=>F34.l0 q sums out out.length) (poO sums d out):=by
 intro d
 induction d with
 | zero =>
  intro out hd h1 ho _
  refine Ev.step (fun q=>by simp only [F34.l0];rfl) ?_
  simp only [show ¬ ((out.length:Int)≤(sums.length:Int)) by omega,if_false]
  exact Ev.bind (l01Trim_ev out (by omega)) (Ev.now _)
 | succ d ih =>
  intro out hd h1 ho ha
  refine Ev.step (fun q=>by simp only [F34.l0];rfl) ?_
  simp only [show ((out.length:Int)≤(sums.length:Int)) by omega,if_true]
  refine spo_l1 sums out hs0 ha out.length rfl h1 (by omega) h24 _ (fun s' hs' he=>?_) (fun he=>by unfold poO;rw [he]) out.length 0 0 (by omega) (by omega) (by decide) rfl
  have hq:=tdiv_small out.length h1 hs'
  have hs2:=smI_iff.1 hs'
  unfold poO
  rw [he]
  simp only [show out.length < 17592186044416 by omega,if_true,wI (-s') (by omega),hq.2,wI ((out.length:Int)+1) (by omega)]
  by_cases hm:Int.tmod s' (out.length:Int)=0
  ·simp only [hm, if_true]
   have h:=ih (out ++ [Int.tdiv (-s') (out.length:Int)]) (by rw [List.length_append];simp only [List.length_cons,List.length_nil];omega) (by rw [List.length_append];simp only [List.length_cons,List.length_nil];omega) (by rw [List.length_append];simp only [List.length_cons,List.length_nil];omega) (all_snoc ha hq.1)
   rw [show ((out ++ [Int.tdiv (-s') (out.length:Int)]).length:Int)=(out.length:Int)+1 by rw [List.length_append];rfl] at h
   exact h
  ·simp only [hm, if_false]
   exact Ev.now _
def poR (sums:List Int):List Int × Int:=if (decide (sums.length≤24) && sums.all smI)=true then poO sums sums.length [1] else ([],2)
theorem sums_open {l:List Int} (h:(decide (l.length≤24) && l.all smI)=true):l.length≤24∧l.all smI=true:=by
 rw [Bool.and_eq_true,decide_eq_true_eq] at h
 exact h
theorem impl_PolynomialOfSums_ev (sums:List Int):Ev (fun q=>F27.f q sums) (poR sums):=by
 unfold F27.f F76.f poR
 simp only [Option.bind_some,sumsB_any]
 by_cases h:(decide (sums.length≤24) && sums.all smI)=true
 ·simp only [h, if_true]
  exact ipo_l0 sums (sums_open h).2 (sums_open h).1 sums.length [1] (by simp) (by simp) (by simp) rfl
 ·simp only [h, if_false]
  exact Ev.now _
theorem spec_PolynomialOfSums_ev (sums:List Int) (hl:sums.length≤1048576):Ev (fun q=>F34.f q sums) (poR sums):=by
 unfold F34.f poR
 refine Ev.bind (l09Sums_ev sums hl) ?_
 by_cases h:(decide (sums.length≤24) && sums.all smI)=true
 ·simp only [h, if_true]
  exact spo_l0 sums (sums_open h).2 (sums_open h).1 sums.length [1] (by simp) (by simp) (by simp) rfl
 ·simp only [h, if_false]
  exact Ev.now _
def mu (k:Nat):Int:=(F86.f 64 (k:Int)).getD 0
theorem mu_all:((List.range 25).all fun k:Nat=>(F86.f 64 (k:Int) == some (mu k)) && ((F91.f 64 (k:Int) == some (mu k)) && (decide (-1≤mu k) && decide (mu k≤1))))=true:=by kernel_rfl
theorem mu_at {k:Nat} (h:k≤24):Ev (fun q=>F86.f q (k:Int)) (mu k)∧Ev (fun q=>F91.f q (k:Int)) (mu k)∧-1≤mu k∧mu k≤1:=by
 have h1:=List.all_eq_true.1 mu_all k (List.mem_range.2 (by omega))
 simp only [Bool.and_eq_true,beq_iff_eq,decide_eq_true_eq] at h1
 exact ⟨Ev.of (fun q=>F86.mono _ q) h1.1,Ev.of (fun q=>F91.mono _ q) h1.2.1,h1.2.2⟩
theorem tmodN (a b:Nat):Int.tmod (a:Int) (b:Int)=((a % b:Nat):Int):=rfl
theorem tdivN (a b:Nat):Int.tdiv (a:Int) (b:Int)=((a / b:Nat):Int):=rfl
/-- A sum over divisors, from e on. -/
def gpI (sums : List Int) (k : Nat) : Nat → Nat → Int → Option Int
 | 0,_,s=>some s
 | d+1,e,s=>if k % e=0 then (if (ptS s (mu (k / e)) (rd sums ((e - 1:Nat):Int))).2=true then gpI sums k d (e+1) (ptS s (mu (k / e)) (rd sums ((e - 1:Nat):Int))).1 else none) else gpI sums k d (e+1) s
theorem gpI_succ (sums:List Int) (k d e:Nat) (s:Int):gpI sums k (d+1) e s=if k % e=0 then (if (ptS s (mu (k / e)) (rd sums ((e - 1:Nat):Int))).2=true then gpI sums k d (e+1) (ptS s (mu (k / e)) (rd sums ((e - 1:Nat):Int))).1 else none) else gpI sums k d (e+1) s:=rfl
def gpO (sums : List Int) : Nat → List Int → List Int × Int
 | 0,out=>(out,0)
 | d+1,out=>match gpI sums (out.length+1) (out.length+1) 1 0 with
  | none=>([],3)
  | some s=>if Int.tmod s ((out.length+1:Nat):Int)=0 then gpO sums d (out ++ [Int.tdiv s ((out.length+1:Nat):Int)]) else ([],4)
theorem tdiv_small2 {s:Int} (k:Nat) (hk:1≤k) (hs:smI s=true):smI (Int.tdiv s (k:Int))=true∧wrap64 (Int.tdiv s (k:Int))=Int.tdiv s (k:Int):=by
 have h:=smI_iff.1 hs
 have:=tdiv_small (s:=-s) k hk (smI_iff.2 (by omega))
 rw [Int.neg_neg] at this
 exact this
theorem ipr_l1 (sums out : List Int) (hs0 : sums.all smI = true) (k : Nat) (hk1 : 1 ≤ k) (hk2 : k ≤ sums.length) (h24 : sums.length ≤ 24) (R : List Int × Int)
  (next:∀ s',smI s'=true→gpI sums k k 1 0=some s'→Ev (fun q=>F31.j2 q sums out k s' true ((k:Int)+1) false) R) (bad:gpI sums k k 1 0=none→R=([],3)) :
  ∀ (d e:Nat) (s:Int),k+1 - e=d→1≤e→e≤k+1→smI s=true→gpI sums k d e s=gpI sums k k 1 0→Ev (fun q=>F31.l1 q sums out k s true e) R:=by
 intro d
 induction d with
 | zero =>
  intro e s hd h1 he hs hp
  obtain rfl:e=k+1:=by omega
  refine Ev.step (fun q=>by simp only [F31.l1];rfl) ?_
  simp only [show ¬ (((k+1:Nat):Int)≤(k:Int)) by omega,if_false]
  rw [show ((k+1:Nat):Int)=(k:Int)+1 by omega]
  exact next s hs hp.symm
 | succ d ih =>
  intro e s hd h1 he hs hp
  have ho1:=rd_small hs0 (e - 1)
  have hq:k / e≤24:=Nat.le_trans (Nat.div_le_self k e) (by omega)
  obtain ⟨m1,_,m3,m4⟩:=mu_at hq
  rw [gpI_succ] at hp
  have htd:Int.tdiv (k:Int) (e:Int)=((k / e:Nat):Int):=rfl
  generalize hQ:k / e=Q at *
  refine Ev.step (fun q=>by simp only [F31.l1];rfl) ?_
  simp only [show ((e:Int)≤(k:Int)) by omega,if_true]
  refine Ev.step (fun q=>by simp only [F31.j2];rfl) ?_
  simp only [if_true,show ¬ ((e:Int)=0) by omega,if_false,tmodN,htd,wI ((Q:Int)) (by omega),show (e:Int) - 1=((e - 1:Nat):Int) by omega,w64 (show -9223372036854775808≤((e - 1:Nat):Int) by omega) (by omega),show (0:Int)≤((e - 1:Nat):Int) by omega,show (((e - 1:Nat):Int) < (sums.length:Int)) by omega,wI ((e:Int)+1) (by omega)]
  by_cases hm:k % e=0
  ·rw [if_pos hm] at hp
   simp only [show (((k % e:Nat):Int)=0) by omega,if_true]
   refine Ev.bind m1 (Ev.bind (plusTimes_pt s _ _ hs ⟨by omega,by omega⟩ ho1) ?_)
   cases hr:(ptS s (mu Q) (rd sums ((e - 1:Nat):Int))).2 with
   | false =>
    rw [hr,if_neg (by decide)] at hp
    rw [bad hp.symm]
    have hj:∀ s' x,Ev (fun q=>F31.j2 q sums out k s' false x false) ([],3):=fun s' x=>by
     refine Ev.step (fun q=>by simp only [F31.j2];rfl) ?_
     simp only [Bool.false_eq_true,if_false]
     exact Ev.now _
    refine Ev.step (fun q=>by simp only [F31.l1];rfl) ?_
    split<;>exact hj _ _
   | true =>
    rw [hr,if_pos rfl] at hp
    have h:=ih (e+1) _ (by omega) (by omega) (by omega) (ptS_small hs hr) hp
    rw [show ((e+1:Nat):Int)=(e:Int)+1 by omega] at h
    exact h
  ·rw [if_neg hm] at hp
   simp only [show ¬ (((k % e:Nat):Int)=0) by omega,if_false]
   have h:=ih (e+1) _ (by omega) (by omega) (by omega) hs hp
   rw [show ((e+1:Nat):Int)=(e:Int)+1 by omega] at h
   exact h
theorem ipr_l0 (sums:List Int) (hs0:sums.all smI=true) (h24:sums.length≤24):∀ (d:Nat) (out:List Int),sums.length - out.length=d→out.length≤sums.length→Ev (fun q=>F31.l0 q sums out ((out.length:Int)+1)) (gpO sums d out):=by
 intro d
 induction d with
 | zero =>
  intro out hd ho
  refine Ev.step (fun q=>by simp only [F31.l0];rfl) ?_
  simp only [show ¬ ((out.length:Int)+1≤(sums.length:Int)) by omega,if_false]
  exact Ev.now _
 | succ d ih =>
  intro out hd ho
  refine Ev.step (fun q=>by simp only [F31.l0];rfl) ?_
  rw [show (out.length:Int)+1=((out.length+1:Nat):Int) by omega]
  simp only [show (((out.length+1:Nat):Int)≤(sums.length:Int)) by omega,if_true]
  refine ipr_l1 sums out hs0 (out.length+1) (by omega) (by omega) h24 _ (fun s' hs' he=>?_) (fun he=>by unfold gpO;rw [he]) (out.length+1) 1 0 (by omega) (by omega) (by omega) (by decide) rfl
  have hq:=tdiv_small2 (out.length+1) (by omega) hs'
  refine Ev.step (fun q=>by simp only [F31.j2];rfl) ?_
  unfold gpO
  rw [he]
  simp only [Bool.false_eq_true,if_false,if_true,show ¬ (((out.length+1:Nat):Int)=0) by omega,show out.length < 17592186044416 by omega,hq.2,w64 (show -9223372036854775808≤((out.length+1:Nat):Int)+1 by omega) (by omega)]
  by_cases hm:Int.tmod s' ((out.length+1:Nat):Int)=0
  ·simp only [hm, if_true]
   have h:=ih (out ++ [Int.tdiv s' ((out.length+1:Nat):Int)]) (by rw [List.length_append];simp only [List.length_cons,List.length_nil];omega) (by rw [List.length_append];simp only [List.length_cons,List.length_nil];omega)
   rw [show ((out ++ [Int.tdiv s' ((out.length+1:Nat):Int)]).length:Int)=((out.length+1:Nat):Int) by rw [List.length_append];rfl] at h
   exact h
  ·simp only [hm, if_false]
   exact Ev.now _
theorem spr_l1 (sums out : List Int) (hs0 : sums.all smI = true) (k : Nat) (hk1 : 1 ≤ k) (hk2 : k ≤ sums.length) (h24 : sums.length ≤ 24) (R : List Int × Int)
  (next:∀ s',smI s'=true→gpI sums k k 1 0=some s'→Ev (fun q=>if Int.tmod s' k=0 then (if out.length < 17592186044416 then F36.l0 q sums (out ++ [wrap64 (Int.tdiv s' k)]) (wrap64 ((k:Int)+1)) else none) else some ([],4)) R) (bad:gpI sums k k 1 0=none→R=([],3)) :
  ∀ (d e:Nat) (s:Int),k+1 - e=d→1≤e→e≤k+1→smI s=true→gpI sums k d e s=gpI sums k k 1 0→Ev (fun q=>F36.l1 q sums out k s e) R:=by
 intro d
 induction d with
 | zero =>
  intro e s hd h1 he hs hp
  obtain rfl:e=k+1:=by omega
  refine Ev.step (fun q=>by simp only [F36.l1];rfl) ?_
  simp only [show ¬ (((k+1:Nat):Int)≤(k:Int)) by omega,if_false,show ¬ ((k:Int)=0) by omega]
  exact next s hs hp.symm
 | succ d ih =>
  intro e s hd h1 he hs hp
  have ho1:=rd_small hs0 (e - 1)
  have hq:k / e≤24:=Nat.le_trans (Nat.div_le_self k e) (by omega)
  obtain ⟨_,m2,m3,m4⟩:=mu_at hq
  rw [gpI_succ] at hp
  have htd:Int.tdiv (k:Int) (e:Int)=((k / e:Nat):Int):=rfl
  generalize hQ:k / e=Q at *
  refine Ev.step (fun q=>by simp only [F36.l1];rfl) ?_
  simp only [show ((e:Int)≤(k:Int)) by omega,if_true,show ¬ ((e:Int)=0) by omega,if_false,tmodN,htd,wI ((Q:Int)) (by omega),show (e:Int) - 1=((e - 1:Nat):Int) by omega,w64 (show -9223372036854775808≤((e - 1:Nat):Int) by omega) (by omega),show (0:Int)≤((e - 1:Nat):Int) by omega,show (((e - 1:Nat):Int) < (sums.length:Int)) by omega,wI ((e:Int)+1) (by omega)]
  by_cases hm:k % e=0
  ·rw [if_pos hm] at hp
   simp only [show (((k % e:Nat):Int)=0) by omega,if_true]
   refine Ev.bind m2 ?_
   simp only [l01More_pt s _ _ hs (show -1000000000000000≤mu Q∧mu Q≤1000000000000000 by omega) ho1,Option.bind_some]
   cases hr:(ptS s (mu Q) (rd sums ((e - 1:Nat):Int))).2 with
   | false =>
    rw [hr,if_neg (by decide)] at hp
    rw [bad hp.symm]
    simp only [Bool.false_eq_true,if_false]
    exact Ev.now _
   | true =>
    rw [hr,if_pos rfl] at hp
    simp only [if_true]
    have h:=ih (e+1) _ (by omega) (by omega) (by omega) (ptS_small hs hr) hp
    rw [show ((e+1:Nat):Int)=(e:Int)+1 by omega] at h
    exact h
  ·rw [if_neg hm] at hp
   simp only [show ¬ (((k % e:Nat):Int)=0) by omega,if_false]
   have h:=ih (e+1) _ (by omega) (by omega) (by omega) hs hp
   rw [show ((e+1:Nat):Int)=(e:Int)+1 by omega] at h
   exact h
theorem spr_l0 (sums:List Int) (hs0:sums.all smI=true) (h24:sums.length≤24):∀ (d:Nat) (out:List Int),sums.length - out.length=d→out.length≤sums.length→Ev (fun q=>F36.l0 q sums out ((out.length:Int)+1)) (gpO sums d out):=by
 intro d
 induction d with
 | zero =>
  intro out hd ho
  refine Ev.step (fun q=>by simp only [F36.l0];rfl) ?_
  simp only [show ¬ ((out.length:Int)+1≤(sums.length:Int)) by omega,if_false]
  exact Ev.now _
 | succ d ih =>
  intro out hd ho
  refine Ev.step (fun q=>by simp only [F36.l0];rfl) ?_
  rw [show (out.length:Int)+1=((out.length+1:Nat):Int) by omega]
  simp only [show (((out.length+1:Nat):Int)≤(sums.length:Int)) by omega,if_true]
  refine spr_l1 sums out hs0 (out.length+1) (by omega) (by omega) h24 _ (fun s' hs' he=>?_) (fun he=>by unfold gpO;rw [he]) (out.length+1) 1 0 (by omega) (by omega) (by omega) (by decide) rfl
  have hq:=tdiv_small2 (out.length+1) (by omega) hs'
  unfold gpO
  rw [he]
  simp only [if_true,show out.length < 17592186044416 by omega,hq.2,w64 (show -9223372036854775808≤((out.length+1:Nat):Int)+1 by omega) (by omega)]
  by_cases hm:Int.tmod s' ((out.length+1:Nat):Int)=0
  ·simp only [hm, if_true]
   have h:=ih (out ++ [Int.tdiv s' ((out.length+1:Nat):Int)]) (by rw [List.length_append];simp only [List.length_cons,List.length_nil];omega) (by rw [List.length_append];simp only [List.length_cons,List.length_nil];omega)
   rw [show ((out ++ [Int.tdiv s' ((out.length+1:Nat):Int)]).length:Int)=((out.length+1:Nat):Int) by rw [List.length_append];rfl] at h
   exact h
  ·simp only [hm, if_false]
   exact Ev.now _
def gpR (sums:List Int):List Int × Int:=if (decide (sums.length≤24) && sums.all smI)=true then gpO sums sums.length [] else ([],2)
theorem impl_PrimesOfSums_ev (sums:List Int):Ev (fun q=>F31.f q sums) (gpR sums):=by
 unfold F31.f F76.f gpR
 simp only [Option.bind_some,sumsB_any]
 by_cases h:(decide (sums.length≤24) && sums.all smI)=true
 ·simp only [h, if_true]
  exact ipr_l0 sums (sums_open h).2 (sums_open h).1 sums.length [] (by simp) (by simp)
 ·simp only [h, if_false]
  exact Ev.now _
theorem spec_PrimesOfSums_ev (sums:List Int) (hl:sums.length≤1048576):Ev (fun q=>F36.f q sums) (gpR sums):=by
 unfold F36.f gpR
 refine Ev.bind (l09Sums_ev sums hl) ?_
 by_cases h:(decide (sums.length≤24) && sums.all smI)=true
 ·simp only [h, if_true]
  exact spr_l0 sums (sums_open h).2 (sums_open h).1 sums.length [] (by simp) (by simp)
 ·simp only [h, if_false]
  exact Ev.now _
/-- Newton's rule at k, of a polynomial's numbers and a list of sums. -/
def nwAt (c:Nat→Int) (sums:List Int) (k:Nat):Prop:=(k:Int) * c k+la_sm k (fun i=>c i * rd sums ((k - i - 1:Nat):Int))=0
theorem poI_val (out sums : List Int) (k : Nat) : ∀ (d i : Nat) (s s' : Int), poI out sums k d i s = some s' → s' = s + la_sm d (fun t => rd out ((i + t : Nat) : Int) * rd sums ((k - (i + t) - 1 : Nat) : Int))
 | 0,_,s,s',h=>by
  unfold poI at h
  cases h
  show s=s+0
  omega
 | d+1,i,s,s',h=>by
  rw [poI_succ] at h
  by_cases hp:(ptS s (rd out (i:Int)) (rd sums ((k - i - 1:Nat):Int))).2=true
  ·rw [if_pos hp] at h
   have h1:=poI_val out sums k d (i+1) _ s' h
   rw [ptS_val hp] at h1
   rw [la_sm_succ',h1]
   rw [la_sm_congr (g:=fun t=>rd out ((i+(t+1):Nat):Int) * rd sums ((k - (i+(t+1)) - 1:Nat):Int)) (fun t _=>by rw [show i+1+t=i+(t+1) by omega])]
   simp only [Nat.add_zero]
   omega
  ·rw [if_neg hp] at h
   cases h
theorem psI_val (f out : List Int) (k : Nat) : ∀ (d i : Nat) (s s' : Int), psI f out k d i s = some s' → s' = s - la_sm d (fun t => rd f ((i + t : Nat) : Int) * rd out ((k - (i + t) - 1 : Nat) : Int))
 | 0,_,s,s',h=>by
  unfold psI at h
  cases h
  show s=s - 0
  omega
 | d+1,i,s,s',h=>by
  rw [show psI f out k (d+1) i s=if (ptS s (-(rd f (i:Int))) (rd out ((k - i - 1:Nat):Int))).2=true then psI f out k d (i+1) (ptS s (-(rd f (i:Int))) (rd out ((k - i - 1:Nat):Int))).1 else none from rfl] at h
  by_cases hp:(ptS s (-(rd f (i:Int))) (rd out ((k - i - 1:Nat):Int))).2=true
  ·rw [if_pos hp] at h
   have h1:=psI_val f out k d (i+1) _ s' h
   rw [ptS_val hp] at h1
   rw [la_sm_succ',h1]
   rw [la_sm_congr (g:=fun t=>rd f ((i+(t+1):Nat):Int) * rd out ((k - (i+(t+1)) - 1:Nat):Int)) (fun t _=>by rw [show i+1+t=i+(t+1) by omega])]
   simp only [Nat.add_zero]
   rw [Int.neg_mul]
   omega
  ·rw [if_neg hp] at h
   cases h
theorem rd_snoc_lt (l:List Int) (x:Int) {i:Nat} (h:i < l.length):rd (l ++ [x]) (i:Int)=rd l (i:Int):=by
 unfold rd
 rw [Int.toNat_natCast,List.getD_eq_getElem?_getD,List.getD_eq_getElem?_getD,List.getElem?_append_left h]
theorem rd_snoc_at (l:List Int) (x:Int):rd (l ++ [x]) (l.length:Int)=x:=by
 unfold rd
 rw [Int.toNat_natCast,List.getD_eq_getElem?_getD,List.getElem?_append_right (Nat.le_refl _),Nat.sub_self]
 rfl
/-- Sums of powers meet Newton's rule. -/
theorem psO_newton (f : List Int) (h0 : rd f 0 = 1) : ∀ (d : Nat) (out sums : List Int), psO f d out = (sums, 0) → (∀ k, 1 ≤ k → k ≤ out.length → nwAt (fun i => rd f (i : Int)) out k) → sums.length = out.length + d ∧ ∀ k, 1 ≤ k → k ≤ sums.length → nwAt (fun i => rd f (i : Int)) sums k
 | 0,out,sums,h,hn=>by
  unfold psO at h
  cases h
  exact ⟨rfl,hn⟩
 | d+1,out,sums,h,hn=>by
  unfold psO at h
  by_cases hp:(ptS 0 (-((out.length+1:Nat):Int)) (rd f ((out.length+1:Nat):Int))).2=true
  ·rw [if_pos hp] at h
   cases e:psI f out (out.length+1) out.length 1 (ptS 0 (-((out.length+1:Nat):Int)) (rd f ((out.length+1:Nat):Int))).1 with
   | none=>rw [e] at h;simp at h
   | some s =>
    rw [e] at h
    simp only at h
    have hv:=psI_val f out (out.length+1) out.length 1 _ s e
    rw [ptS_val hp] at hv
    have hr:=psO_newton f h0 d (out ++ [s]) sums h (fun k hk1 hk2=>by
     rw [List.length_append,show ([s]:List Int).length=1 from rfl] at hk2
     by_cases hk:k≤out.length
     ·have := hn k hk1 hk
      unfold nwAt at this ⊢
      rw [la_sm_congr (g:=fun i=>rd f (i:Int) * rd out ((k - i - 1:Nat):Int)) (fun i hi=>by rw [rd_snoc_lt out s (by omega)])]
      exact this
     ·obtain rfl : k = out.length + 1 := by omega
      unfold nwAt
      rw [la_sm_succ']
      simp only
      rw [show out.length+1 - 0 - 1=out.length by omega,rd_snoc_at,la_sm_congr (g:=fun t=>rd f ((1+t:Nat):Int) * rd out ((out.length+1 - (1+t) - 1:Nat):Int)) (fun i hi=>by rw [show i+1=1+i by omega,rd_snoc_lt out s (by omega)]),show rd f ((0:Nat):Int)=1 from h0,hv,Int.neg_mul]
      omega)
    rw [List.length_append,show ([s]:List Int).length=1 from rfl] at hr
    exact ⟨by omega,hr.2⟩
  ·rw [if_neg hp] at h
   simp at h
/-- Where Newton's rule holds, the polynomial of the sums is that polynomial, or a sum is too great. -/
theorem poO_exact (c : Nat → Int) (sums : List Int) (hn : ∀ k, 1 ≤ k → k ≤ sums.length → nwAt c sums k) : ∀ (d m : Nat), 1 ≤ m → m + d = sums.length + 1 → poO sums d (vrow m c) = ([], 3) ∨ poO sums d (vrow m c) = (trimN (vrow (sums.length + 1) c) (sums.length + 1), 0)
 | 0,m,h1,hm=>by
  obtain rfl:m=sums.length+1:=by omega
  unfold poO
  rw [vrow_length]
  exact .inr rfl
 | d+1,m,h1,hm=>by
  unfold poO
  rw [vrow_length]
  cases e:poI (vrow m c) sums m m 0 0 with
  | none=>exact .inl rfl
  | some s =>
   simp only
   have hv:=poI_val (vrow m c) sums m m 0 0 s e
   have hk:=hn m h1 (by omega)
   unfold nwAt at hk
   rw [la_sm_congr (g:=fun i=>c i * rd sums ((m - i - 1:Nat):Int)) (fun i hi=>by rw [Nat.zero_add,vrow_rd hi])] at hv
   have hs:s=-((m:Int) * c m):=by omega
   have hm0:(m:Int) ≠ 0:=by omega
   rw [if_pos (by rw [hs,Int.neg_tmod,Int.mul_tmod_right,Int.neg_zero]),hs,Int.neg_neg,Int.mul_tdiv_cancel_left _ hm0]
   rw [vrow_snoc]
   exact poO_exact c sums hn d (m+1) (by omega) (by omega)
theorem psO_small (f : List Int) : ∀ (d : Nat) (out : List Int), out.all smI = true → (psO f d out).1.all smI = true
 | 0,out,h=>by unfold psO;exact h
 | d+1,out,h=>by
  unfold psO
  split
  ·rename_i hp
   split
   ·rename_i s e
    refine psO_small f d _ (all_snoc h ?_)
    have:∀ (D i:Nat) (x:Int),smI x=true→psI f out (out.length+1) D i x=some s→smI s=true:=by
     intro D
     induction D with
     | zero=>intro i x hx he;unfold psI at he;cases he;exact hx
     | succ D ih =>
      intro i x hx he
      unfold psI at he
      split at he
      ·rename_i hq
       exact ih _ _ (ptS_small hx hq) he
      ·cases he
    exact this _ _ _ (ptS_small (by decide) hp) e
   ·rfl
  ·rfl
/-- FnPowerSums' first part: sums of powers lead back to the polynomial. -/
theorem sums_back (f:List Int) (n:Int) (h:(psR f n).2=0) (hl:(f.length:Int) - 1≤n):poR (psR f n).1=([],3)∨poR (psR f n).1=(f,0):=by
 unfold psR at h ⊢
 by_cases hw:wholeB f=true
 ·rw [if_pos hw] at h ⊢
  by_cases hn:0≤n∧n≤24
  ·rw [if_pos hn] at h ⊢
   by_cases h0:rd f 0=1
   ·rw [if_pos h0] at h ⊢
    have ha:=wholeB_all hw
    have hsm:=psO_small f n.toNat [] rfl
    obtain ⟨sums,hS⟩:∃ sums,psO f n.toNat []=(sums,0):=⟨(psO f n.toNat []).1,by rw [← h]⟩
    rw [hS] at hsm ⊢
    simp only at hsm ⊢
    have hN:=psO_newton f h0 n.toNat [] sums hS (fun k h1 h2=>by simp at h2;omega)
    rw [show ([]:List Int).length=0 from rfl] at hN
    unfold poR
    rw [if_pos (by rw [Bool.and_eq_true];exact ⟨decide_eq_true (by omega),hsm⟩)]
    have hr:=poO_exact (fun i=>rd f (i:Int)) sums hN.2 sums.length 1 (by omega) (by omega)
    rw [show vrow 1 (fun i=>rd f (i:Int))=[1] by rw [show vrow 1 (fun i=>rd f (i:Int))=[rd f ((0:Nat):Int)] from rfl];exact congrArg (fun x=>[x]) h0] at hr
    refine hr.imp id (fun hr=>hr.trans ?_)
    have hne:f ≠ []:=fun e=>by rw [e] at h0;exact absurd h0 (by decide)
    have hp:=List.length_pos_iff.2 hne
    have hlast:rd f ((f.length - 1:Nat):Int) ≠ 0:=by
     unfold wholeB at hw
     simp only [Bool.and_eq_true,Bool.or_eq_true,decide_eq_true_eq] at hw
     rcases hw.2.2 with e|e
     ·exact absurd e hne
     ·exact bne_iff_ne.1 e
    rw [trim_top (a:=f.length - 1) (by omega) hlast (fun k hk=>rd_far2 f k (by omega)),show f.length - 1+1=f.length by omega,vrow_back rfl]
   ·rw [if_neg h0] at h
    simp at h
  ·rw [if_neg hn] at h
   simp at h
 ·rw [if_neg hw] at h
  simp at h
theorem mpw_one (n:Nat) (A:Nat→Nat→Int) {i j:Nat} (hi:i < n):mpw n A 1 i j=A i j:=by
 show la_sm n (fun t=>la_ee i t * A t j)=A i j
 rw [la_sm_congr (g:=fun t=>A t j * la_ee i t) (fun t _=>Int.mul_comm _ _),la_sm_ee' (fun t=>A t j) i hi]
theorem mpw_box {n : Nat} (hn : n ≤ 20) {A : Nat → Nat → Int} (hA : ∀ i j, 0 ≤ A i j ∧ A i j ≤ 1) : ∀ (k i j : Nat), i < n → j < n → 0 ≤ mpw n A (k + 1) i j ∧ mpw n A (k + 1) i j ≤ 20 ^ k
 | 0,i,j,hi,hj=>by
  rw [mpw_one n A hi]
  exact ⟨(hA i j).1,by have:=(hA i j).2;simpa using this⟩
 | k+1,i,j,hi,hj=>by
  have h:=sm_box (n:=n) (f:=fun t=>mpw n A (k+1) i t * A t j) (B:=20 ^ k) (fun t ht=>by
   have h1:=mpw_box hn hA k i t hi ht
   have h2:=hA t j
   have:A t j=0∨A t j=1:=by omega
   rcases this with e|e<;>simp only [e]<;>omega)
  show 0≤la_sm n (fun t=>mpw n A (k+1) i t * A t j)∧la_sm n (fun t=>mpw n A (k+1) i t * A t j)≤20 ^ (k+1)
  refine ⟨h.1,Int.le_trans h.2 ?_⟩
  have hp:(0:Int)≤20 ^ k:=Int.pow_nonneg (by omega)
  rw [Int.pow_succ,Int.mul_comm]
  exact Int.mul_le_mul_of_nonneg_left (by omega) hp
theorem p20 {m:Nat} (h:m≤12):(20:Int) ^ m≤4096000000000000:=by
 have h1:(20:Nat) ^ m≤20 ^ 12:=Nat.pow_le_pow_right (by omega) h
 have h2:((20 ^ m:Nat):Int)=(20:Int) ^ m:=by simp
 omega
theorem mtr_box {n:Nat} (hn:n≤20) {A:Nat→Nat→Int} (hA:∀ i j,0≤A i j∧A i j≤1) (m:Nat) (hm:m≤11):0≤mtr n A (m+1)∧mtr n A (m+1)≤4096000000000000:=by
 have h:=sm_box (n:=n) (f:=fun i=>mpw n A (m+1) i i) (B:=20 ^ m) (fun t ht=>mpw_box hn hA m t t ht ht)
 refine ⟨h.1,Int.le_trans h.2 ?_⟩
 have hp:(0:Int)≤20 ^ m:=Int.pow_nonneg (by omega)
 have h1:=p20 (m:=m+1) (by omega)
 rw [Int.pow_succ,Int.mul_comm] at h1
 exact Int.le_trans (Int.mul_le_mul_of_nonneg_right (by omega) hp) h1
theorem tr_mtr {n:Nat} (hn:n≤20) {A:Nat→Nat→Int} (hA:∀ i j,0≤A i j∧A i j≤1) (m:Nat) (hm:m≤11):trW (mpw n A (m+1)) n=mtr n A (m+1):=by
 have h:=mtr_box hn hA m hm
 exact cg_eq (trW_cg _ n) (trW_range _ n) ⟨Int.le_trans (by decide) h.1,Int.le_trans h.2 (by decide)⟩
theorem prod_mpw {n:Nat} (hn:n≤20) {A:Nat→Nat→Int} (hA:∀ i j,0≤A i j∧A i j≤1) (m:Nat) (hm:m≤11):vmat n (fun r c=>rtA (mpw n A (m+1)) A r n c)=vmat n (mpw n A (m+1+1)) :=
 vmat_congr fun i j hi hj=>by
  have h:=mpw_box hn hA (m+1) i j hi hj
  have h1:=p20 (m:=m+1) (by omega)
  exact cg_eq (rtA_cg (mpw n A (m+1)) A i j n) (rtA_range (mpw n A (m+1)) A i j n) ⟨Int.le_trans (by decide) h.1,Int.le_trans h.2 (Int.le_trans h1 (by decide))⟩
theorem traces_l0 {n : Nat} (hn : n ≤ 20) {A : Nat → Nat → Int} (hA : ∀ i j, 0 ≤ A i j ∧ A i j ≤ 1) (K : Nat) (hK : K ≤ 12) : ∀ (d m : Nat), m + d = K → Ev (fun q => F82.l0 q (vmat n A) (vrow m (fun t => mtr n A (t + 1))) (vmat n (mpw n A (m + 1))) (K : Int) (m : Int)) (vrow K (fun t => mtr n A (t + 1)))
 | 0,m,hm=>by
  obtain rfl:m=K:=by omega
  refine Ev.step (fun q=>by simp only [F82.l0];rfl) ?_
  simp only [show ¬ ((m:Int) < (m:Int)) by omega,if_false]
  exact Ev.now _
 | d+1,m,hm=>by
  refine Ev.step (fun q=>by simp only [F82.l0];rfl) ?_
  simp only [show ((m:Int) < (K:Int)) by omega,if_true]
  refine Ev.bind (trace_ev n (by omega) (mpw n A (m+1))) ?_
  rw [tr_mtr hn hA m (by omega)]
  simp only [show (vrow m (fun t=>mtr n A (t+1))).length < 17592186044416 by rw [vrow_length];omega,if_true]
  refine Ev.bind (rowsTimes_ev n (by omega) (mpw n A (m+1)) A) ?_
  rw [prod_mpw hn hA m (by omega),vrow_snoc m (fun t=>mtr n A (t+1)),wI ((m:Int)+1) (by omega)]
  exact traces_l0 hn hA K hK d (m+1) (by omega)
theorem traces_ev {n:Nat} (hn:n≤20) {A:Nat→Nat→Int} (hA:∀ i j,0≤A i j∧A i j≤1) (K:Nat) (hK:K≤12):Ev (fun q=>F82.f q (vmat n A) (K:Int)) (vrow K (fun t=>mtr n A (t+1))):=by
 have h:=traces_l0 hn hA K hK K 0 (by omega)
 rw [vmat_congr (f:=mpw n A (0+1)) (h:=A) (fun i j hi _=>mpw_one n A hi)] at h
 exact h
/-- The closed walks' numbers of a graph. -/
def clN (l:List (List Int)) (k:Nat):Int:=mtr (2 * l.length) (eA l) k
theorem clN_box {l:List (List Int)} (hl:l.length≤10) {k:Nat} (h1:1≤k) (h2:k≤12):0≤clN l k∧clN l k≤4096000000000000:=by
 have h:=mtr_box (n:=2 * l.length) (by omega) (eA_rng l) (k - 1) (by omega)
 rw [show k - 1+1=k by omega] at h
 exact h
theorem eTraces_ev (a:Int) (l:List (List Int)) (h:isG a l=true) (K:Nat) (hK:K≤12):Ev (fun q=>(F83.f q a l).bind fun t=>F82.f q t (K:Int)) (vrow K (fun t=>clN l (t+1))):=by
 refine Ev.bind (edgeMatrix_ev a l (isG_len h) (isG_two h)) ?_
 rw [edgeM_vmat]
 exact traces_ev (by have:=isG_len h;omega) (eA_rng l) K hK
/-- The closed walks' numbers are sums over divisors. -/
theorem clN_primes (l:List (List Int)):∃ p:Nat→Int,∀ k,1≤k→k≤12→clN l k=la_sm 12 (fun j=>p (j+1) * dvN (j+1) k):=by
 obtain ⟨p,c',N',_,hs,hz⟩:=nw_primes (nw_trace (2 * l.length) (eA l)) 12
 exact ⟨p,fun k h1 h2=>by have:=hs k;rw [hz k h1 h2,Int.zero_add] at this;exact this⟩
/-- One number of Moebius' sum. -/
def mtm (S:Nat→Int) (k t:Nat):Int:=if k % (t+1)=0 then mu (k / (t+1)) * S (t+1) else 0
theorem mob_all:((List.range 13).all fun k=>(List.range 12).all fun j=>(k == 0) || (la_sm k (mtm (dvN (j+1)) k) == (if j+1=k then (k:Int) else 0)))=true:=by kernel_rfl
theorem mob_at {k j:Nat} (h1:1≤k) (h2:k≤12) (hj:j < 12):la_sm k (mtm (dvN (j+1)) k)=if j+1=k then (k:Int) else 0:=by
 have h:=List.all_eq_true.1 (List.all_eq_true.1 mob_all k (List.mem_range.2 (by omega))) j (List.mem_range.2 hj)
 rw [Bool.or_eq_true] at h
 rcases h with e|e
 ·have:=eq_of_beq e;omega
 ·exact eq_of_beq e
theorem mob_primes {S p:Nat→Int} (h:∀ k,1≤k→k≤12→S k=la_sm 12 (fun j=>p (j+1) * dvN (j+1) k)) {k:Nat} (h1:1≤k) (h2:k≤12):la_sm k (mtm S k)=(k:Int) * p k:=by
 rw [la_sm_congr (g:=fun t=>la_sm 12 (fun j=>p (j+1) * mtm (dvN (j+1)) k t)) (fun t ht=>by
  unfold mtm
  by_cases hd:k % (t+1)=0
  ·simp only [hd, if_true]
   rw [h (t+1) (by omega) (by omega),← la_sm_mul]
   exact la_sm_congr fun j _=>by grind
  ·simp only [hd, if_false]
   exact (la_sm_zero fun j _=>by simp).symm),la_sm_swap]
 rw [la_sm_congr (g:=fun j=>p (j+1) * (if j+1=k then (k:Int) else 0)) (fun j hj=>by rw [la_sm_mul,mob_at h1 h2 hj])]
 rw [la_sm_single (k - 1) (by omega) (fun j _ hne=>by rw [if_neg (by omega)];simp),if_pos (by omega),show k - 1+1=k by omega]
 exact Int.mul_comm _ _
theorem gpI_val (sums : List Int) (k : Nat) : ∀ (d e : Nat) (s s' : Int), 1 ≤ e → gpI sums k d e s = some s' → s' = s + la_sm d (fun t => mtm (fun i => rd sums ((i - 1 : Nat) : Int)) k (e - 1 + t))
 | 0,_,s,s',_,h=>by
  unfold gpI at h
  cases h
  show s=s+0
  omega
 | d+1,e,s,s',he,h=>by
  rw [gpI_succ] at h
  rw [la_sm_succ',la_sm_congr (g:=fun t=>mtm (fun i=>rd sums ((i - 1:Nat):Int)) k (e+1 - 1+t)) (fun t _=>by rw [show e - 1+(t+1)=e+1 - 1+t by omega])]
  have e0:mtm (fun i=>rd sums ((i - 1:Nat):Int)) k (e - 1+0)=if k % e=0 then mu (k / e) * rd sums ((e - 1:Nat):Int) else 0:=by
   unfold mtm
   rw [show e - 1+0+1=e by omega]
  rw [e0]
  by_cases hd:k % e=0
  ·rw [if_pos hd] at h ⊢
   by_cases hp:(ptS s (mu (k / e)) (rd sums ((e - 1:Nat):Int))).2=true
   ·rw [if_pos hp] at h
    have h1:=gpI_val sums k d (e+1) _ s' (by omega) h
    rw [ptS_val hp] at h1
    omega
   ·rw [if_neg hp] at h
    cases h
  ·rw [if_neg hd] at h ⊢
   have h1:=gpI_val sums k d (e+1) _ s' (by omega) h
   omega
theorem gpO_exact (q : Nat → Int) (sums : List Int) (hN : ∀ k, 1 ≤ k → k ≤ sums.length → la_sm k (mtm (fun i => rd sums ((i - 1 : Nat) : Int)) k) = (k : Int) * q k) : ∀ (d m : Nat), m + d = sums.length → gpO sums d (vrow m (fun i => q (i + 1))) = ([], 3) ∨ gpO sums d (vrow m (fun i => q (i + 1))) = (vrow sums.length (fun i => q (i + 1)), 0)
 | 0,m,hm=>by
  obtain rfl:m=sums.length:=by omega
  unfold gpO
  exact .inr rfl
 | d+1,m,hm=>by
  unfold gpO
  rw [vrow_length]
  cases e:gpI sums (m+1) (m+1) 1 0 with
  | none=>exact .inl rfl
  | some s =>
   simp only
   have hv:=gpI_val sums (m+1) (m+1) 1 0 s (Nat.le_refl _) e
   rw [la_sm_congr (g:=mtm (fun i=>rd sums ((i - 1:Nat):Int)) (m+1)) (fun t _=>by rw [show 1 - 1+t=t by omega]),hN (m+1) (by omega) (by omega),Int.zero_add] at hv
   have hm0:((m+1:Nat):Int) ≠ 0:=by omega
   rw [if_pos (by rw [hv,Int.mul_tmod_right]),hv,Int.mul_tdiv_cancel_left _ hm0,vrow_snoc m (fun i=>q (i+1))]
   exact gpO_exact q sums hN d (m+1) (by omega)
theorem sm_abs {n:Nat} {f:Nat→Int} {B:Int} (h:∀ i,i < n→-B≤f i∧f i≤B):-((n:Int) * B)≤la_sm n f∧la_sm n f≤(n:Int) * B:=by
 induction n with
 | zero=>simp [la_sm]
 | succ n ih =>
  have h1:=ih (fun i hi=>h i (by omega))
  have h2:=h n (by omega)
  have e:((n+1:Nat):Int) * B=n * B+B:=by grind
  rw [e]
  show _≤la_sm n f+f n∧la_sm n f+f n≤_
  omega
theorem mtm_abs {S:Nat→Int} {k:Nat} (hk:k≤12) (hS:∀ i,1≤i→i≤12→0≤S i∧S i≤4096000000000000) (t:Nat) (ht:t < k):-4096000000000000≤mtm S k t∧mtm S k t≤4096000000000000:=by
 unfold mtm
 split
 ·have h1 := (mu_at (k := k / (t + 1)) (Nat.le_trans (Nat.div_le_self _ _) (by omega))).2.2
  have h2:=hS (t+1) (by omega) (by omega)
  have:mu (k / (t+1))=-1∨mu (k / (t+1))=0∨mu (k / (t+1))=1:=by omega
  rcases this with e|e|e<;>rw [e]<;>omega
 ·omega
theorem pof_l1 (K : Nat) (hK : K ≤ 12) (S : Nat → Int) (hS : ∀ i, 1 ≤ i → i ≤ 12 → 0 ≤ S i ∧ S i ≤ 4096000000000000) (out : List Int) (ho : out.length ≤ 12) (k : Nat) (h1 : 1 ≤ k) (h2 : k ≤ K) (x10 x11 : Int) (R : List Int)
  (next:Ev (fun q=>F81.l0 q (vrow K (fun i=>S (i+1))) (out ++ [Int.tdiv (la_sm k (mtm S k)) (k:Int)]) x10 (wrap64 (x11+1))) R):∀ (d t:Nat),t+d=k→Ev (fun q=>F81.l1 q (vrow K (fun i=>S (i+1))) out (k:Int) (la_sm t (mtm S k)) ((t+1:Nat):Int) x10 x11) R
 | 0,t,ht=>by
  obtain rfl:t=k:=by omega
  have hb:=sm_abs (n:=t) (f:=mtm S t) (B:=4096000000000000) (fun i hi=>mtm_abs (k:=t) (by omega) hS i hi)
  have hq:wrap64 (Int.tdiv (la_sm t (mtm S t)) (t:Int))=Int.tdiv (la_sm t (mtm S t)) (t:Int):=by
   have h3:=Int.natAbs_tdiv (la_sm t (mtm S t)) (t:Int)
   have h4:(Int.tdiv (la_sm t (mtm S t)) (t:Int)).natAbs≤(la_sm t (mtm S t)).natAbs:=by rw [h3];exact Nat.div_le_self _ _
   refine w64 ?_ ?_<;>omega
  refine Ev.step (fun q=>by simp only [F81.l1];rfl) ?_
  simp only [show ¬ (((t+1:Nat):Int)≤(t:Int)) by omega,if_false,show ¬ ((t:Int)=0) by omega,show out.length < 17592186044416 by omega,if_true]
  rw [hq]
  exact next
 | d+1,t,ht=>by
  refine Ev.step (fun q=>by simp only [F81.l1];rfl) ?_
  simp only [show (((t+1:Nat):Int)≤(k:Int)) by omega,if_true,show ¬ (((t+1:Nat):Int)=0) by omega,if_false,tmodN,w64 (show -9223372036854775808≤((t+1:Nat):Int)+1 by omega) (by omega)]
  have ih:=pof_l1 K hK S hS out ho k h1 h2 x10 x11 R next d (t+1) (by omega)
  have hs:la_sm (t+1) (mtm S k)=la_sm t (mtm S k)+mtm S k t:=rfl
  by_cases hd:k % (t+1)=0
  ·have hb := sm_abs (n := t) (fun i hi => mtm_abs (k := k) (by omega) hS i (by omega))
   have hm:=mtm_abs (by omega) hS t (show t < k by omega)
   have he:mtm S k t=mu (k / (t+1)) * S (t+1):=by unfold mtm;rw [if_pos hd]
   rw [he] at hs hm
   clear he
   simp only [show (((k % (t+1):Nat):Int)=0) by omega,if_true,tdivN]
   have hz:=Nat.div_le_self k (t+1)
   generalize k / (t+1)=z at hz hs hm ⊢
   rw [wI ((z:Int)) (by omega)]
   refine Ev.bind (mu_at (show z≤24 by omega)).1 ?_
   rw [w64 (show -9223372036854775808≤((t+1:Nat):Int) - 1 by omega) (by omega),show ((t+1:Nat):Int) - 1=(t:Int) by omega,vrow_length,vrow_rd (show t < K by omega)]
   simp only [show (0≤(t:Int)) by omega,show ((t:Int) < (K:Int)) by omega,if_true]
   rw [wI (mu z * S (t+1)) (by omega),wI (la_sm t (mtm S k)+mu z * S (t+1)) (by omega),← hs]
   exact ih
  ·have he : mtm S k t = 0 := by unfold mtm; rw [if_neg hd]
   rw [he,Int.add_zero] at hs
   simp only [show ¬ (((k % (t+1):Nat):Int)=0) by omega,if_false]
   rw [← hs]
   exact ih
theorem primesOf_ev (K:Nat) (hK:K≤12) (S q:Nat→Int) (hS:∀ i,1≤i→i≤12→0≤S i∧S i≤4096000000000000) (hq:∀ k,1≤k→k≤12→la_sm k (mtm S k)=(k:Int) * q k):Ev (fun k=>F81.f k (vrow K (fun i=>S (i+1)))) (vrow K (fun i=>q (i+1))):=by
 unfold F81.f
 rw [vrow_length]
 have:∀ (d m:Nat),m+d=K→Ev (fun k=>F81.l0 k (vrow K (fun i=>S (i+1))) (vrow m (fun i=>q (i+1))) (K:Int) (m:Int)) (vrow K (fun i=>q (i+1))):=by
  intro d
  induction d with
  | zero =>
   intro m hm
   obtain rfl:m=K:=by omega
   refine Ev.step (fun q=>by simp only [F81.l0];rfl) ?_
   simp only [show ¬ ((m:Int) < (m:Int)) by omega,if_false]
   exact Ev.now _
  | succ d ih =>
   intro m hm
   refine Ev.step (fun q=>by simp only [F81.l0];rfl) ?_
   simp only [show ((m:Int) < (K:Int)) by omega,if_true,wI ((m:Int)+1) (by omega)]
   refine pof_l1 K hK S hS _ (by rw [vrow_length];omega) (m+1) (by omega) (by omega) _ _ _ ?_ (m+1) 0 (by omega)
   rw [hq (m+1) (by omega) (by omega),Int.mul_tdiv_cancel_left _ (show ((m+1:Nat):Int) ≠ 0 by omega),vrow_snoc m (fun i=>q (i+1)),wI ((m:Int)+1) (by omega)]
   exact ih (m+1) (by omega)
 exact this K 0 (by omega)
def lenC (a:Int) (l:List (List Int)) (n:Int):Int:=if isG a l=true then (if 1≤n∧n≤12 then 0 else 2) else 1
theorem isLength_eq (n:Int):F80.f n=some (decide (1≤n∧n≤12)):=by
 unfold F80.f
 rw [within_eq]
 simp only [Option.bind_some,Bool.decide_and]
theorem lenC_ev (a:Int) (l:List (List Int)) (n:Int) (hl:l.length≤maxLen):Ev (fun q=>(F49.f q a l).bind fun b=>if b=true then ((F80.f n).bind fun q0=>if q0=true then some 0 else some 2) else some 1) (lenC a l n):=by
 refine Ev.bind (impl_IsGraph_ev a l hl) ?_
 unfold lenC
 rw [isLength_eq]
 cases isG a l
 ·exact Ev.now _
 ·simp only [if_true, Option.bind_some]
  by_cases h:1≤n∧n≤12
  ·simp only [h,and_self,decide_true,if_true];exact Ev.now _
  ·simp only [h,decide_false,Bool.false_eq_true,if_false];exact Ev.now _
theorem lenC_ok {a:Int} {l:List (List Int)} {n:Int} (h:lenC a l n=0):isG a l=true∧1≤n∧n≤12:=by
 unfold lenC at h
 by_cases hg:isG a l=true
 ·rw [if_pos hg] at h
  by_cases hn:1≤n∧n≤12
  ·exact ⟨hg,hn⟩
  ·rw [if_neg hn] at h;omega
 ·rw [if_neg hg] at h;omega
theorem lenC_in {a:Int} {l:List (List Int)} {n:Int} (hg:isG a l=true) (hn:1≤n∧n≤12):lenC a l n=0:=by unfold lenC;rw [if_pos hg,if_pos hn]
theorem isG_max {a:Int} {l:List (List Int)} (h:isG a l=true):l.length≤maxLen:=Nat.le_trans (isG_len h) (by decide)
theorem primeNumber_bad {a:Int} {l:List (List Int)} {n:Int} (hl:l.length≤maxLen) (h:lenC a l n ≠ 0):Ev (fun q=>F29.f q a l n) (0,lenC a l n):=by
 unfold F29.f
 refine Ev.bind (lenC_ev a l n hl) ?_
 simp only [h,if_false]
 exact Ev.now _
def isPr (l:List (List Int)) (p:Nat→Int):Prop:=∀ k,1≤k→k≤12→clN l k=la_sm 12 (fun j=>p (j+1) * dvN (j+1) k)
theorem primeNumber_ev {a:Int} {l:List (List Int)} {p:Nat→Int} (hp:isPr l p) (hg:isG a l=true) {K:Nat} (h1:1≤K) (h2:K≤12):Ev (fun q=>F29.f q a l (K:Int)) (p K,0):=by
 unfold F29.f
 have hc:=lenC_ev a l K (isG_max hg)
 rw [lenC_in hg (by omega)] at hc
 refine Ev.bind hc ?_
 simp only [if_true]
 have ht:=eTraces_ev a l hg K h2
 have hpr:=primesOf_ev K h2 (clN l) p (fun i hi1 hi2=>clN_box (isG_len hg) hi1 hi2) (fun k hk1 hk2=>mob_primes hp hk1 hk2)
 have he:=edgeMatrix_ev a l (isG_len hg) (isG_two hg)
 refine Ev.bind he ?_
 rw [edgeM_vmat]
 refine Ev.bind (traces_ev (by have:=isG_len hg;omega) (eA_rng l) K h2) ?_
 refine Ev.bind hpr ?_
 rw [wI ((K:Int) - 1) (by omega),show (K:Int) - 1=((K - 1:Nat):Int) by omega,vrow_length,vrow_rd (show K - 1 < K by omega),show K - 1+1=K by omega]
 simp only [show (0:Int)≤((K - 1:Nat):Int) by omega,show ((K - 1:Nat):Int) < (K:Int) by omega,if_true]
 exact Ev.now _
theorem closedNumber_ev {a:Int} {l:List (List Int)} (hg:isG a l=true) {K:Nat} (h1:1≤K) (h2:K≤12):Ev (fun q=>F30.f q a l (K:Int)) (clN l K,0):=by
 unfold F30.f
 have hc:=lenC_ev a l K (isG_max hg)
 rw [lenC_in hg (by omega)] at hc
 refine Ev.bind hc ?_
 simp only [if_true]
 refine Ev.bind (a:=clN l K) ?_ (Ev.now _)
 unfold F85.f
 refine Ev.bind (edgeMatrix_ev a l (isG_len hg) (isG_two hg)) ?_
 rw [edgeM_vmat]
 refine Ev.bind (traces_ev (by have:=isG_len hg;omega) (eA_rng l) K h2) ?_
 rw [wI ((K:Int) - 1) (by omega),show (K:Int) - 1=((K - 1:Nat):Int) by omega,vrow_length,vrow_rd (show K - 1 < K by omega),show K - 1+1=K by omega]
 simp only [show (0:Int)≤((K - 1:Nat):Int) by omega,show ((K - 1:Nat):Int) < (K:Int) by omega,if_true]
 exact Ev.now _
/-- The numbers of a graph's reciprocal. -/
def rcN (l:List (List Int)) (k:Nat):Int:=la_cp (2 * l.length) (eA l) k
theorem rc_trim (l:List (List Int)) (i:Nat):rd (trimN (cpL (2 * l.length) (eA l)) (2 * l.length+1)) (i:Int)=rcN l i:=by
 rw [trimN_rd]
 by_cases h:i < 2 * l.length+1
 ·rw [if_pos h]
  exact vrow_rd (g:=la_cp (2 * l.length) (eA l)) h
 ·rw [if_neg h]
  exact (la_dc_top _ _ i (by omega)).symm
theorem euler_ev {a:Int} {l:List (List Int)} (hg:isG a l=true) {K:Nat} (h2:K≤12):Ev (fun q=>F32.f q a l (K:Int)) (vrow (K+1) (rcN l),0):=by
 unfold F32.f F87.f
 have hc:Ev (fun q=>(F49.f q a l).bind fun b=>if b=true then ((F70.f (K:Int) 0 12).bind fun q0=>if q0=true then some 0 else some 2) else some 1) (0:Int):=by
  refine Ev.bind (impl_IsGraph_ev a l (isG_max hg)) ?_
  rw [hg,within_eq]
  simp only [if_true,Option.bind_some,zI' K,show (K:Int)≤12 by omega,decide_true,Bool.and_self]
  exact Ev.now _
 refine Ev.bind hc ?_
 simp only [if_true]
 refine Ev.bind (reciprocal_ev a l hg) ?_
 rw [wI ((K:Int)+1) (by omega)]
 have:∀ (d m:Nat),m+d=K+1→Ev (fun q=>F32.l0 q (vrow m (rcN l)) (trimN (cpL (2 * l.length) (eA l)) (2 * l.length+1)) ((K:Int)+1) (m:Int)) (vrow (K+1) (rcN l),0):=by
  intro d
  induction d with
  | zero =>
   intro m hm
   obtain rfl:m=K+1:=by omega
   refine Ev.step (fun q=>by simp only [F32.l0];rfl) ?_
   simp only [show ¬ (((K+1:Nat):Int) < (K:Int)+1) by omega,if_false]
   exact Ev.now _
  | succ d ih =>
   intro m hm
   refine Ev.step (fun q=>by simp only [F32.l0];rfl) ?_
   simp only [show ((m:Int) < (K:Int)+1) by omega,if_true,at_eq,Option.bind_some,rc_trim,show (vrow m (rcN l)).length < 17592186044416 by rw [vrow_length];omega,wI ((m:Int)+1) (by omega)]
   rw [vrow_snoc m (rcN l)]
   exact ih (m+1) (by omega)
 exact this (K+1) 0 (by omega)
theorem closed_newton {l:List (List Int)} {K k:Nat} (hk:k≤K):nwAt (rcN l) (vrow K (fun t=>clN l (t+1))) k:=by
 have h:=(nw_trace (2 * l.length) (eA l)).2 k
 unfold nwW at h
 unfold nwAt
 rw [la_sm_congr (g:=fun i=>la_cp (2 * l.length) (eA l) i * mtr (2 * l.length) (eA l) (k - i)) (fun i hi=>by
  rw [vrow_rd (show k - i - 1 < K by omega),show k - i - 1+1=k - i by omega]
  rfl)]
 exact h
theorem closed_poly (l:List (List Int)) (K:Nat):poR (vrow K (fun t=>clN l (t+1)))=([],2)∨poR (vrow K (fun t=>clN l (t+1)))=([],3)∨poR (vrow K (fun t=>clN l (t+1)))=(trimN (vrow (K+1) (rcN l)) (K+1),0):=by
 unfold poR
 split
 ·have h := poO_exact (rcN l) (vrow K (fun t => clN l (t + 1))) (fun k _ hk => closed_newton (by rw [vrow_length] at hk; exact hk)) K 1 (by omega) (by rw [vrow_length]; omega)
  rw [show vrow 1 (rcN l)=[1] from congrArg (fun x=>[x]) (la_cp_zero _ _),vrow_length] at h
  rw [vrow_length]
  exact .inr h
 ·exact .inl rfl
theorem closed_primes {l:List (List Int)} {p:Nat→Int} (hp:isPr l p) {K:Nat} (h2:K≤12):gpR (vrow K (fun t=>clN l (t+1)))=([],2)∨gpR (vrow K (fun t=>clN l (t+1)))=([],3)∨gpR (vrow K (fun t=>clN l (t+1)))=(vrow K (fun i=>p (i+1)),0):=by
 unfold gpR
 split
 ·have h:=gpO_exact p (vrow K (fun t=>clN l (t+1))) (fun k hk1 hk2=>by
   rw [vrow_length] at hk2
   rw [← mob_primes hp hk1 (by omega)]
   refine la_sm_congr fun t ht=>?_
   unfold mtm
   simp only [show t+1 - 1=t by omega]
   rw [vrow_rd (show t < K by omega)]) K 0 (by rw [vrow_length];omega)
  rw [vrow_length] at h ⊢
  exact .inr h
 ·exact .inl rfl
theorem plaw_l2 {s : List Int} (hj : Ev (fun q => F4.j9 q s) true) (l : List (List Int)) (K : Nat) (hK : K ≤ 12) (x21 : List Int) (x22 : Int) (hx : x22 = 0 → ∀ i : Nat, i ≤ K → rd x21 (i : Int) = rcN l i) : ∀ (d m : Nat), m + d = K + 1 → Ev (fun q => F4.l2 q s x21 x22 (vrow (K + 1) (rcN l)) (m : Int)) true
 | d,m,hm=>by
  refine Ev.step (fun q=>by simp only [F4.l2];rfl) ?_
  by_cases h0:x22=0
  ·simp only [if_pos h0]
   rw [vrow_length]
   refine Ev.step (fun q=>by simp only [F4.j8];rfl) ?_
   match d,hm with
   | 0,hm =>
    simp only [show ¬ ((m:Int) < ((K+1:Nat):Int)) by omega,decide_false,Bool.false_eq_true,if_false]
    exact hj
   | d+1,hm =>
    have ih:=plaw_l2 hj l K hK x21 x22 hx d (m+1) (by omega)
    rw [vrow_length,vrow_rd (show m < K+1 by omega),wI ((m:Int)+1) (by omega)]
    simp only [show ((m:Int) < ((K+1:Nat):Int)) by omega,decide_true,if_true,zI' m]
    have e:=hx h0 m (by omega)
    by_cases hf:(m:Int) < (x21.length:Int)
    ·simp only [hf, if_true, e]
     exact ih
    ·rw [rd_far2 x21 m (by omega)] at e
     simp only [hf,if_false,← e,if_true]
     exact ih
  ·simp only [if_neg h0]
   refine Ev.step (fun q=>by simp only [F4.j8];rfl) ?_
   simp only [Bool.false_eq_true,if_false]
   exact hj
theorem plaw_l1 {s : List Int} (hj : Ev (fun q => F4.j9 q s) true) {a : Int} {l : List (List Int)} {p : Nat → Int} (hp : isPr l p) (hg : isG a l = true) (K : Nat) (hK : K ≤ 12) (x19 : List Int) (x20 : Int) (h19 : x20 = 0 → x19 = vrow K (fun i => p (i + 1))) (x21 : List Int) (x22 : Int) (hx : x22 = 0 → ∀ i : Nat, i ≤ K → rd x21 (i : Int) = rcN l i) : ∀ (d m : Nat), m + d = K → Ev (fun q => F4.l1 q s x19 x20 x21 x22 (vrow (K + 1) (rcN l)) (m : Int) a l) true
 | d,m,hm=>by
  refine Ev.step (fun q=>by simp only [F4.l1];rfl) ?_
  by_cases h0:x20=0
  ·simp only [if_pos h0]
   obtain rfl:=h19 h0
   rw [vrow_length]
   refine Ev.step (fun q=>by simp only [F4.j6];rfl) ?_
   match d,hm with
   | 0,hm =>
    simp only [show ¬ ((m:Int) < (K:Int)) by omega,decide_false,Bool.false_eq_true,if_false]
    exact plaw_l2 hj l K hK x21 x22 hx (K+1) 0 (by omega)
   | d+1,hm =>
    have ih:=plaw_l1 hj hp hg K hK _ x20 h19 x21 x22 hx d (m+1) (by omega)
    simp only [show ((m:Int) < (K:Int)) by omega,decide_true,if_true]
    rw [wI ((m:Int)+1) (by omega)]
    refine Ev.bind (primeNumber_ev hp hg (K:=m+1) (by omega) (by omega)) ?_
    rw [vrow_length,vrow_rd (show m < K by omega)]
    simp only [if_true,zI' m,show ((m:Int) < (K:Int)) by omega]
    exact ih
  ·simp only [if_neg h0]
   refine Ev.step (fun q=>by simp only [F4.j6];rfl) ?_
   simp only [Bool.false_eq_true,if_false]
   exact plaw_l2 hj l K hK x21 x22 hx (K+1) 0 (by omega)
theorem plaw_l0 {s : List Int} (hj : Ev (fun q => F4.j9 q s) true) {a : Int} {l : List (List Int)} (hg : isG a l = true) (K : Nat) (hK : K ≤ 12) : ∀ (d m : Nat), m + d = K → Ev (fun q => F4.l0 q s (K : Int) (vrow m (fun t => clN l (t + 1))) ((m : Int) + 1) a l) true
 | d+1,m,hm=>by
  refine Ev.step (fun q=>by simp only [F4.l0];rfl) ?_
  simp only [show ((m:Int)+1≤(K:Int)) by omega,if_true]
  refine Ev.bind (closedNumber_ev hg (K:=m+1) (by omega) (by omega)) ?_
  simp only [if_true,show (vrow m (fun t=>clN l (t+1))).length < 17592186044416 by rw [vrow_length];omega]
  rw [vrow_snoc m (fun t=>clN l (t+1)),wI ((m:Int)+1+1) (by omega)]
  exact plaw_l0 hj hg K hK d (m+1) (by omega)
 | 0,m,hm=>by
  obtain rfl:m=K:=by omega
  obtain ⟨p,hp⟩:=clN_primes l
  refine Ev.step (fun q=>by simp only [F4.l0];rfl) ?_
  simp only [show ¬ ((m:Int)+1≤(m:Int)) by omega,if_false]
  refine Ev.bind (impl_PrimesOfSums_ev _) (Ev.bind (impl_PolynomialOfSums_ev _) (Ev.bind (euler_ev hg hK) ?_))
  have h1:(gpR (vrow m (fun t=>clN l (t+1)))).2 ≠ 4∧((gpR (vrow m (fun t=>clN l (t+1)))).2=0→(gpR (vrow m (fun t=>clN l (t+1)))).1=vrow m (fun i=>p (i+1))):=by
   rcases closed_primes hp hK with e|e|e<;>rw [e]
   ·exact ⟨by decide,fun h=>absurd h (by decide)⟩
   ·exact ⟨by decide,fun h=>absurd h (by decide)⟩
   ·exact ⟨(by decide:(0:Int) ≠ 4),fun _=>rfl⟩
  have h2:(poR (vrow m (fun t=>clN l (t+1)))).2 ≠ 4∧((poR (vrow m (fun t=>clN l (t+1)))).2=0→∀ i:Nat,i≤m→rd (poR (vrow m (fun t=>clN l (t+1)))).1 (i:Int)=rcN l i):=by
   rcases closed_poly l m with e|e|e<;>rw [e]
   ·exact ⟨by decide,fun h=>absurd h (by decide)⟩
   ·exact ⟨by decide,fun h=>absurd h (by decide)⟩
   ·refine ⟨(by decide : (0 : Int) ≠ 4), fun _ i hi => ?_⟩
    show rd (trimN (vrow (m+1) (rcN l)) (m+1)) (i:Int)=rcN l i
    rw [trimN_rd,if_pos (by omega),vrow_rd (by omega)]
  simp only [h1.1,h2.1,if_false]
  refine Ev.step (fun q=>by simp only [F4.j4];rfl) ?_
  simp only [bne_self_eq_false,Bool.false_eq_true,if_false]
  exact plaw_l1 hj hp hg m hK _ _ h1.2 _ _ h2.2 m 0 (by omega)
/-- A drawn list of edges: few, each of two numbers. -/
def twoB (l:List (List Int)):Prop:=l.length≤10∧∀ x ∈ l,x.length=2
theorem twoB_snoc {l:List (List Int)} (h:twoB l) (hl:l.length < 10) (x:List Int) (hx:x.length=2):twoB (l ++ [x]) :=
 ⟨by rw [List.length_append];show _+1≤_;omega,fun y hy=>by
  rcases List.mem_append.1 hy with hy|hy
  ·exact h.2 y hy
  ·rw [List.mem_singleton.1 hy];exact hx⟩
def TwoDrawn (s:List Int) (f:Nat→Option (Int × (List (List Int)) × Int × Int)):Prop:=∃ (a:Int) (l:List (List Int)) (t h:Int),Ev f (a,l,t,h)∧twoB l∧0≤t∧t≤s.length
theorem TwoDrawn.step_ {s:List Int} {g f:Nat→Option (Int × (List (List Int)) × Int × Int)} (h:∀ k,g (k+1)=f k) (H:TwoDrawn s f):TwoDrawn s g:=by
 obtain ⟨a,l,t,h',e,r⟩:=H
 exact ⟨a,l,t,h',Ev.step h e,r⟩
theorem twoOf_l1 {s:List Int} (hs:bytesOK s) (size edges:Int) (h1:1≤size∧size≤8) (he:0≤edges∧edges≤10) (a:Int):∀ (d:Nat) (c t h:Int) (l:List (List Int)),c≤d→0≤c→c≤10→twoB l→l.length≤10→0≤t∧t≤s.length→TwoDrawn s (fun k=>F63.l1 k size edges c s t h a l):=by
 intro d
 induction d with
 | zero =>
  intro c t h l hc hc0 _ hl hl10 ht
  refine TwoDrawn.step_ (fun k=>by simp only [F63.l1];rfl) ?_
  simp only [show ¬ (c > 0) by omega,if_false]
  refine TwoDrawn.step_ (fun k=>by simp only [F63.j3];rfl) ?_
  simp only [Bool.false_eq_true,if_false]
  exact ⟨a,l,t,h,Ev.now _,hl,ht⟩
 | succ d ih =>
  intro c t h l hc hc0 hc10 hl hl10 ht
  have stop:TwoDrawn s (fun k=>F63.j3 k size edges c false s t h a l):=by
   refine TwoDrawn.step_ (fun k=>by simp only [F63.j3];rfl) ?_
   simp only [Bool.false_eq_true,if_false]
   exact ⟨a,l,t,h,Ev.now _,hl,ht⟩
  refine TwoDrawn.step_ (fun k=>by simp only [F63.l1];rfl) ?_
  by_cases hc1:c > 0
  ·simp only [hc1, if_true]
   by_cases hb:(l.length:Int) < edges
   ·simp only [hb, decide_true]
    refine TwoDrawn.step_ (fun k=>by simp only [F63.j3];rfl) ?_
    obtain ⟨x,t1,g1,e1,b1,_,r1⟩:=next_ev hs t h size ht
    obtain ⟨y,t2,g2,e2,b2,_,r2⟩:=next_ev hs t1 g1 size b1
    have hcap:l.length < 5864062014805:=by omega
    have cont:∀ (z:List Int) (t' h':Int),z.length=2→0≤t'∧t'≤s.length→TwoDrawn s (fun k=>F63.l1 k size edges (c - 1) s t' h' a (l ++ [z])):=fun z t' h' hz ht' =>
     ih (c - 1) t' h' (l ++ [z]) (by omega) (by omega) (by omega) (twoB_snoc hl (by omega) z hz) (by rw [List.length_append];show l.length+1≤10;omega) ht'
    simp only [e1,e2,Option.bind_some,hcap,if_true,wI (c - 1) (by omega)]
    by_cases hxy:x=y
    ·obtain ⟨q, t3, g3, e3, b3, _, r3⟩ := next_ev hs t2 g2 3 b2
     simp only [hxy,if_true,e3,Option.bind_some]
     by_cases hq:q > 0
     ·simp only [hq, if_true, show ¬ (size = 0) by omega, if_false]
      exact cont _ _ _ (by simp) b3
     ·simp only [hq, if_false]
      exact cont _ _ _ (by simp) b3
    ·simp only [hxy, if_false]
     exact cont _ _ _ (by simp) b2
   ·simp only [hb, decide_false]
    exact stop
  ·simp only [hc1, if_false]
   exact stop
theorem twoOf_l0 {s:List Int} (hs:bytesOK s) (size edges:Int) (h1:1≤size∧size≤8) (he:0≤edges∧edges≤10) (j:Bool) (a:Int):∀ (d:Nat) (v t h:Int) (l:List (List Int)),size - v≤d→1≤v→v≤9→twoB l→l.length≤10→0≤t∧t≤s.length→TwoDrawn s (fun k=>F63.l0 k size edges j v s t h a l):=by
 intro d
 induction d with
 | zero =>
  intro v t h l hv hv1 hv9 hl hl10 ht
  refine TwoDrawn.step_ (fun k=>by simp only [F63.l0];rfl) ?_
  simp only [show ¬ (v < size) by omega,if_false]
  refine TwoDrawn.step_ (fun k=>by simp only [F63.j1];rfl) ?_
  obtain ⟨x,t1,g1,e1,b1,z1,r1⟩:=next_ev hs t h (edges+1) ht
  simp only [Bool.false_eq_true,if_false,wI (edges+1) (by omega),e1,Option.bind_some]
  have hx:=r1 (by omega)
  exact twoOf_l1 hs size edges h1 he a 10 x t1 g1 l (by omega) (by omega) (by omega) hl hl10 b1
 | succ d ih =>
  intro v t h l hv hv1 hv9 hl hl10 ht
  have stop:TwoDrawn s (fun k=>F63.j1 k size edges j v false s t h a l):=by
   refine TwoDrawn.step_ (fun k=>by simp only [F63.j1];rfl) ?_
   obtain ⟨x,t1,g1,e1,b1,z1,r1⟩:=next_ev hs t h (edges+1) ht
   simp only [Bool.false_eq_true,if_false,wI (edges+1) (by omega),e1,Option.bind_some]
   have hx:=r1 (by omega)
   exact twoOf_l1 hs size edges h1 he a 10 x t1 g1 l (by omega) (by omega) (by omega) hl hl10 b1
  refine TwoDrawn.step_ (fun k=>by simp only [F63.l0];rfl) ?_
  by_cases hc:v < size
  ·simp only [hc, if_true]
   cases j with
   | false=>simp only [Bool.false_eq_true,if_false];exact stop
   | true =>
    simp only [if_true]
    by_cases hb:(l.length:Int) < edges
    ·simp only [hb, decide_true]
     refine TwoDrawn.step_ (fun k=>by simp only [F63.j1];rfl) ?_
     obtain ⟨x,t1,g1,e1,b1,_,r1⟩:=next_ev hs t h v ht
     obtain ⟨y,t2,g2,e2,b2,_,r2⟩:=next_ev hs t1 g1 2 b1
     have hcap:l.length < 5864062014805:=by omega
     have cont:∀ (z:List Int),z.length=2→TwoDrawn s (fun k=>F63.l0 k size edges true (v+1) s t2 g2 a (l ++ [z])):=fun z hz =>
      ih (v+1) t2 g2 (l ++ [z]) (by omega) (by omega) (by omega) (twoB_snoc hl (by omega) z hz) (by rw [List.length_append];show l.length+1≤10;omega) b2
     simp only [e1,e2,Option.bind_some,hcap,if_true,wI (v+1) (by omega)]
     by_cases hy:y=0
     ·simp only [hy,if_true];exact cont _ (by simp)
     ·simp only [hy,if_false];exact cont _ (by simp)
    ·simp only [hb,decide_false];exact stop
  ·simp only [hc,if_false];exact stop
theorem twoOf_ev {s:List Int} (hs:bytesOK s) (size edges t h:Int) (h1:1≤size∧size≤8) (he:0≤edges∧edges≤10) (ht:0≤t∧t≤s.length):TwoDrawn s (fun k=>F63.f k s t h size edges):=by
 obtain ⟨x,t1,g1,e1,b1,_,_⟩:=next_ev hs t h 3 ht
 unfold F63.f
 simp only [e1,Option.bind_some]
 exact twoOf_l0 hs size edges h1 he _ size 8 1 t1 g1 [] (by omega) (by omega) (by omega) ⟨by simp,fun x hx=>by cases hx⟩ (by simp) b1
/-- A draw of a list of numbers, of no more than m. -/
def NumsDrawn (m:Nat) (s:List Int) (f:Nat→Option (List Int × Int × Int)):Prop:=∃ (l:List Int) (t h:Int),Ev f (l,t,h)∧l.length≤m∧0≤t∧t≤s.length
theorem NumsDrawn.step_ {m:Nat} {s:List Int} {g f:Nat→Option (List Int × Int × Int)} (h:∀ k,g (k+1)=f k) (H:NumsDrawn m s f):NumsDrawn m s g:=by
 obtain ⟨l,t,h',e,r⟩:=H
 exact ⟨l,t,h',Ev.step h e,r⟩
theorem NumsDrawn.bind_ {α:Type} {m:Nat} {s:List Int} {f:Nat→Option α} {a:α} {g:Nat→α→Option (List Int × Int × Int)} (hf:Ev f a) (H:NumsDrawn m s (fun k=>g k a)):NumsDrawn m s (fun k=>(f k).bind fun x=>g k x):=by
 obtain ⟨l,t,h',e,r⟩:=H
 exact ⟨l,t,h',Ev.bind hf e,r⟩
theorem drawPoly_l0 {s : List Int} (hs : bytesOK s) (gr : Int) (M : Nat) (hM : M ≤ 1000) : ∀ (d : Nat) (out : List Int) (t h : Int), out.length + d ≤ M → (0 ≤ t ∧ t ≤ s.length) → NumsDrawn M s (fun k => F103.l0 k out gr (d : Int) s t h)
 | 0,out,t,h,hd,ht=>by
  refine NumsDrawn.step_ (fun k=>by simp only [F103.l0];rfl) ?_
  simp only [show ¬ (((0:Nat):Int) > 0) by omega,if_false]
  refine NumsDrawn.bind_ (l01Trim_ev out (by omega)) ?_
  exact ⟨_,_,_,Ev.now _,Nat.le_trans (trimN_length out out.length) (by omega),ht⟩
 | d+1,out,t,h,hd,ht=>by
  refine NumsDrawn.step_ (fun k=>by simp only [F103.l0];rfl) ?_
  obtain ⟨x,t1,g1,e1,b1,_,_⟩:=next_ev hs t h (wrap64 ((wrap64 (2 * gr))+1)) ht
  obtain ⟨y,t2,g2,e2,b2,_⟩:=pick_ev hs t1 g1 [0,1,1] (by simp) b1
  simp only [show (((d+1:Nat):Int) > 0) by omega,if_true,e1,e2,Option.bind_some,show out.length < 17592186044416 by omega,show ((d+1:Nat):Int) - 1=(d:Int) by omega,wI ((d:Int)) (by omega)]
  exact drawPoly_l0 hs gr M hM d (out ++ [_]) t2 g2 (by rw [List.length_append];show out.length+1+d≤M;omega) b2
theorem drawPoly_ev {s:List Int} (hs:bytesOK s) (t h:Int) (M:Nat) (hM:M≤1000) (ht:0≤t∧t≤s.length):NumsDrawn M s (fun k=>F103.f k s t h (M:Int)):=by
 unfold F103.f
 obtain ⟨x,t1,g1,e1,b1,_⟩:=pick_ev hs t h [1,3,9,100,1000000] (by simp) ht
 obtain ⟨y,t2,g2,e2,b2,_,r2⟩:=next_ev hs t1 g1 ((M:Int)+1) b1
 have r2:=r2 (by omega)
 obtain ⟨z,rfl⟩:∃ z:Nat,y=z:=⟨y.toNat,by omega⟩
 simp only [e1,Option.bind_some,wI ((M:Int)+1) (by omega),e2]
 exact drawPoly_l0 hs x M hM z [] t2 g2 (by simp;omega) b2
theorem rough_l0 (s : List Int) : ∀ (d : Nat) (out : List Int) (t h : Int), out.length + d = 41 → (0 ≤ t ∧ t ≤ s.length) → NumsDrawn 41 s (fun k => F105.l0 k out s t h)
 | 0,out,t,h,hd,ht=>by
  refine NumsDrawn.step_ (fun k=>by simp only [F105.l0];rfl) ?_
  simp only [show ¬ ((out.length:Int)≤40) by omega,if_false]
  exact ⟨_,_,_,Ev.now _,by omega,ht⟩
 | d+1,out,t,h,hd,ht=>by
  refine NumsDrawn.step_ (fun k=>by simp only [F105.l0];rfl) ?_
  simp only [show ((out.length:Int)≤40) by omega,if_true,show out.length < 17592186044416 by omega]
  exact rough_l0 s d _ t h (by rw [List.length_append];show out.length+1+d=41;omega) ht
theorem rough_ev {s:List Int} (hs:bytesOK s) (t h:Int) (l:List Int) (hl:l.length≤40) (ht:0≤t∧t≤s.length):NumsDrawn 41 s (fun k=>F105.f k s t h l):=by
 unfold F105.f
 obtain ⟨x,t1,g1,e1,b1,_,_⟩:=next_ev hs t h 30 ht
 have hcap:l.length < 17592186044416:=by omega
 simp only [e1,Option.bind_some,l01Own_eq l (by omega),hcap,if_true]
 have one:∀ v:Int,(l ++ [v]).length≤41:=fun v=>by rw [List.length_append];show l.length+1≤41;omega
 by_cases h0:x=0
 ·simp only [h0, if_true]
  exact ⟨_,_,_,Ev.now _,one _,b1⟩
 ·simp only [h0, if_false]
  by_cases h2:x=1
  ·obtain ⟨y, t2, g2, e2, b2, _⟩ := pick_ev hs t1 g1 [1000000000000001, (-1000000000000001)] (by simp) b1
   simp only [h2,if_true,e2,Option.bind_some]
   exact ⟨_,_,_,Ev.now _,one _,b2⟩
  ·simp only [h2, if_false]
   by_cases h3:x=2
   ·obtain ⟨y, t2, g2, e2, b2, _⟩ := pick_ev hs t1 g1 [1000000000000000, (-1000000000000000), 333333333333333] (by simp) b1
    simp only [h3,if_true,e2,Option.bind_some]
    exact ⟨_,_,_,Ev.now _,one _,b2⟩
   ·simp only [h3, if_false]
    by_cases h4:x=3
    ·simp only [h4, if_true]
     exact rough_l0 s (41 - l.length) l t1 g1 (by omega) b1
    ·simp only [h4, if_false]
     exact ⟨_,_,_,Ev.now _,by omega,b1⟩
theorem poly_j0 {s:List Int} (hs:bytesOK s) (t h:Int) (l:List Int) (hl:l.length≤40) (ht:0≤t∧t≤s.length):NumsDrawn 41 s (fun k=>F66.j0 k l s t h):=by
 refine NumsDrawn.step_ (fun k=>by simp only [F66.j0];rfl) ?_
 obtain ⟨x,t1,g1,e1,b1,_,_⟩:=next_ev hs t h 20 ht
 simp only [e1,Option.bind_some]
 by_cases h0:x=0
 ·simp only [h0, if_true]
  obtain ⟨f,t2,g2,e2,r2,b2⟩:=drawPoly_ev hs t1 g1 5 (by omega) b1
  refine NumsDrawn.bind_ e2 ?_
  obtain ⟨f3,t3,g3,e3,r3,b3⟩:=rough_ev hs t2 g2 f (by omega) b2
  exact ⟨_,_,_,Ev.bind e3 (Ev.now _),r3,b3⟩
 ·simp only [h0, if_false]
  obtain ⟨f3,t3,g3,e3,r3,b3⟩:=rough_ev hs t1 g1 l hl b1
  exact ⟨_,_,_,Ev.bind e3 (Ev.now _),r3,b3⟩
theorem poly_ev {s:List Int} (hs:bytesOK s) (t h:Int) (ht:0≤t∧t≤s.length):NumsDrawn 41 s (fun k=>F66.f k s t h):=by
 unfold F66.f
 simp only [Option.bind_some]
 obtain ⟨f,t1,g1,e1,r1,b1⟩:=drawPoly_ev hs t h 6 (by omega) ht
 refine NumsDrawn.bind_ e1 ?_
 have hlen:([1] ++ f).length≤7:=by rw [List.length_append];show 1+f.length≤7;omega
 simp only [show ([1]:List Int).length+f.length < 17592186044416 by show 1+f.length < 17592186044416;omega,if_true]
 refine NumsDrawn.bind_ (l01Trim_ev ([1] ++ f) (by omega)) ?_
 have htl:=trimN_length ([1] ++ f) ([1] ++ f).length
 obtain ⟨x,t2,g2,e2,b2,_,_⟩:=next_ev hs t1 g1 3 b1
 simp only [e2,Option.bind_some]
 by_cases h0:x=0
 ·obtain ⟨y, t3, g3, e3, b3, _, r3⟩ := next_ev hs t2 g2 4 b2
  have r3:=r3 (by omega)
  simp only [h0,if_true,e3,Option.bind_some,wI (1+y) (by omega)]
  obtain ⟨a,l,t4,g4,e4,d4,b4⟩:=twoOf_ev hs (1+y) 4 t3 g3 (by omega) (by omega) b3
  refine NumsDrawn.bind_ e4 ?_
  refine NumsDrawn.bind_ (l09Rows_ev a l d4.1 d4.2) ?_
  rw [edgeM_vmat]
  refine NumsDrawn.bind_ (berkowitz_ev (2 * l.length) (by have:=d4.1;omega) (eA l)) ?_
  refine poly_j0 hs t4 g4 _ ?_ b4
  have:=trimN_length (vrow (2 * l.length+1) (fun m=>wrap64 (la_cp (2 * l.length) (eA l) m))) (2 * l.length+1)
  have:=d4.1
  omega
 ·simp only [h0, if_false]
  exact poly_j0 hs t2 g2 _ (by omega) b2
theorem psO_length (f : List Int) : ∀ (d : Nat) (out : List Int), (psO f d out).1.length ≤ out.length + d
 | 0,out=>by unfold psO;exact Nat.le_refl _
 | d+1,out=>by
  unfold psO
  split
  ·split
   ·rename_i s e
    have:=psO_length f d (out ++ [s])
    rw [List.length_append,show ([s]:List Int).length=1 from rfl] at this
    omega
   ·simp
  ·simp
theorem psR_length (f:List Int) (n:Int):(psR f n).1.length≤24:=by
 unfold psR
 split
 ·split
  ·split
   ·have := psO_length f n.toNat []
    simp only [List.length_nil] at this
    omega
   ·simp
  ·simp
 ·simp
theorem sums_j1 {s:List Int} (hs:bytesOK s) (t h:Int) (l:List Int) (hl:l.length≤40) (ht:0≤t∧t≤s.length):NumsDrawn 41 s (fun k=>F88.j1 k l s t h):=by
 refine NumsDrawn.step_ (fun k=>by simp only [F88.j1];rfl) ?_
 obtain ⟨x,t1,g1,e1,b1,_,_⟩:=next_ev hs t h 24 ht
 simp only [e1,Option.bind_some]
 by_cases h0:x=0
 ·obtain ⟨y, t2, g2, e2, b2, _⟩ := pick_ev hs t1 g1 [1000000000000000, 1000000000000001, (-1000000000000000)] (by simp) b1
  simp only [h0,if_true,l01Own_eq l (by omega),e2,Option.bind_some,show l.length < 17592186044416 by omega]
  exact ⟨_,_,_,Ev.now _,by rw [List.length_append];show l.length+1≤41;omega,b2⟩
 ·simp only [h0, if_false]
  exact ⟨_,_,_,Ev.now _,by omega,b1⟩
theorem sums_j0 {s:List Int} (hs:bytesOK s) (t h:Int) (l:List Int) (hl:l.length≤40) (ht:0≤t∧t≤s.length):NumsDrawn 41 s (fun k=>F88.j0 k l s t h):=by
 refine NumsDrawn.step_ (fun k=>by simp only [F88.j0];rfl) ?_
 obtain ⟨x,t1,g1,e1,b1,_,_⟩:=next_ev hs t h 8 ht
 simp only [e1,Option.bind_some]
 by_cases h0:x=0
 ·simp only [h0, if_true]
  obtain ⟨f,t2,g2,e2,r2,b2⟩:=drawPoly_ev hs t1 g1 8 (by omega) b1
  exact NumsDrawn.bind_ e2 (sums_j1 hs t2 g2 f (by omega) b2)
 ·simp only [h0, if_false]
  by_cases h2:x=1
  ·simp only [h2, if_true]
   by_cases h3:(l.length:Int) > 0
   ·obtain ⟨y, t2, g2, e2, b2, _, r2⟩ := next_ev hs t1 g1 (l.length : Int) b1
    have r2:=r2 (by omega)
    obtain ⟨z,t3,g3,e3,b3,_⟩:=pick_ev hs t2 g2 [1,(-1),2] (by simp) b2
    simp only [h3,if_true,e2,e3,Option.bind_some,r2.1,r2.2]
    exact sums_j1 hs t3 g3 _ (by rw [List.length_set];exact hl) b3
   ·simp only [h3, if_false]
    exact sums_j1 hs t1 g1 l hl b1
  ·simp only [h2, if_false]
   exact sums_j1 hs t1 g1 l hl b1
theorem drawSums_ev {s:List Int} (hs:bytesOK s) (t h:Int) (ht:0≤t∧t≤s.length):NumsDrawn 41 s (fun k=>F88.f k s t h):=by
 unfold F88.f
 obtain ⟨f,t1,g1,e1,r1,b1⟩:=poly_ev hs t h ht
 refine NumsDrawn.bind_ e1 ?_
 obtain ⟨y,t2,g2,e2,b2,_⟩:=pick_ev hs t1 g1 [4,8,25] (by simp) b1
 obtain ⟨n,t3,g3,e3,b3,_,_⟩:=next_ev hs t2 g2 y b2
 simp only [e2,e3,Option.bind_some]
 refine NumsDrawn.bind_ (spec_PowerSumsOf_ev f n (by omega)) ?_
 have hl:=psR_length f n
 by_cases h0:(psR f n).2=0
 ·simp only [h0, if_true]
  exact sums_j0 hs t3 g3 _ (by omega) b3
 ·simp only [h0, if_false]
  obtain ⟨q,t4,g4,e4,r4,b4⟩:=drawPoly_ev hs t3 g3 6 (by omega) b3
  exact NumsDrawn.bind_ e4 (sums_j0 hs t4 g4 q (by omega) b4)
theorem drawPowerSums_ev {s:List Int} (hs:bytesOK s):∃ f n,Ev (fun k=>F24.f k s) (f,n)∧f.length≤41:=by
 obtain ⟨h0,e0⟩:=from_ev hs
 obtain ⟨f,t1,g1,e1,r1,b1⟩:=poly_ev hs 0 h0 ⟨by omega,by omega⟩
 obtain ⟨x,t2,g2,e2,b2⟩:=near_ev hs t1 g1 24 b1
 obtain ⟨y,t3,g3,e3,b3,_⟩:=pick_ev hs t2 g2 [0,1,3,6,x] (by simp) b2
 refine ⟨f,y,?_,r1⟩
 unfold F24.f
 refine Ev.bind e0 (Ev.bind e1 ?_)
 simp only [e2,e3,Option.bind_some]
 exact Ev.now _
theorem drawPrimeNumber_ev {s:List Int} (hs:bytesOK s):∃ a l n,Ev (fun k=>F28.f k s) (a,l,n)∧drawOK 11 3 l:=by
 obtain ⟨h0,e0⟩:=from_ev hs
 obtain ⟨a,l,t1,g1,e1,d1,b1⟩:=spoil_ev hs 0 h0 ⟨by omega,by omega⟩
 obtain ⟨x,t2,g2,e2,b2⟩:=near_ev hs t1 g1 12 b1
 obtain ⟨y,t3,g3,e3,b3,_⟩:=pick_ev hs t2 g2 [1,2,3,4,5,x] (by simp) b2
 refine ⟨a,l,y,?_,d1⟩
 unfold F28.f F78.f
 refine Ev.bind (a:=(a,l,y)) (Ev.bind e0 (Ev.bind e1 ?_)) (Ev.now _)
 simp only [e2,e3,Option.bind_some]
 exact Ev.now _
theorem drawSumsOf_ev {s:List Int} (hs:bytesOK s):∃ l,Ev (fun k=>F33.f k s) l∧Ev (fun k=>F35.f k s) l∧l.length≤41:=by
 obtain ⟨h0,e0⟩:=from_ev hs
 obtain ⟨f,t1,g1,e1,r1,_⟩:=drawSums_ev hs 0 h0 ⟨by omega,by omega⟩
 refine ⟨f,?_,?_,r1⟩
 ·unfold F33.f
  exact Ev.bind e0 (Ev.bind e1 (Ev.now _))
 ·unfold F35.f
  exact Ev.bind e0 (Ev.bind e1 (Ev.now _))
end Go.Proofs.Ytgjdbnipcpmhiaa.P
namespace Go.Proofs.Ytgjdbnipcpmhiaa.Pure
open Go.RowKit Go.Proofs.YtgjdbnipcpmhiaaW.PrintWords Go.Proofs.YtgjdbnipcpmhiaaW.PrintLast Go.Proofs.YtgjdbnipcpmhiaaW.PrintMore Go.Proofs.Ytgjdbnipcpmhiaa.P
theorem poO_length (sums : List Int) : ∀ (d : Nat) (out : List Int), (poO sums d out).1.length ≤ out.length + d
 | 0,out=>by unfold poO;exact trimN_length out out.length
 | d+1,out=>by
  unfold poO
  split
  ·simp
  ·split
   ·rename_i v _ _
    have:=poO_length sums d (out ++ [Int.tdiv (-v) ((out.length:Nat):Int)])
    rw [List.length_append,show ([Int.tdiv (-v) ((out.length:Nat):Int)]:List Int).length=1 from rfl] at this
    omega
   ·simp
theorem gpO_length (sums : List Int) : ∀ (d : Nat) (out : List Int), (gpO sums d out).1.length ≤ out.length + d
 | 0,out=>by unfold gpO;exact Nat.le_refl _
 | d+1,out=>by
  unfold gpO
  split
  ·simp
  ·split
   ·rename_i v _ _
    have:=gpO_length sums d (out ++ [Int.tdiv v ((out.length+1:Nat):Int)])
    rw [List.length_append,show ([Int.tdiv v ((out.length+1:Nat):Int)]:List Int).length=1 from rfl] at this
    omega
   ·simp
theorem poR_length (l:List Int):(poR l).1.length≤l.length+1:=by
 unfold poR
 split
 ·have := poO_length l l.length [1]
  simp only [List.length_cons,List.length_nil] at this
  omega
 ·simp
theorem gpR_length (l:List Int):(gpR l).1.length≤l.length:=by
 unfold gpR
 split
 ·have := gpO_length l l.length []
  simp only [List.length_nil] at this
  omega
 ·simp
theorem ps_j9 {s:List Int} (hs:bytesOK s):Ev (fun q=>F4.j9 q s) true:=by
 refine Ev.step (fun q=>by simp only [F4.j9];rfl) ?_
 obtain ⟨l,e1,e2,hl⟩:=drawSumsOf_ev hs
 refine Ev.bind e1 (Ev.bind (impl_PolynomialOfSums_ev l) (Ev.bind (spec_PolynomialOfSums_ev l (by omega)) (Ev.bind e2 (Ev.bind (impl_PrimesOfSums_ev l) (Ev.bind (spec_PrimesOfSums_ev l (by omega)) ?_)))))
 simp only [if_true]
 refine Ev.bind (likeInts_ev _ (by have:=poR_length l;omega)) ?_
 simp only [if_true]
 exact Ev.bind (likeInts_ev _ (by have:=gpR_length l;omega)) (Ev.now _)
theorem ps_j2 {s:List Int} (hs:bytesOK s):Ev (fun q=>F4.j2 q s) true:=by
 refine Ev.step (fun q=>by simp only [F4.j2];rfl) ?_
 obtain ⟨a,l,n,e,d⟩:=drawPrimeNumber_ev hs
 have hl:l.length≤maxLen:=Nat.le_trans d.1 (by decide)
 refine Ev.bind e ?_
 by_cases hc:lenC a l n=0
 ·obtain ⟨hg, hn⟩ := lenC_ok hc
  obtain ⟨K,rfl⟩:∃ K:Nat,n=K:=⟨n.toNat,by omega⟩
  obtain ⟨p,hp⟩:=clN_primes l
  refine Ev.bind (primeNumber_ev hp hg (K:=K) (by omega) (by omega)) ?_
  simp only [if_true]
  exact plaw_l0 (ps_j9 hs) hg K (by omega) K 0 (by omega)
 ·refine Ev.bind (primeNumber_bad hl hc) ?_
  simp only [hc,if_false]
  exact ps_j9 hs
theorem FnPowerSums:F4.Pure:=by
 intro s hm _ hb
 have hs:=bytes_ok hm hb
 refine Ev.rounds (r:=true) ?_
 unfold F4.f F5.f
 simp only [Option.bind_some]
 by_cases hbig:(s.length:Int) > 4096
 ·simp only [hbig,decide_true,if_true];exact Ev.now _
 ·simp only [hbig, decide_false, Bool.false_eq_true, if_false]
  obtain ⟨f,n,ed,hf⟩:=drawPowerSums_ev hs
  refine Ev.bind ed (Ev.bind (impl_PowerSumsOf_ev f n (by omega)) (Ev.bind (spec_PowerSumsOf_ev f n (by omega)) ?_))
  simp only [if_true]
  refine Ev.bind (likeInts_ev _ (by have:=psR_length f n;omega)) ?_
  simp only [Bool.not_true]
  refine Ev.step (fun q=>by simp only [F4.j0];rfl) ?_
  simp only [Bool.false_eq_true,if_false]
  have hj:=ps_j2 hs
  have off:Ev (fun q=>F4.j1 q s f (psR f n).1 false) true:=by
   refine Ev.step (fun q=>by simp only [F4.j1];rfl) ?_
   simp only [Bool.false_eq_true,if_false]
   exact hj
  by_cases h0:(psR f n).2=0
  ·simp only [h0, if_true]
   rw [wI ((f.length:Int) - 1) (by omega)]
   by_cases hn:n ≥ (f.length:Int) - 1
   ·simp only [hn, decide_true]
    refine Ev.step (fun q=>by simp only [F4.j1];rfl) ?_
    simp only [if_true]
    refine Ev.bind (impl_PolynomialOfSums_ev _) ?_
    rcases sums_back f n h0 hn with e|e<;>rw [e]
    ·simp only [show ¬ ((3 : Int) = 0) by decide, if_false, show ¬ ((3 : Int) = 4) by decide]
     exact hj
    ·simp only [if_true]
     refine Ev.bind (likeInts_ev _ (by omega)) ?_
     simp only [if_true,show ¬ ((0:Int)=4) by decide,if_false]
     exact hj
   ·simp only [hn, decide_false]
    exact off
  ·simp only [h0, if_false]
   exact off
end Go.Proofs.Ytgjdbnipcpmhiaa.Pure
/- Set with little white space, by a program. -/
