/- The functions that one law reaches, each as a Lean function, and that Go's call comes to what it says. Condition of each: that the Lean function answers (is not none). -/
import Derived.Test.YtoebojnhchocaaaAx0
import Derived.Test.YtoebojnhchocaaaAx17
namespace Go.Proofs.Ytoebojnhchocaaa.A
open Go.RowKit Go.Proofs.YtoebojnhchocaaaW.PrintWords Go.Proofs.YtoebojnhchocaaaW.PrintLast Go.Proofs.YtoebojnhchocaaaW.PrintMore
attribute [local go_sem] max2_int min2_int max_two min_two max_three min_three max_four min_four   -- for this text's walks alone
set_option linter.unusedVariables false
set_option linter.unusedSimpArgs false
/-! ### F88: function 88 -/
def F88.l0 : Nat → List (List Int) → Int → Int → Option (Int × List (List Int))
 | 0,_,_,_=>none
 | k+1,x,a,i=>if i < (x.length:Int) then (if 0≤i then ((F21.f k (rdL x i) a).bind fun t=>F88.l0 k (x.set i.toNat t.2) t.1 (wrap64 (i+1))) else none) else some (a,x)
def F88.f (k:Nat) (l0:List (List Int)) (a1:Int):Option (Int × List (List Int)):=F88.l0 k l0 a1 0
set_option maxHeartbeats 8000000 in
set_option maxRecDepth 100000 in
theorem F88.calls (k : Nat) (P0_ : Nat → Prop) (A0 : Option Addr) (n0 c0 : Nat) (l0 : List (List Int)) (a1 : Int) (r1 : Int) (r2 : List (List Int)) (w0 w : World) (hB : Below w0.heap.size w0 w) (ho0 : Kd.S (KL 2) 28 w w0.heap.size P0_ (.slice A0 n0 c0) l0) (h : F88.f k l0 a1 = some (r1, r2)) :
  Calls Try.prog 88 #[.slice A0 n0 c0,.int .i64 a1] w fun e w'=>e=.returned (.int .i64 r1)∧Kd.S (KL 2) 28 w' w0.heap.size P0_ (.slice A0 n0 c0) r2∧Below w0.heap.size w0 w'∧Kept w w' P0_:=by
 have HS:=Aside0.mk ho0
 have HB:=Aside0.mk hB
 have HL:=Aside0.mk (Kd.S_reads' ho0).1
 have H':Aside0 (F88.l0 k l0 a1 0=some (r1,r2)):=⟨h⟩
 clear ho0 hB h
 go_enter Try.func88,Try.ntmps88
 go_wp2
 go_loopg [1,5] k (fun kq v1 v5 w'=>∃ (a i:Int) (x:List (List Int)),v1=.int .i64 a∧v5=.int .i64 i∧Aside0 (F88.l0 kq x a i=some (r1,r2))∧Aside0 (kq≤k)∧Aside0 (Kd.S (KL 2) 28 w' w0.heap.size P0_ (.slice A0 n0 c0) x)∧Aside0 (Below w0.heap.size w0 w')∧Aside0 (Kept w w' P0_))
 case atStart=>exact ⟨a1,0,l0,rfl,rfl,H',⟨Nat.le_refl _⟩,HS,HB,⟨Kept.refl _ _⟩⟩
 case round =>
  clear H' HS HB HL
  obtain ⟨a,i,x,rfl,rfl,HA,HK1,HS,HB,HK⟩:=hrel
  cases gk with
  | zero=>exact absurd HA.out (by simp [F88.l0])
  | succ k1 =>
   have H:=HA.out
   clear HA
   simp only [F88.l0] at H
   have HL:=Aside0.mk (Kd.S_reads' HS.out).1
   by_cases c2:i < (x.length:Int)
   case neg =>
    rw [if_neg c2] at H
    have H2:=Option.some.inj H
    injection H2 with h1 h2
    subst h1 h2
    have c2b:decide (i < (n0:Int))=false:=by rw [HL.out];exact decide_eq_false c2
    clear H c2 HL
    go_wp2
    go_ret
    exact ⟨by first|rfl|(simp;done)|(simp [*];done),HS.out,HB.out,HK.out⟩
   rw [if_pos c2] at H
   replace H:=iS H;obtain ⟨c3,H⟩:=H
   obtain ⟨t,ht,H⟩:=Option.bind_eq_some_iff.mp H
   have H':=Aside0.mk H
   have HT:=Aside0.mk ht
   clear H ht
   have c2b:decide (i < (n0:Int))=true:=by rw [HL.out];exact decide_eq_true c2
   obtain ⟨ad,Ai,ci,hA,hcell,hci,hC,hR,hok,hput⟩:=S_inner HS.out i c3 (by rw [HL.out];exact c2)
   cases hA
   have HR:=Aside0.mk hR
   have HOK:=Aside0.mk hok
   have HP:=Aside0.mk @hput
   have c3b:=decide_eq_true c3
   have c3p:=eq_true c3
   have c2p:(i < (n0:Int))=True:=eq_true (of_decide_eq_true c2b)
   clear hC hR hok hput c2 c3 HL
   go_wp2_with (go_at_call 21;refine (F21.calls k1 _ _ (rdL x i) a t.1 t.2 w0 _ HB.out HR.out HT.out).mono ?_;rintro e w2 ⟨rfl,hr2,hb2,hk2⟩;have HB2:=Aside0.mk hb2;have HS2:=Aside0.mk (HP.out (grown_of_kept HB.out hb2 hk2) hr2);have HK2:=Aside0.mk (HK.out.then_ hk2 (fun k_ hk_=>.inl (HOK.out k_ hk_)));clear hr2 hb2 hk2)
   go_roundg k1
   case measure=>have:=HK1.out;omega
   case rel=>exact ⟨t.1,(wrap64 (i+1)),_,rs,rs,H',⟨by have:=HK1.out;omega⟩,HS2,HB2,HK2⟩
/-! ### F29: function 29 -/
set_option maxHeartbeats 8000000 in
set_option maxRecDepth 100000 in
theorem F29.calls (k : Nat) (P0_ : Nat → Prop) (a0_0 : Int) (A0 : Option Addr) (n0 c0 : Nat) (l0 : List (List Int)) (a1 : Int) (r1 : Int) (r2 : List (List Int)) (w0 w : World) (hB : Below w0.heap.size w0 w) (ho0 : Kd.S (KL 2) 28 w w0.heap.size P0_ (.slice A0 n0 c0) l0) (h : F88.f k l0 a1 = some (r1, r2)) :
  Calls Try.prog 29 #[.agg #[.int .i64 a0_0,.slice A0 n0 c0],.int .i64 a1] w fun e w'=>e=.returned (.int .i64 r1)∧Kd.S (KL 2) 28 w' w0.heap.size P0_ (.slice A0 n0 c0) r2∧Below w0.heap.size w0 w'∧Kept w w' P0_:=by
 have HS:=Aside0.mk ho0
 have HB:=Aside0.mk hB
 have H':=Aside0.mk h
 clear ho0 hB h
 go_enter Try.func29,Try.ntmps29
 go_wp2_with (go_at_call 88;refine (F88.calls k P0_ A0 n0 c0 l0 a1 r1 r2 w0 _ (HB.out.alloc HB.out.size _) (Kd.S_alloc HS.out _) H'.out).mono ?_;rintro e w2 ⟨rfl,hr2,hb2,hk2⟩;have HS2:=Aside0.mk hr2;have HB2:=Aside0.mk hb2;have HK2:=Aside0.mk ((Kept.alloc (Kept.refl w P0_) _).then_ hk2 (fun k_ hk_=>.inl hk_));clear hr2 hb2 hk2)
 go_ret
 exact ⟨by first|rfl|(simp;done)|(simp [*];done),HS2.out,HB2.out,HK2.out⟩
/-! ### F20: function 20 -/
set_option maxHeartbeats 8000000 in
set_option maxRecDepth 100000 in
theorem F20.calls (k : Nat) (P0_ P1_ : Nat → Prop) (hap : ∀ k_, P0_ k_ → ¬ P1_ k_) (a0_0 : Int) (A0 : Option Addr) (n0 c0 : Nat) (l0 : List (List Int)) (a0_2 : Int) (A1 : Option Addr) (n1 c1 : Nat) (l1 : List (List Int)) (a1 m_ r1 : Int) (r2 r3 : List (List Int)) (w0 w : World) (hB : Below w0.heap.size w0 w) (ho0 : Kd.S (KL 2) 28 w w0.heap.size P0_ (.slice A0 n0 c0) l0) (ho1 : Kd.S (KL 2) 28 w w0.heap.size P1_ (.slice A1 n1 c1) l1) (h0 : F88.f k l0 a1 = some (m_, r2)) (h1 : F88.f k l1 m_ = some (r1, r3)) :
  Calls Try.prog 20 #[.agg #[.int .i64 a0_0,.slice A0 n0 c0,.int .i64 a0_2,.slice A1 n1 c1],.int .i64 a1] w fun e w'=>e=.returned (.int .i64 r1)∧Kd.S (KL 2) 28 w' w0.heap.size P0_ (.slice A0 n0 c0) r2∧Kd.S (KL 2) 28 w' w0.heap.size P1_ (.slice A1 n1 c1) r3∧Below w0.heap.size w0 w'∧Kept w w' (fun k_=>P0_ k_∨P1_ k_):=by
 have HS0:=Aside0.mk (Kd.S_mono (Kd.S_bound ho0) (fun k_ hk_=>(⟨hk_.1,hk_.2.2.1⟩:P0_ k_∧k_ < w.heap.size)))
 have HS1:=Aside0.mk ho1
 have HB:=Aside0.mk hB
 have H0:=Aside0.mk h0
 have H1:=Aside0.mk h1
 have HAP:=Aside0.mk hap
 clear ho0 ho1 hB h0 h1 hap
 go_enter Try.func20,Try.ntmps20
 go_wp2_with (first|(go_at_call 29;refine (F29.calls k (fun k_=>P0_ k_∧k_ < w.heap.size) a0_0 A0 n0 c0 l0 a1 m_ r2 w0 _ (HB.out.alloc HB.out.size _) (Kd.S_alloc HS0.out _) H0.out).mono ?_;rintro e w2 ⟨rfl,hr2,hb2,hk2⟩;have HS2:=Aside0.mk hr2;have HB2:=Aside0.mk hb2;have HK2:=Aside0.mk ((Kept.alloc (Kept.refl w (fun k_=>P0_ k_∧k_ < w.heap.size)) _).then_ hk2 (fun k_ hk_=>.inl hk_));have HT2:=Aside0.mk (Kd.S_kept (Kd.S_alloc HS1.out _) hk2 (fun k_ h1_ h2_=>HAP.out k_ h2_.1 h1_));have BK2:=blk_kept (heap_alloc_new w (.cells #[.int .i64 a0_0,.slice A0 n0 c0,.int .i64 a0_2,.slice A1 n1 c1] 33 (0,0))) hk2 (fun h_=>Nat.lt_irrefl _ h_.2);have hcz_3:w2.cell? ⟨w.heap.size,3,none⟩=some (.slice A1 n1 c1):=(blk_cell BK2 3).trans rfl;have hfz_3:=blk_frozen BK2 3;clear hr2 hb2 hk2 BK2)|(go_at_call 88;refine (F88.calls k P1_ A1 n1 c1 l1 m_ r1 r3 w0 _ HB2.out HT2.out H1.out).mono ?_;rintro e w3 ⟨rfl,hr3,hb3,hk3⟩;have HS3:=Aside0.mk (Kd.S_mono (Kd.S_kept HS2.out hk3 (fun k_ h1_ h2_=>HAP.out k_ h1_.1 h2_)) (fun k_ hk_=>hk_.1));have HT3:=Aside0.mk hr3;have HB3:=Aside0.mk hb3;have HK3:=Aside0.mk ((HK2.out.mono (fun k_ hk_=>(Or.inl hk_.1:P0_ k_∨P1_ k_))).then_ hk3 (fun k_ hk_=>.inl (.inr hk_)));clear hr3 hb3 hk3))
 go_ret
 exact ⟨by first|rfl|(simp;done)|(simp [*];done),HS3.out,HT3.out,HB3.out,HK3.out⟩
/-! ### F22: function 22 -/
def F22.l0 : Nat → List Int → Int → Int → Option (Int)
 | 0,_,_,_=>none
 | k+1,x0,x1,x5=>if x5 < (x0.length:Int) then (if 0≤x5 then (if (rd x0 x5)=x1 then (F22.l0 k x0 (wrap64 (x1+1)) (wrap64 (x5+1))) else (some (-1))) else (none)) else (some x1)
def F22.f (k:Nat) (l0:List Int) (a1:Int):Option (Int):=F22.l0 k l0 a1 0
theorem F22.mono_l : ∀ k, (∀ y0 y1 y2, LeO (F22.l0 k y0 y1 y2) (F22.l0 (k + 1) y0 y1 y2))
 | 0=>fun _ _ _ r h=>by simp [F22.l0] at h
 | k+1=>by
  have ih0:=F22.mono_l k
  ·intro y0 y1 y2
   unfold F22.l0
   repeat' first
    | (with_reducible first|exact ih0 _ _ _|exact LeO.refl _|exact LeO.none _|refine LeO.ite ?_ ?_|refine LeO.bind ?_ (fun _=>?_))
    | exact ih0 _ _ _|exact LeO.none _|refine LeO.ite ?_ ?_|refine LeO.bind ?_ (fun _=>?_)
theorem F22.mono:∀ a0 a1 k,LeO (F22.f k a0 a1) (F22.f (k+1) a0 a1):=by
 intro a0 a1 k
 have ih0:=F22.mono_l k
 unfold F22.f
 repeat' first
  | (with_reducible first|exact ih0 _ _ _|exact LeO.refl _|exact LeO.none _|refine LeO.ite ?_ ?_|refine LeO.bind ?_ (fun _=>?_))
  | exact ih0 _ _ _|exact LeO.none _|refine LeO.ite ?_ ?_|refine LeO.bind ?_ (fun _=>?_)
set_option maxHeartbeats 8000000 in
set_option maxRecDepth 100000 in
theorem F22.calls (k : Nat) (A0 : Option Addr) (c0 : Nat) (l0 : List Int) (a1 : Int) (r : Int) (w : World) (hr0 : Kd.C (Kd.int .i64) w A0 l0.length l0) (hc0 : l0.length ≤ c0) (h : F22.f k l0 a1 = some r) :
  Calls Try.prog 22 #[.slice A0 l0.length c0,.int .i64 a1] w fun e w'=>e=.returned (.int .i64 r)∧Drawn0 w w':=by
 have HR0:=Aside0.mk hr0
 have HC0:=Aside0.mk hc0
 clear hr0 hc0
 have H:(F22.l0 k l0 a1 0)=some r:=h
 clear h
 have H':=Aside0.mk H
 clear H
 go_enter Try.func22,Try.ntmps22
 go_wp2
 go_loopg [1,5] k (fun kq v1 v5 w'=>∃ (x1_1:Int) (x5_1:Int),v1=.int .i64 x1_1∧v5=.int .i64 x5_1∧Aside0 (F22.l0 kq l0 x1_1 x5_1=some r)∧Aside0 (kq≤k)∧Drawn0 w w')
 case atStart=>exact ⟨(a1),(0),rs,rs,H',⟨Nat.le_refl _⟩,by repeat (first|exact Drawn0.refl _|apply Drawn0.step)⟩
 case round =>
  clear H'
  (try clear c2);(try clear p2)
  obtain ⟨x1_1,x5_1,rfl,rfl,HA,HK1,⟨m1,rfl⟩⟩:=hrel
  cases gk with
  | zero=>exact absurd HA.out (by simp [F22.l0])
  | succ k1 =>
   have H:=HA.out
   clear HA
   simp only [F22.l0] at H
   by_cases c3:x5_1 < (l0.length:Int)
   case neg =>
    rw [if_neg c3] at H
    have c3b0:decide (x5_1 < (l0.length:Int))=false:=decide_eq_false c3
    clear c3
    obtain rfl:=Option.some.inj H
    go_wp2
    go_ret
    exact ⟨by first|rfl|(simp;done)|(simp [*];done),by repeat (first|exact Drawn0.refl _|apply Drawn0.step)⟩
   rw [if_pos c3] at H
   have c3b0:=decide_eq_true c3
   clear c3
   replace H:=iS H;obtain ⟨c4,H⟩:=H
   have c4b0:=decide_eq_true c4
   clear c4
   by_cases c5:(rd l0 x5_1)=x1_1
   case neg =>
    rw [if_neg c5] at H
    have c5b0:((rd l0 x5_1) == x1_1)=false:=beq_eq_false_iff_ne.mpr c5
    have c5b1:((rd l0 x5_1) != x1_1)=true:=bne_iff_ne.mpr c5
    obtain rfl:=Option.some.inj H
    have p101:0≤(x5_1:Int):=oD
    have q101:x5_1 < (l0.length:Int):=oD
    obtain ⟨ad101,e101,hx101_0⟩:=Kd.at_int HR0.out x5_1 p101 q101
    cases e101
    replace p101:=eq_true p101
    replace q101:=eq_true q101
    go_wp2
    go_ret
    exact ⟨by first|rfl|(simp;done)|(simp [*];done),by repeat (first|exact Drawn0.refl _|apply Drawn0.step)⟩
   rw [if_pos c5] at H
   have c5b0:((rd l0 x5_1) == x1_1)=true:=beq_iff_eq.mpr c5
   have c5b1:((rd l0 x5_1) != x1_1)=false:=bne_eq_false_iff_eq.mpr c5
   clear c5
   have H':=Aside0.mk H
   clear H
   have p101:0≤(x5_1:Int):=oD
   have q101:x5_1 < (l0.length:Int):=oD
   obtain ⟨ad101,e101,hx101_0⟩:=Kd.at_int HR0.out x5_1 p101 q101
   cases e101
   replace p101:=eq_true p101
   replace q101:=eq_true q101
   go_wp2
   go_roundg k1
   case measure=>have:=HK1.out;omega
   case rel=>exact ⟨(wrap64 (x1_1+1)),(wrap64 (x5_1+1)),rs,rs,H',⟨by have:=HK1.out;omega⟩,by repeat (first|exact Drawn0.refl _|apply Drawn0.step)⟩
end Go.Proofs.Ytoebojnhchocaaa.A
/- Set with little white space, by a program. -/
