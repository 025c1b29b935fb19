/- The functions that one law reaches, each as a Lean function, and that Go's call comes to what it says. Condition of each: that the Lean function answers (is not none). -/
import Derived.Test.YtoebojnhchocaaaDx0
import Derived.Test.YtoebojnhchocaaaDx13
namespace Go.Proofs.Ytoebojnhchocaaa.D
open Go.RowKit Go.Proofs.bR.eC Go.Proofs.bR.je Go.Proofs.bR.jO
attribute [local go_sem] max2_int min2_int max_two min_two max_three min_three max_four min_four   -- for this text's walks alone
set_option linter.unusedVariables false
set_option linter.unusedSimpArgs false
/-! ### F185: function 185 -/
def vF (l1:List Int) (a2:Int) (l3:List Int) (x:Int):Bool:=rd l1 x == a2 && decide (rd l3 x < 0)
theorem Yx {b1 b2 b3 : Nat} (A1 : Option Addr) (c1 : Nat) (l1 : List Int) (a2 : Int) (A3 : Option Addr) (c3 : Nat) (l3 : List Int) (w : World) (c_ : Kd.C (Kd.int .i64) w A1 l1.length l1) (qB : Kd.C (Kd.int .i64) w A3 l3.length l3)
  (hb1:w.heap[b1]?=some (.cells #[.slice A1 l1.length c1] 28 (0,0))) (hb2:w.heap[b2]?=some (.cells #[.int .i64 a2] 2 (0,0))) (hb3:w.heap[b3]?=some (.cells #[.slice A3 l3.length c3] 28 (0,0))) (x:Int) (h0:0≤x) (h1:x < (l1.length:Int)) (h3:x < (l3.length:Int)) :
  Calls Try.prog 185 #[.int .i64 x,.pointer (some ⟨b1,0,none⟩),.pointer (some ⟨b2,0,none⟩),.pointer (some ⟨b3,0,none⟩)] w fun e w'=>e=.returned (.bool (vF l1 a2 l3 x))∧bI w w':=by
 have Bg:w.cell? ⟨b1,0,none⟩=some (.slice A1 l1.length c1):=(av hb1 0).trans rfl
 have zc:w.cell? ⟨b2,0,none⟩=some (.int .i64 a2):=(av hb2 0).trans rfl
 have hq3:w.cell? ⟨b3,0,none⟩=some (.slice A3 l3.length c3):=(av hb3 0).trans rfl
 have xp:=aD hb1 0
 have hf2:=aD hb2 0
 have hf3:=aD hb3 0
 obtain ⟨ad1,e1,hcell1⟩:=Kd.bJ c_ x h0 h1
 obtain ⟨ad3,e3,ahz⟩:=Kd.bJ qB x h0 h3
 cases e1
 cases e3
 have Xp:=decide_eq_true h0
 have Jc:=decide_eq_true h1
 have c3b:=decide_eq_true h3
 have Xq:=eq_true h0
 have Xx:=eq_true h1
 have c3p:=eq_true h3
 have HX:au (vF l1 a2 l3 x=(rd l1 x == a2 && decide (rd l3 x < 0))):=⟨rfl⟩
 clear c_ qB hb1 hb2 hb3 h0 h1 h3
 cases hd:(rd l1 x == a2) with
 | false =>
  rw [hd] at HX
  have HY:au (vF l1 a2 l3 x=false):=⟨HX.out⟩
  clear HX
  go_enter Try.func185,Try.ntmps185
  go_wp2
  go_region
  go_wp2
  go_ret
  exact ⟨by rw [HY.out];first|rfl|simp [hd],by repeat (first|exact bI.refl _|apply bI.step)⟩
 | true =>
  rw [hd] at HX
  have HY:au (vF l1 a2 l3 x=decide (rd l3 x < 0)):=⟨HX.out⟩
  clear HX
  go_enter Try.func185,Try.ntmps185
  go_wp2
  go_region
  go_wp2
  go_ret
  exact ⟨by rw [HY.out];first|rfl|simp [hd],by repeat (first|exact bI.refl _|apply bI.step)⟩
theorem YF (p : Int → Bool) (b1 : Nat) (b2 : Nat) (b3 : Nat) (A : Option Addr) (c : Nat) (l : List Int) (w : World) (hr : Kd.C (Kd.int .i64) w A l.length l)
 (hp:∀ j:Nat,j < l.length→∀ w1,Below w.heap.size w w1→Calls Try.prog 185 #[.int .i64 (rd l j),.pointer (some ⟨b1,0,none⟩),.pointer (some ⟨b2,0,none⟩),.pointer (some ⟨b3,0,none⟩)] w1 fun e w'=>e=.returned (.bool (p (rd l j)))∧Below w1.heap.size w1 w') :
 Calls Try.prog 188 #[.slice A l.length c,.func (.func 185) #[] #[.pointer (some ⟨b1,0,none⟩),.pointer (some ⟨b2,0,none⟩),.pointer (some ⟨b3,0,none⟩)]] w fun e w'=>e=.returned (.int .i64 (idxFrom p l 0))∧Below w.heap.size w w':=by
 have HR:=k0 hr
 have HP:=k0 hp
 have hlen:l.length≤9223372036854775807:=hr.2.1
 clear hr hp
 go_enter Try.func188,Try.ntmps188
 go_wp2_with fail
 go_loopw [8] (fun i wr=>∃ k:Nat,k≤l.length∧i=.int .i64 k∧au (idxFrom p (l.drop k) k=idxFrom p l 0)∧au (Below w.heap.size w wr)) (fun i _=>l.length - (intOf i).toNat)
 case atStart=>exact ⟨0,Nat.zero_le _,rfl,⟨by simp⟩,⟨Below.refl _ _⟩⟩
 case round =>
  obtain ⟨k,hk,rfl,HI,HB⟩:=hrel
  by_cases hlt:k < l.length
  case neg =>
   have HD:au (idxFrom p l 0=-1):=⟨by rw [← HI.out,List.drop_of_length_le (by omega)];rfl⟩
   have hb:decide (k < l.length)=false:=by simp;omega
   go_wp2
   go_ret
   exact ⟨by rw [HD.out];rfl,HB.out⟩
  obtain ⟨ad,e,hcell⟩:=Kd.bJ (Kd.bK HR.out HB.out) k (by omega) (by omega)
  cases e
  rw [Int.toNat_natCast] at hcell
  cases hpx:p (rd l k) with
  | true =>
   have HD:au (idxFrom p l 0=k):=⟨by rw [← HI.out,Bo p l k hlt,hpx];rfl⟩
   have HX:=k0 hpx
   clear hpx
   go_wp2_with (go_at_call 185;refine (HP.out k hlt _ HB.out).mono ?_;rw [HX.out];rintro e w' ⟨rfl,cr⟩;have fc:=k0 (aI HB.out cr);clear cr)
   go_ret
   exact ⟨by rw [HD.out];rfl,fc.out⟩
  | false =>
   have HD:au (idxFrom p (l.drop (k+1)) (k+1)=idxFrom p l 0):=⟨by rw [← HI.out,Bo p l k hlt,hpx];rfl⟩
   have HX:=k0 hpx
   clear hpx
   go_wp2_with (go_at_call 185;refine (HP.out k hlt _ HB.out).mono ?_;rw [HX.out];rintro e w' ⟨rfl,cr⟩;have fc:=k0 (aI HB.out cr);clear cr)
   go_roundw
   case rel=>exact ⟨k+1,by omega,by go_num,HD,fc⟩
   case measure=>simp [intOf];omega
theorem YE (p : Int → Bool) (b1 : Nat) (b2 : Nat) (b3 : Nat) (A : Option Addr) (c : Nat) (l : List Int) (w : World) (hr : Kd.C (Kd.int .i64) w A l.length l)
 (hp:∀ j:Nat,j < l.length→∀ w1,Below w.heap.size w w1→Calls Try.prog 185 #[.int .i64 (rd l j),.pointer (some ⟨b1,0,none⟩),.pointer (some ⟨b2,0,none⟩),.pointer (some ⟨b3,0,none⟩)] w1 fun e w'=>e=.returned (.bool (p (rd l j)))∧Below w1.heap.size w1 w') :
 Calls Try.prog 98 #[.slice A l.length c,.func (.func 185) #[] #[.pointer (some ⟨b1,0,none⟩),.pointer (some ⟨b2,0,none⟩),.pointer (some ⟨b3,0,none⟩)]] w fun e w'=>e=.returned (.bool (l.any p))∧Below w.heap.size w w':=by
 have HC:=YF p b1 b2 b3 A c l w hr hp
 have HX:au (l.any p=decide (0≤idxFrom p l 0)):=⟨(K4 p l 0).symm⟩
 have oN:=k0 HC
 clear HC hr hp
 go_enter Try.func98,Try.ntmps98
 go_wp2_with (go_at_call 188;refine oN.out.mono ?_;rintro e w' ⟨rfl,cr⟩;have fc:=k0 cr;clear cr)
 go_ret
 exact ⟨by rw [HX.out];rfl,fc.out⟩
def nX.f (k:Nat) (l0:List Int) (l1:List Int) (a2:Int) (l3:List Int):Option Bool:=if (l0.all fun x=>decide (0≤x) && (decide (x < (l1.length:Int)) && decide (x < (l3.length:Int))))=true then some (l0.any (vF l1 a2 l3)) else none
theorem nX.mono:∀ a0 a1 a2 a3 k,aj (nX.f k a0 a1 a2 a3) (nX.f (k+1) a0 a1 a2 a3):=fun _ _ _ _ _ _ h=>h
set_option maxHeartbeats 8000000 in
set_option maxRecDepth 100000 in
theorem nX.calls {b1 b2 b3 : Nat} (k : Nat) (A0 : Option Addr) (c0 : Nat) (l0 : List Int) (A1 : Option Addr) (c1 : Nat) (l1 : List Int) (a2 : Int) (A3 : Option Addr) (c3 : Nat) (l3 : List Int) (r : Bool) (w : World) (cS : Kd.C (Kd.int .i64) w A0 l0.length l0) (hc0 : l0.length ≤ c0) (c_ : Kd.C (Kd.int .i64) w A1 l1.length l1) (eY : l1.length ≤ c1) (qB : Kd.C (Kd.int .i64) w A3 l3.length l3) (hc3 : l3.length ≤ c3) (hb1 : w.heap[b1]? = some (.cells #[.slice A1 l1.length c1] 28 (0, 0))) (hb2 : w.heap[b2]? = some (.cells #[.int .i64 a2] 2 (0, 0))) (hb3 : w.heap[b3]? = some (.cells #[.slice A3 l3.length c3] 28 (0, 0))) (h : nX.f k l0 l1 a2 l3 = some r) :
  Calls Try.prog 98 #[.slice A0 l0.length c0,.func (.func 185) #[] #[.pointer (some ⟨b1,0,none⟩),.pointer (some ⟨b2,0,none⟩),.pointer (some ⟨b3,0,none⟩)]] w fun e w'=>e=.returned (.bool r)∧Below w.heap.size w w':=by
 unfold nX.f at h
 by_cases c:(l0.all fun x=>decide (0≤x) && (decide (x < (l1.length:Int)) && decide (x < (l3.length:Int))))=true
 case neg =>
  rw [if_neg c] at h
  exact absurd h (by simp)
 rw [if_pos c] at h
 obtain rfl:=Option.some.inj h
 refine YE (vF l1 a2 l3) b1 b2 b3 A0 c0 l0 w cS (fun j hj w1 hw1=>?_)
 have hx:rd l0 (j:Int) ∈ l0:=by
  rw [rd,Int.toNat_natCast,List.getD_eq_getElem?_getD,List.getElem?_eq_getElem hj]
  exact List.getElem_mem hj
 have hq:=List.all_eq_true.1 c _ hx
 simp only [Bool.and_eq_true,decide_eq_true_eq] at hq
 exact (Yx A1 c1 l1 a2 A3 c3 l3 w1 (Kd.bK c_ hw1) (Kd.bK qB hw1) (alm hb1 hw1) (alm hb2 hw1) (alm hb3 hw1) _ hq.1 hq.2.1 hq.2.2).mono fun e w' ⟨h1,h2⟩=>⟨h1,h2.below⟩
/-! ### F187: function 187 -/
mutual
def alv.l0 : Nat → List Int → Int → Int → Int → Int → List (List Int) → Option (List Int)
 | 0,_,_,_,_,_,_=>none
 | k+1,x1,x2,gx,jJ,bF,bE=>if jJ < gx then (if jJ=0 then (alv.j1 k x1 x2 jJ gx jJ true bF bE) else (if 0≤x2 then (alv.j1 k x1 x2 jJ gx jJ ((Go.bits .and .i64 (shr .i64 jJ x2) 1) == 1) bF bE) else (none))) else (some ([]:List Int))
def alv.j1 : Nat → List Int → Int → Int → Int → Int → Bool → Int → List (List Int) → Option (List Int)
 | 0,_,_,_,_,_,_,_,_=>none
 | k+1,x1,x2,x7,gx,jJ,fR,bF,bE=>if fR=true then (alv.l0 k x1 x2 gx (wrap64 (jJ+1)) bF bE) else (if 0≤bF then (if (bF:Int).toNat≤35184372088832 then ((some (List.replicate (bF:Int).toNat 0:List Int)).bind fun alD=>(alv.l1 k x1 x2 x7 alD gx jJ (alD.length:Int) 0 bF bE)) else (none)) else (none))
def alv.l1 : Nat → List Int → Int → Int → List Int → Int → Int → Int → Int → Int → List (List Int) → Option (List Int)
 | 0,_,_,_,_,_,_,_,_,_,_=>none
 | k+1,x1,x2,x7,x8,gx,jJ,TI,BG,bF,bE=>if BG < TI then (if 0≤BG then (if BG < (x8.length:Int) then (alv.l1 k x1 x2 x7 (x8.set (BG:Int).toNat (Go.bits .and .i64 (shr .i64 x7 BG) 1)) gx jJ TI (wrap64 (BG+1)) bF bE) else (none)) else (none)) else ((cC.f k bF bE x1 x8).bind fun t106=>(alv.l2 k x1 x2 x8 true gx jJ t106 (t106.length:Int) 0 bF bE))
def alv.l2 : Nat → List Int → Int → List Int → Bool → Int → Int → List Int → Int → Int → Int → List (List Int) → Option (List Int)
 | 0,_,_,_,_,_,_,_,_,_,_,_=>none
 | k+1,x1,x2,x8,dS,gx,jJ,EF,BH,rB,bF,bE=>if rB < BH then (if 0≤rB then (if rB < (EF.length:Int) then (if dS=true then (if rB < (x8.length:Int) then (if (rd x8 rB)=0 then (alv.l2 k x1 x2 x8 true gx jJ EF BH (wrap64 (rB+1)) bF bE) else (alv.l2 k x1 x2 x8 (decide ((rd EF rB) ≥ 0)) gx jJ EF BH (wrap64 (rB+1)) bF bE)) else (none)) else (alv.l2 k x1 x2 x8 false gx jJ EF BH (wrap64 (rB+1)) bF bE)) else (none)) else (none)) else (if dS=true then (if x8=[] then none else some x8) else (alv.l0 k x1 x2 gx (wrap64 (jJ+1)) bF bE))
end
def alv.f (k:Nat) (af:Int) (aa:List (List Int)) (l1:List Int) (a2:Int):Option (List Int):=if 0≤af then (alv.l0 k l1 a2 (shl .i64 1 af) 0 af aa) else (none)
theorem alv.bU : ∀ k, (∀ y0 y1 y2 y3 y4 y5, aj (alv.l0 k y0 y1 y2 y3 y4 y5) (alv.l0 (k + 1) y0 y1 y2 y3 y4 y5)) ∧ (∀ y0 y1 y2 y3 y4 y5 y6 y7, aj (alv.j1 k y0 y1 y2 y3 y4 y5 y6 y7) (alv.j1 (k + 1) y0 y1 y2 y3 y4 y5 y6 y7)) ∧ (∀ y0 y1 y2 y3 y4 y5 y6 y7 y8 y9, aj (alv.l1 k y0 y1 y2 y3 y4 y5 y6 y7 y8 y9) (alv.l1 (k + 1) y0 y1 y2 y3 y4 y5 y6 y7 y8 y9)) ∧ (∀ y0 y1 y2 y3 y4 y5 y6 y7 y8 y9 EH, aj (alv.l2 k y0 y1 y2 y3 y4 y5 y6 y7 y8 y9 EH) (alv.l2 (k + 1) y0 y1 y2 y3 y4 y5 y6 y7 y8 y9 EH))
 | 0=>⟨fun _ _ _ _ _ _ r h=>by simp [alv.l0] at h,fun _ _ _ _ _ _ _ _ r h=>by simp [alv.j1] at h,fun _ _ _ _ _ _ _ _ _ _ r h=>by simp [alv.l1] at h,fun _ _ _ _ _ _ _ _ _ _ _ r h=>by simp [alv.l2] at h⟩
 | k+1=>by
  obtain ⟨alg,ih1,ih2,ih3⟩:=alv.bU k
  refine ⟨?_, ?_, ?_, ?_⟩ <;> intros <;> (first | unfold alv.l0 | unfold alv.j1 | unfold alv.l1 | unfold alv.l2) <;> repeat' first
   | (with_reducible first|exact alg _ _ _ _ _ _|exact ih1 _ _ _ _ _ _ _ _|exact ih2 _ _ _ _ _ _ _ _ _ _|exact ih3 _ _ _ _ _ _ _ _ _ _ _|exact cC.mono _ _ _ _ _|exact aj.refl _|exact aj.none _|refine aj.ite ?_ ?_|refine aj.bind ?_ (fun _=>?_))
   | exact alg _ _ _ _ _ _|exact ih1 _ _ _ _ _ _ _ _|exact ih2 _ _ _ _ _ _ _ _ _ _|exact ih3 _ _ _ _ _ _ _ _ _ _ _|exact cC.mono _ _ _ _ _|exact aj.none _|refine aj.ite ?_ ?_|refine aj.bind ?_ (fun _=>?_)
theorem alv.mono:∀ a0 a1 a2 a3 k,aj (alv.f k a0 a1 a2 a3) (alv.f (k+1) a0 a1 a2 a3):=by
 intro a0 a1 a2 a3 k
 obtain ⟨alg,ih1,ih2,ih3⟩:=alv.bU k
 unfold alv.f
 repeat' first
  | (with_reducible first|exact alg _ _ _ _ _ _|exact ih1 _ _ _ _ _ _ _ _|exact ih2 _ _ _ _ _ _ _ _ _ _|exact ih3 _ _ _ _ _ _ _ _ _ _ _|exact cC.mono _ _ _ _ _|exact aj.refl _|exact aj.none _|refine aj.ite ?_ ?_|refine aj.bind ?_ (fun _=>?_))
  | exact alg _ _ _ _ _ _|exact ih1 _ _ _ _ _ _ _ _|exact ih2 _ _ _ _ _ _ _ _ _ _|exact ih3 _ _ _ _ _ _ _ _ _ _ _|exact cC.mono _ _ _ _ _|exact aj.none _|refine aj.ite ?_ ?_|refine aj.bind ?_ (fun _=>?_)
set_option maxHeartbeats 8000000 in
set_option maxRecDepth 100000 in
theorem alv.calls (k : Nat) (af : Int) (aq : Option Addr) (ak : Nat) (aa : List (List Int)) (A1 : Option Addr) (c1 : Nat) (l1 : List Int) (a2 : Int) (r : List Int) (w : World) (aly : Kd.C (Kd.slice 2 (Kd.int .i64)) w aq aa.length aa) (ck : aa.length ≤ ak) (c_ : Kd.C (Kd.int .i64) w A1 l1.length l1) (eY : l1.length ≤ c1) (h : alv.f k af aa l1 a2 = some r) :
  Calls Try.prog 187 #[.agg #[.int .i64 af,.slice aq aa.length ak],.slice A1 l1.length c1,.int .i64 a2] w fun e w'=>∃ dH:Value,e=.returned (dH)∧(r=[]→dH=.slice none 0 0)∧Kd.R (Kd.int .i64) 2 w' w.heap.size (fun _=>True) dH r∧Below w.heap.size w w':=by
 have j9:=Try.underlying31
 have bZ:=k0 aly
 have cD:=k0 ck
 clear aly ck
 have eP:=k0 c_
 have kT:=k0 eY
 clear c_ eY
 have HB:=k0 (Below.refl w.heap.size w)
 have H:(if 0≤af then (alv.l0 k l1 a2 (shl .i64 1 af) 0 af aa) else (none))=some r:=h
 clear h
 replace H:=iS H;obtain ⟨c4,H⟩:=H
 have eD:=eq_true c4
 have l7:=decide_eq_true c4
 clear c4
 obtain ⟨k6,mI⟩:∃ j_:Int,(shl .i64 1 af)=j_:=⟨_,rfl⟩
 replace H:(alv.l0 k l1 a2 k6 0 af aa)=some r:=by first|(rw [mI] at H;exact H)|(simp only [mI] at H ⊢;exact H)
 have Rk:(IntKind.i64.wrap (1 * 2 ^ min af.toNat 64))=k6:=mI
 have Rl:af≤64→(IntKind.i64.wrap (1 * 2 ^ af.toNat))=k6:=aeF mI
 have aiN:(IntKind.i64.wrap (2 ^ min af.toNat 64))=k6:=by have h_:=Rk;rw [Int.one_mul] at h_;exact h_
 have aiO:af≤64→(IntKind.i64.wrap (2 ^ af.toNat))=k6:=fun abD=>by have h_:=Rl abD;rw [Int.one_mul] at h_;exact h_
 have aiQ:(wrap64 (1 * 2 ^ min af.toNat 64))=k6:=(cl _).symm.trans Rk
 have aiP:af≤64→(wrap64 (1 * 2 ^ af.toNat))=k6:=fun h_=>(cl _).symm.trans (Rl h_)
 have H':=k0 H
 clear H
 go_enter Try.func187,Try.ntmps187
 go_wp2_with (first|((with_reducible refine cj (N:=3) rfl ?_);refine dK ?hg (N:=3) ?hd (cs:=#[.int .i64 af,.slice aq aa.length ak]) (t:=31) ?hr ?_;(case hd=>rfl);(case hg=>rfl);(case hr=>first|(go_simp;done)|(go_simp;rfl));intro ai hg w6 aJ hb;have ag:=k0 (aJ);have b8:=k0 ((by rw [hg];exact (alk bl):w.heap.size≤ai));have eB:=b8;replace HB:=k0 (aI bl hb);clear hb aJ hg;have rY:w6.cell? ⟨ai,0,none⟩=some (.int .i64 af):=(av ag.out 0).trans rfl;have rZ:w6.cell? ⟨ai,1,none⟩=some (.slice aq aa.length ak):=(av ag.out 1).trans rfl;have r5:=aD ag.out 0;have r6:=aD ag.out 1))
 go_loopg [16] k (fun kq Mg w'=>∃ (eK:Int),Mg=.int .i64 eK∧au (alv.l0 kq l1 a2 k6 eK af aa=some r)∧au (kq≤k)∧au (w'.heap[ai]?=some (sO af aq aa ak 31))∧au (Below w.heap.size w w'))
 case atStart=>exact ⟨(0),rs,H',⟨Nat.le_refl _⟩,⟨bk⟩,⟨bl⟩⟩
 case round =>
  clear H'
  (try clear c4);(try clear eD);(try clear l7);(try clear rY);(try clear rZ);(try clear r5);(try clear r6)
  obtain ⟨eK,rfl,HA,alj,ag,HB⟩:=hrel
  cases gk with
  | zero=>exact absurd HA.out (by simp [alv.l0])
  | succ k1 =>
   have H:=HA.out
   clear HA
   simp only [alv.l0] at H
   by_cases c8:eK < k6
   case neg =>
    rw [if_neg c8] at H
    have jg:decide (eK < k6)=false:=decide_eq_false c8
    clear c8
    obtain rfl:=Option.some.inj H
    go_wp2
    go_ret
    exact ⟨_,by first|rfl|(simp [bz,bA]<;>rfl)|(simp only [← mI];first|rfl|(simp [bz,bA]<;>rfl))|(simp [*,bz,bA]<;>rfl),rfl,by first|exact Kd.Ae _ _ _ _ _|exact Kd.VZ _ _ _ _ _|exact Kd.WC _ _ _ _ _|exact Kd.Wi _ _ _ _ _|exact Kd.Wy _ _ _ _ _,bl⟩
   rw [if_pos c8] at H
   have jg:=decide_eq_true c8
   clear c8
   have HZ:=k0 H
   clear H
   go_upto_region 4 with (fail)
   go_cut [27] (fun Ez wc=>∃ (kq:Nat) (He:Bool),Ez=.bool He∧au (alv.j1 kq l1 a2 eK k6 eK He af aa=some r)∧au (kq≤k1)∧au (wc.heap[ai]?=some (sO af aq aa ak 31))∧au (Below w.heap.size w wc))
   case first =>
    have H:=HZ.out
    clear HZ
    by_cases c10:eK=0
    case neg =>
     rw [if_neg c10] at H
     have lO:(eK == 0)=false:=beq_eq_false_iff_ne.mpr c10
     have vz:(eK != 0)=true:=bne_iff_ne.mpr c10
     (first|rw [lO]|(simp only [cl,cv];rw [lO])|skip)
     replace H:=iS H;obtain ⟨c11,H⟩:=H
     have i_:=eq_true c11
     have oc:=decide_eq_true c11
     clear c11
     obtain ⟨Gn,mZ⟩:∃ j_:Int,(shr .i64 eK a2)=j_:=⟨_,rfl⟩
     replace H:(alv.j1 k1 l1 a2 eK k6 eK ((Go.bits .and .i64 (Gn) 1) == 1) af aa)=some r:=by first|(rw [mZ] at H;exact H)|(simp only [mZ] at H ⊢;exact H)
     have aiC:(eK / 2 ^ min a2.toNat 64)=Gn:=mZ
     have aiD:a2≤64→(eK / 2 ^ a2.toNat)=Gn:=Tf mZ
     have H':=k0 H
     clear H
     go_wp2
     go_meet
     case rel=>exact ⟨_,(((Go.bits .and .i64 (Gn) 1) == 1)),(by first|rfl|(simp;done)|(simp only [← mZ]<;>(first|rfl|simp))|(simp [*];done)),(by first|exact H'|(rw [mZ];exact H')|(rw [jG];exact H')|(rw [mI];exact H')),⟨by have:=alj.out;first|omega|exact Nat.le_refl _⟩,⟨bk⟩,⟨bl⟩⟩
    rw [if_pos c10] at H
    have lO:(eK == 0)=true:=beq_iff_eq.mpr c10
    have vz:(eK != 0)=false:=bne_eq_false_iff_eq.mpr c10
    clear c10
    (first|rw [lO]|(simp only [cl,cv];rw [lO])|skip)
    have H':=k0 H
    clear H
    go_wp2
    go_meet
    case rel=>exact ⟨_,(true),rs,(by first|exact H'|(rw [mZ];exact H')|(rw [jG];exact H')|(rw [mI];exact H')),⟨by have:=alj.out;first|omega|exact Nat.le_refl _⟩,⟨bk⟩,⟨bl⟩⟩
   case rest =>
    clear HZ
    (try clear c4);(try clear eD);(try clear l7);(try clear c8);(try clear jg);(try clear c10);(try clear lO);(try clear vz);(try clear c11);(try clear i_);(try clear oc);(try clear rY);(try clear rZ);(try clear r5);(try clear r6)
    obtain ⟨kq,He,rfl,HA,rC,ag,HB⟩:=hcut
    cases kq with
    | zero=>exact absurd HA.out (by simp [alv.j1])
    | succ vX =>
     have H:=HA.out
     clear HA
     simp only [alv.j1] at H
     by_cases c13:He=true
     case neg =>
      replace c13:=Bool.eq_false_iff.mpr c13
      subst c13
      have H1:(if 0≤af then (if (af:Int).toNat≤35184372088832 then ((some (List.replicate (af:Int).toNat 0:List Int)).bind fun alD=>(alv.l1 vX l1 a2 eK alD k6 eK (alD.length:Int) 0 af aa)) else (none)) else (none))=some r:=by rw [if_neg (show ¬ (false=true) by decide)] at H;exact H
      clear H
      have H:=H1
      clear H1
      replace H:=iS H;obtain ⟨c14,H⟩:=H
      have kH:=eq_true c14
      have Aw:=decide_eq_true c14
      clear c14
      replace H:=iS H;obtain ⟨c15,H⟩:=H
      have jD:=eq_true c15
      have oV:=decide_eq_true c15
      clear c15
      obtain ⟨alD,eM⟩:∃ y_:List Int,y_=(List.replicate (af:Int).toNat 0):=⟨_,rfl⟩
      replace H:(alv.l1 vX l1 a2 eK alD k6 eK (alD.length:Int) 0 af aa)=some r:=by first|(rw [eM];with_reducible exact H)|(have ax:=(Option.bind_some _ _).symm.trans H;rw [eM];with_reducible exact ax)|(have ax:=(Option.bind_some _ _).symm.trans H;with_reducible exact ax)|with_reducible exact H|(rw [eM];exact H)|exact H
      have gz:=k0 eM
      clear eM
      have H':=k0 H
      clear H
      have AZ:wc.cell? ⟨ai,0,none⟩=some (.int .i64 af):=(av ag.out 0).trans rfl
      have am9:wc.cell? ⟨ai,1,none⟩=some (.slice aq aa.length ak):=(av ag.out 1).trans rfl
      have anf:=aD ag.out 0
      have ang:=aD ag.out 1
      go_wp2_with (first|((with_reducible refine cj (N:=30) rfl ?_);refine Kd.yg (Kd.int .i64) _ 2 rfl (N:=30) rfl 28 _ _ rfl af rfl rfl Try.underlying28 (.int .i64 0) 8 alU rfl (by decide) (by omega) 0 (ok:=fun _=>True) (b9:=fun _=>True) rfl (fun _ hk=>hk) trivial oD (Nat.le_trans (Nat.mul_le_mul_right _ (oD:af.toNat≤35184372088832)) (by omega)) (Below.refl _ _) (Nat.le_refl _) ?_;intro dn rz Dp hb dF dG;clear dF dG;(first|rw [← gz.out] at Dp|(simp only [Int.reduceToNat] at Dp;rw [← gz.out] at Dp));have bq:=k0 (Kd.dI Dp (alk bl));replace ag:=k0 (alm (g:=ai) (o:=sO af aq aa ak 31) bk hb);replace HB:=k0 (aI bl hb);clear hb Dp;obtain ⟨zQ,sH,AM⟩:=Kd.eF bq.out;subst AM))
      go_loopg [33] vX (fun kq v33 w'=>∃ (aX:List Int) (mO:Int),v33=.int .i64 mO∧au (alv.l1 kq l1 a2 eK aX k6 eK (alD.length:Int) mO af aa=some r)∧au (kq≤vX)∧au (Kd.R (Kd.int .i64) 2 w' w.heap.size (fun _=>True) (.slice zQ alD.length sH) aX)∧au (w'.heap[ai]?=some (sO af aq aa ak 31))∧au (Below w.heap.size w w'))
      case atStart=>exact ⟨(alD),(0),rs,H',⟨Nat.le_refl _⟩,⟨aR (bq.out)⟩,⟨bk⟩,⟨bl⟩⟩
      case round =>
       clear H'
       (try clear c4);(try clear eD);(try clear l7);(try clear c8);(try clear jg);(try clear c10);(try clear lO);(try clear vz);(try clear c11);(try clear i_);(try clear oc);(try clear c13);(try clear c14);(try clear kH);(try clear Aw);(try clear c15);(try clear jD);(try clear oV);(try clear AZ);(try clear am9);(try clear rY);(try clear rZ);(try clear anf);(try clear ang);(try clear r5);(try clear r6)
       obtain ⟨aX,mO,rfl,HA,cN,aZ,ag,HB⟩:=hrel
       have jS:=(Kd.bx aZ.out).1
       rw [jS] at aZ
       (try simp only [jS])
       (try simp only [jS] at ag)
       cases gk with
       | zero=>exact absurd HA.out (by simp [alv.l1])
       | succ k3 =>
        have H:=HA.out
        clear HA
        simp only [alv.l1] at H
        by_cases c20:mO < (alD.length:Int)
        case neg =>
         rw [if_neg c20] at H
         have og:decide (mO < (alD.length:Int))=false:=decide_eq_false c20
         (try simp only [jS] at og)
         clear c20
         replace H:=Option.bind_eq_some_iff.mp H
         obtain ⟨t106,MA,H⟩:=H
         replace H:(alv.l2 k3 l1 a2 aX true k6 eK t106 (t106.length:Int) 0 af aa)=some r:=H
         have T6:=k0 MA
         clear MA
         have H':=k0 H
         clear H
         have C9:wr.cell? ⟨ai,0,none⟩=some (.int .i64 af):=(av ag.out 0).trans rfl
         have aaK:wr.cell? ⟨ai,1,none⟩=some (.slice aq aa.length ak):=(av ag.out 1).trans rfl
         have Dg:=aD ag.out 0
         have abf:=aD ag.out 1
         go_wp2_with (first|((with_reducible refine dx (f:=186) rfl ?_);refine dy (some 47) rfl rfl Try.func186 (by kernel_rfl) rfl #[.agg #[.int .i64 af,.slice aq aa.length ak],.slice A1 l1.length c1,.slice zQ aX.length sH] rfl gm ?_;(with_reducible refine (cC.calls k3 af _ _ aa _ _ l1 _ _ aX t106 _ ?aT ?aU ?cy ?cI ?rq ?ru T6.out).mono ?_);(case aT=>exact aC (Kd.bK bZ.out HB.out));(case aU=>exact cD.out);(case cy=>exact aC (Kd.bK eP.out HB.out));(case cI=>exact kT.out);(case rq=>exact aC ((Kd.bx aZ.out).2.2));(case ru=>exact (Kd.bx aZ.out).2.1);rintro e w29 ⟨v107,rfl,aM,hb⟩;refine ⟨_,rfl,?_⟩;have Ny:=k0 (Kd.dI (Kd.ep aM (Kd.cH (aR aZ.out))) (alk bl));replace aZ:=k0 (Kd.alB (aR aZ.out) (Kd.cn aM) hb);replace ag:=k0 (alm (g:=ai) (o:=sO af aq aa ak 31) bk hb);replace HB:=k0 (aI bl hb);(try clear hb);(try clear aM);obtain ⟨amD,qj,JC⟩:=Kd.eF Ny.out;subst JC))
         go_loopg [10,49] k3 (fun kq v10 v49 w'=>∃ (eR:Bool) (alN:Int),v10=.bool eR∧v49=.int .i64 alN∧au (alv.l2 kq l1 a2 aX eR k6 eK t106 (t106.length:Int) alN af aa=some r)∧au (kq≤k3)∧au (Kd.R (Kd.int .i64) 2 w' w.heap.size (fun k_=>some k_ ≠ ((.slice amD t106.length qj):Value).ownBlock) (.slice zQ aX.length sH) aX)∧au (Kd.R (Kd.int .i64) 2 w' w.heap.size (fun k_=>some k_ ≠ ((.slice zQ aX.length sH):Value).ownBlock) (.slice amD t106.length qj) t106)∧au (w'.heap[ai]?=some (sO af aq aa ak 31))∧au (Below w.heap.size w w'))
         case atStart=>exact ⟨(true),(0),rs,rs,H',⟨Nat.le_refl _⟩,⟨by (try simp only [jS]);(with_reducible repeat (first|apply Kd.bH|apply Kd.bL|apply Kd.bn));exact Kd.alq aZ.out (fun _ hk=>hk.2)⟩,⟨by (try simp only [jS]);(with_reducible repeat (first|apply Kd.bH|apply Kd.bL|apply Kd.bn));exact Kd.alq Ny.out (fun _ hk=>hk.2)⟩,⟨by (try simp only [jS]);exact bk⟩,⟨bl⟩⟩
         case round =>
          clear H'
          (try clear c4);(try clear eD);(try clear l7);(try clear c8);(try clear jg);(try clear c10);(try clear lO);(try clear vz);(try clear c11);(try clear i_);(try clear oc);(try clear c13);(try clear c14);(try clear kH);(try clear Aw);(try clear c15);(try clear jD);(try clear oV);(try clear c20);(try clear og);(try clear c21);(try clear uq);(try clear Xz);(try clear c23);(try clear rO);(try clear Ej);(try clear Em);(try clear AZ);(try clear am9);(try clear C9);(try clear aaK);(try clear rY);(try clear rZ);(try clear anf);(try clear ang);(try clear Dg);(try clear abf);(try clear r5);(try clear r6);(try clear ab');(try clear Ej);(try clear Em)
          obtain ⟨eR,alN,rfl,rfl,HA,fH,aZ,am3,ag,HB⟩:=hrel
          cases gk with
          | zero=>exact absurd HA.out (by simp [alv.l2])
          | succ k4 =>
           have H:=HA.out
           clear HA
           simp only [alv.l2] at H
           by_cases c31:alN < (t106.length:Int)
           case neg =>
            rw [if_neg c31] at H
            have oh:decide (alN < (t106.length:Int))=false:=decide_eq_false c31
            (try simp only [jS] at oh)
            clear c31
            by_cases c37:eR=true
            case neg =>
             replace c37:=Bool.eq_false_iff.mpr c37
             subst c37
             have H1:(alv.l0 k4 l1 a2 k6 (wrap64 (eK+1)) af aa)=some r:=by rw [if_neg (show ¬ (false=true) by decide)] at H;exact H
             clear H
             have H:=H1
             clear H1
             have H':=k0 H
             clear H
             go_wp2
             (try simp only [← jS])
             first|go_roundg k4|(simp only [← mZ];go_roundg k4)|(simp only [← jG];go_roundg k4)|(simp only [← mI];go_roundg k4)
             case measure=>have:=alj.out;have:=rC.out;have:=cN.out;have:=fH.out;omega
             case rel=>exact ⟨(wrap64 (eK+1)),rs,(by first|exact H'|(rw [mZ];exact H')|(rw [jG];exact H')|(rw [mI];exact H')),⟨by have:=alj.out;have:=rC.out;have:=cN.out;have:=fH.out;omega⟩,⟨by (try simp only [jS]);exact bk⟩,⟨bl⟩⟩
            subst c37
            have H1:(if aX=[] then none else some aX)=some r:=by rw [if_pos rfl] at H;exact H
            clear H
            have H:=H1
            clear H1
            have KQ:aX ≠ []:=fun h_=>by rw [if_pos h_] at H;exact absurd H (by simp)
            rw [if_neg KQ] at H
            obtain rfl:=Option.some.inj H
            have Vg:=k0 KQ
            clear KQ H
            go_wp2
            go_ret
            exact ⟨_,by first|rfl|(simp [bz,bA]<;>rfl)|(simp only [← mI];first|rfl|(simp [bz,bA]<;>rfl))|(simp [*,bz,bA]<;>rfl),fun h_=>absurd h_ Vg.out,by (with_reducible repeat (first|apply Kd.bH|apply Kd.bL|apply Kd.bn));exact Kd.alq aZ.out (fun _ hk=>trivial),bl⟩
           rw [if_pos c31] at H
           have oh:=decide_eq_true c31
           (try simp only [jS] at oh)
           clear c31
           replace H:=iS H;obtain ⟨c32,H⟩:=H
           have OJ:=decide_eq_true c32
           clear c32
           replace H:=iS H;obtain ⟨c33,H⟩:=H
           have Cn:=decide_eq_true c33
           (try simp only [jS] at Cn)
           clear c33
           by_cases c34:eR=true
           case neg =>
            replace c34:=Bool.eq_false_iff.mpr c34
            subst c34
            have H1:(alv.l2 k4 l1 a2 aX false k6 eK t106 (t106.length:Int) (wrap64 (alN+1)) af aa)=some r:=by rw [if_neg (show ¬ (false=true) by decide)] at H;exact H
            clear H
            have H:=H1
            clear H1
            have H':=k0 H
            clear H
            have eH:0≤(alN:Int):=oD
            have ez:alN < (t106.length:Int):=oD
            obtain ⟨lZ,e109,gM⟩:=Kd.bJ (Kd.bx am3.out).2.2 alN eH ez
            cases e109
            replace eH:=eq_true eH
            replace ez:=eq_true ez
            go_wp2
            first|go_roundg k4|(simp only [← mZ];go_roundg k4)|(simp only [← jG];go_roundg k4)|(simp only [← mI];go_roundg k4)
            case measure=>have:=alj.out;have:=rC.out;have:=cN.out;have:=fH.out;omega
            case rel=>exact ⟨(false),(wrap64 (alN+1)),rs,rs,(by first|exact H'|(rw [mZ];exact H')|(rw [jG];exact H')|(rw [mI];exact H')),⟨by have:=alj.out;have:=rC.out;have:=cN.out;have:=fH.out;omega⟩,⟨by (try simp only [jS]);(with_reducible repeat (first|apply Kd.bH|apply Kd.bL|apply Kd.bn));exact aZ.out⟩,⟨by (try simp only [jS]);(with_reducible repeat (first|apply Kd.bH|apply Kd.bL|apply Kd.bn));exact am3.out⟩,⟨by (try simp only [jS]);exact bk⟩,⟨bl⟩⟩
           subst c34
           have H1:(if alN < (aX.length:Int) then (if (rd aX alN)=0 then (alv.l2 k4 l1 a2 aX true k6 eK t106 (t106.length:Int) (wrap64 (alN+1)) af aa) else (alv.l2 k4 l1 a2 aX (decide ((rd t106 alN) ≥ 0)) k6 eK t106 (t106.length:Int) (wrap64 (alN+1)) af aa)) else (none))=some r:=by rw [if_pos rfl] at H;exact H
           clear H
           have H:=H1
           clear H1
           replace H:=iS H;obtain ⟨c35,H⟩:=H
           have Az:=decide_eq_true c35
           (try simp only [jS] at Az)
           clear c35
           by_cases c36:(rd aX alN)=0
           case neg =>
            rw [if_neg c36] at H
            have wU:((rd aX alN) == 0)=false:=beq_eq_false_iff_ne.mpr c36
            have Fx:((rd aX alN) != 0)=true:=bne_iff_ne.mpr c36
            have H':=k0 H
            clear H
            have eH:0≤(alN:Int):=oD
            have ez:alN < (t106.length:Int):=oD
            obtain ⟨lZ,e109,gM⟩:=Kd.bJ (Kd.bx am3.out).2.2 alN eH ez
            cases e109
            replace eH:=eq_true eH
            replace ez:=eq_true ez
            have jr:0≤(alN:Int):=oD
            have js:alN < (aX.length:Int):=oD
            obtain ⟨lz,e110,kL⟩:=Kd.bJ (Kd.bx aZ.out).2.2 alN jr js
            cases e110
            replace jr:=eq_true jr
            replace js:=eq_true js
            go_wp2
            first|go_roundg k4|(simp only [← mZ];go_roundg k4)|(simp only [← jG];go_roundg k4)|(simp only [← mI];go_roundg k4)
            case measure=>have:=alj.out;have:=rC.out;have:=cN.out;have:=fH.out;omega
            case rel=>exact ⟨(decide ((rd t106 alN) ≥ 0)),(wrap64 (alN+1)),rs,rs,(by first|exact H'|(rw [mZ];exact H')|(rw [jG];exact H')|(rw [mI];exact H')),⟨by have:=alj.out;have:=rC.out;have:=cN.out;have:=fH.out;omega⟩,⟨by (try simp only [jS]);(with_reducible repeat (first|apply Kd.bH|apply Kd.bL|apply Kd.bn));exact aZ.out⟩,⟨by (try simp only [jS]);(with_reducible repeat (first|apply Kd.bH|apply Kd.bL|apply Kd.bn));exact am3.out⟩,⟨by (try simp only [jS]);exact bk⟩,⟨bl⟩⟩
           rw [if_pos c36] at H
           have wU:((rd aX alN) == 0)=true:=beq_iff_eq.mpr c36
           have Fx:((rd aX alN) != 0)=false:=bne_eq_false_iff_eq.mpr c36
           clear c36
           have H':=k0 H
           clear H
           have eH:0≤(alN:Int):=oD
           have ez:alN < (t106.length:Int):=oD
           obtain ⟨lZ,e109,gM⟩:=Kd.bJ (Kd.bx am3.out).2.2 alN eH ez
           cases e109
           replace eH:=eq_true eH
           replace ez:=eq_true ez
           have jr:0≤(alN:Int):=oD
           have js:alN < (aX.length:Int):=oD
           obtain ⟨lz,e110,kL⟩:=Kd.bJ (Kd.bx aZ.out).2.2 alN jr js
           cases e110
           replace jr:=eq_true jr
           replace js:=eq_true js
           go_wp2
           first|go_roundg k4|(simp only [← mZ];go_roundg k4)|(simp only [← jG];go_roundg k4)|(simp only [← mI];go_roundg k4)
           case measure=>have:=alj.out;have:=rC.out;have:=cN.out;have:=fH.out;omega
           case rel=>exact ⟨(true),(wrap64 (alN+1)),rs,rs,(by first|exact H'|(rw [mZ];exact H')|(rw [jG];exact H')|(rw [mI];exact H')),⟨by have:=alj.out;have:=rC.out;have:=cN.out;have:=fH.out;omega⟩,⟨by (try simp only [jS]);(with_reducible repeat (first|apply Kd.bH|apply Kd.bL|apply Kd.bn));exact aZ.out⟩,⟨by (try simp only [jS]);(with_reducible repeat (first|apply Kd.bH|apply Kd.bL|apply Kd.bn));exact am3.out⟩,⟨by (try simp only [jS]);exact bk⟩,⟨bl⟩⟩
        rw [if_pos c20] at H
        have og:=decide_eq_true c20
        (try simp only [jS] at og)
        clear c20
        replace H:=iS H;obtain ⟨c21,H⟩:=H
        have uq:=eq_true c21
        have Xz:=decide_eq_true c21
        clear c21
        obtain ⟨iV,jG⟩:∃ j_:Int,(shr .i64 eK mO)=j_:=⟨_,rfl⟩
        replace H:(if mO < (aX.length:Int) then (alv.l1 k3 l1 a2 eK (aX.set (mO:Int).toNat (Go.bits .and .i64 (iV) 1)) k6 eK (alD.length:Int) (wrap64 (mO+1)) af aa) else (none))=some r:=by first|(rw [jG] at H;exact H)|(simp only [jG] at H ⊢;exact H)
        have aiE:(eK / 2 ^ min mO.toNat 64)=iV:=jG
        have aiG:mO≤64→(eK / 2 ^ mO.toNat)=iV:=Tf jG
        replace H:=iS H;obtain ⟨c23,H⟩:=H
        have rO:=decide_eq_true c23
        (try simp only [jS] at rO)
        clear c23
        obtain ⟨jb,fy⟩:∃ y_:List Int,y_=(aX.set (mO:Int).toNat (Go.bits .and .i64 (iV) 1)):=⟨_,rfl⟩
        replace H:(alv.l1 k3 l1 a2 eK jb k6 eK (alD.length:Int) (wrap64 (mO+1)) af aa)=some r:=by first|(rw [fy];with_reducible exact H)|(have ax:=(Option.bind_some _ _).symm.trans H;rw [fy];with_reducible exact ax)|(have ax:=(Option.bind_some _ _).symm.trans H;with_reducible exact ax)|with_reducible exact H|(rw [fy];exact H)|exact H
        have lY:=k0 fy
        clear fy
        have H':=k0 H
        clear H
        have Ej:0≤(mO:Int):=oD
        have Em:(mO:Int) < ((aX.length:Int):Int):=oD
        obtain ⟨J1,Ct,AO,PD,Zx,ag_,anY⟩:=Kd.lp aZ.out (by omega)
        (first|cases AO|(injection AO with bh dm di;(first|subst bh|(injection bh with bh;subst bh));subst di;clear dm))
        have UM:=k0 PD
        have afW:=k0 anY
        clear PD Zx anY
        obtain ⟨ab',ah3⟩:=Kd.jB 0 aZ.out (mO:Int) Ej Em
        replace Ej:=eq_true Ej
        replace Em:=eq_true Em
        have p7:=Kd.kW aZ.out (mO:Int) (Go.bits .and .i64 (iV) 1)
        go_wp2_with (first|((with_reducible refine lF (t:=2) (p:=42) rfl ?_);refine lJ (t:=2) (p:=42) (v:=?afm) (w1:=(wr.setCell ⟨J1,(mO:Int).toNat,none⟩ (.int .i64 (Go.bits .and .i64 (iV) 1)))) ?hg ?ho ?hn ?hr ?_;(case ho=>rfl);(case hg=>rfl);(case hn=>rfl);(case hr=>first|(go_simp;done)|(go_simp;rfl));intro uQ hw;have hg:wr.grownBy uQ (some J1):=(by rw [hw];exact p7.2);have ec:Kd.R (Kd.int .i64) 2 uQ w.heap.size (fun _=>True) (.slice (some ⟨J1,0,none⟩) aX.length sH) jb:=(by rw [hw,lY.out];exact p7.1);clear p7;replace ag:=k0 (iQ (g:=ai) (o:=sO af aq aa ak 31) bk hg (Kd.gY aZ.out ag.out (by decide)));replace aZ:=k0 (ec);replace HB:=k0 ((by rw [hw];exact dJ (HB.out) UM.out:Below w.heap.size w uQ));clear hg hw ec))
        (try simp only [← jS])
        first|go_roundg k3|(simp only [← mZ];go_roundg k3)|(simp only [← jG];go_roundg k3)|(simp only [← mI];go_roundg k3)
        case measure=>have:=alj.out;have:=rC.out;have:=cN.out;omega
        case rel=>exact ⟨(jb),(wrap64 (mO+1)),rs,(by first|exact H'|(rw [mZ];exact H')|(rw [jG];exact H')|(rw [mI];exact H')),⟨by have:=alj.out;have:=rC.out;have:=cN.out;omega⟩,⟨by (try simp only [jS]);(with_reducible repeat (first|apply Kd.bH|apply Kd.bL|apply Kd.bn));exact aZ.out⟩,⟨by (try simp only [jS]);exact bk⟩,⟨bl⟩⟩
     subst c13
     have H1:(alv.l0 vX l1 a2 k6 (wrap64 (eK+1)) af aa)=some r:=by rw [if_pos rfl] at H;exact H
     clear H
     have H:=H1
     clear H1
     have H':=k0 H
     clear H
     go_wp2
     first|go_roundg vX|(simp only [← mZ];go_roundg vX)|(simp only [← jG];go_roundg vX)|(simp only [← mI];go_roundg vX)
     case measure=>have:=alj.out;have:=rC.out;omega
     case rel=>exact ⟨(wrap64 (eK+1)),rs,(by first|exact H'|(rw [mZ];exact H')|(rw [jG];exact H')|(rw [mI];exact H')),⟨by have:=alj.out;have:=rC.out;omega⟩,⟨bk⟩,⟨bl⟩⟩
end Go.Proofs.Ytoebojnhchocaaa.D
/- Set with little white space, by a program. -/
